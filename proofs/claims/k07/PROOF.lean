import PyProof.Rows.All
import Wide.All
import OpenK.AllK
import Wide.FinOn
import KE.KStateDown
import HandS.ForMost
import HandS.Wide
import HandS.IsInst
import HandS.Style
import HandS.TupAny
import HandS.Zip
import HandS.Defaults
import HandS.RaiseMore
import PyProof.ReprRoads
import PyProof.WalksMore
import PyProof.SumWalkG
import PyProof.Rows.SumGenD
import HandS.HeadEnd
import HandS.HeadHook2
import HandS.Head2
import PyProof.ReprBulk
import PySem.Challenge.RW_onionpost_k07_whole_parts_of_closed_sums
import HandS.Head0
import HandS.Head1
set_option Elab.async false
set_option linter.all false
set_option maxRecDepth 100000
/-! TL1: data trees, slots, what a state of a def is. -/
namespace TL
open PySem PySem.Spec PyProof.Rows L2

/-- a value without addresses -/
inductive D where
  | non | bl (b : Bool) | int (i : Int) | str (x : Str) | ty (n : String) | tup (xs : List D) | lst (xs : List D)

/-- every object of G stands in G' -/
abbrev Sub (G G' : Hp) : Prop := ∀ a o, G a = some o → G' a = some o
theorem Sub.refl (G : Hp) : Sub G G := fun _ _ h => h
theorem Sub.trans {G G1 G2 : Hp} (a : Sub G G1) (b : Sub G1 G2) : Sub G G2 := fun c o h => b c o (a c o h)
theorem Sub.seqT {K : PySem.W.Frag} {G G' : Hp} {a : Addr} {xs : List V} (e : Sub G G') (h : SqT K G a xs) : SqT K G' a xs := by
  rcases h with (h | ⟨o, h⟩) | h
  · exact .inl (.inl (e _ _ h))
  · exact .inl (.inr ⟨o, e _ _ h⟩)
  · exact .inr h
theorem Sub.seqL {K : PySem.W.Frag} {G G' : Hp} {a : Addr} {xs : List V} (e : Sub G G') (h : SqL K G a xs) : SqL K G' a xs := by
  rcases h with (h | ⟨o, h⟩) | h
  · exact .inl (.inl (e _ _ h))
  · exact .inl (.inr ⟨o, e _ _ h⟩)
  · exact .inr h

mutual
/-- v in G is the tree d -/
def Den (K : PySem.W.Frag) (G : Hp) : D → V → Prop
  | .non, v => v = .non
  | .bl b, v => v = .bl b
  | .int i, v => v = .int i
  | .str x, v => v = .str x
  | .ty n, v => v = .ty n
  | .tup ds, v => ∃ a vs, v = .ref a ∧ SqT K G a vs ∧ DenL K G ds vs
  | .lst ds, v => ∃ a vs, v = .ref a ∧ G a = some (.lst vs) ∧ DenL K G ds vs
def DenL (K : PySem.W.Frag) (G : Hp) : List D → List V → Prop
  | [], vs => vs = []
  | d :: ds, vs => ∃ v ws, vs = v :: ws ∧ Den K G d v ∧ DenL K G ds ws
end
section
variable {K : PySem.W.Frag} {G G' : Hp}
mutual
theorem Den.mono (e : Sub G G') : ∀ (d : D) (v : V), Den K G d v → Den K G' d v
  | .non, _, h => h
  | .bl _, _, h => h
  | .int _, _, h => h
  | .str _, _, h => h
  | .ty _, _, h => h
  | .tup ds, v, h => by
    unfold Den at h ⊢
    obtain ⟨a, vs, h1, h2, h3⟩ := h
    exact ⟨a, vs, h1, Sub.seqT e h2, DenL.mono e ds vs h3⟩
  | .lst ds, v, h => by
    unfold Den at h ⊢
    obtain ⟨a, vs, h1, h2, h3⟩ := h
    exact ⟨a, vs, h1, e _ _ h2, DenL.mono e ds vs h3⟩
theorem DenL.mono (e : Sub G G') : ∀ (ds : List D) (vs : List V), DenL K G ds vs → DenL K G' ds vs
  | [], _, h => h
  | d :: ds, vs, h => by
    unfold DenL at h ⊢
    obtain ⟨v, ws, h1, h2, h3⟩ := h
    exact ⟨v, ws, h1, Den.mono e d v h2, DenL.mono e ds ws h3⟩
end
theorem DenL.nil : DenL K G [] [] := by unfold DenL; rfl
theorem DenL.cons {d : D} {v : V} {ds : List D} {vs : List V} (h : Den K G d v) (t : DenL K G ds vs) : DenL K G (d :: ds) (v :: vs) := by
  unfold DenL
  exact ⟨v, vs, rfl, h, t⟩
theorem DenL.length : ∀ {ds : List D} {vs : List V}, DenL K G ds vs → vs.length = ds.length
  | [], vs, h => by
    unfold DenL at h
    rw [h]
    rfl
  | d :: ds, vs, h => by
    unfold DenL at h
    obtain ⟨v, ws, rfl, _, h3⟩ := h
    rw [List.length_cons, List.length_cons, DenL.length h3]
theorem DenL.get : ∀ {ds : List D} {vs : List V} {i : Nat} {d : D}, DenL K G ds vs → ds[i]? = some d → ∃ v, vs[i]? = some v ∧ Den K G d v
  | [], _, _, _, _, e => by simp at e
  | d :: ds, vs, 0, x, h, e => by
    unfold DenL at h
    obtain ⟨v, ws, rfl, h2, _⟩ := h
    simp only [List.getElem?_cons_zero, Option.some.injEq] at e
    subst e
    exact ⟨v, rfl, h2⟩
  | d :: ds, vs, i + 1, x, h, e => by
    unfold DenL at h
    obtain ⟨v, ws, rfl, _, h3⟩ := h
    rw [List.getElem?_cons_succ] at e
    obtain ⟨u, h4, h5⟩ := DenL.get h3 e
    exact ⟨u, by rw [List.getElem?_cons_succ]; exact h4, h5⟩
theorem DenL.append : ∀ {ds es : List D} {vs ws : List V}, DenL K G ds vs → DenL K G es ws → DenL K G (ds ++ es) (vs ++ ws)
  | [], _, vs, _, h, h' => by
    unfold DenL at h
    subst h
    exact h'
  | d :: ds, _, vs, _, h, h' => by
    unfold DenL at h
    obtain ⟨v, us, rfl, h2, h3⟩ := h
    exact DenL.cons h2 (DenL.append h3 h')
theorem DenL.take : ∀ {ds : List D} {vs : List V} (n : Nat), DenL K G ds vs → DenL K G (ds.take n) (vs.take n)
  | _, _, 0, _ => by rw [List.take_zero, List.take_zero]; exact DenL.nil
  | [], vs, n + 1, h => by
    unfold DenL at h
    subst h
    exact DenL.nil
  | d :: ds, vs, n + 1, h => by
    unfold DenL at h
    obtain ⟨v, us, rfl, h2, h3⟩ := h
    exact DenL.cons h2 (DenL.take n h3)
theorem DenL.drop : ∀ {ds : List D} {vs : List V} (n : Nat), DenL K G ds vs → DenL K G (ds.drop n) (vs.drop n)
  | _, _, 0, h => h
  | [], vs, n + 1, h => by
    unfold DenL at h
    subst h
    exact DenL.nil
  | d :: ds, vs, n + 1, h => by
    unfold DenL at h
    obtain ⟨v, us, rfl, h2, h3⟩ := h
    exact DenL.drop n h3
theorem DenL.set {d : D} {v : V} (hd : Den K G d v) : ∀ {ds : List D} {vs : List V} (n : Nat), DenL K G ds vs → DenL K G (ds.set n d) (vs.set n v)
  | [], vs, n, h => by
    unfold DenL at h
    subst h
    exact DenL.nil
  | e :: ds, vs, 0, h => by
    unfold DenL at h
    obtain ⟨u, us, rfl, h2, h3⟩ := h
    exact DenL.cons hd h3
  | e :: ds, vs, n + 1, h => by
    unfold DenL at h
    obtain ⟨u, us, rfl, h2, h3⟩ := h
    exact DenL.cons h2 (DenL.set hd n h3)
theorem DenL.eraseIdx : ∀ {ds : List D} {vs : List V} (n : Nat), DenL K G ds vs → DenL K G (ds.eraseIdx n) (vs.eraseIdx n)
  | [], vs, n, h => by
    unfold DenL at h
    subst h
    exact DenL.nil
  | e :: ds, vs, 0, h => by
    unfold DenL at h
    obtain ⟨u, us, rfl, h2, h3⟩ := h
    exact h3
  | e :: ds, vs, n + 1, h => by
    unfold DenL at h
    obtain ⟨u, us, rfl, h2, h3⟩ := h
    exact DenL.cons h2 (DenL.eraseIdx n h3)
theorem DenL.reverse : ∀ {ds : List D} {vs : List V}, DenL K G ds vs → DenL K G ds.reverse vs.reverse
  | [], vs, h => by
    unfold DenL at h
    subst h
    exact DenL.nil
  | e :: ds, vs, h => by
    unfold DenL at h
    obtain ⟨u, us, rfl, h2, h3⟩ := h
    rw [List.reverse_cons, List.reverse_cons]
    exact DenL.append (DenL.reverse h3) (DenL.cons h2 DenL.nil)
theorem DenL.ints : ∀ {ns : List Int} {vs : List V}, DenL K G (ns.map D.int) vs → vs = ns.map V.int
  | [], vs, h => by
    unfold DenL at h
    rw [h]
    rfl
  | n :: ns, vs, h => by
    rw [List.map_cons] at h
    unfold DenL at h
    obtain ⟨u, us, rfl, h2, h3⟩ := h
    unfold Den at h2
    rw [h2, DenL.ints h3, List.map_cons]
theorem DenL.bls : ∀ {ns : List Bool} {vs : List V}, DenL K G (ns.map D.bl) vs → vs = ns.map V.bl
  | [], vs, h => by
    unfold DenL at h
    rw [h]
    rfl
  | n :: ns, vs, h => by
    rw [List.map_cons] at h
    unfold DenL at h
    obtain ⟨u, us, rfl, h2, h3⟩ := h
    unfold Den at h2
    rw [h2, DenL.bls h3, List.map_cons]
theorem DenL.strs : ∀ {ns : List Str} {vs : List V}, DenL K G (ns.map D.str) vs → vs = ns.map V.str
  | [], vs, h => by
    unfold DenL at h
    rw [h]
    rfl
  | n :: ns, vs, h => by
    rw [List.map_cons] at h
    unfold DenL at h
    obtain ⟨u, us, rfl, h2, h3⟩ := h
    unfold Den at h2
    rw [h2, DenL.strs h3, List.map_cons]
end

/-- the heap without the cells of B -/
def hid (B : List Addr) (H : Hp) : Hp := fun a => if a ∈ B then none else H a
theorem hid_some {B : List Addr} {H : Hp} {a : Addr} {o : HO} : hid B H a = some o ↔ a ∉ B ∧ H a = some o := by
  unfold hid
  by_cases h : a ∈ B
  · rw [if_pos h]
    exact ⟨nofun, fun z => absurd h z.1⟩
  · rw [if_neg h]
    exact ⟨fun z => ⟨h, z⟩, fun z => z.2⟩
theorem hid_sub {B : List Addr} {H : Hp} : Sub (hid B H) H := fun _ _ h => (hid_some.mp h).2
theorem hid_less {B B' : List Addr} {H H' : Hp} (s : Sub H H') (h : ∀ b ∈ B', b ∈ B ∨ H b = none) : Sub (hid B H) (hid B' H') := fun a o e => by
  obtain ⟨e1, e2⟩ := hid_some.mp e
  refine hid_some.mpr ⟨fun z => ?_, s _ _ e2⟩
  rcases h a z with q | q
  · exact e1 q
  · rw [q] at e2; cases e2

/-- what is mutable: a list -/
inductive C where
  | lst (xs : List D)
/-- the cell a holds c, its items in G -/
def CellOk (K : PySem.W.Frag) (G H : Hp) (a : Addr) : C → Prop
  | .lst xs => ∃ vs, H a = some (.lst vs) ∧ DenL K G xs vs
theorem CellOk.mono {K : PySem.W.Frag} {G G' H H' : Hp} {a : Addr} {c : C} (e : Sub G G') (h : ∀ o, H a = some o → H' a = some o) (k : CellOk K G H a c) : CellOk K G' H' a c := by
  cases c with
  | lst xs =>
    obtain ⟨vs, h1, h2⟩ := k
    exact ⟨vs, h _ h1, DenL.mono e _ _ h2⟩

theorem CellOk.there {K : PySem.W.Frag} {G H : Hp} {a : Addr} {c : C} (k : CellOk K G H a c) (h : H a = none) : False := by
  cases c with
  | lst xs =>
    obtain ⟨vs, h1, h2⟩ := k
    rw [h] at h1
    cases h1
/-- a slot: unknown; a tree; a mutable object of one's own; one that the caller lends; the script -/
inductive S where
  | un | sh (d : D) | own (c : C) | par (c : C) | scr (ns : List Int)

/-- a def's entry: the heap, the callers' mutable cells, the cells that are lent, by slots -/
structure Fr where
  H0 : Hp
  B0 : List Addr
  pa : Nat → Option Addr



def cells (α : List (Option Addr)) : List Addr := α.filterMap id
theorem mem_cells {α : List (Option Addr)} {a : Addr} : a ∈ cells α ↔ ∃ i : Nat, α[i]? = some (some a) := by
  unfold cells
  rw [List.mem_filterMap]
  constructor
  · rintro ⟨o, h1, h2⟩
    cases o with
    | none => cases h2
    | some b =>
      cases h2
      exact List.mem_iff_getElem?.mp h1
  · rintro ⟨i, h⟩
    exact ⟨some a, List.mem_of_getElem? h, rfl⟩
abbrev vis (F : Fr) (α : List (Option Addr)) (H : Hp) : Hp := hid (F.B0 ++ cells α) H

def SlotOk (K : PySem.W.Frag) (F : Fr) (G H : Hp) (i : Nat) : S → Option Addr → Option V → Prop
  | .un, o, _ => o = none
  | .sh d, o, x => o = none ∧ ∃ v, x = some v ∧ Den K G d v
  | .own c, o, x => ∃ a, o = some a ∧ x = some (.ref a) ∧ (F.H0 a = none ∧ a ∉ F.B0) ∧ CellOk K G H a c
  | .par c, o, x => ∃ a, o = some a ∧ x = some (.ref a) ∧ F.pa i = some a ∧ CellOk K G H a c
  | .scr ns, o, x => o = none ∧ ∃ a, x = some (.ref a) ∧ SqL K G a (ns.map V.int)

structure Rel (K : PySem.W.Frag) (F : Fr) (α : List (Option Addr)) (τ : List S) (σ : L2.St) (H : Hp) : Prop where
  la : α.length = τ.length
  ls : σ.length = τ.length
  sl : ∀ (i : Nat) (s : S) (o : Option Addr) (x : Option V), τ[i]? = some s → α[i]? = some o → σ[i]? = some x → SlotOk K F (vis F α H) H i s o x
  inj : ∀ (i j : Nat) (a : Addr), α[i]? = some (some a) → α[j]? = some (some a) → i = j
  tr : ∀ b ∈ cells α, H b ≠ none
  tb : ∀ b ∈ F.B0, H b ≠ none
  tk : ∀ b, F.H0 b ≠ none → H b ≠ none
  fr : ∀ (a : Addr) (o : HO), F.H0 a = some o → (∀ i, F.pa i ≠ some a) → H a = some o
  ow : ∀ (i : Nat) (a : Addr), α[i]? = some (some a) → F.pa i = some a ∨ F.H0 a = none

/-- what stands between two states of a def -/
structure Grow (α : List (Option Addr)) (H : Hp) (α' : List (Option Addr)) (H' : Hp) : Prop where
  keep : ∀ (a : Addr) (o : HO), H a = some o → a ∉ cells α → H' a = some o
  new : ∀ a ∈ cells α', a ∈ cells α ∨ H a = none
  tk : ∀ a, H a ≠ none → H' a ≠ none
section
variable {K : PySem.W.Frag} {F : Fr} {α α' α1 α2 : List (Option Addr)} {τ τ' : List S} {σ σ' : L2.St} {H H' H1 H2 : Hp}
theorem Grow.refl : Grow α H α H := ⟨fun _ _ h _ => h, fun _ h => .inl h, fun _ h => h⟩
theorem Grow.trans (g : Grow α H α1 H1) (g' : Grow α1 H1 α2 H2) : Grow α H α2 H2 where
  keep := fun a o e n => by
    refine g'.keep a o (g.keep a o e n) fun z => ?_
    rcases g.new a z with q | q
    · exact n q
    · rw [q] at e; cases e
  new := fun a h => by
    rcases g'.new a h with q | q
    · exact g.new a q
    · by_cases hc : a ∈ cells α
      · exact .inl hc
      · refine .inr ?_
        cases e : H a with
        | none => rfl
        | some o =>
          rw [g.keep a o e hc] at q
          cases q
  tk := fun a h => g'.tk a (g.tk a h)
/-- only new cells -/
theorem Grow.of_sub (s : Sub H H') : Grow α H α H' := ⟨fun a o e _ => s a o e, fun _ h => .inl h, fun a h => by
  cases e : H a with
  | none => exact absurd e h
  | some o =>
    rw [s a o e]
    nofun⟩
theorem Grow.vis (g : Grow α H α' H') : Sub (vis F α H) (TL.vis F α' H') := fun a o e => by
  obtain ⟨e1, e2⟩ := hid_some.mp e
  rw [List.mem_append, not_or] at e1
  refine hid_some.mpr ⟨fun z => ?_, g.keep a o e2 e1.2⟩
  rcases List.mem_append.mp z with z | z
  · exact e1.1 z
  · rcases g.new a z with q | q
    · exact e1.2 q
    · rw [q] at e2; cases e2
theorem sub_upd {p : Addr} {o : HO} (h : H p = none) : Sub H (upd H p o) := fun b x e => by
  rw [upd_ne (ne_of_none e h)]
  exact e
theorem Grow.upd {p : Addr} {o : HO} (h : H p = none) : Grow α H α (L2.upd H p o) := Grow.of_sub (sub_upd h)

/-- the heap has grown by new cells -/
theorem Rel.sub (R : Rel K F α τ σ H) (s : Sub H H') : Rel K F α τ σ H' where
  la := R.la
  ls := R.ls
  sl := fun i t o x h1 h2 h3 => by
    have q := R.sl i t o x h1 h2 h3
    have e : Sub (vis F α H) (vis F α H') := (Grow.of_sub s).vis
    cases t with
    | un => exact q
    | sh d =>
      obtain ⟨q0, v, q1, q2⟩ := q
      exact ⟨q0, v, q1, Den.mono e _ _ q2⟩
    | own c =>
      obtain ⟨a, q1, q2, q3, q4⟩ := q
      exact ⟨a, q1, q2, q3, q4.mono e fun o z => s _ _ z⟩
    | par c =>
      obtain ⟨a, q1, q2, q3, q4⟩ := q
      exact ⟨a, q1, q2, q3, q4.mono e fun o z => s _ _ z⟩
    | scr ns =>
      obtain ⟨q0, a, q1, q2⟩ := q
      exact ⟨q0, a, q1, Sub.seqL e q2⟩
  inj := R.inj
  tr := fun b hb => (Grow.of_sub (α := α) s).tk b (R.tr b hb)
  tb := fun b hb => (Grow.of_sub (α := α) s).tk b (R.tb b hb)
  tk := fun b hb => (Grow.of_sub (α := α) s).tk b (R.tk b hb)
  fr := fun a o e n => s _ _ (R.fr a o e n)
  ow := R.ow
theorem Rel.upd (R : Rel K F α τ σ H) {p : Addr} {o : HO} (h : H p = none) : Rel K F α τ σ (L2.upd H p o) := R.sub (sub_upd h)

theorem Rel.len (R : Rel K F α τ σ H) {i : Nat} {s : S} (h : τ[i]? = some s) : ∃ o x, α[i]? = some o ∧ σ[i]? = some x := by
  have hi : i < τ.length := (List.getElem?_eq_some_iff.mp h).1
  have h1 : i < α.length := by rw [R.la]; exact hi
  have h2 : i < σ.length := by rw [R.ls]; exact hi
  exact ⟨_, _, List.getElem?_eq_getElem h1, List.getElem?_eq_getElem h2⟩
theorem Rel.at_ (R : Rel K F α τ σ H) {i : Nat} {s : S} (h : τ[i]? = some s) : ∃ o x, α[i]? = some o ∧ σ[i]? = some x ∧ SlotOk K F (TL.vis F α H) H i s o x := by
  obtain ⟨o, x, h1, h2⟩ := R.len h
  exact ⟨o, x, h1, h2, R.sl i s o x h h1 h2⟩
theorem Rel.sh (R : Rel K F α τ σ H) {i : Nat} {d : D} (h : τ[i]? = some (.sh d)) : ∃ v, σ[i]? = some (some v) ∧ Den K (TL.vis F α H) d v := by
  obtain ⟨o, x, h1, h2, q0, v, q1, q2⟩ := R.at_ h
  exact ⟨v, by rw [h2, q1], q2⟩
end
end TL
set_option Elab.async false
set_option linter.all false
set_option maxRecDepth 100000
/-! TL2: states change; judgements; names, constants, calls, statements. -/
namespace TL
open PySem PySem.Spec PyProof.Rows L2

/-- a state's slot as a mutable object -/
def S.cell : S → Option C
  | .own c => some c
  | .par c => some c
  | _ => none
/-- the same kind of slot, another content -/
def S.put (c : C) : S → S
  | .own _ => .own c
  | .par _ => .par c
  | s => s
section
variable {K : PySem.W.Frag} {F : Fr} {α α' : List (Option Addr)} {τ τ' : List S} {σ σ' : L2.St} {H H' : Hp}
theorem Rel.cell (R : Rel K F α τ σ H) {i : Nat} {s : S} {c : C} (h : τ[i]? = some s) (hc : s.cell = some c) : ∃ a, α[i]? = some (some a) ∧ σ[i]? = some (some (.ref a)) ∧ CellOk K (vis F α H) H a c := by
  obtain ⟨o, x, h1, h2, q⟩ := R.at_ h
  cases s with
  | own c' =>
    cases hc
    obtain ⟨a, e1, e2, _, e3⟩ := q
    exact ⟨a, by rw [h1, e1], by rw [h2, e2], e3⟩
  | par c' =>
    cases hc
    obtain ⟨a, e1, e2, _, e3⟩ := q
    exact ⟨a, by rw [h1, e1], by rw [h2, e2], e3⟩
  | un => cases hc
  | sh d => cases hc
  | scr ns => cases hc

theorem vis_upd_cell {a : Addr} {o : HO} (h : a ∈ cells α) : Sub (vis F α H) (vis F α (L2.upd H a o)) := fun b x e => by
  obtain ⟨e1, e2⟩ := hid_some.mp e
  refine hid_some.mpr ⟨e1, ?_⟩
  have : b ≠ a := fun z => e1 (List.mem_append_right _ (z ▸ h))
  rw [upd_ne this]
  exact e2
theorem Grow.cell {a : Addr} {o : HO} (h : a ∈ cells α) : Grow α H α (L2.upd H a o) := ⟨fun b x e n => by
    rw [upd_ne (show b ≠ a from fun z => n (z ▸ h))]
    exact e, fun _ h => .inl h, fun b e => by
    by_cases z : b = a
    · rw [z, upd_same]
      nofun
    · rw [upd_ne z]
      exact e⟩
/-- a cell of ours changes its content -/
theorem Rel.put (R : Rel K F α τ σ H) {i : Nat} {s : S} {c c' : C} {a : Addr} {o : HO} (h : τ[i]? = some s) (hc : s.cell = some c) (ha : α[i]? = some (some a))
    (hn : CellOk K (vis F α (L2.upd H a o)) (L2.upd H a o) a c') : Rel K F α (τ.set i (s.put c')) σ (L2.upd H a o) := by
  have hm : a ∈ cells α := mem_cells.mpr ⟨i, ha⟩
  have g : Grow α H α (L2.upd H a o) := Grow.cell hm
  refine ⟨by rw [List.length_set]; exact R.la, by rw [List.length_set]; exact R.ls, fun j t p x h1 h2 h3 => ?_, R.inj, fun b hb => g.tk b (R.tr b hb), fun b hb => g.tk b (R.tb b hb), fun b hb => g.tk b (R.tk b hb), fun b u e n => ?_, R.ow⟩
  · have e : Sub (vis F α H) (vis F α (L2.upd H a o)) := vis_upd_cell hm
    by_cases hj : i = j
    · subst hj
      have hl : i < τ.length := (List.getElem?_eq_some_iff.mp h).1
      rw [List.getElem?_set_self hl] at h1
      cases h1
      have q := R.sl i s p x h h2 h3
      rw [ha] at h2
      cases h2
      cases s with
      | own c0 =>
        obtain ⟨b, e1, e2, e3, _⟩ := q
        cases e1
        exact ⟨a, rfl, e2, e3, hn⟩
      | par c0 =>
        obtain ⟨b, e1, e2, e3, _⟩ := q
        cases e1
        exact ⟨a, rfl, e2, e3, hn⟩
      | un => cases hc
      | sh d => cases hc
      | scr ns => cases hc
    · rw [List.getElem?_set_ne hj] at h1
      have q := R.sl j t p x h1 h2 h3
      have other : ∀ {b : Addr}, p = some b → b ≠ a := fun {b} e1 z => by
        subst e1
        subst z
        exact hj (R.inj _ _ _ ha h2)
      cases t with
      | un => exact q
      | sh d =>
        obtain ⟨q0, v, q1, q2⟩ := q
        exact ⟨q0, v, q1, Den.mono e _ _ q2⟩
      | own c0 =>
        obtain ⟨b, q1, q2, q3, q4⟩ := q
        exact ⟨b, q1, q2, q3, q4.mono e fun u z => by rw [upd_ne (other q1)]; exact z⟩
      | par c0 =>
        obtain ⟨b, q1, q2, q3, q4⟩ := q
        exact ⟨b, q1, q2, q3, q4.mono e fun u z => by rw [upd_ne (other q1)]; exact z⟩
      | scr ns =>
        obtain ⟨q0, b, q1, q2⟩ := q
        exact ⟨q0, b, q1, Sub.seqL e q2⟩
  · have : b ≠ a := fun z => by
      rcases R.ow i a ha with q | q
      · exact n i (z ▸ q)
      · rw [z, q] at e
        cases e
    rw [upd_ne this]
    exact R.fr b u e n

/-- may the slot be stored to -/
def S.free : S → Bool
  | .par _ => false
  | .scr _ => false
  | _ => true
theorem cells_set_none {i : Nat} {a : Addr} (h : a ∈ cells (α.set i none)) : a ∈ cells α := by
  obtain ⟨j, e⟩ := mem_cells.mp h
  by_cases hj : i = j
  · subst hj
    rw [List.getElem?_set] at e
    rw [if_pos rfl] at e
    split at e <;> cases e
  · rw [List.getElem?_set_ne hj] at e
    exact mem_cells.mpr ⟨j, e⟩
theorem Grow.drop {i : Nat} : Grow α H (α.set i none) H := ⟨fun _ _ e _ => e, fun _ h => .inl (cells_set_none h), fun _ h => h⟩
theorem ow_pa {i : Nat} {s : S} {a : Addr} (R : Rel K F α τ σ H) (h : τ[i]? = some s) (hf : s.free = true) (ha : α[i]? = some (some a)) : F.H0 a = none := by
  obtain ⟨o, x, h1, h2, q⟩ := R.at_ h
  rw [h1] at ha
  cases ha
  cases s with
  | un => cases q
  | sh d => cases q.1
  | own c =>
    obtain ⟨b, e1, _, e3, _⟩ := q
    cases e1
    exact e3.1
  | par c => cases hf
  | scr ns => cases hf
/-- F with more hidden -/
def Fr.hides (F : Fr) (B : List Addr) : Fr := ⟨F.H0, B, F.pa⟩
abbrev Fr.hide (F : Fr) (a : Addr) : Fr := F.hides (a :: F.B0)
/-- a slot gets a new value, as the slot r says in the heap as it stands without its former cell -/
theorem Rel.store {B1 : List Addr} (R : Rel K (F.hides B1) α τ σ H) (hB : ∀ b ∈ F.B0, b ∈ B1) {i : Nat} {s r : S} {v : V} {o : Option Addr} (h : τ[i]? = some s) (hf : s.free = true)
    (hr : SlotOk K F (vis F (α.set i o) H) H i r o (some v)) (ho : ∀ a, o = some a → F.H0 a = none ∧ H a ≠ none ∧ a ∈ B1 ∧ a ∉ cells α) :
    Rel K F (α.set i o) (τ.set i r) (σ.set i (some v)) H := by
  have hl : i < τ.length := (List.getElem?_eq_some_iff.mp h).1
  have hlα : i < α.length := by rw [R.la]; exact hl
  have hlσ : i < σ.length := by rw [R.ls]; exact hl
  have mem : ∀ b, b ∈ cells (α.set i o) → b ∈ cells α ∨ o = some b := fun b hb => by
    obtain ⟨j, e⟩ := mem_cells.mp hb
    by_cases hj : i = j
    · subst hj
      rw [List.getElem?_set_self hlα] at e
      exact .inr (Option.some.inj e)
    · rw [List.getElem?_set_ne hj] at e
      exact .inl (mem_cells.mpr ⟨j, e⟩)
  have sb : Sub (vis (F.hides B1) α H) (vis F (α.set i o) H) := hid_less (Sub.refl _) fun b hb => .inl (by
    rcases List.mem_append.mp hb with z | z
    · exact List.mem_append_left _ (hB b z)
    · rcases mem b z with w | w
      · exact List.mem_append_right _ w
      · exact List.mem_append_left _ (ho b w).2.2.1)
  refine ⟨by rw [List.length_set, List.length_set]; exact R.la, by rw [List.length_set, List.length_set]; exact R.ls, fun j t p x h1 h2 h3 => ?_, fun j k a h1 h2 => ?_, fun b hb => ?_, fun b hb => R.tb b (hB b hb), R.tk, R.fr, fun j a e => ?_⟩
  · by_cases hj : i = j
    · subst hj
      rw [List.getElem?_set_self hl] at h1
      rw [List.getElem?_set_self hlα] at h2
      rw [List.getElem?_set_self hlσ] at h3
      cases h1
      cases h2
      cases h3
      exact hr
    · rw [List.getElem?_set_ne hj] at h1 h2 h3
      have q := R.sl j t p x h1 h2 h3
      cases t with
      | un => exact q
      | sh d =>
        obtain ⟨q0, u, q1, q2⟩ := q
        exact ⟨q0, u, q1, Den.mono sb _ _ q2⟩
      | own c0 =>
        obtain ⟨b, q1, q2, q3, q4⟩ := q
        exact ⟨b, q1, q2, ⟨q3.1, fun z => q3.2 (hB b z)⟩, q4.mono sb fun _ z => z⟩
      | par c0 =>
        obtain ⟨b, q1, q2, q3, q4⟩ := q
        exact ⟨b, q1, q2, q3, q4.mono sb fun _ z => z⟩
      | scr ns =>
        obtain ⟨q0, b, q1, q2⟩ := q
        exact ⟨q0, b, q1, Sub.seqL sb q2⟩
  · by_cases hj : i = j
    · subst hj
      by_cases hk : i = k
      · exact hk
      · rw [List.getElem?_set_self hlα] at h1
        rw [List.getElem?_set_ne hk] at h2
        have e := Option.some.inj h1
        exact absurd (mem_cells.mpr ⟨k, h2⟩) (ho a e).2.2.2
    · rw [List.getElem?_set_ne hj] at h1
      by_cases hk : i = k
      · subst hk
        rw [List.getElem?_set_self hlα] at h2
        have e := Option.some.inj h2
        exact absurd (mem_cells.mpr ⟨j, h1⟩) (ho a e).2.2.2
      · rw [List.getElem?_set_ne hk] at h2
        exact R.inj j k a h1 h2
  · rcases mem b hb with q | q
    · exact R.tr b q
    · exact (ho b q).2.1
  · by_cases hj : i = j
    · subst hj
      rw [List.getElem?_set_self hlα] at e
      exact .inr (ho a (Option.some.inj e)).1
    · rw [List.getElem?_set_ne hj] at e
      exact R.ow j a e
/-- less is hidden -/
theorem Rel.unhide {B1 : List Addr} (R : Rel K (F.hides B1) α τ σ H) (hB : ∀ b ∈ F.B0, b ∈ B1) : Rel K F α τ σ H := by
  have sb : Sub (vis (F.hides B1) α H) (vis F α H) := hid_less (Sub.refl _) fun b hb => .inl (by
    rcases List.mem_append.mp hb with z | z
    · exact List.mem_append_left _ (hB b z)
    · exact List.mem_append_right _ z)
  refine ⟨R.la, R.ls, fun j t p x h1 h2 h3 => ?_, R.inj, R.tr, fun b hb => R.tb b (hB b hb), R.tk, R.fr, R.ow⟩
  have q := R.sl j t p x h1 h2 h3
  cases t with
  | un => exact q
  | sh d =>
    obtain ⟨q0, u, q1, q2⟩ := q
    exact ⟨q0, u, q1, Den.mono sb _ _ q2⟩
  | own c0 =>
    obtain ⟨b, q1, q2, q3, q4⟩ := q
    exact ⟨b, q1, q2, ⟨q3.1, fun z => q3.2 (hB b z)⟩, q4.mono sb fun _ z => z⟩
  | par c0 =>
    obtain ⟨b, q1, q2, q3, q4⟩ := q
    exact ⟨b, q1, q2, q3, q4.mono sb fun _ z => z⟩
  | scr ns =>
    obtain ⟨q0, b, q1, q2⟩ := q
    exact ⟨q0, b, q1, Sub.seqL sb q2⟩
/-- a new cell, hidden -/
theorem Rel.new (R : Rel K F α τ σ H) {p : Addr} {o : HO} (h : H p = none) : Rel K (F.hide p) α τ σ (L2.upd H p o) := by
  have sb : Sub (vis F α H) (vis (F.hide p) α (L2.upd H p o)) := hid_less (sub_upd h) fun b hb => by
    rcases List.mem_append.mp hb with z | z
    · rcases List.mem_cons.mp z with z | z
      · exact .inr (z ▸ h)
      · exact .inl (List.mem_append_left _ z)
    · exact .inl (List.mem_append_right _ z)
  have g : Grow α H α (L2.upd H p o) := Grow.upd h
  refine ⟨R.la, R.ls, fun j t q x h1 h2 h3 => ?_, R.inj, fun b hb => g.tk b (R.tr b hb), fun b hb => ?_, fun b hb => g.tk b (R.tk b hb), fun b u e n => sub_upd h _ _ (R.fr b u e n), R.ow⟩
  · have k := R.sl j t q x h1 h2 h3
    cases t with
    | un => exact k
    | sh d =>
      obtain ⟨q0, u, q1, q2⟩ := k
      exact ⟨q0, u, q1, Den.mono sb _ _ q2⟩
    | own c0 =>
      obtain ⟨b, q1, q2, q3, q4⟩ := k
      refine ⟨b, q1, q2, ⟨q3.1, fun z => ?_⟩, q4.mono sb fun _ z => sub_upd h _ _ z⟩
      rcases List.mem_cons.mp z with z | z
      · subst z
        exact q4.there h
      · exact q3.2 z
    | par c0 =>
      obtain ⟨b, q1, q2, q3, q4⟩ := k
      exact ⟨b, q1, q2, q3, q4.mono sb fun _ z => sub_upd h _ _ z⟩
    | scr ns =>
      obtain ⟨q0, b, q1, q2⟩ := k
      exact ⟨q0, b, q1, Sub.seqL sb q2⟩
  · rcases List.mem_cons.mp hb with z | z
    · rw [z, upd_same]
      nofun
    · exact g.tk b (R.tb b z)
end

/-! ### judgements -/
/-- a result: a tree, or a list that is new -/
inductive R where
  | v (d : D) | fl (ds : List D)
def R.d : R → D
  | .v d => d
  | .fl ds => .lst ds
/-- what holds behind an expression -/
def Post (K : PySem.W.Frag) (F : Fr) (α : List (Option Addr)) (H : Hp) (τ' : List S) (σ : L2.St) (v : V) (α' : List (Option Addr)) (H' : Hp) : R → Prop
  | .v d => Rel K F α' τ' σ H' ∧ Grow α H α' H' ∧ Den K (vis F α' H') d v
  | .fl ds => ∃ a vs, v = .ref a ∧ H a = none ∧ Rel K (F.hide a) α' τ' σ H' ∧ Grow α H α' H' ∧ H' a = some (.lst vs) ∧ DenL K (vis (F.hide a) α' H') ds vs ∧ a ∉ cells α'
abbrev GE := List S → Option (D × List S)
abbrev GR := List S → Option (R × List S)
abbrev GB := List S → Option (Bool × List S)
def EvR (X : Cx) (e : Expr) (g : GR) : Prop := ∃ t, PE X e t ∧ ∀ F α τ σ H r τ' Q, Rel X.K F α τ σ H → g τ = some (r, τ') → (∀ v α' H', Post X.K F α H τ' σ v α' H' r → Q v H') → t σ H Q
def EvD (X : Cx) (e : Expr) (g : GE) : Prop := ∃ t, PE X e t ∧ ∀ F α τ σ H d τ' Q, Rel X.K F α τ σ H → g τ = some (d, τ') → (∀ v α' H', Rel X.K F α' τ' σ H' → Grow α H α' H' → Den X.K (vis F α' H') d v → Q v H') → t σ H Q
def EvT (X : Cx) (e : Expr) (g : GB) : Prop := ∃ t, PT X e t ∧ ∀ F α τ σ H b τ' Q, Rel X.K F α τ σ H → g τ = some (b, τ') → (∀ α' H', Rel X.K F α' τ' σ H' → Grow α H α' H' → Q b H') → t σ H Q
def EvW (X : Cx) (e : Expr) (g : GB) : Prop := ∃ t, PW X e t ∧ ∀ F α τ σ H b τ' Q, Rel X.K F α τ σ H → g τ = some (b, τ') → (∀ α' H', Rel X.K F α' τ' σ H' → Grow α H α' H' → Q b H') → t σ H Q
/-- an expression list -/
def EvL (X : Cx) (es : List Expr) (g : List S → Option (List D × List S)) : Prop := ∃ t, PA X es t ∧ ∀ F α τ σ H ds τ' Q, Rel X.K F α τ σ H → g τ = some (ds, τ') → (∀ vs α' H', Rel X.K F α' τ' σ H' → Grow α H α' H' → DenL X.K (vis F α' H') ds vs → Q vs H') → t σ H Q

def gD (g : GR) : GE := fun τ => match g τ with
  | some (r, τ') => some (r.d, τ')
  | none => none
def gR (g : GE) : GR := fun τ => match g τ with
  | some (d, τ') => some (.v d, τ')
  | none => none
section
variable {X : Cx} {e : Expr} {g : GR} {f : GE}
theorem EvR.d (h : EvR X e g) : EvD X e (gD g) := by
  obtain ⟨t, ht, hs⟩ := h
  refine ⟨t, ht, fun F α τ σ H d τ' Q R0 hg hq => ?_⟩
  unfold gD at hg
  cases e : g τ with
  | none => rw [e] at hg; cases hg
  | some p =>
    obtain ⟨r, τ1⟩ := p
    rw [e] at hg
    cases hg
    refine hs F α τ σ H r τ' Q R0 e fun v α' H' p => ?_
    cases r with
    | v d =>
      obtain ⟨p1, p2, p3⟩ := p
      exact hq v α' H' p1 p2 p3
    | fl ds =>
      obtain ⟨a, vs, rfl, p0, p1, p2, p3, p4, p5⟩ := p
      have hB : ∀ b ∈ F.B0, b ∈ a :: F.B0 := fun b hb => List.mem_cons_of_mem _ hb
      refine hq _ α' H' (p1.unhide hB) p2 ?_
      show Den X.K _ (.lst ds) _
      unfold Den
      have na : a ∉ F.B0 := fun z => R0.tb a z p0
      have sb : Sub (vis (F.hide a) α' H') (vis F α' H') := hid_less (Sub.refl _) fun b hb => .inl (by
        rcases List.mem_append.mp hb with z | z
        · exact List.mem_append_left _ (hB b z)
        · exact List.mem_append_right _ z)
      refine ⟨a, vs, rfl, hid_some.mpr ⟨fun z => ?_, p3⟩, DenL.mono sb _ _ p4⟩
      rcases List.mem_append.mp z with z | z
      · exact na z
      · exact p5 z
theorem EvD.r (h : EvD X e f) : EvR X e (gR f) := by
  obtain ⟨t, ht, hs⟩ := h
  refine ⟨t, ht, fun F α τ σ H r τ' Q R0 hg hq => ?_⟩
  unfold gR at hg
  cases e : f τ with
  | none => rw [e] at hg; cases hg
  | some p =>
    obtain ⟨d, τ1⟩ := p
    rw [e] at hg
    cases hg
    exact hs F α τ σ H d τ' Q R0 e fun v α' H' p1 p2 p3 => hq v α' H' ⟨p1, p2, p3⟩
end
end TL
set_option Elab.async false
set_option linter.all false
set_option maxRecDepth 100000
/-! TL3: rules for expressions. -/
namespace TL
open PySem PySem.Spec PyProof.Rows L2

/-! ### what an operation on trees is worth -/
/-- ahead of an operation: cells of B are hidden; nothing of them is used -/
def Op2 (K : PySem.W.Frag) (r : R2) (f : D → D → Option D) : Prop :=
  ∀ (B : List Addr) (H : Hp) (a b d : D) (x y : V) (Q : VK), (∀ c ∈ B, H c ≠ none) → Den K (hid B H) a x → Den K (hid B H) b y → f a b = some d →
    (∀ v H', Sub H H' → Den K (hid B H') d v → Q v H') → r x y H Q
/-- a new list comes -/
def Op2F (K : PySem.W.Frag) (r : R2) (f : D → D → Option (List D)) : Prop :=
  ∀ (B : List Addr) (H : Hp) (a b : D) (ds : List D) (x y : V) (Q : VK), (∀ c ∈ B, H c ≠ none) → Den K (hid B H) a x → Den K (hid B H) b y → f a b = some ds →
    (∀ p vs, H p = none → DenL K (hid B H) ds vs → Q (.ref p) (upd H p (.lst vs))) → r x y H Q
def Op1 (K : PySem.W.Frag) (r : V → Hp → VK → Prop) (f : D → Option D) : Prop :=
  ∀ (B : List Addr) (H : Hp) (a d : D) (x : V) (Q : VK), (∀ c ∈ B, H c ≠ none) → Den K (hid B H) a x → f a = some d → (∀ v H', Sub H H' → Den K (hid B H') d v → Q v H') → r x H Q
def OpN (K : PySem.W.Frag) (r : List V → Hp → VK → Prop) (f : List D → Option D) : Prop :=
  ∀ (B : List Addr) (H : Hp) (ds : List D) (d : D) (xs : List V) (Q : VK), (∀ c ∈ B, H c ≠ none) → DenL K (hid B H) ds xs → f ds = some d → (∀ v H', Sub H H' → Den K (hid B H') d v → Q v H') → r xs H Q
def OpNF (K : PySem.W.Frag) (r : List V → Hp → VK → Prop) (f : List D → Option (List D)) : Prop :=
  ∀ (B : List Addr) (H : Hp) (ds es : List D) (xs : List V) (Q : VK), (∀ c ∈ B, H c ≠ none) → DenL K (hid B H) ds xs → f ds = some es → (∀ p vs, H p = none → DenL K (hid B H) es vs → Q (.ref p) (upd H p (.lst vs))) → r xs H Q

section
variable {K : PySem.W.Frag} {F : Fr} {α α' α1 α2 : List (Option Addr)} {τ τ' τ1 τ2 : List S} {σ σ' : L2.St} {H H' H1 H2 : Hp}
theorem Rel.tb2 (R : Rel K F α τ σ H) : ∀ c ∈ F.B0 ++ cells α, H c ≠ none := fun c hc => by
  rcases List.mem_append.mp hc with z | z
  · exact R.tb c z
  · exact R.tr c z
/-- an operation's end: a tree in a grown heap -/
theorem Rel.fin {Q : VK} {d : D} (R1 : Rel K F α1 τ1 σ H1) (g1 : Grow α H α1 H1) (hq : ∀ v α' H', Rel K F α' τ1 σ H' → Grow α H α' H' → Den K (vis F α' H') d v → Q v H') :
    ∀ v H', Sub H1 H' → Den K (hid (F.B0 ++ cells α1) H') d v → Q v H' := fun v H' s dv => hq v α1 H' (R1.sub s) (g1.trans (Grow.of_sub s)) dv
/-- a new list -/
theorem Rel.finF {Q : VK} {ds : List D} (R1 : Rel K F α1 τ1 σ H1) (g1 : Grow α H α1 H1) (hq : ∀ v α' H', Post K F α H τ1 σ v α' H' (.fl ds) → Q v H') :
    ∀ p vs, H1 p = none → DenL K (hid (F.B0 ++ cells α1) H1) ds vs → Q (.ref p) (L2.upd H1 p (.lst vs)) := fun p vs hp dv => by
  have h0 : H p = none := by
    cases e : H p with
    | none => rfl
    | some o => exact absurd hp (g1.tk p (by rw [e]; nofun))
  refine hq _ α1 _ ⟨p, vs, rfl, h0, R1.new hp, g1.trans (Grow.upd hp), upd_same, DenL.mono (hid_less (sub_upd hp) fun b hb => ?_) _ _ dv, fun z => R1.tr p z hp⟩
  rcases List.mem_append.mp hb with z | z
  · rcases List.mem_cons.mp z with z | z
    · exact .inr (z ▸ hp)
    · exact .inl (List.mem_append_left _ z)
  · exact .inl (List.mem_append_right _ z)
end

/-! ### combinators -/
def gC (d : D) : GE := fun τ => some (d, τ)
/-- the tree in slot i -/
def gVar (i : Nat) : GE := fun τ => match τ[i]? with
  | some (.sh d) => some (d, τ)
  | _ => none
/-- the list in slot i, from now on a tree -/
def gFrz (i : Nat) : GE := fun τ => match τ[i]? with
  | some (.own (.lst xs)) => some (.lst xs, τ.set i (.sh (.lst xs)))
  | some (.sh d) => some (d, τ)
  | _ => none
def gBin (f : D → D → Option D) (ga gb : GE) : GE := fun τ => match ga τ with
  | none => none
  | some (a, τ1) => match gb τ1 with
    | none => none
    | some (b, τ2) => match f a b with
      | none => none
      | some d => some (d, τ2)
def gBinF (f : D → D → Option (List D)) (ga gb : GE) : GR := fun τ => match ga τ with
  | none => none
  | some (a, τ1) => match gb τ1 with
    | none => none
    | some (b, τ2) => match f a b with
      | none => none
      | some ds => some (.fl ds, τ2)
def gUn (f : D → Option D) (ga : GE) : GE := fun τ => match ga τ with
  | none => none
  | some (a, τ1) => match f a with
    | none => none
    | some d => some (d, τ1)
abbrev GL := List S → Option (List D × List S)
def gNil : GL := fun τ => some ([], τ)
def gCons (ga : GE) (gl : GL) : GL := fun τ => match ga τ with
  | none => none
  | some (a, τ1) => match gl τ1 with
    | none => none
    | some (ds, τ2) => some (a :: ds, τ2)
def gOpN (f : List D → Option D) (gl : GL) : GE := fun τ => match gl τ with
  | none => none
  | some (ds, τ1) => match f ds with
    | none => none
    | some d => some (d, τ1)
def gOpNF (f : List D → Option (List D)) (gl : GL) : GR := fun τ => match gl τ with
  | none => none
  | some (ds, τ1) => match f ds with
    | none => none
    | some es => some (.fl es, τ1)
def gIf (c : GB) (a b : GE) : GE := fun τ => match c τ with
  | none => none
  | some (true, τ1) => a τ1
  | some (false, τ1) => b τ1
def gTB (g : GE) : GB := fun τ => match g τ with
  | some (.bl b, τ1) => some (b, τ1)
  | _ => none
def gNot (g : GB) : GB := fun τ => match g τ with
  | some (b, τ1) => some (!b, τ1)
  | none => none
def gAnd (g h : GB) : GB := fun τ => match g τ with
  | some (true, τ1) => h τ1
  | some (false, τ1) => some (false, τ1)
  | none => none
def gOr (g h : GB) : GB := fun τ => match g τ with
  | some (false, τ1) => h τ1
  | some (true, τ1) => some (true, τ1)
  | none => none
def gAndV (g h : GE) : GE := fun τ => match g τ with
  | some (.bl true, τ1) => h τ1
  | some (.bl false, τ1) => some (.bl false, τ1)
  | _ => none
def gOrV (g h : GE) : GE := fun τ => match g τ with
  | some (.bl false, τ1) => h τ1
  | some (.bl true, τ1) => some (.bl true, τ1)
  | _ => none
def gNotV (g : GE) : GE := fun τ => match g τ with
  | some (.bl b, τ1) => some (.bl (!b), τ1)
  | _ => none

section
variable {X : Cx} {a b c e : Expr} {es : List Expr} {ga gb gc : GE} {gl : GL} {tb : GB} {pos : Pos}

theorem ed_const {d : D} {v : V} (hp : PE X e (tC v)) (hd : ∀ G, Den X.K G d v) : EvD X e (gC d) := ⟨_, hp, fun F α τ σ H d' τ' Q R0 hg hq => by
  cases hg
  exact hq v α H R0 Grow.refl (hd _)⟩
theorem ed_int {i : Int} {j : Nat} : EvD X (.Constant (.int i) j pos) (gC (.int i)) := ed_const pe_int fun _ => by unfold Den; rfl
theorem ed_bl {i : Bool} {j : Nat} : EvD X (.Constant (.bool i) j pos) (gC (.bl i)) := ed_const pe_bl fun _ => by unfold Den; rfl
theorem ed_non {j : Nat} : EvD X (.Constant .none j pos) (gC .non) := ed_const pe_non fun _ => by unfold Den; rfl
theorem ed_str {i : Str} {j : Nat} : EvD X (.Constant (.str i) j pos) (gC (.str i)) := ed_const pe_str fun _ => by unfold Den; rfl

theorem ed_var {i : Nat} (hp : PE X e (tVar i)) : EvD X e (gVar i) := ⟨_, hp, fun F α τ σ H d τ' Q R0 hg hq => by
  unfold gVar at hg
  split at hg
  · rename_i d' h
    cases hg
    obtain ⟨v, h1, h2⟩ := R0.sh h
    exact ⟨v, h1, hq v α H R0 Grow.refl h2⟩
  · cases hg⟩
theorem Rel.freeze {K : PySem.W.Frag} {F : Fr} {α : List (Option Addr)} {τ : List S} {σ : L2.St} {H : Hp} {i : Nat} {xs : List D} (R0 : Rel K F α τ σ H) (h : τ[i]? = some (.own (.lst xs))) :
    ∃ v, σ[i]? = some (some v) ∧ Rel K F (α.set i none) (τ.set i (.sh (.lst xs))) σ H ∧ Den K (vis F (α.set i none) H) (.lst xs) v := by
  obtain ⟨o, x, h1, h2, q⟩ := R0.at_ h
  obtain ⟨p, rfl, rfl, ⟨h0, nb⟩, vs, e1, e2⟩ := q
  have hd : Den K (vis F (α.set i none) H) (.lst xs) (.ref p) := by
    unfold Den
    refine ⟨p, vs, rfl, hid_some.mpr ⟨fun z => ?_, e1⟩, DenL.mono (hid_less (Sub.refl _) fun b hb => .inl ?_) _ _ e2⟩
    · rcases List.mem_append.mp z with z | z
      · exact nb z
      · obtain ⟨j, e⟩ := mem_cells.mp z
        by_cases hj : i = j
        · subst hj
          have := List.getElem?_set (l := α) (i := i) (j := i) (a := none)
          rw [e] at this
          simp at this
        · rw [List.getElem?_set_ne hj] at e
          exact hj (R0.inj _ _ _ h1 e)
    · rcases List.mem_append.mp hb with z | z
      · exact List.mem_append_left _ z
      · exact List.mem_append_right _ (cells_set_none z)
  have es : σ.set i (some (.ref p)) = σ := by
    apply List.ext_getElem?
    intro j
    by_cases hj : i = j
    · subst hj
      rw [List.getElem?_set_self (List.getElem?_eq_some_iff.mp h2).1, h2]
    · rw [List.getElem?_set_ne hj]
  refine ⟨.ref p, h2, ?_, hd⟩
  have R1 : Rel K (F.hides F.B0) α τ σ H := R0
  have := R1.store (F := F) (fun b hb => hb) (r := .sh (.lst xs)) (v := .ref p) (o := none) h rfl ⟨rfl, _, rfl, hd⟩ nofun
  rw [es] at this
  exact this

theorem ed_frz {i : Nat} (hp : PE X e (tVar i)) : EvD X e (gFrz i) := ⟨_, hp, fun F α τ σ H d τ' Q R0 hg hq => by
  unfold gFrz at hg
  split at hg
  · rename_i xs h
    cases hg
    obtain ⟨v, h1, h2, h3⟩ := R0.freeze h
    exact ⟨v, h1, hq v _ H h2 Grow.drop h3⟩
  · rename_i d' h
    cases hg
    obtain ⟨v, h1, h2⟩ := R0.sh h
    exact ⟨v, h1, hq v α H R0 Grow.refl h2⟩
  · cases hg⟩

theorem ed_bin {r : R2} {f : D → D → Option D} (hp : ∀ {ta tb}, PE X a ta → PE X b tb → PE X e (tOp r ta tb)) (hf : Op2 X.K r f) (ha : EvD X a ga) (hb : EvD X b gb) : EvD X e (gBin f ga gb) := by
  obtain ⟨ta, pa, sa⟩ := ha
  obtain ⟨tb, pb, sb⟩ := hb
  refine ⟨_, hp pa pb, fun F α τ σ H d τ' Q R0 hg hq => ?_⟩
  unfold gBin at hg
  split at hg
  · cases hg
  rename_i x τ1 e1
  split at hg
  · cases hg
  rename_i y τ2 e2
  split at hg
  · cases hg
  rename_i z e3
  cases hg
  refine sa F α τ σ H x τ1 _ R0 e1 fun v α1 H1 R1 g1 d1 => ?_
  refine sb F α1 τ1 σ H1 y τ' _ R1 e2 fun u α2 H2 R2 g2 d2 => ?_
  exact hf _ H2 x y d v u Q R2.tb2 (Den.mono g2.vis _ _ d1) d2 e3 (R2.fin (g1.trans g2) hq)
theorem er_bin {r : R2} {f : D → D → Option (List D)} (hp : ∀ {ta tb}, PE X a ta → PE X b tb → PE X e (tOp r ta tb)) (hf : Op2F X.K r f) (ha : EvD X a ga) (hb : EvD X b gb) : EvR X e (gBinF f ga gb) := by
  obtain ⟨ta, pa, sa⟩ := ha
  obtain ⟨tb, pb, sb⟩ := hb
  refine ⟨_, hp pa pb, fun F α τ σ H d τ' Q R0 hg hq => ?_⟩
  unfold gBinF at hg
  split at hg
  · cases hg
  rename_i x τ1 e1
  split at hg
  · cases hg
  rename_i y τ2 e2
  split at hg
  · cases hg
  rename_i z e3
  cases hg
  refine sa F α τ σ H x τ1 _ R0 e1 fun v α1 H1 R1 g1 d1 => ?_
  refine sb F α1 τ1 σ H1 y τ' _ R1 e2 fun u α2 H2 R2 g2 d2 => ?_
  exact hf _ H2 x y z v u Q R2.tb2 (Den.mono g2.vis _ _ d1) d2 e3 (R2.finF (g1.trans g2) hq)
theorem ed_un {r : V → Hp → VK → Prop} {f : D → Option D} (hp : ∀ {ta}, PE X a ta → PE X e (tUn r ta)) (hf : Op1 X.K r f) (ha : EvD X a ga) : EvD X e (gUn f ga) := by
  obtain ⟨ta, pa, sa⟩ := ha
  refine ⟨_, hp pa, fun F α τ σ H d τ' Q R0 hg hq => ?_⟩
  unfold gUn at hg
  split at hg
  · cases hg
  rename_i x τ1 e1
  split at hg
  · cases hg
  rename_i z e3
  cases hg
  refine sa F α τ σ H x τ' _ R0 e1 fun v α1 H1 R1 g1 d1 => ?_
  exact hf _ H1 x d v Q R1.tb2 d1 e3 (R1.fin g1 hq)
theorem el_nil : EvL X [] gNil := ⟨_, pa_nil, fun F α τ σ H ds τ' Q R0 hg hq => by
  cases hg
  exact hq [] α H R0 Grow.refl DenL.nil⟩
theorem el_cons (ha : EvD X e ga) (hl : EvL X es gl) (hs : starEach (e :: es) X.env = (false, eval e X.env) :: starEach es X.env := by rfl) : EvL X (e :: es) (gCons ga gl) := by
  obtain ⟨ta, pa, sa⟩ := ha
  obtain ⟨tl, pl, sl⟩ := hl
  refine ⟨_, pa_cons pa pl hs, fun F α τ σ H ds τ' Q R0 hg hq => ?_⟩
  unfold gCons at hg
  split at hg
  · cases hg
  rename_i x τ1 e1
  split at hg
  · cases hg
  rename_i ys τ2 e2
  cases hg
  refine sa F α τ σ H x τ1 _ R0 e1 fun v α1 H1 R1 g1 d1 => ?_
  refine sl F α1 τ1 σ H1 ys τ' _ R1 e2 fun vs α2 H2 R2 g2 d2 => ?_
  exact hq (v :: vs) α2 H2 R2 (g1.trans g2) (DenL.cons (Den.mono g2.vis _ _ d1) d2)
/-- a built-in by its name: hp is pe_callB .. or pe_callTy .. -/
theorem ed_opN {r : List V → Hp → VK → Prop} {f : List D → Option D} (hp : ∀ {t}, PA X es t → PE X e (tCB r t)) (hf : OpN X.K r f) (hl : EvL X es gl) : EvD X e (gOpN f gl) := by
  obtain ⟨tl, pl, sl⟩ := hl
  refine ⟨_, hp pl, fun F α τ σ H d τ' Q R0 hg hq => ?_⟩
  unfold gOpN at hg
  split at hg
  · cases hg
  rename_i xs τ1 e1
  split at hg
  · cases hg
  rename_i z e3
  cases hg
  refine sl F α τ σ H xs τ' _ R0 e1 fun v α1 H1 R1 g1 d1 => ?_
  exact hf _ H1 xs d v Q R1.tb2 d1 e3 (R1.fin g1 hq)
theorem er_opN {r : List V → Hp → VK → Prop} {f : List D → Option (List D)} (hp : ∀ {t}, PA X es t → PE X e (tCB r t)) (hf : OpNF X.K r f) (hl : EvL X es gl) : EvR X e (gOpNF f gl) := by
  obtain ⟨tl, pl, sl⟩ := hl
  refine ⟨_, hp pl, fun F α τ σ H d τ' Q R0 hg hq => ?_⟩
  unfold gOpNF at hg
  split at hg
  · cases hg
  rename_i xs τ1 e1
  split at hg
  · cases hg
  rename_i z e3
  cases hg
  refine sl F α τ σ H xs τ' _ R0 e1 fun v α1 H1 R1 g1 d1 => ?_
  exact hf _ H1 xs z v Q R1.tb2 d1 e3 (R1.finF g1 hq)
/-- (a, b, ..) -/
def fTup (ds : List D) : Option D := if ds.length ≤ 16777216 then some (.tup ds) else none
def fLst (ds : List D) : Option (List D) := if ds.length ≤ 16777216 then some ds else none
theorem ed_tup {x1 : Nat} (hl : EvL X es gl) : EvD X (.Tuple es x1 pos) (gOpN fTup gl) := by
  obtain ⟨tl, pl, sl⟩ := hl
  refine ⟨_, pe_tup pl, fun F α τ σ H d τ' Q R0 hg hq => ?_⟩
  unfold gOpN at hg
  split at hg
  · cases hg
  rename_i xs τ1 e1
  split at hg
  · cases hg
  rename_i z e3
  cases hg
  unfold fTup at e3
  split at e3
  · rename_i hz
    cases e3
    refine sl F α τ σ H xs τ' _ R0 e1 fun v α1 H1 R1 g1 d1 => ⟨by rw [d1.length, sizeLine_eq]; exact hz, fun p hp => ?_⟩
    refine R1.fin g1 hq _ _ (sub_upd hp) ?_
    unfold Den
    exact ⟨p, v, rfl, .inl (.inl (hid_some.mpr ⟨fun z => R1.tb2 p z hp, upd_same⟩)), DenL.mono (hid_less (sub_upd hp) fun b hb => .inl hb) _ _ d1⟩
  · cases e3
/-- [a, b, ..] -/
theorem er_lst (hl : EvL X es gl) : EvR X (.List es pos) (gOpNF fLst gl) := by
  obtain ⟨tl, pl, sl⟩ := hl
  refine ⟨_, pe_lst pl, fun F α τ σ H d τ' Q R0 hg hq => ?_⟩
  unfold gOpNF at hg
  split at hg
  · cases hg
  rename_i xs τ1 e1
  split at hg
  · cases hg
  rename_i z e3
  cases hg
  unfold fLst at e3
  split at e3
  · rename_i hz
    cases e3
    refine sl F α τ σ H _ τ' _ R0 e1 fun v α1 H1 R1 g1 d1 => ⟨by rw [d1.length, sizeLine_eq]; exact hz, fun p hp => R1.finF g1 hq p v hp d1⟩
  · cases e3

/-! ### tests -/
theorem et_val (h : EvD X e ga) (he : ∀ whole, isTrue e X.env whole = (do let v ← whole; standAt e.pos; holding [v] (truthy v)) := by intro _; rfl) : EvT X e (gTB ga) := by
  obtain ⟨t, pt, st⟩ := h
  refine ⟨_, pt_val pt he, fun F α τ σ H b τ' Q R0 hg hq => ?_⟩
  unfold gTB at hg
  split at hg
  · rename_i b' τ1 e1
    cases hg
    refine st F α τ σ H _ τ' _ R0 e1 fun v α1 H1 R1 g1 d1 => ?_
    unfold Den at d1
    exact ⟨b, d1, hq α1 H1 R1 g1⟩
  · cases hg
theorem et_not (h : EvT X e tb) : EvT X (.UnaryOp .Not e pos) (gNot tb) := by
  obtain ⟨t, pt, st⟩ := h
  refine ⟨_, pt_not pt, fun F α τ σ H b τ' Q R0 hg hq => ?_⟩
  unfold gNot at hg
  split at hg
  · rename_i b' τ1 e1
    cases hg
    exact st F α τ σ H b' τ' _ R0 e1 hq
  · cases hg
theorem EvW.t (h : EvW X e tb) : EvT X e tb := by
  obtain ⟨t, pt, st⟩ := h
  exact ⟨t, pt.pt, st⟩
variable {tc : GB} {rest : List Expr}
theorem ew_and1 (h : EvT X a tb) : EvW X (.BoolOp .And [a] pos) tb := by
  obtain ⟨t, pt, st⟩ := h
  exact ⟨t, pw_and1 pt, st⟩
theorem ew_or1 (h : EvT X a tb) : EvW X (.BoolOp .Or [a] pos) tb := by
  obtain ⟨t, pt, st⟩ := h
  exact ⟨t, pw_or1 pt, st⟩
theorem ew_and (h : EvT X a tb) (h' : EvW X (.BoolOp .And (b :: rest) pos) tc) : EvW X (.BoolOp .And (a :: b :: rest) pos) (gAnd tb tc) := by
  obtain ⟨t, pt, st⟩ := h
  obtain ⟨t', pt', st'⟩ := h'
  refine ⟨_, pw_and pt pt', fun F α τ σ H b τ' Q R0 hg hq => ?_⟩
  unfold gAnd at hg
  split at hg
  · rename_i τ1 e1
    refine st F α τ σ H true τ1 _ R0 e1 fun α1 H1 R1 g1 => ?_
    rw [if_pos rfl]
    exact st' F α1 τ1 σ H1 b τ' Q R1 hg fun α2 H2 R2 g2 => hq α2 H2 R2 (g1.trans g2)
  · rename_i τ1 e1
    cases hg
    refine st F α τ σ H false τ' _ R0 e1 fun α1 H1 R1 g1 => ?_
    rw [if_neg Bool.false_ne_true]
    exact hq α1 H1 R1 g1
  · cases hg
theorem ew_or (h : EvT X a tb) (h' : EvW X (.BoolOp .Or (b :: rest) pos) tc) : EvW X (.BoolOp .Or (a :: b :: rest) pos) (gOr tb tc) := by
  obtain ⟨t, pt, st⟩ := h
  obtain ⟨t', pt', st'⟩ := h'
  refine ⟨_, pw_or pt pt', fun F α τ σ H b τ' Q R0 hg hq => ?_⟩
  unfold gOr at hg
  split at hg
  · rename_i τ1 e1
    refine st F α τ σ H false τ1 _ R0 e1 fun α1 H1 R1 g1 => ?_
    rw [if_neg Bool.false_ne_true]
    exact st' F α1 τ1 σ H1 b τ' Q R1 hg fun α2 H2 R2 g2 => hq α2 H2 R2 (g1.trans g2)
  · rename_i τ1 e1
    cases hg
    refine st F α τ σ H true τ' _ R0 e1 fun α1 H1 R1 g1 => ?_
    rw [if_pos rfl]
    exact hq α1 H1 R1 g1
  · cases hg
theorem ed_one {op} (h : EvD X a ga) : EvD X (.BoolOp op [a] pos) ga := by
  obtain ⟨t, pt, st⟩ := h
  exact ⟨t, pe_one pt, st⟩
theorem ed_and (h : EvD X a ga) (h' : EvD X (.BoolOp .And (b :: rest) pos) gb) : EvD X (.BoolOp .And (a :: b :: rest) pos) (gAndV ga gb) := by
  obtain ⟨t, pt, st⟩ := h
  obtain ⟨t', pt', st'⟩ := h'
  refine ⟨_, pe_and pt pt', fun F α τ σ H d τ' Q R0 hg hq => ?_⟩
  unfold gAndV at hg
  split at hg
  · rename_i τ1 e1
    refine st F α τ σ H _ τ1 _ R0 e1 fun v α1 H1 R1 g1 d1 => ?_
    unfold Den at d1
    refine ⟨true, d1, ?_⟩
    rw [if_pos rfl]
    exact st' F α1 τ1 σ H1 d τ' Q R1 hg fun v α2 H2 R2 g2 d2 => hq v α2 H2 R2 (g1.trans g2) d2
  · rename_i τ1 e1
    cases hg
    refine st F α τ σ H _ τ' _ R0 e1 fun v α1 H1 R1 g1 d1 => ?_
    have d1' := d1
    unfold Den at d1
    refine ⟨false, d1, ?_⟩
    rw [if_neg Bool.false_ne_true]
    refine hq _ α1 H1 R1 g1 ?_
    rw [d1] at d1'
    exact d1'
  · cases hg
theorem ed_or (h : EvD X a ga) (h' : EvD X (.BoolOp .Or (b :: rest) pos) gb) : EvD X (.BoolOp .Or (a :: b :: rest) pos) (gOrV ga gb) := by
  obtain ⟨t, pt, st⟩ := h
  obtain ⟨t', pt', st'⟩ := h'
  refine ⟨_, pe_or pt pt', fun F α τ σ H d τ' Q R0 hg hq => ?_⟩
  unfold gOrV at hg
  split at hg
  · rename_i τ1 e1
    refine st F α τ σ H _ τ1 _ R0 e1 fun v α1 H1 R1 g1 d1 => ?_
    unfold Den at d1
    refine ⟨false, d1, ?_⟩
    rw [if_neg Bool.false_ne_true]
    exact st' F α1 τ1 σ H1 d τ' Q R1 hg fun v α2 H2 R2 g2 d2 => hq v α2 H2 R2 (g1.trans g2) d2
  · rename_i τ1 e1
    cases hg
    refine st F α τ σ H _ τ' _ R0 e1 fun v α1 H1 R1 g1 d1 => ?_
    have d1' := d1
    unfold Den at d1
    refine ⟨true, d1, ?_⟩
    rw [if_pos rfl]
    refine hq _ α1 H1 R1 g1 ?_
    rw [d1] at d1'
    exact d1'
  · cases hg
theorem ed_not (h : EvD X a ga) : EvD X (.UnaryOp .Not a pos) (gNotV ga) := by
  obtain ⟨t, pt, st⟩ := h
  refine ⟨_, pe_not pt, fun F α τ σ H d τ' Q R0 hg hq => ?_⟩
  unfold gNotV at hg
  split at hg
  · rename_i b τ1 e1
    cases hg
    refine st F α τ σ H _ τ' _ R0 e1 fun v α1 H1 R1 g1 d1 => ?_
    unfold Den at d1
    exact ⟨b, d1, hq _ α1 H1 R1 g1 (by unfold Den; rfl)⟩
  · cases hg
theorem ed_if {c : Expr} (hc : EvT X c tb) (ha : EvD X a ga) (hb : EvD X b gb) : EvD X (.IfExp c a b pos) (gIf tb ga gb) := by
  obtain ⟨tc, pc, sc⟩ := hc
  obtain ⟨ta, pa, sa⟩ := ha
  obtain ⟨tb', pb, sb⟩ := hb
  refine ⟨_, pe_ifExp pc pa pb, fun F α τ σ H d τ' Q R0 hg hq => ?_⟩
  unfold gIf at hg
  split at hg
  · cases hg
  · rename_i τ1 e1
    refine sc F α τ σ H _ τ1 _ R0 e1 fun α1 H1 R1 g1 => ?_
    rw [if_pos rfl]
    exact sa F α1 τ1 σ H1 d τ' Q R1 hg fun v α2 H2 R2 g2 d2 => hq v α2 H2 R2 (g1.trans g2) d2
  · rename_i τ1 e1
    refine sc F α τ σ H _ τ1 _ R0 e1 fun α1 H1 R1 g1 => ?_
    rw [if_neg Bool.false_ne_true]
    exact sb F α1 τ1 σ H1 d τ' Q R1 hg fun v α2 H2 R2 g2 d2 => hq v α2 H2 R2 (g1.trans g2) d2
end
end TL
set_option Elab.async false
set_option linter.all false
set_option maxRecDepth 100000
/-! TL4: operations on trees. -/
namespace TL
open PySem PySem.Spec PyProof.Rows L2

section
variable {K : PySem.W.Frag} {B : List Addr} {H : Hp}
theorem Den.tup_inv {ds : List D} {v : V} (h : Den K (hid B H) (.tup ds) v) : ∃ a vs, v = .ref a ∧ SqT K H a vs ∧ DenL K (hid B H) ds vs := by
  unfold Den at h
  obtain ⟨a, vs, h1, h2, h3⟩ := h
  exact ⟨a, vs, h1, Sub.seqT hid_sub h2, h3⟩
theorem Den.lst_inv {ds : List D} {v : V} (h : Den K (hid B H) (.lst ds) v) : ∃ a vs, v = .ref a ∧ H a = some (.lst vs) ∧ DenL K (hid B H) ds vs := by
  unfold Den at h
  obtain ⟨a, vs, h1, h2, h3⟩ := h
  exact ⟨a, vs, h1, hid_sub _ _ h2, h3⟩
theorem Den.mk_tup {p : Addr} {ds : List D} {vs : List V} (hB : ∀ c ∈ B, H c ≠ none) (hp : H p = none) (h : DenL K (hid B H) ds vs) : Den K (hid B (upd H p (.tup vs))) (.tup ds) (.ref p) := by
  unfold Den
  exact ⟨p, vs, rfl, .inl (.inl (hid_some.mpr ⟨fun z => hB p z hp, upd_same⟩)), DenL.mono (hid_less (sub_upd hp) fun b hb => .inl hb) _ _ h⟩
theorem Den.int' {G : Hp} {i : Int} : Den K G (.int i) (.int i) := by unfold Den; rfl
theorem Den.bl' {G : Hp} {i : Bool} : Den K G (.bl i) (.bl i) := by unfold Den; rfl
theorem Den.str' {G : Hp} {i : Str} : Den K G (.str i) (.str i) := by unfold Den; rfl
theorem Den.non' {G : Hp} : Den K G .non .non := by unfold Den; rfl
theorem Den.ty' {G : Hp} {n : String} : Den K G (.ty n) (.ty n) := by unfold Den; rfl
end

/-! ### trees as the library's data -/
mutual
def D.py : D → Option PyData
  | .non => some .none
  | .bl b => some (.bool b)
  | .int i => some (.int i)
  | .str x => some (.str x)
  | .ty _ => none
  | .tup ds => match D.pys ds with
    | some xs => some (.tuple xs)
    | none => none
  | .lst ds => match D.pys ds with
    | some xs => some (.list xs)
    | none => none
def D.pys : List D → Option (List PyData)
  | [] => some []
  | d :: ds => match D.py d, D.pys ds with
    | some x, some xs => some (x :: xs)
    | _, _ => none
end
section
variable {K : PySem.W.Frag} {G : Hp}
mutual
theorem Den.dp : ∀ (d : D) (v : V) (p : PyData), Den K G d v → d.py = some p → Dp K G v p
  | .non, v, p, h, e => by unfold Den at h; unfold D.py at e; cases e; subst h; exact .non
  | .bl b, v, p, h, e => by unfold Den at h; unfold D.py at e; cases e; subst h; exact .bl b
  | .int b, v, p, h, e => by unfold Den at h; unfold D.py at e; cases e; subst h; exact .int b
  | .str b, v, p, h, e => by unfold Den at h; unfold D.py at e; cases e; subst h; exact .str b
  | .ty _, v, p, h, e => by unfold D.py at e; cases e
  | .tup ds, v, p, h, e => by
    unfold Den at h
    obtain ⟨a, vs, rfl, h2, h3⟩ := h
    unfold D.py at e
    split at e
    · rename_i xs e2
      cases e
      exact .tup h2 (DenL.dp ds vs xs h3 e2)
    · cases e
  | .lst ds, v, p, h, e => by
    unfold Den at h
    obtain ⟨a, vs, rfl, h2, h3⟩ := h
    unfold D.py at e
    split at e
    · rename_i xs e2
      cases e
      exact .lst (.inl (.inl h2)) (DenL.dp ds vs xs h3 e2)
    · cases e
theorem DenL.dp : ∀ (ds : List D) (vs : List V) (ps : List PyData), DenL K G ds vs → D.pys ds = some ps → DpAll K G vs ps
  | [], vs, ps, h, e => by unfold DenL at h; unfold D.pys at e; cases e; subst h; exact .nil
  | d :: ds, vs, ps, h, e => by
    unfold DenL at h
    obtain ⟨v, ws, rfl, h1, h2⟩ := h
    unfold D.pys at e
    split at e
    · rename_i x xs e1 e2
      cases e
      exact .cons (Den.dp d v x h1 e1) (DenL.dp ds ws xs h2 e2)
    · cases e
end
mutual
theorem Dp.mono {G' : Hp} (e : Sub G G') : ∀ (v : V) (p : PyData), Dp K G v p → Dp K G' v p
  | _, _, .non => .non
  | _, _, .bl b => .bl b
  | _, _, .int b => .int b
  | _, _, .str b => .str b
  | _, _, .lst h t => .lst (Sub.seqL e h) (DpAll.mono e _ _ t)
  | _, _, .tup h t => .tup (Sub.seqT e h) (DpAll.mono e _ _ t)
theorem DpAll.mono {G' : Hp} (e : Sub G G') : ∀ (vs : List V) (ps : List PyData), DpAll K G vs ps → DpAll K G' vs ps
  | _, _, .nil => .nil
  | _, _, .cons h t => .cons (Dp.mono e _ _ h) (DpAll.mono e _ _ t)
end
end

/-! ### arithmetic -/
abbrev line : Nat := 16777216
def dAdd : D → D → Option D
  | .int i, .int j => some (.int (i + j))
  | .str x, .str y => if x.length + y.length ≤ line then some (.str (x ++ y)) else none
  | .tup xs, .tup ys => if xs.length + ys.length ≤ line then some (.tup (xs ++ ys)) else none
  | _, _ => none
def dSub : D → D → Option D
  | .int i, .int j => some (.int (i - j))
  | _, _ => none
def dMul : D → D → Option D
  | .int i, .int j => if i.natAbs < 2 ^ 64 ∨ j.natAbs < 2 ^ 64 ∨ i.natAbs.log2 + j.natAbs.log2 < 1000000 then some (.int (i * j)) else none
  | _, _ => none
def dDiv : D → D → Option D
  | .int i, .int j => if 0 < j ∧ j.natAbs.log2 < 9000 then some (.int (i / j)) else none
  | _, _ => none
def dMod : D → D → Option D
  | .int i, .int j => if 0 < j then some (.int (i % j)) else none
  | _, _ => none
def dPow : D → D → Option D
  | .int i, .int j => if 0 ≤ j ∧ j ≤ 1000000 ∧ i.natAbs < 2 ^ 64 then some (.int (i ^ j.toNat)) else none
  | _, _ => none
def dShl : D → D → Option D
  | .int i, .int j => if 0 ≤ j ∧ j ≤ 1000000 ∧ i.natAbs < 2 ^ 64 then some (.int (i * 2 ^ j.toNat)) else none
  | _, _ => none
def dLt : D → D → Option D
  | .int i, .int j => some (.bl (decide (i < j)))
  | _, _ => none
def dLe : D → D → Option D
  | .int i, .int j => some (.bl (decide (i ≤ j)))
  | _, _ => none
def dGt : D → D → Option D
  | .int i, .int j => some (.bl (decide (j < i)))
  | _, _ => none
def dGe : D → D → Option D
  | .int i, .int j => some (.bl (decide (j ≤ i)))
  | _, _ => none
def dNeg : D → Option D
  | .int i => some (.int (-i))
  | _ => none
abbrev rMulA : R2 := fun x y H Q => rI CMul (fun i j => .int (i * j)) x y H Q ∨ rI CMulW (fun i j => .int (i * j)) x y H Q
theorem op_mulA {X : Cx} : OpR X (binaryOp .Mult) rMulA := op_mul.or op_mulW
abbrev rAddS : R2 := fun x y H Q => ∃ i j, x = .str i ∧ y = .str j ∧ i.length + j.length ≤ sizeLine ∧ Q (.str (i ++ j)) H
abbrev rAddA (K : PySem.W.Frag) : R2 := fun x y H Q => rI0 (fun i j => .int (i + j)) x y H Q ∨ (rAddS x y H Q ∨ rCatA K x y H Q)
theorem op_addA {X : Cx} : OpR X (binaryOp .Add) (rAddA X.K) := op_add.or (op_add_str.or op_catA)
section
variable {K : PySem.W.Frag}
theorem o2_add : Op2 K (rAddA K) dAdd := fun B H a b d x y Q hB ha hb hf hq => by
  unfold dAdd at hf
  split at hf
  · cases hf
    unfold Den at ha hb
    exact .inl ⟨_, _, ha, hb, hq _ _ (Sub.refl _) Den.int'⟩
  · split at hf
    · rename_i hz
      cases hf
      unfold Den at ha hb
      exact .inr (.inl ⟨_, _, ha, hb, by rw [sizeLine_eq]; exact hz, hq _ _ (Sub.refl _) Den.str'⟩)
    · cases hf
  · rename_i xs ys
    split at hf
    · rename_i hz
      cases hf
      obtain ⟨p, vs, rfl, h1, h2⟩ := ha.tup_inv
      obtain ⟨q, ws, rfl, h3, h4⟩ := hb.tup_inv
      refine .inr (.inr ⟨p, q, vs, ws, rfl, rfl, h1, h3, by rw [h2.length, h4.length, sizeLine_eq]; exact hz, fun e => ?_, fun e e2 => ?_, fun e e2 r hr => ?_⟩)
      · subst e
        refine hq _ _ (Sub.refl _) ?_
        cases xs with
        | nil => exact hb
        | cons x xs =>
          have := h2.length
          cases this
      · subst e2
        refine hq _ _ (Sub.refl _) ?_
        cases ys with
        | nil =>
          rw [List.append_nil]
          exact ha
        | cons x xs =>
          have := h4.length
          cases this
      · exact hq _ _ (sub_upd hr) (Den.mk_tup (H := H) hB hr (DenL.append h2 h4))
    · cases hf
  · cases hf
theorem o2_sub : Op2 K (rI0 fun i j => .int (i - j)) dSub := fun B H a b d x y Q hB ha hb hf hq => by
  unfold dSub at hf
  split at hf
  · cases hf
    unfold Den at ha hb
    exact ⟨_, _, ha, hb, hq _ _ (Sub.refl _) Den.int'⟩
  · cases hf
theorem o2_mul : Op2 K rMulA dMul := fun B H a b d x y Q hB ha hb hf hq => by
  unfold dMul at hf
  split at hf
  · split at hf
    · rename_i i j hz
      cases hf
      unfold Den at ha hb
      rcases hz with hz | hz | hz
      · exact .inl ⟨_, _, ha, hb, .inl (by omega), hq _ _ (Sub.refl _) Den.int'⟩
      · exact .inl ⟨_, _, ha, hb, .inr (by omega), hq _ _ (Sub.refl _) Den.int'⟩
      · exact .inr ⟨_, _, ha, hb, hz, hq _ _ (Sub.refl _) Den.int'⟩
    · cases hf
  · cases hf
theorem o2_div : Op2 K (rI CDivW fun i j => .int (i / j)) dDiv := fun B H a b d x y Q hB ha hb hf hq => by
  unfold dDiv at hf
  split at hf
  · split at hf
    · rename_i hz
      cases hf
      unfold Den at ha hb
      exact ⟨_, _, ha, hb, hz, hq _ _ (Sub.refl _) Den.int'⟩
    · cases hf
  · cases hf
theorem o2_mod : Op2 K (rI (fun _ j => 0 < j) fun i j => .int (i % j)) dMod := fun B H a b d x y Q hB ha hb hf hq => by
  unfold dMod at hf
  split at hf
  · split at hf
    · rename_i hz
      cases hf
      unfold Den at ha hb
      exact ⟨_, _, ha, hb, hz, hq _ _ (Sub.refl _) Den.int'⟩
    · cases hf
  · cases hf
theorem o2_pow : Op2 K (rI CPow fun i j => .int (i ^ j.toNat)) dPow := fun B H a b d x y Q hB ha hb hf hq => by
  unfold dPow at hf
  split at hf
  · split at hf
    · rename_i hz
      cases hf
      unfold Den at ha hb
      exact ⟨_, _, ha, hb, hz, hq _ _ (Sub.refl _) Den.int'⟩
    · cases hf
  · cases hf
theorem o2_shl : Op2 K (rI CPow fun i j => .int (i * 2 ^ j.toNat)) dShl := fun B H a b d x y Q hB ha hb hf hq => by
  unfold dShl at hf
  split at hf
  · split at hf
    · rename_i hz
      cases hf
      unfold Den at ha hb
      exact ⟨_, _, ha, hb, hz, hq _ _ (Sub.refl _) Den.int'⟩
    · cases hf
  · cases hf
theorem o2_lt : Op2 K (rI0 fun i j => .bl (decide (i < j))) dLt := fun B H a b d x y Q hB ha hb hf hq => by
  unfold dLt at hf
  split at hf
  · cases hf
    unfold Den at ha hb
    exact ⟨_, _, ha, hb, hq _ _ (Sub.refl _) Den.bl'⟩
  · cases hf
theorem o2_le : Op2 K (rI0 fun i j => .bl (decide (i ≤ j))) dLe := fun B H a b d x y Q hB ha hb hf hq => by
  unfold dLe at hf
  split at hf
  · cases hf
    unfold Den at ha hb
    exact ⟨_, _, ha, hb, hq _ _ (Sub.refl _) Den.bl'⟩
  · cases hf
theorem o2_gt : Op2 K (rI0 fun i j => .bl (decide (j < i))) dGt := fun B H a b d x y Q hB ha hb hf hq => by
  unfold dGt at hf
  split at hf
  · cases hf
    unfold Den at ha hb
    exact ⟨_, _, ha, hb, hq _ _ (Sub.refl _) Den.bl'⟩
  · cases hf
theorem o2_ge : Op2 K (rI0 fun i j => .bl (decide (j ≤ i))) dGe := fun B H a b d x y Q hB ha hb hf hq => by
  unfold dGe at hf
  split at hf
  · cases hf
    unfold Den at ha hb
    exact ⟨_, _, ha, hb, hq _ _ (Sub.refl _) Den.bl'⟩
  · cases hf
theorem o1_neg : Op1 K (rU fun i => .int (-i)) dNeg := fun B H a d x Q hB ha hf hq => by
  unfold dNeg at hf
  split at hf
  · cases hf
    unfold Den at ha
    exact ⟨_, ha, hq _ _ (Sub.refl _) Den.int'⟩
  · cases hf

/-! ### == and != -/
def dEqB : D → D → Option Bool
  | .int i, .int j => some (decide (i = j))
  | .str x, .str y => some (decide (x = y))
  | .bl x, .bl y => some (decide (x = y))
  | a, b => match a.py, b.py with
    | some d, some e => if SeqAt.shaped d = true ∧ SeqAt.shaped e = true then some (PyData.eqv d e) else none
    | _, _ => none
def dEq (a b : D) : Option D := match dEqB a b with
  | some k => some (.bl k)
  | none => none
def dNe (a b : D) : Option D := match dEqB a b with
  | some k => some (.bl (!k))
  | none => none
abbrev rEqA (K : PySem.W.Frag) : R2 := fun x y H Q => rEq x y H Q ∨ rEqD K x y H Q
abbrev rNeA (K : PySem.W.Frag) : R2 := fun x y H Q => rNe x y H Q ∨ rNeD K x y H Q
theorem op_eqA {X : Cx} (hu : X.A.units + 64 < cLine) : OpR X (compareOp .Eq) (rEqA X.K) := op_eq.or (op_eqD hu)
theorem op_neA {X : Cx} (hu : X.A.units + 64 < cLine) : OpR X (compareOp .NotEq) (rNeA X.K) := op_ne.or (op_neD hu)
theorem eqB_cases {B : List Addr} {H : Hp} {a b : D} {x y : V} {k : Bool} (ha : Den K (hid B H) a x) (hb : Den K (hid B H) b y) (h : dEqB a b = some k) :
    (scal x y = true ∧ decide (x = y) = k) ∨ ∃ d e, Dp K H x d ∧ Dp K H y e ∧ SeqAt.shaped d = true ∧ SeqAt.shaped e = true ∧ PyData.eqv d e = k := by
  unfold dEqB at h
  split at h
  · cases h
    unfold Den at ha hb
    subst ha hb
    refine .inl ⟨rfl, ?_⟩
    rw [dec_int, Bool.beq_eq_decide_eq]
  · cases h
    unfold Den at ha hb
    subst ha hb
    refine .inl ⟨rfl, ?_⟩
    rw [dec_str, Bool.beq_eq_decide_eq]
  · cases h
    unfold Den at ha hb
    subst ha hb
    refine .inl ⟨rfl, ?_⟩
    rw [dec_bl, Bool.beq_eq_decide_eq]
  · split at h
    · rename_i d e e1 e2
      split at h
      · rename_i hs
        cases h
        exact .inr ⟨d, e, Dp.mono hid_sub _ _ (Den.dp _ _ _ ha e1), Dp.mono hid_sub _ _ (Den.dp _ _ _ hb e2), hs.1, hs.2, rfl⟩
      · cases h
    · cases h
theorem o2_eq : Op2 K (rEqA K) dEq := fun B H a b d x y Q hB ha hb hf hq => by
  unfold dEq at hf
  split at hf
  · rename_i k e
    cases hf
    rcases eqB_cases ha hb e with ⟨h1, h2⟩ | ⟨p, q, h1, h2, h3, h4, h5⟩
    · exact .inl ⟨h1, by rw [h2]; exact hq _ _ (Sub.refl _) Den.bl'⟩
    · exact .inr ⟨p, q, h1, h2, h3, h4, by rw [h5]; exact hq _ _ (Sub.refl _) Den.bl'⟩
  · cases hf
theorem o2_ne : Op2 K (rNeA K) dNe := fun B H a b d x y Q hB ha hb hf hq => by
  unfold dNe at hf
  split at hf
  · rename_i k e
    cases hf
    rcases eqB_cases ha hb e with ⟨h1, h2⟩ | ⟨p, q, h1, h2, h3, h4, h5⟩
    · exact .inl ⟨h1, by rw [h2]; exact hq _ _ (Sub.refl _) Den.bl'⟩
    · exact .inr ⟨p, q, h1, h2, h3, h4, by rw [h5]; exact hq _ _ (Sub.refl _) Den.bl'⟩
  · cases hf
/-! ### is, is not: of bools, of None -/
def dIs : D → D → Option D
  | .bl a, .bl b => some (.bl (decide (a = b)))
  | .non, .non => some (.bl true)
  | .bl _, .non => some (.bl false)
  | .int _, .non => some (.bl false)
  | .str _, .non => some (.bl false)
  | .tup _, .non => some (.bl false)
  | .lst _, .non => some (.bl false)
  | _, _ => none
def dIsNot (a b : D) : Option D := match dIs a b with
  | some (.bl k) => some (.bl (!k))
  | _ => none
abbrev rIsA : R2 := fun x y H Q => rIsB x y H Q ∨ (y = .non ∧ Q (.bl (decide (x = .non))) H)
abbrev rIsNotA : R2 := fun x y H Q => rNotB x y H Q ∨ (y = .non ∧ Q (.bl (!decide (x = .non))) H)
theorem op_isA {X : Cx} : OpR X (compareOp .Is) rIsA := op_isBl.or op_isN
theorem op_isNotA {X : Cx} : OpR X (compareOp .IsNot) rIsNotA := op_notBl.or op_notN
theorem is_cases {B : List Addr} {H : Hp} {a b d : D} {x y : V} (ha : Den K (hid B H) a x) (hb : Den K (hid B H) b y) (h : dIs a b = some d) :
    ∃ k, d = .bl k ∧ ((∃ p q : Bool, x = .bl p ∧ y = .bl q ∧ decide (p = q) = k) ∨ (y = .non ∧ decide (x = .non) = k)) := by
  unfold dIs at h
  split at h <;> cases h
  · unfold Den at ha hb
    exact ⟨_, rfl, .inl ⟨_, _, ha, hb, rfl⟩⟩
  · unfold Den at ha hb
    exact ⟨_, rfl, .inr ⟨hb, by rw [ha]; rfl⟩⟩
  · unfold Den at ha hb
    exact ⟨_, rfl, .inr ⟨hb, by rw [ha]; rfl⟩⟩
  · unfold Den at ha hb
    exact ⟨_, rfl, .inr ⟨hb, by rw [ha]; rfl⟩⟩
  · unfold Den at ha hb
    exact ⟨_, rfl, .inr ⟨hb, by rw [ha]; rfl⟩⟩
  · obtain ⟨p, vs, rfl, _⟩ := ha.tup_inv
    unfold Den at hb
    exact ⟨_, rfl, .inr ⟨hb, rfl⟩⟩
  · obtain ⟨p, vs, rfl, _⟩ := ha.lst_inv
    unfold Den at hb
    exact ⟨_, rfl, .inr ⟨hb, rfl⟩⟩
theorem o2_is : Op2 K rIsA dIs := fun B H a b d x y Q hB ha hb hf hq => by
  obtain ⟨k, rfl, h⟩ := is_cases ha hb hf
  rcases h with ⟨p, q, h1, h2, h3⟩ | ⟨h1, h2⟩
  · exact .inl ⟨p, q, h1, h2, by rw [h3]; exact hq _ _ (Sub.refl _) Den.bl'⟩
  · exact .inr ⟨h1, by rw [h2]; exact hq _ _ (Sub.refl _) Den.bl'⟩
theorem o2_isNot : Op2 K rIsNotA dIsNot := fun B H a b d x y Q hB ha hb hf hq => by
  unfold dIsNot at hf
  split at hf
  · rename_i k' e
    cases hf
    obtain ⟨k, e2, h⟩ := is_cases ha hb e
    cases e2
    rcases h with ⟨p, q, h1, h2, h3⟩ | ⟨h1, h2⟩
    · exact .inl ⟨p, q, h1, h2, by rw [h3]; exact hq _ _ (Sub.refl _) Den.bl'⟩
    · exact .inr ⟨h1, by rw [h2]; exact hq _ _ (Sub.refl _) Den.bl'⟩
  · cases hf
/-! ### a[i] -/
def dIx : D → D → Option D
  | .tup xs, .int i => atI xs i
  | .lst xs, .int i => atI xs i
  | .str z, .int i => if z.length ≤ line then (atI z.cps.toList i).map fun c => .str ⟨#[c]⟩ else none
  | _, _ => none
theorem at_den {G : Hp} {ds : List D} {vs : List V} {i : Int} {d : D} (h : DenL K G ds vs) (e : atI ds i = some d) : ∃ v, atI vs i = some v ∧ Den K G d v := by
  unfold atI at e ⊢
  rw [h.length]
  cases q : ixN ds.length i with
  | none => rw [q] at e; cases e
  | some j =>
    rw [q] at e
    exact h.get e
theorem o2_ix : Op2 K (rIx K) dIx := fun B H a b d x y Q hB ha hb hf hq => by
  unfold dIx at hf
  split at hf
  · obtain ⟨p, vs, rfl, h1, h2⟩ := ha.tup_inv
    unfold Den at hb
    obtain ⟨v, e, hv⟩ := at_den h2 hf
    exact .inr (.inl ⟨p, vs, _, v, rfl, hb, h1, e, hq _ _ (Sub.refl _) hv⟩)
  · obtain ⟨p, vs, rfl, h1, h2⟩ := ha.lst_inv
    unfold Den at hb
    obtain ⟨v, e, hv⟩ := at_den h2 hf
    exact .inl ⟨p, vs, _, v, rfl, hb, .of h1, e, hq _ _ (Sub.refl _) hv⟩
  · split at hf
    · rename_i z i hz
      unfold Den at ha hb
      cases e : atI z.cps.toList i with
      | none => rw [e] at hf; cases hf
      | some c =>
        rw [e] at hf
        cases hf
        exact .inr (.inr ⟨z, i, c, ha, hb, by rw [sizeLine_eq]; exact hz, e, hq _ _ (Sub.refl _) Den.str'⟩)
    · cases hf
  · cases hf
/-! ### lists together -/
def fCat : D → D → Option (List D)
  | .lst xs, .lst ys => if xs.length + ys.length ≤ line then some (xs ++ ys) else none
  | _, _ => none
theorem o2_cat : Op2F K rCat fCat := fun B H a b ds x y Q hB ha hb hf hq => by
  unfold fCat at hf
  split at hf
  · split at hf
    · rename_i hz
      cases hf
      obtain ⟨p, vs, rfl, h1, h2⟩ := ha.lst_inv
      obtain ⟨q, ws, rfl, h3, h4⟩ := hb.lst_inv
      exact ⟨p, q, vs, ws, rfl, rfl, h1, h3, by rw [h2.length, h4.length, sizeLine_eq]; exact hz, fun r hr => hq r _ hr (DenL.append h2 h4)⟩
    · cases hf
  · cases hf
def fRep : D → D → Option (List D)
  | .lst xs, .int k => if -(2 ^ 63) ≤ k ∧ k < 2 ^ 63 ∧ xs.length * k.toNat ≤ line then some (List.replicate k.toNat xs).flatten else none
  | _, _ => none
theorem rep_den {G : Hp} {ds : List D} {vs : List V} (h : DenL K G ds vs) : ∀ k : Nat, DenL K G (List.replicate k ds).flatten (List.replicate k vs).flatten
  | 0 => DenL.nil
  | k + 1 => by
    rw [List.replicate_succ, List.replicate_succ, List.flatten_cons, List.flatten_cons]
    exact DenL.append h (rep_den h k)
theorem o2_rep : Op2F K rRep fRep := fun B H a b ds x y Q hB ha hb hf hq => by
  unfold fRep at hf
  split at hf
  · split at hf
    · rename_i hz
      cases hf
      obtain ⟨p, vs, rfl, h1, h2⟩ := ha.lst_inv
      unfold Den at hb
      exact ⟨p, _, vs, rfl, hb, h1, hz.1, hz.2.1, by rw [h2.length, sizeLine_eq]; exact hz.2.2, fun r hr => hq r _ hr (rep_den h2 _)⟩
    · cases hf
  · cases hf
end
end TL
set_option Elab.async false
set_option linter.all false
set_option maxRecDepth 100000
/-! TL5: built-ins on trees. -/
namespace TL
open PySem PySem.Spec PyProof.Rows L2

section
variable {K : PySem.W.Frag}
theorem DenL.one {G : Hp} {d : D} {vs : List V} (h : DenL K G [d] vs) : ∃ v, vs = [v] ∧ Den K G d v := by
  unfold DenL at h
  obtain ⟨v, ws, rfl, h1, h2⟩ := h
  unfold DenL at h2
  subst h2
  exact ⟨v, rfl, h1⟩
theorem DenL.two {G : Hp} {d e : D} {vs : List V} (h : DenL K G [d, e] vs) : ∃ v w, vs = [v, w] ∧ Den K G d v ∧ Den K G e w := by
  unfold DenL at h
  obtain ⟨v, ws, rfl, h1, h2⟩ := h
  obtain ⟨w, rfl, h3⟩ := h2.one
  exact ⟨v, w, rfl, h1, h3⟩
theorem DenL.none {G : Hp} {vs : List V} (h : DenL K G [] vs) : vs = [] := by
  unfold DenL at h
  exact h

/-! ### len -/
def fLen : List D → Option D
  | [.lst xs] => some (.int xs.length)
  | [.tup xs] => some (.int xs.length)
  | [.str x] => if x.length ≤ line then some (.int x.length) else none
  | _ => none
abbrev rLen' (K : PySem.W.Frag) : List V → Hp → VK → Prop := fun xs H Q => ∃ x n, xs = [x] ∧ LenV K x H n ∧ Q (.int n) H
theorem on_len : OpN K (rLen' K) fLen := fun B H ds d xs Q hB hd hf hq => by
  unfold fLen at hf
  split at hf
  · cases hf
    obtain ⟨v, rfl, h⟩ := hd.one
    obtain ⟨p, vs, rfl, h1, h2⟩ := h.lst_inv
    exact ⟨_, _, rfl, .inl ⟨vs, .of h1, rfl⟩, by rw [h2.length]; exact hq _ _ (Sub.refl _) Den.int'⟩
  · cases hf
    obtain ⟨v, rfl, h⟩ := hd.one
    obtain ⟨p, vs, rfl, h1, h2⟩ := h.tup_inv
    exact ⟨_, _, rfl, .inr ⟨vs, h1, rfl⟩, by rw [h2.length]; exact hq _ _ (Sub.refl _) Den.int'⟩
  · split at hf
    · rename_i hz
      cases hf
      obtain ⟨v, rfl, h⟩ := hd.one
      unfold Den at h
      subst h
      exact ⟨_, _, rfl, ⟨by rw [sizeLine_eq]; exact hz, rfl⟩, hq _ _ (Sub.refl _) Den.int'⟩
    · cases hf
  · cases hf
/-! ### int, abs, max, min -/
def fInt : List D → Option D
  | [.int i] => some (.int i)
  | [.bl k] => some (.int (if k then 1 else 0))
  | _ => none
theorem on_int : OpN K (fun xs H Q => (∃ i, xs = [.int i] ∧ Q (.int i) H) ∨ ∃ k, xs = [.bl k] ∧ Q (.int (if k then 1 else 0)) H) fInt := fun B H ds d xs Q hB hd hf hq => by
  unfold fInt at hf
  split at hf
  · cases hf
    obtain ⟨v, rfl, h⟩ := hd.one
    unfold Den at h
    subst h
    exact .inl ⟨_, rfl, hq _ _ (Sub.refl _) Den.int'⟩
  · cases hf
    obtain ⟨v, rfl, h⟩ := hd.one
    unfold Den at h
    subst h
    exact .inr ⟨_, rfl, hq _ _ (Sub.refl _) Den.int'⟩
  · cases hf
def fAbs : List D → Option D
  | [.int i] => some (.int (if i < 0 then -i else i))
  | _ => none
theorem on_abs : OpN K (fun xs H Q => ∃ i, xs = [.int i] ∧ Q (.int (if i < 0 then -i else i)) H) fAbs := fun B H ds d xs Q hB hd hf hq => by
  unfold fAbs at hf
  split at hf
  · cases hf
    obtain ⟨v, rfl, h⟩ := hd.one
    unfold Den at h
    subst h
    exact ⟨_, rfl, hq _ _ (Sub.refl _) Den.int'⟩
  · cases hf
def fMax2 : List D → Option D
  | [.int i, .int j] => some (.int (if j > i then j else i))
  | _ => none
theorem on_max2 : OpN K (fun xs H Q => ∃ i j, xs = [.int i, .int j] ∧ Q (.int (if j > i then j else i)) H) fMax2 := fun B H ds d xs Q hB hd hf hq => by
  unfold fMax2 at hf
  split at hf
  · cases hf
    obtain ⟨v, w, rfl, h, h'⟩ := hd.two
    unfold Den at h h'
    subst h h'
    exact ⟨_, _, rfl, hq _ _ (Sub.refl _) Den.int'⟩
  · cases hf
def fMin2 : List D → Option D
  | [.int i, .int j] => some (.int (if j < i then j else i))
  | _ => none
theorem on_min2 : OpN K (fun xs H Q => ∃ i j, xs = [.int i, .int j] ∧ Q (.int (if j < i then j else i)) H) fMin2 := fun B H ds d xs Q hB hd hf hq => by
  unfold fMin2 at hf
  split at hf
  · cases hf
    obtain ⟨v, w, rfl, h, h'⟩ := hd.two
    unfold Den at h h'
    subst h h'
    exact ⟨_, _, rfl, hq _ _ (Sub.refl _) Den.int'⟩
  · cases hf
/-! ### isinstance of a built-in class -/
def D.kind : D → Option String
  | .non => some "NoneType"
  | .bl _ => some "bool"
  | .int _ => some "int"
  | .str _ => some "str"
  | .tup _ => some "tuple"
  | .lst _ => some "list"
  | .ty _ => none
def fIsi : List D → Option D
  | [d, .ty n] => match d.kind with
    | some k => match kitB k n with
      | some b => some (.bl b)
      | none => none
    | none => none
  | _ => none
theorem Den.tyx {B : List Addr} {H : Hp} {d : D} {v : V} {k : String} (h : Den K (hid B H) d v) (e : d.kind = some k) : TyX K H v (.type k) := by
  cases d with
  | non => cases e; unfold Den at h; subst h; exact .base .non
  | bl b => cases e; unfold Den at h; subst h; exact .base (.bl b)
  | int b => cases e; unfold Den at h; subst h; exact .base (.int b)
  | str b => cases e; unfold Den at h; subst h; exact .base (.str b)
  | ty n => cases e
  | tup ds =>
    cases e
    obtain ⟨p, vs, rfl, h1, h2⟩ := h.tup_inv
    rcases h1 with (h1 | ⟨o, h1⟩) | ⟨o, its, n, h1, h2, _⟩
    · exact .base (.tup h1)
    · exact .fTuple h1
    · exact .kTuple h1 h2
  | lst ds =>
    cases e
    obtain ⟨p, vs, rfl, h1, h2⟩ := h.lst_inv
    exact .base (.lst h1)
theorem on_isi : OpN K (rIsi K) fIsi := fun B H ds d xs Q hB hd hf hq => by
  unfold fIsi at hf
  split at hf
  · split at hf
    · rename_i k e1
      split at hf
      · rename_i b e2
        cases hf
        obtain ⟨v, w, rfl, h, h'⟩ := hd.two
        have ht := h.tyx e1
        unfold Den at h'
        subst h'
        exact ⟨v, _, _, _, b, rfl, .ty _, ht, kit_ty e2, hq _ _ (Sub.refl _) Den.bl'⟩
      · cases hf
    · cases hf
  · cases hf
/-! ### sum, any, all -/
def intsOf : List D → Option (List Int)
  | [] => some []
  | d :: ds => match d, intsOf ds with
    | .int i, some l => some (i :: l)
    | _, _ => none
theorem intsOf_eq : ∀ {ds : List D} {l : List Int}, intsOf ds = some l → ds = l.map D.int
  | [], l, h => by
    unfold intsOf at h
    cases h
    rfl
  | d :: ds, l, h => by
    unfold intsOf at h
    split at h
    · rename_i i l' e
      cases h
      rw [intsOf_eq e, List.map_cons]
    · cases h
theorem intsOf_map : ∀ l : List Int, intsOf (l.map D.int) = some l
  | [] => rfl
  | i :: l => by
    rw [List.map_cons]
    unfold intsOf
    rw [intsOf_map l]
def boolsOf : List D → Option (List Bool)
  | [] => some []
  | d :: ds => match d, boolsOf ds with
    | .bl i, some l => some (i :: l)
    | _, _ => none
theorem boolsOf_eq : ∀ {ds : List D} {l : List Bool}, boolsOf ds = some l → ds = l.map D.bl
  | [], l, h => by
    unfold boolsOf at h
    cases h
    rfl
  | d :: ds, l, h => by
    unfold boolsOf at h
    split at h
    · rename_i i l' e
      cases h
      rw [boolsOf_eq e, List.map_cons]
    · cases h
theorem boolsOf_map : ∀ l : List Bool, boolsOf (l.map D.bl) = some l
  | [] => rfl
  | i :: l => by
    rw [List.map_cons]
    unfold boolsOf
    rw [boolsOf_map l]
def fSum : List D → Option D
  | [.lst ds] => match intsOf ds with
    | some l => some (.int l.sum)
    | none => none
  | [.tup ds] => match intsOf ds with
    | some l => some (.int l.sum)
    | none => none
  | _ => none
def rSumT (K : PySem.W.Frag) : List V → Hp → VK → Prop := fun vs H Q => ∃ (a : Addr) (ns : List Int), vs = [V.ref a] ∧ SqT K H a (ns.map V.int) ∧ Q (.int ns.sum) H
theorem IntsAre.get : ∀ {us : List Value} {ns : List Int} {i : Nat} {v : Value}, IntsAre us ns → us[i]? = some v → ∃ t, v = .int (ns.getD i 0) t
  | _, _, i, v, .nil, e => by simp at e
  | _, _, 0, v, .cons n t h, e => by
    simp only [List.getElem?_cons_zero, Option.some.injEq] at e
    subst e
    exact ⟨t, rfl⟩
  | _, _, i + 1, v, .cons n t h, e => by
    rw [List.getElem?_cons_succ] at e
    obtain ⟨u, hu⟩ := IntsAre.get h e
    exact ⟨u, by rw [hu, List.getD_cons_succ]⟩
theorem cr_sumT {X : Cx} (hc : X.calm = true) : CallR X (.builtin "sum") (rSumT X.K) := by
  intro pins s σ H vs us Q I r h
  obtain ⟨a, ns, rfl, hs, q⟩ := h
  obtain ⟨its, rv, ht, _⟩ := I.tuple hs
  rw [Vals.ref1 r]
  have hi := Vals.ints rv
  have hT : s.heap.IsTuple a its.toArray := ht
  have ha : a < s.heap.objs.size := by obtain ⟨_, e, _⟩ := ht; exact Heap.lt_size e
  refine call_sum_walkG (PySem.wpAny_pyIter_tuple (A := X.A.in1) hT ?_)
  have hne : a ≠ s.heap.objs.size := Nat.ne_of_lt ha
  refine ⟨_, _, _, _, _, _, fun i => ns.getD i 0, rfl, Walks.tuple (A := X.A.in1) (I.ok.hd hc) _ a hne its.toArray, ⟨⟨_, Heap.get?_push_size _ rfl, rfl, rfl⟩, hT.at fun o e => Heap.get?_push_of_some _ e⟩, fun b hb => ?_, fun i v e => IntsAre.get hi (by simpa using e), fun h' tk t' hk => ?_⟩
  · show b < (s.heap.push _).objs.size
    rw [Heap.size_push]
    rcases List.mem_cons.mp hb with rfl | hb
    · exact Nat.lt_succ_self _
    · rcases List.mem_cons.mp hb with rfl | hb
      · exact Nat.lt_succ_of_lt ha
      · cases hb
  · have e : preSum (fun i => ns.getD i 0) its.toArray.size = ns.sum := by
      rw [PyProof.Rows.preSum_getD, List.size_toArray]
      have := hi.length
      rw [List.take_of_length_le (by omega)]
    rw [e]
    refine ⟨.int ns.sum, H, I.kept fun b o eo => hk b o (fun hmem => ?_) (Heap.get?_push_of_some _ eo), ⟨_, rfl⟩, q⟩
    rcases List.mem_cons.mp hmem with e1 | hmem
    · exact absurd (e1 ▸ Heap.lt_size eo) (Nat.lt_irrefl _)
    · cases hmem
abbrev rSumA (K : PySem.W.Frag) : List V → Hp → VK → Prop := fun xs H Q => rSum K xs H Q ∨ rSumT K xs H Q
theorem cr_sumA {X : Cx} (hc : X.calm = true) : CallR X (.builtin "sum") (rSumA X.K) := (cr_sum hc).or (cr_sumT hc)
theorem on_sum : OpN K (rSumA K) fSum := fun B H ds d xs Q hB hd hf hq => by
  unfold fSum at hf
  split at hf
  · split at hf
    · rename_i l e
      cases hf
      rw [intsOf_eq e] at hd
      obtain ⟨v, rfl, h⟩ := hd.one
      obtain ⟨p, vs, rfl, h1, h2⟩ := h.lst_inv
      rw [DenL.ints h2] at h1
      exact .inl ⟨p, l, rfl, .of h1, hq _ _ (Sub.refl _) Den.int'⟩
    · cases hf
  · split at hf
    · rename_i l e
      cases hf
      rw [intsOf_eq e] at hd
      obtain ⟨v, rfl, h⟩ := hd.one
      obtain ⟨p, vs, rfl, h1, h2⟩ := h.tup_inv
      rw [DenL.ints h2] at h1
      exact .inr ⟨p, l, rfl, h1, hq _ _ (Sub.refl _) Den.int'⟩
    · cases hf
  · cases hf
def fAny : List D → Option D
  | [.lst ds] => match boolsOf ds with
    | some l => some (.bl (l.any id))
    | none => none
  | _ => none
def fAll : List D → Option D
  | [.lst ds] => match boolsOf ds with
    | some l => some (.bl (l.all id))
    | none => none
  | _ => none
theorem on_any : OpN K (rAny K) fAny := fun B H ds d xs Q hB hd hf hq => by
  unfold fAny at hf
  split at hf
  · split at hf
    · rename_i l e
      cases hf
      rw [boolsOf_eq e] at hd
      obtain ⟨v, rfl, h⟩ := hd.one
      obtain ⟨p, vs, rfl, h1, h2⟩ := h.lst_inv
      rw [DenL.bls h2] at h1
      exact ⟨p, l, rfl, .of h1, hq _ _ (Sub.refl _) Den.bl'⟩
    · cases hf
  · cases hf
theorem on_all : OpN K (rAll K) fAll := fun B H ds d xs Q hB hd hf hq => by
  unfold fAll at hf
  split at hf
  · split at hf
    · rename_i l e
      cases hf
      rw [boolsOf_eq e] at hd
      obtain ⟨v, rfl, h⟩ := hd.one
      obtain ⟨p, vs, rfl, h1, h2⟩ := h.lst_inv
      rw [DenL.bls h2] at h1
      exact ⟨p, l, rfl, .of h1, hq _ _ (Sub.refl _) Den.bl'⟩
    · cases hf
  · cases hf
/-! ### tuple(..), list(..) -/
def fTupOf : List D → Option D
  | [.lst ds] => some (.tup ds)
  | [.tup ds] => some (.tup ds)
  | _ => none
theorem on_tupOf : OpN K (fun xs H Q => ∃ p ys, xs = [.ref p] ∧ ((SqL K H p ys ∧ ∀ l, H l = Option.none → Q (.ref l) (upd H l (.tup ys))) ∨ (SqT K H p ys ∧ Q (.ref p) H))) fTupOf := fun B H ds d xs Q hB hd hf hq => by
  unfold fTupOf at hf
  split at hf
  · cases hf
    obtain ⟨v, rfl, h⟩ := hd.one
    obtain ⟨p, vs, rfl, h1, h2⟩ := h.lst_inv
    exact ⟨p, vs, rfl, .inl ⟨.of h1, fun l hl => hq _ _ (sub_upd hl) (Den.mk_tup hB hl h2)⟩⟩
  · cases hf
    obtain ⟨v, rfl, h⟩ := hd.one
    have h0 := h
    obtain ⟨p, vs, rfl, h1, h2⟩ := h.tup_inv
    exact ⟨p, vs, rfl, .inr ⟨h1, hq _ _ (Sub.refl _) h0⟩⟩
  · cases hf
def fLstOf : List D → Option (List D)
  | [.lst ds] => some ds
  | [.tup ds] => some ds
  | _ => none
theorem on_lstOf : OpNF K (fun xs H Q => ∃ p ys, xs = [.ref p] ∧ (SqL K H p ys ∨ SqT K H p ys) ∧ ∀ l, H l = Option.none → Q (.ref l) (upd H l (.lst ys))) fLstOf := fun B H ds d xs Q hB hd hf hq => by
  unfold fLstOf at hf
  split at hf
  · cases hf
    obtain ⟨v, rfl, h⟩ := hd.one
    obtain ⟨p, vs, rfl, h1, h2⟩ := h.lst_inv
    exact ⟨p, vs, rfl, .inl (.of h1), fun l hl => hq _ _ hl h2⟩
  · cases hf
    obtain ⟨v, rfl, h⟩ := hd.one
    obtain ⟨p, vs, rfl, h1, h2⟩ := h.tup_inv
    exact ⟨p, vs, rfl, .inr h1, fun l hl => hq _ _ hl h2⟩
  · cases hf
/-! ### repr -/
/-- the text of a tree, where it has one -/
def shownOf (d : D) : Option Str := match d.py with
  | some p => if p.showable = true ∧ p.depth ≤ 100 ∧ p.shown.length ≤ line ∧ p.hasDict = false then some p.shown else none
  | none => none
def fRepr : List D → Option D
  | [d] => match shownOf d with
    | some x => some (.str x)
    | none => none
  | _ => none
abbrev rRepr (K : PySem.W.Frag) : List V → Hp → VK → Prop := fun xs H Q => ∃ x p, xs = [x] ∧ Dp K H x p ∧ p.showable = true ∧ p.depth ≤ 100 ∧ p.shown.length ≤ line ∧ p.hasDict = false ∧ Q (.str p.shown) H
theorem cr_repr {X : Cx} (hg : X.A.guards = some []) (hu : X.A.units + 120 < cLine) : CallR X (.builtin "repr") (rRepr X.K) := by
  intro pins s σ H vs us Q I r h
  obtain ⟨x, p, rfl, hp, hs, hd, hz, hn, q⟩ := h
  obtain ⟨u, rfl, rx⟩ := vals1 r
  have hz' : p.shown.length ≤ sizeLine := by rw [sizeLine_eq]; exact hz
  obtain ⟨as, hr⟩ := Dp.reads I p x u hp rx
  cases hr with
  | none => exact PySem.P.repr_of_none ⟨.str _, H, I.tok _, ⟨_, rfl⟩, by simpa only [PyData.shown] using q⟩
  | bool b => exact PySem.P.repr_of_bool ⟨.str _, H, I.tok _, ⟨_, rfl⟩, by simpa only [PyData.shown] using q⟩
  | int i t => exact PySem.P.repr_of_int (by simpa [PyData.showable] using hs) ⟨.str _, H, I.tok _, ⟨_, rfl⟩, by simpa only [PyData.shown] using q⟩
  | str y t =>
    simp only [PyData.shown] at hz' q
    exact PySem.P.repr_of_str ⟨.str _, H, I.tok _, ⟨_, rfl⟩, q⟩ hz'
  | list h1 h2 h3 h4 =>
    exact repr_of_reads' (.list h1 h2 h3 h4) hs (fun z => by rw [hn] at z; cases z) hg (by omega) (fun _ _ e => e) (fun h' u tk hk => ⟨.str _, H, I.kept hk, ⟨_, rfl⟩, q⟩) hz'
  | tuple h1 h2 h3 h4 =>
    exact repr_of_reads' (.tuple h1 h2 h3 h4) hs (fun z => by rw [hn] at z; cases z) hg (by omega) (fun _ _ e => e) (fun h' u tk hk => ⟨.str _, H, I.kept hk, ⟨_, rfl⟩, q⟩) hz'
  | dict h1 h2 h3 h4 h5 => simp only [PyData.hasDict] at hn; cases hn
theorem on_repr : OpN K (rRepr K) fRepr := fun B H ds d xs Q hB hd hf hq => by
  unfold fRepr at hf
  split at hf
  · split at hf
    · rename_i x e
      cases hf
      unfold shownOf at e
      split at e
      · rename_i p ep
        split at e
        · rename_i hc
          cases e
          obtain ⟨v, rfl, h⟩ := hd.one
          exact ⟨v, p, rfl, Dp.mono hid_sub _ _ (Den.dp _ _ _ h ep), hc.1, hc.2.1, hc.2.2.1, hc.2.2.2, hq _ _ (Sub.refl _) Den.str'⟩
        · cases e
      · cases e
    · cases hf
  · cases hf
/-! ### str of an int, ord -/
def fStrOf : List D → Option D
  | [.int i] => if i.natAbs.log2 < 1920 then some (.str (toString i)) else none
  | _ => none
theorem on_strOf : OpN K (fun xs H Q => ∃ i, xs = [.int i] ∧ i.natAbs.log2 < 1920 ∧ Q (.str (toString i)) H) fStrOf := fun B H ds d xs Q hB hd hf hq => by
  unfold fStrOf at hf
  split at hf
  · split at hf
    · rename_i hz
      cases hf
      obtain ⟨v, rfl, h⟩ := hd.one
      unfold Den at h
      subst h
      exact ⟨_, rfl, hz, hq _ _ (Sub.refl _) Den.str'⟩
    · cases hf
  · cases hf
def fOrd : List D → Option D
  | [.str x] => if x.length = 1 then some (.int (x.cps.getD 0 0 : Nat)) else none
  | _ => none
theorem on_ord : OpN K (fun xs H Q => ∃ x, xs = [.str x] ∧ x.length = 1 ∧ Q (.int (x.cps.getD 0 0 : Nat)) H) fOrd := fun B H ds d xs Q hB hd hf hq => by
  unfold fOrd at hf
  split at hf
  · split at hf
    · rename_i hz
      cases hf
      obtain ⟨v, rfl, h⟩ := hd.one
      unfold Den at h
      subst h
      exact ⟨_, rfl, hz, hq _ _ (Sub.refl _) Den.int'⟩
    · cases hf
  · cases hf
end
end TL
set_option Elab.async false
set_option linter.all false
set_option maxRecDepth 100000
/-! TL6: promises of defs that may lean on no repr being around; their calls; the law's call. -/
namespace TL
open PySem PySem.Spec PyProof.Rows L2

section
variable {P : Program} {w : World} {K : PySem.W.Frag} {mg : Str → Option Value} {base : Heap} {k : Nat} {f : Addr} {fd : FuncData} {ps : List Str} {sp : Sp}
/-- a def's promise (as FnOk) where no repr runs around the call -/
structure FnG (P : Program) (w : World) (K : PySem.W.Frag) (mg : Str → Option Value) (base : Heap) (CX : CXT) (k : Nat) (f : Addr) (fd : FuncData) (ps : List Str) (sp : Sp) : Prop where
  arity : ∀ vs H Q E, sp vs H Q E → vs.length = ps.length
  go : ∀ (A : Around) (outer : List Env) (s : Shared) (H : Hp) (args : Args) (us : List Value) (vs : List V) (Q : VK) (E : XK), A.guards = some [] → Room k A → Env0 P w K mg base A outer s H →
    BindsTo s fd args (ps.zip us) → Vals vs us → sp vs H Q E → codeAny (model P w) A (.call (.ref f) args) (CR CX outer P w H s Q E) s
variable {CX : CXT}
theorem FnG.mono {j : Nat} (F : FnG P w K mg base CX j f fd ps sp) (h : j ≤ k) : FnG P w K mg base CX k f fd ps sp :=
  ⟨F.arity, fun A outer s H args us vs Q E hg hr => F.go A outer s H args us vs Q E hg (hr.mono h)⟩
theorem FnG.of_ok (F : FnOk P w K mg base CX k f fd ps sp) : FnG P w K mg base CX k f fd ps sp := ⟨F.len, fun A outer s H args us vs Q E _ hr => F.run A outer s H args us vs Q E hr⟩

/-- from the def's body -/
theorem FnG.body {x qual : Str} {params : Arguments} {body : List Stmt} {scope : Scope} {dvs : List V} {kws : List (Str × V)} {N : List Str} (F : FunD K x qual params body scope dvs kws f fd) (S : FnScope N ps scope)
    (len : ∀ vs H Q E, sp vs H Q E → vs.length = ps.length)
    (hbody : ∀ (cdv : Value) (A : Around) (outer : List Env) (s : Shared) (H : Hp) (vs : List V) (Q : VK) (E : XK), A.guards = some [] → Room k (A.deeper (envOfC qual scope s.heap.objs.size f cdv)) → sp vs H Q E →
      ∃ t, PSs (cxOf CX P w K mg base N qual scope f cdv A outer s H E) body t ∧ t { nx := fun _ H' => Q .non H', rt := Q } (start N vs) H) : FnG P w K mg base CX (k + 1) f fd ps sp := by
  obtain ⟨oc, od, dV, kV, doc, pm, an, cdv, ct, osl, rfl, lk, hcd, _, _⟩ := F.ex
  constructor
  · exact len
  intro A outer s H args us vs Q E hg hr e0 hb r hsp
  have hl := len _ _ _ _ hsp
  have kin : K.In s.heap := e0.mod.kin.keeps fun b o e => (e0.bs b o e).1
  have nolim : s.heap.NoLimit := e0.mod.nolimit.keeps fun b o e => (e0.bs b o e).1
  have kinds : ∀ y ∈ ps.zip us, scope.names.lookup y.1 = some .local ∨
      (scope.names.lookup y.1 = some .cell ∧ ((cellsFrom (s.heap.objs.size + 1) scope.names []).lookup y.1).isSome = true) := by
    rintro ⟨n, v⟩ hy
    rcases S.par n (List.of_mem_zip hy).1 with q | q
    · exact Or.inl q
    · exact Or.inr ⟨q, PySem.W.cellsFrom_some _ _ _ (Or.inl q)⟩
  refine codeAny_call_function hr.depth (kin _ _ lk) rfl S.co S.gen rfl (PySem.W.codeRec_of kin hcd) (hb _ _ _ _ (wpAny_newFunctionEnv_cells S.kind kinds ?_))
  intro env he s1 x
  subst he
  refine ⟨nolim.keeps x.toInCall.keep, codeAny_func ?_⟩
  obtain ⟨t, ht, hq⟩ := hbody cdv A outer s H vs Q E hg (hr.deeper _) hsp
  have I := inv_start (cd := cdv) (qual := qual) (f := f) (CX := CX) (E := E) S hr.hd e0 hl r x
  refine wpAny_mono (ht.run [] s1 (start N vs) H _ I hq) ?_ (fun e s' hs => hs)
  intro fl s' hs
  cases fl with
  | ret u =>
    obtain ⟨v, σ', H', J, rv, q⟩ := hs
    exact ⟨v, H', J.os, J.bare, J.base, J.hok, rv, q⟩
  | next =>
    obtain ⟨σ', H', J, q⟩ := hs
    exact ⟨V.non, H', J.os, J.bare, J.base, J.hok, rfl, q⟩
  | brk =>
    obtain ⟨_, _, _, q⟩ := hs
    exact q.elim
  | cont =>
    obtain ⟨_, _, _, q⟩ := hs
    exact q.elim
end

section
variable {X : Cx} {CX : CXT} {k : Nat} {f : Addr} {fd : FuncData} {ps : List Str} {sp : Sp} {dvs : List V} {ds : List Value} {E : XK} {x : Str} {p pos : Pos} {e : Expr} {es : List Expr} {t : TA}
theorem FnG.runs {pins : List (Addr × Obj)} {σ : L2.St} {H : Hp} {s : Shared} {Q : VK} {us : List Value} {vs : List V} (F : FnG X.prog X.w X.K X.mg X.base CX k f fd ps sp) (hg : X.A.guards = some []) (hr : Room k X.A)
    (hb : Binds X.K fd ps ds) (hd : Vals dvs ds) (hx : Passes CX X E) (I : Inv X pins σ H s) (r : Vals vs us) (h : sp (vs ++ dvs) H Q E) :
    wpAny (model X.prog X.w) X.A (PySem.call (.ref f) us) (EP X pins σ Q) X.xe s := by
  have r2 : Vals (vs ++ dvs) (us ++ ds) := Vals.append r hd
  have hl : (us ++ ds).length = ps.length := by
    rw [← r2.length]
    exact F.arity _ _ _ _ h
  refine wpAny_call (codeAny_mono (F.go _ X.stack s H ⟨us, []⟩ (us ++ ds) (vs ++ dvs) Q E hg hr I.env0 (hb s us I.kIn hl) r2 h) ?_)
  intro r s' hq
  cases r with
  | error e => exact hx pins σ H s e s' I hq
  | ok fl =>
    cases fl with
    | ret u => exact I.after hq
    | next => exact hq.elim
    | brk => exact hq.elim
    | cont => exact hq.elim
/-- f(e, ..) -/
theorem pe_callG (F : FnG X.prog X.w X.K X.mg X.base CX k f fd ps sp) (hg : X.A.guards = some []) (hr : Room k X.A) (hG : Gl X x) (hm : X.mg x = some (.ref f)) (hk : PySem.W.keepIn X.K (.ref f) = true)
    (hb : Binds X.K fd ps ds) (hd : Vals dvs ds) (hx : Passes CX X E) (ha : PA X (e :: es) t) (hdb : (x == ("__debug__" : Str)) = false := by decide)
    (he : starEach (e :: es) X.env = (false, eval e X.env) :: starEach es X.env := by rfl) (hpl : (backTo pos (starEach es X.env)).any (·.1) = false := by rfl) :
    PE X (.Call (.Name x p) (e :: es) [] pos) (tCall sp dvs E t) := by
  constructor
  intro pins s σ H Q I h
  refine wpAny_Call_Name_kw (ld_glob I hG hm (PySem.W.callWith_K (h₀ := X.base) I.ok.mod.kin hk (thn (ha.run pos pins s σ H _ I h) ?_) he hpl) hdb)
  rintro us s1 ⟨vs, H1, I1, r, q⟩
  exact ⟨I1.kIn, F.runs hg hr hb hd hx I1 r q⟩
theorem pe_callG0 (F : FnG X.prog X.w X.K X.mg X.base CX k f fd ps sp) (hg : X.A.guards = some []) (hr : Room k X.A) (hG : Gl X x) (hm : X.mg x = some (.ref f)) (hk : PySem.W.keepIn X.K (.ref f) = true)
    (hb : Binds X.K fd ps ds) (hd : Vals dvs ds) (hx : Passes CX X E) (hdb : (x == ("__debug__" : Str)) = false := by decide) : PE X (.Call (.Name x p) [] [] pos) (tCall sp dvs E tNil) := by
  constructor
  intro pins s σ H Q I h
  exact wpAny_Call_Name_kw (ld_glob I hG hm (PySem.W.callWith_K0 I.kIn hk (F.runs (us := []) hg hr hb hd hx I .nil h)) hdb)
end

/-- the law's call, from a promise that leans on no repr being around -/
theorem lawG {P : Program} {w : World} {K : PySem.W.Frag} {mg mb : Str → Option Value} {CX : CXT} {k : Nat} {fa a : Addr} {x : Str} {sp : Sp} {s1 : Shared} {vs : List Value} {ns : List Int}
    (KX : K.In s1.heap) (hns : s1.heap.Ns mainGlobals mg) (hb : s1.heap.Ns builtinsNs mb) (hbb : ∀ x : Str, x ≠ "__name__" → mb x = bootBuiltins x) (hlim : s1.heap.NoLimit) (hgen : s1.gens = #[])
    (ha : s1.heap.get? a = some { cls := .type "list", data := .seq vs.toArray }) (hi : IntsAre vs ns) (hl : ns.length ≤ sizeLine) (hr : Room k callerA)
    (F : ∀ base : Heap, K.In base → base.Ns mainGlobals mg → ∃ fd : FuncData, FnG P w K mg base CX k fa fd [x] sp ∧ Binds K fd [x] [])
    (hsp : ∀ H : Hp, Only H → SqL K H a (ns.map V.int) → sp [.ref a] H (fun v _ => v = .bl true) fun _ _ _ => False)
    (hCX : ∀ H e s', CX [] H s1 (fun _ _ _ => False) e s' → False) :
    codeAny (model P w) callerA (.call (.ref fa) ⟨[.ref a], []⟩) (fun r s' => r = .ok (.ret (.bool true)) ∧ OldK s1.heap s'.heap ∧ s'.os = s1.os ∧ AllBare s'.gens) s1 := by
  have rv := vals_ints hi
  have nlen := hi.length
  -- for every abstract heap that tracks at most the script
  have main : ∀ H : Hp, Only H → SqL K H a (ns.map V.int) → HOk P w H s1.heap → (∀ b, H b ≠ none → b = a) → (H a ≠ none → K.lookup a = none) →
      codeAny (model P w) callerA (.call (.ref fa) ⟨[.ref a], []⟩) (fun r s' => r = .ok (.ret (.bool true)) ∧ OldK s1.heap s'.heap ∧ s'.os = s1.os ∧ AllBare s'.gens) s1 := by
    intro H hO hS hok one apart
    have free_of_dict : ∀ {b : Addr} {o : Obj} {es : Array DictEntry} {ep : Nat}, s1.heap.get? b = some o → o.data = .dict es ep → H b = none := by
      intro b o es ep e d
      by_cases q : H b = none
      · exact q
      · have e' := one b q
        subst e'
        rw [ha] at e
        cases e
        cases (show Data.seq vs.toArray _ = Data.dict es ep from d)
    have ns_hid : ∀ {b : Addr} {m : Str → Option Value}, s1.heap.Ns b m → (hidT s1.heap H).Ns b m := by
      rintro b m ⟨o, es, ep, e, d, r⟩
      exact ⟨o, es, ep, hidT_get e (free_of_dict e d), d, r⟩
    have kin : K.In (hidT s1.heap H) := by
      intro b o e
      refine hidT_get (KX b o e) ?_
      by_cases q : H b = none
      · exact q
      · have e' := one b q
        subst e'
        rw [apart q] at e
        cases e
    have lim : (hidT s1.heap H).NoLimit := by
      obtain ⟨mc, h1, h2⟩ := hlim
      exact ⟨mc, ns_hid h1, h2⟩
    have hM : Mod K mg (hidT s1.heap H) := ⟨kin, ns_hid hns, ⟨mb, ns_hid hb, hbb⟩, lim⟩
    have e0 : Env0 P w K mg (hidT s1.heap H) callerA [] s1 H := by
      refine ⟨rfl, hM, fun b o e => of_hidT e, Nat.le_of_eq (hidT_size _ _), trivial, fun b hb => ?_, hok, .of_eq hgen⟩
      cases (show b ∈ ([] : List Addr) from hb)
    obtain ⟨fd, F1, hbind⟩ := F _ kin (ns_hid hns)
    refine codeAny_mono (F1.go callerA [] s1 H ⟨[.ref a], []⟩ [.ref a] [.ref a] _ _ rfl hr e0 (hbind s1 [.ref a] KX rfl) (.cons rfl .nil) (hsp H hO hS)) ?_
    intro r s' h
    match r, h with
    | .error e, h => exact (hCX H e s' h).elim
    | .ok .next, h => exact h.elim
    | .ok .brk, h => exact h.elim
    | .ok .cont, h => exact h.elim
    | .ok (.ret u), h =>
      obtain ⟨v, H', os, bare, un, hok', r', q⟩ := h
      cases (show v = .bl true from q)
      cases (show u = Value.bool true from r')
      refine ⟨rfl, OldK.of_keep fun b o e => ?_, os, bare⟩
      cases q : H b with
      | none => exact un.keep b o e q (fun z => by cases (show b ∈ ([] : List Addr) from z)) (by simp)
      | some u =>
        rcases hO b with z | ⟨ob, xs, z⟩
        · rw [q] at z
          cases z
        · have e1 := (hok b _ z).1
          have e2 := (hok' b _ (un.frzs b ob _ z)).1
          rw [e] at e1
          cases e1
          exact e2
  cases hk : K.lookup a with
  | some o =>
    have e := KX a o hk
    rw [ha] at e
    cases e
    refine main (fun _ => none) (fun _ => Or.inl rfl) (Or.inr ⟨_, vs.toArray, _, hk, rfl, rfl, rfl, ?_, ?_⟩) ?_ ?_ ?_
    · rw [List.size_toArray, nlen]
      exact hl
    · simpa using rv
    · intro b u z
      cases (show (none : Option HO) = some u from z)
    · exact fun b z => (z rfl).elim
    · exact fun z => (z rfl).elim
  | none =>
    let o : Obj := { cls := .type "list", data := .seq vs.toArray }
    have at_a : ∀ b, b = a → (fun b => if b = a then some (HO.frz o (.lst (ns.map V.int))) else none) b = some (HO.frz o (.lst (ns.map V.int))) := fun b hb => if_pos hb
    have off_a : ∀ b, b ≠ a → (fun b => if b = a then some (HO.frz o (.lst (ns.map V.int))) else none) b = none := fun b hb => if_neg hb
    refine main (fun b => if b = a then some (.frz o (.lst (ns.map V.int))) else none) (fun b => ?_) (Or.inl (Or.inr ⟨o, at_a a rfl⟩)) (fun b u z => ?_) (fun b z => ?_) fun _ => hk
    · by_cases hb : b = a
      · exact Or.inr ⟨_, _, at_a b hb⟩
      · exact Or.inl (off_a b hb)
    · by_cases hb : b = a
      · have z' := (at_a b hb).symm.trans z
        cases z'
        subst hb
        exact ⟨ha, by rw [List.length_map]; exact hl, vs, _, rv, ha⟩
      · have z' := (off_a b hb).symm.trans z
        cases z'
    · by_cases hb : b = a
      · exact hb
      · exact absurd (off_a b hb) z
end TL
set_option Elab.async false
set_option linter.all false
set_option maxRecDepth 100000
/-! TL7: mutable objects in expressions, slices, calls of defs. -/
namespace TL
open PySem PySem.Spec PyProof.Rows L2

/-! ### what is read of a mutable object -/
/-- the content of slot i -/
def cellAt (τ : List S) (i : Nat) : Option C := (τ[i]?).bind S.cell
def D.flat : D → Bool
  | .tup _ => false
  | .lst _ => false
  | _ => true
theorem Den.flat {K : PySem.W.Frag} {G G' : Hp} {d : D} {v : V} (h : Den K G d v) (f : d.flat = true) : Den K G' d v := by
  cases d with
  | tup _ => cases f
  | lst _ => cases f
  | non => unfold Den at h ⊢; exact h
  | bl _ => unfold Den at h ⊢; exact h
  | int _ => unfold Den at h ⊢; exact h
  | str _ => unfold Den at h ⊢; exact h
  | ty _ => unfold Den at h ⊢; exact h
section
variable {K : PySem.W.Frag} {F : Fr} {α α' : List (Option Addr)} {τ τ' : List S} {σ σ' : L2.St} {H H' : Hp}
theorem Rel.cellAt (R : Rel K F α τ σ H) {i : Nat} {c : C} (h : cellAt τ i = some c) : ∃ s a, τ[i]? = some s ∧ s.cell = some c ∧ α[i]? = some (some a) ∧ σ[i]? = some (some (.ref a)) ∧ CellOk K (vis F α H) H a c := by
  unfold TL.cellAt at h
  cases e : τ[i]? with
  | none => rw [e] at h; cases h
  | some s =>
    rw [e] at h
    obtain ⟨a, h1, h2, h3⟩ := R.cell e h
    exact ⟨s, a, rfl, h, h1, h2, h3⟩
/-- the cell itself, seen -/
theorem Rel.peek (R : Rel K F α τ σ H) {i : Nat} {xs : List D} (h : TL.cellAt τ i = some (.lst xs)) : ∃ a B', σ[i]? = some (some (.ref a)) ∧ (∀ c ∈ B', H c ≠ none) ∧ Sub (vis F α H) (hid B' H) ∧ Den K (hid B' H) (.lst xs) (.ref a) := by
  obtain ⟨s, a, h1, h2, h3, h4, vs, h5, h6⟩ := R.cellAt h
  have sb : Sub (vis F α H) (hid ((F.B0 ++ cells α).filter (fun b => decide (b ≠ a))) H) := hid_less (Sub.refl _) fun b hb => .inl (List.mem_filter.mp hb).1
  refine ⟨a, (F.B0 ++ cells α).filter (fun b => decide (b ≠ a)), h4, fun c hc => R.tb2 c (List.mem_filter.mp hc).1, sb, ?_⟩
  unfold Den
  refine ⟨a, vs, rfl, hid_some.mpr ⟨fun z => ?_, h5⟩, DenL.mono sb _ _ h6⟩
  exact of_decide_eq_true (List.mem_filter.mp z).2 rfl
end

def gIxC (i : Nat) (gb : GE) : GE := fun τ => match cellAt τ i with
  | none => none
  | some _ => match gb τ with
    | some (.int k, τ1) => match cellAt τ1 i with
      | some (.lst xs) => match atI xs k with
        | some d => some (d, τ1)
        | none => none
      | none => none
    | _ => none
def gOpC (f : List D → Option D) (i : Nat) : GE := fun τ => match cellAt τ i with
  | some (.lst xs) => match f [.lst xs] with
    | some d => if d.flat = true then some (d, τ) else none
    | none => none
  | none => none
def gBinC (f : D → D → Option D) (i : Nat) (gb : GE) : GE := fun τ => match cellAt τ i with
  | none => none
  | some _ => match gb τ with
    | some (b, τ1) => match cellAt τ1 i with
      | some (.lst xs) => match f (.lst xs) b with
        | some d => if d.flat = true then some (d, τ1) else none
        | none => none
      | none => none
    | none => none
section
variable {X : Cx} {a b e nm : Expr} {es : List Expr} {ga gb : GE} {i : Nat}
theorem ed_ixC (hp : ∀ {tb}, PE X b tb → PE X e (tOp (rIx X.K) (tVar i) tb)) (hb : EvD X b gb) : EvD X e (gIxC i gb) := by
  obtain ⟨tb, pb, sb⟩ := hb
  refine ⟨_, hp pb, fun F α τ σ H d τ' Q R0 hg hq => ?_⟩
  unfold gIxC at hg
  split at hg
  · cases hg
  rename_i c0 e0
  split at hg
  · rename_i k τ1 e1
    split at hg
    · rename_i xs e2
      split at hg
      · rename_i d' e3
        cases hg
        obtain ⟨s, p, _, _, _, h4, _⟩ := R0.cellAt e0
        refine ⟨_, h4, sb F α τ σ H _ τ' _ R0 e1 fun v α1 H1 R1 g1 d1 => ?_⟩
        obtain ⟨s', p', _, _, _, h4', vs, h5, h6⟩ := R1.cellAt e2
        rw [h4] at h4'
        cases h4'
        unfold Den at d1
        obtain ⟨w, h7, h8⟩ := at_den h6 e3
        exact .inl ⟨p, vs, k, w, rfl, d1, .of h5, h7, hq w α1 H1 R1 g1 h8⟩
      · cases hg
    · cases hg
  · cases hg
theorem ed_opC {r : List V → Hp → VK → Prop} {f : List D → Option D} (hp : ∀ {t}, PA X [nm] t → PE X e (tCB r t)) (hf : OpN X.K r f) (hn : PE X nm (tVar i))
    (hs : starEach [nm] X.env = (false, eval nm X.env) :: starEach [] X.env := by rfl) : EvD X e (gOpC f i) := by
  refine ⟨_, hp (pa_cons hn pa_nil hs), fun F α τ σ H d τ' Q R0 hg hq => ?_⟩
  unfold gOpC at hg
  split at hg
  · rename_i xs e0
    split at hg
    · rename_i d' e1
      split at hg
      · rename_i hd
        cases hg
        obtain ⟨p, B', h1, h2, h3, h4⟩ := R0.peek e0
        refine ⟨_, h1, ?_⟩
        refine hf B' H [.lst xs] d _ Q h2 (DenL.cons h4 DenL.nil) e1 fun v H' s' dv => ?_
        exact hq v α H' (R0.sub s') (Grow.of_sub s') (dv.flat hd)
      · cases hg
    · cases hg
  · cases hg
theorem ed_binC {r : R2} {f : D → D → Option D} (hp : ∀ {tb}, PE X b tb → PE X e (tOp r (tVar i) tb)) (hf : Op2 X.K r f) (hb : EvD X b gb) : EvD X e (gBinC f i gb) := by
  obtain ⟨tb, pb, sb⟩ := hb
  refine ⟨_, hp pb, fun F α τ σ H d τ' Q R0 hg hq => ?_⟩
  unfold gBinC at hg
  split at hg
  · cases hg
  rename_i c0 e0
  split at hg
  · rename_i k τ1 e1
    split at hg
    · rename_i xs e2
      split at hg
      · rename_i d' e3
        split at hg
        · rename_i hd
          cases hg
          obtain ⟨s, p, _, _, _, h4, _⟩ := R0.cellAt e0
          refine ⟨_, h4, sb F α τ σ H _ τ' _ R0 e1 fun v α1 H1 R1 g1 d1 => ?_⟩
          obtain ⟨p', B', h1, h2, h3, h5⟩ := R1.peek e2
          rw [h4] at h1
          cases h1
          refine hf B' H1 _ _ d _ _ Q h2 h5 (Den.mono h3 _ _ d1) e3 fun w H' s' dw => ?_
          exact hq w α1 H' (R1.sub s') (g1.trans (Grow.of_sub s')) (dw.flat hd)
        · cases hg
      · cases hg
    · cases hg
  · cases hg
end

/-! ### slices -/
def cutA {β : Type} (xs : List β) (lo hi : Option Int) : List β := (xs.drop (HT.sIx xs.length 0 lo)).take (HT.sIx xs.length xs.length hi - HT.sIx xs.length 0 lo)
abbrev GO := List S → Option (Option Int × List S)
def gNoPart : GO := fun τ => some (none, τ)
def gPart (g : GE) : GO := fun τ => match g τ with
  | some (.int i, τ1) => some (some i, τ1)
  | _ => none
def EvO (X : Cx) (e : Option Expr) (g : GO) : Prop := ∃ t, PO X e t ∧ ∀ F α τ σ H o τ' Q, Rel X.K F α τ σ H → g τ = some (o, τ') → (∀ α' H', Rel X.K F α' τ' σ H' → Grow α H α' H' → Q o H') → t σ H Q
def dSl : D → Option Int → Option Int → Option R
  | .lst xs, lo, hi => some (.fl (cutA xs lo hi))
  | .tup xs, lo, hi => some (.v (.tup (cutA xs lo hi)))
  | .str z, lo, hi => if z.length ≤ line then some (.v (.str (cutS z lo hi))) else none
  | _, _, _ => none
def gSl (ga : GE) (glo ghi : GO) : GR := fun τ => match ga τ with
  | none => none
  | some (a, τ1) => match glo τ1 with
    | none => none
    | some (lo, τ2) => match ghi τ2 with
      | none => none
      | some (hi, τ3) => match dSl a lo hi with
        | none => none
        | some r => some (r, τ3)
/-- of the script -/
def gSlScr (i : Nat) (glo ghi : GO) : GR := fun τ => match τ[i]? with
  | some (.scr ns) => match glo τ with
    | none => none
    | some (lo, τ2) => match ghi τ2 with
      | none => none
      | some (hi, τ3) => some (.fl ((cutA ns lo hi).map D.int), τ3)
  | _ => none
/-- of a mutable list -/
def gSlC (i : Nat) (glo ghi : GO) : GR := fun τ => match cellAt τ i with
  | some _ => match glo τ with
    | none => none
    | some (lo, τ2) => match ghi τ2 with
      | none => none
      | some (hi, τ3) => match cellAt τ3 i with
        | some (.lst xs) => some (.fl (cutA xs lo hi), τ3)
        | none => none
  | _ => none
abbrev rSlAll (K : PySem.W.Frag) : V → Option Int → Option Int → Hp → VK → Prop := fun x lo hi H Q => rSlL K x lo hi H Q ∨ (rSlA K x lo hi H Q ∨ rSlS x lo hi H Q)
theorem sl_all {X : Cx} : SlR X (rSlAll X.K) := sl_list.or (sl_tupA.or sl_str)
section
variable {X : Cx} {e : Expr} {ga : GE} {lo hi : Option Expr} {glo ghi : GO} {pos p2 : Pos} {i : Nat}
theorem eo_none : EvO X none gNoPart := ⟨_, po_none, fun F α τ σ H o τ' Q R0 hg hq => by
  cases hg
  exact hq α H R0 Grow.refl⟩
theorem eo_some (h : EvD X e ga) : EvO X (some e) (gPart ga) := by
  obtain ⟨t, pt, st⟩ := h
  refine ⟨_, po_some pt, fun F α τ σ H o τ' Q R0 hg hq => ?_⟩
  unfold gPart at hg
  split at hg
  · rename_i k τ1 e1
    cases hg
    refine st F α τ σ H _ τ' _ R0 e1 fun v α1 H1 R1 g1 d1 => ?_
    unfold Den at d1
    exact ⟨k, d1, hq α1 H1 R1 g1⟩
  · cases hg
theorem cutA_den {K : PySem.W.Frag} {G : Hp} {ds : List D} {vs : List V} (h : DenL K G ds vs) (lo hi : Option Int) : DenL K G (cutA ds lo hi) (cutV vs lo hi) := by
  unfold cutA cutV
  rw [h.length]
  exact DenL.take _ (DenL.drop _ h)
theorem er_slice (ha : EvD X e ga) (hl : EvO X lo glo) (hh : EvO X hi ghi) : EvR X (.Subscript e (.Slice lo hi none p2) pos) (gSl ga glo ghi) := by
  obtain ⟨ta, pa, sa⟩ := ha
  obtain ⟨tl, pl, sl⟩ := hl
  obtain ⟨th, ph, sh⟩ := hh
  refine ⟨_, pe_slice sl_all pa pl ph, fun F α τ σ H r τ' Q R0 hg hq => ?_⟩
  unfold gSl at hg
  split at hg
  · cases hg
  rename_i a τ1 e1
  split at hg
  · cases hg
  rename_i l τ2 e2
  split at hg
  · cases hg
  rename_i h τ3 e3
  split at hg
  · cases hg
  rename_i r' e4
  cases hg
  refine sa F α τ σ H a τ1 _ R0 e1 fun v α1 H1 R1 g1 d1 => ?_
  refine sl F α1 τ1 σ H1 l τ2 _ R1 e2 fun α2 H2 R2 g2 => ?_
  refine sh F α2 τ2 σ H2 h τ' _ R2 e3 fun α3 H3 R3 g3 => ?_
  have d3 : Den X.K (hid (F.B0 ++ cells α3) H3) a v := Den.mono (g2.trans g3).vis _ _ d1
  have g13 := g1.trans (g2.trans g3)
  cases a with
  | lst xs =>
    cases e4
    obtain ⟨p, vs, rfl, h1, h2⟩ := d3.lst_inv
    exact .inl ⟨p, vs, rfl, .of h1, fun q hq' => R3.finF g13 hq q _ hq' (cutA_den h2 l h)⟩
  | tup xs =>
    cases e4
    have d3' := d3
    obtain ⟨p, vs, rfl, h1, h2⟩ := d3.tup_inv
    refine .inr (.inl ⟨p, vs, rfl, h1, fun hw => ?_, fun hw q hq' => ?_⟩)
    · refine hq _ α3 H3 ⟨R3, g13, ?_⟩
      have : cutA xs l h = xs := by
        unfold cutA
        rw [h2.length] at hw
        rw [hw.1, hw.2, List.drop_zero, Nat.sub_zero, List.take_length]
      rw [this]
      exact d3'
    · exact hq _ α3 _ ⟨R3.upd hq', g13.trans (Grow.upd hq'), Den.mk_tup R3.tb2 hq' (cutA_den h2 l h)⟩
  | str z =>
    unfold dSl at e4
    simp only at e4
    split at e4
    · rename_i hz
      cases e4
      unfold Den at d3
      exact .inr (.inr ⟨_, d3, by rw [sizeLine_eq]; exact hz, hq _ α3 H3 ⟨R3, g13, Den.str'⟩⟩)
    · cases e4
  | non => cases e4
  | bl _ => cases e4
  | int _ => cases e4
  | ty _ => cases e4
theorem er_slScr (hn : PE X e (tVar i)) (hl : EvO X lo glo) (hh : EvO X hi ghi) : EvR X (.Subscript e (.Slice lo hi none p2) pos) (gSlScr i glo ghi) := by
  obtain ⟨tl, pl, sl⟩ := hl
  obtain ⟨th, ph, sh⟩ := hh
  refine ⟨_, pe_slice sl_list hn pl ph, fun F α τ σ H r τ' Q R0 hg hq => ?_⟩
  unfold gSlScr at hg
  split at hg
  · rename_i ns e0
    split at hg
    · cases hg
    rename_i l τ2 e2
    split at hg
    · cases hg
    rename_i h τ3 e3
    cases hg
    obtain ⟨o, x, h1, h2, q0, p, q1, q2⟩ := R0.at_ e0
    refine ⟨.ref p, by rw [h2, q1], ?_⟩
    refine sl F α τ σ H l τ2 _ R0 e2 fun α2 H2 R2 g2 => ?_
    refine sh F α2 τ2 σ H2 h τ' _ R2 e3 fun α3 H3 R3 g3 => ?_
    have g13 := g2.trans g3
    refine ⟨p, ns.map V.int, rfl, Sub.seqL hid_sub (Sub.seqL g13.vis q2), fun q hq' => R3.finF g13 hq q _ hq' ?_⟩
    have : cutV (ns.map V.int) l h = (cutA ns l h).map V.int := by
      unfold cutV cutA
      rw [List.length_map, List.map_take, List.map_drop]
    rw [this]
    have all : ∀ ms : List Int, DenL X.K (hid (F.B0 ++ cells α3) H3) (ms.map D.int) (ms.map V.int) := fun ms => by
      induction ms with
      | nil => exact DenL.nil
      | cons m ms ih => exact DenL.cons Den.int' ih
    exact all _
  · cases hg
theorem er_slC (hn : PE X e (tVar i)) (hl : EvO X lo glo) (hh : EvO X hi ghi) : EvR X (.Subscript e (.Slice lo hi none p2) pos) (gSlC i glo ghi) := by
  obtain ⟨tl, pl, sl⟩ := hl
  obtain ⟨th, ph, sh⟩ := hh
  refine ⟨_, pe_slice sl_list hn pl ph, fun F α τ σ H r τ' Q R0 hg hq => ?_⟩
  unfold gSlC at hg
  split at hg
  · rename_i c0 e0
    split at hg
    · cases hg
    rename_i l τ2 e2
    split at hg
    · cases hg
    rename_i h τ3 e3
    split at hg
    · rename_i xs e4
      cases hg
      obtain ⟨s, p, _, _, _, h4, _⟩ := R0.cellAt e0
      refine ⟨.ref p, h4, ?_⟩
      refine sl F α τ σ H l τ2 _ R0 e2 fun α2 H2 R2 g2 => ?_
      refine sh F α2 τ2 σ H2 h τ' _ R2 e3 fun α3 H3 R3 g3 => ?_
      obtain ⟨s', p', _, _, _, h4', vs, h5, h6⟩ := R3.cellAt e4
      rw [h4] at h4'
      cases h4'
      exact ⟨p, vs, rfl, .of h5, fun q hq' => R3.finF (g2.trans g3) hq q _ hq' (cutA_den h6 l h)⟩
    · cases hg
  · cases hg
end
end TL
set_option Elab.async false
set_option linter.all false
set_option maxRecDepth 100000
/-! TL8: calls of defs: arguments are trees, or slots that are lent. -/
namespace TL
open PySem PySem.Spec PyProof.Rows L2

inductive A where
  | d (d : D) | l (i : Nat)
abbrev GA := List S → Option (List A × List S)
/-- an argument as it comes to the call -/
def ArgOk (K : PySem.W.Frag) (G : Hp) (σ : L2.St) : A → V → Prop
  | .d d, v => Den K G d v
  | .l i, v => σ[i]? = some (some v)
inductive ArgsOk (K : PySem.W.Frag) (G : Hp) (σ : L2.St) : List A → List V → Prop
  | nil : ArgsOk K G σ [] []
  | cons {a : A} {v : V} {as : List A} {vs : List V} : ArgOk K G σ a v → ArgsOk K G σ as vs → ArgsOk K G σ (a :: as) (v :: vs)
def EvA (X : Cx) (es : List Expr) (g : GA) : Prop := ∃ t, PA X es t ∧ ∀ F α τ σ H as τ' Q, Rel X.K F α τ σ H → g τ = some (as, τ') → (∀ vs α' H', Rel X.K F α' τ' σ H' → Grow α H α' H' → ArgsOk X.K (vis F α' H') σ as vs → Q vs H') → t σ H Q
def gaNil : GA := fun τ => some ([], τ)
def gaD (g : GE) (ga : GA) : GA := fun τ => match g τ with
  | none => none
  | some (d, τ1) => match ga τ1 with
    | none => none
    | some (as, τ2) => some (.d d :: as, τ2)
/-- the slot as it stands is handed on -/
def gaL (i : Nat) (ga : GA) : GA := fun τ => match τ[i]? with
  | some (.un) => none
  | some (.sh _) => none
  | none => none
  | some _ => match ga τ with
    | none => none
    | some (as, τ2) => some (.l i :: as, τ2)
section
variable {X : Cx} {e : Expr} {es : List Expr} {g : GE} {ga : GA} {i : Nat}
theorem ArgsOk.mono {K : PySem.W.Frag} {G G' : Hp} {σ : L2.St} (e : Sub G G') : ∀ {as : List A} {vs : List V}, ArgsOk K G σ as vs → ArgsOk K G' σ as vs
  | _, _, .nil => .nil
  | .d d :: _, _, .cons h t => .cons (a := .d d) (Den.mono e _ _ h) (ArgsOk.mono e t)
  | .l i :: _, _, .cons h t => .cons (a := .l i) h (ArgsOk.mono e t)
theorem ea_nil : EvA X [] gaNil := ⟨_, pa_nil, fun F α τ σ H ds τ' Q R0 hg hq => by
  cases hg
  exact hq [] α H R0 Grow.refl .nil⟩
theorem ea_d (ha : EvD X e g) (hl : EvA X es ga) (hs : starEach (e :: es) X.env = (false, eval e X.env) :: starEach es X.env := by rfl) : EvA X (e :: es) (gaD g ga) := by
  obtain ⟨ta, pa, sa⟩ := ha
  obtain ⟨tl, pl, sl⟩ := hl
  refine ⟨_, pa_cons pa pl hs, fun F α τ σ H ds τ' Q R0 hg hq => ?_⟩
  unfold gaD at hg
  split at hg
  · cases hg
  rename_i x τ1 e1
  split at hg
  · cases hg
  rename_i ys τ2 e2
  cases hg
  refine sa F α τ σ H x τ1 _ R0 e1 fun v α1 H1 R1 g1 d1 => ?_
  refine sl F α1 τ1 σ H1 ys τ' _ R1 e2 fun vs α2 H2 R2 g2 d2 => ?_
  exact hq (v :: vs) α2 H2 R2 (g1.trans g2) (.cons (a := .d x) (Den.mono g2.vis _ _ d1) d2)
theorem ea_l (ha : PE X e (tVar i)) (hl : EvA X es ga) (hs : starEach (e :: es) X.env = (false, eval e X.env) :: starEach es X.env := by rfl) : EvA X (e :: es) (gaL i ga) := by
  obtain ⟨tl, pl, sl⟩ := hl
  refine ⟨_, pa_cons ha pl hs, fun F α τ σ H ds τ' Q R0 hg hq => ?_⟩
  have go : ∀ s, τ[i]? = some s → (∃ v, σ[i]? = some (some v)) → (match ga τ with
      | none => none
      | some (as, τ2) => some (A.l i :: as, τ2)) = some (ds, τ') → tCons (tVar i) tl σ H Q := fun s hs ⟨v, hv⟩ hg => by
    split at hg
    · cases hg
    rename_i as τ2 e2
    cases hg
    refine ⟨v, hv, sl F α τ σ H as τ' _ R0 e2 fun vs α2 H2 R2 g2 d2 => ?_⟩
    exact hq (v :: vs) α2 H2 R2 g2 (.cons (a := .l i) hv d2)
  unfold gaL at hg
  split at hg
  · cases hg
  · cases hg
  · cases hg
  · rename_i s h1 h2 h3
    obtain ⟨o, x, e1, e2, q⟩ := R0.at_ h3
    refine go s h3 ?_ hg
    cases s with
    | un => exact absurd rfl h1
    | sh d => exact absurd rfl (h2 d)
    | own c =>
      obtain ⟨a, _, q2, _⟩ := q
      exact ⟨.ref a, by rw [e2, q2]⟩
    | par c =>
      obtain ⟨a, _, q2, _⟩ := q
      exact ⟨.ref a, by rw [e2, q2]⟩
    | scr ns =>
      obtain ⟨_, a, q2, _⟩ := q
      exact ⟨.ref a, by rw [e2, q2]⟩
end

/-! ### the callee's slots -/
/-- a slot as it is lent -/
def S.lend : S → Option S
  | .own c => some (.par c)
  | .par c => some (.par c)
  | .scr ns => some (.scr ns)
  | _ => none
def slotOf (τ : List S) : A → Option S
  | .d d => some (.sh d)
  | .l i => (τ[i]?).bind S.lend
def slotsOf (τ : List S) : List A → Option (List S)
  | [] => some []
  | a :: as => match slotOf τ a, slotsOf τ as with
    | some s, some ss => some (s :: ss)
    | _, _ => none
def cellOf (α : List (Option Addr)) : A → Option Addr
  | .d _ => none
  | .l i => (α[i]?).join
/-- the slots lent, no one twice -/
def lent : List A → List Nat
  | [] => []
  | .d _ :: as => lent as
  | .l i :: as => i :: lent as
/-- what comes back -/
def back : List A → List S → List S → Option (List S)
  | [], _, τ => some τ
  | .d _ :: as, _ :: ss, τ => back as ss τ
  | .l i :: as, s :: ss, τ => match s, τ[i]? with
    | .par c, some t => back as ss (τ.set i (t.put c))
    | .scr _, some (.scr _) => back as ss τ
    | _, _ => none
  | _, _, _ => none
abbrev GF := List S → Option (R × List S)
def gCall (gf : GF) (ga : GA) : GR := fun τ => match ga τ with
  | none => none
  | some (as, τ1) => if (lent as).Nodup then match slotsOf τ1 as with
    | none => none
    | some ss => match gf ss with
      | none => none
      | some (r, ss') => match back as ss' τ1 with
        | none => none
        | some τ2 => some (r, τ2)
    else none

/-! ### a def's promise -/
/-- behind the call -/
def RFin (K : PySem.W.Frag) (F : Fr) (H H' : Hp) : R → V → Prop
  | .v d, v => Den K (hid F.B0 H') d v
  | .fl ds, v => ∃ a vs, v = .ref a ∧ H a = none ∧ H' a = some (.lst vs) ∧ DenL K (hid (a :: F.B0) H') ds vs
/-- a new list's address -/
def extra : R → V → List Addr
  | .fl _, .ref a => [a]
  | _, _ => []
structure Fin (K : PySem.W.Frag) (F : Fr) (ss' : List S) (H : Hp) (r : R) (v : V) (H' : Hp) : Prop where
  keep : ∀ (a : Addr) (o : HO), H a = some o → (∀ i, F.pa i ≠ some a) → H' a = some o
  tk : ∀ a, H a ≠ none → H' a ≠ none
  par : ∀ (i : Nat) (c : C), ss'[i]? = some (.par c) → ∃ a, F.pa i = some a ∧ CellOk K (hid (extra r v ++ F.B0) H') H' a c
  res : RFin K F H H' r v
structure Begin (K : PySem.W.Frag) (F : Fr) (α : List (Option Addr)) (ss : List S) (vs : List V) (H : Hp) : Prop where
  h0 : F.H0 = H
  rel : Rel K F α ss (vs.map some) H
  pa : ∀ (i : Nat) (a : Addr), F.pa i = some a ↔ α[i]? = some (some a)
def spT (K : PySem.W.Frag) (gf : GF) : Sp := fun vs H Q _ => ∃ F α ss r ss', Begin K F α ss vs H ∧ gf ss = some (r, ss') ∧ ∀ v H', Fin K F ss' H r v H' → Q v H'

section
variable {K : PySem.W.Frag} {F : Fr} {α : List (Option Addr)} {τ : List S} {σ : L2.St} {H : Hp}
theorem slotsOf_get : ∀ {as : List A} {ss : List S} {j : Nat} {s : S}, slotsOf τ as = some ss → ss[j]? = some s → ∃ a, as[j]? = some a ∧ slotOf τ a = some s
  | [], ss, j, s, h, e => by
    unfold slotsOf at h
    cases h
    simp at e
  | a :: as, ss, j, s, h, e => by
    unfold slotsOf at h
    split at h
    · rename_i s0 ss0 h1 h2
      cases h
      cases j with
      | zero =>
        simp only [List.getElem?_cons_zero, Option.some.injEq] at e
        subst e
        exact ⟨a, rfl, h1⟩
      | succ j =>
        rw [List.getElem?_cons_succ] at e
        obtain ⟨b, h3, h4⟩ := slotsOf_get h2 e
        exact ⟨b, by rw [List.getElem?_cons_succ]; exact h3, h4⟩
    · cases h
theorem slotsOf_len : ∀ {as : List A} {ss : List S}, slotsOf τ as = some ss → ss.length = as.length
  | [], ss, h => by
    unfold slotsOf at h
    cases h
    rfl
  | a :: as, ss, h => by
    unfold slotsOf at h
    split at h
    · rename_i s0 ss0 h1 h2
      cases h
      rw [List.length_cons, List.length_cons, slotsOf_len h2]
    · cases h
theorem ArgsOk.get {G : Hp} : ∀ {as : List A} {vs : List V} {j : Nat} {a : A}, ArgsOk K G σ as vs → as[j]? = some a → ∃ v, vs[j]? = some v ∧ ArgOk K G σ a v
  | _, _, _, _, .nil, e => by simp at e
  | _, _, 0, _, .cons h t, e => by
    simp only [List.getElem?_cons_zero, Option.some.injEq] at e
    subst e
    exact ⟨_, rfl, h⟩
  | _, _, j + 1, _, .cons h t, e => by
    rw [List.getElem?_cons_succ] at e
    obtain ⟨v, h1, h2⟩ := ArgsOk.get t e
    exact ⟨v, by rw [List.getElem?_cons_succ]; exact h1, h2⟩
theorem ArgsOk.len {G : Hp} : ∀ {as : List A} {vs : List V}, ArgsOk K G σ as vs → vs.length = as.length
  | _, _, .nil => rfl
  | _, _, .cons h t => by rw [List.length_cons, List.length_cons, ArgsOk.len t]
theorem lent_mem : ∀ {as : List A} {j i : Nat}, as[j]? = some (.l i) → i ∈ lent as
  | [], _, _, e => by simp at e
  | a :: as, 0, i, e => by
    simp only [List.getElem?_cons_zero, Option.some.injEq] at e
    subst e
    exact List.mem_cons_self
  | a :: as, j + 1, i, e => by
    rw [List.getElem?_cons_succ] at e
    have := lent_mem e
    cases a with
    | d _ => exact this
    | l _ => exact List.mem_cons_of_mem _ this
theorem lent_inj : ∀ {as : List A} {j k i : Nat}, (lent as).Nodup → as[j]? = some (.l i) → as[k]? = some (.l i) → j = k
  | [], _, _, _, _, e, _ => by simp at e
  | a :: as, 0, 0, i, _, _, _ => rfl
  | a :: as, 0, k + 1, i, nd, e, e' => by
    simp only [List.getElem?_cons_zero, Option.some.injEq] at e
    subst e
    rw [List.getElem?_cons_succ] at e'
    exact absurd (lent_mem e') (List.nodup_cons.mp nd).1
  | a :: as, j + 1, 0, i, nd, e, e' => by
    simp only [List.getElem?_cons_zero, Option.some.injEq] at e'
    subst e'
    rw [List.getElem?_cons_succ] at e
    exact absurd (lent_mem e) (List.nodup_cons.mp nd).1
  | a :: as, j + 1, k + 1, i, nd, e, e' => by
    rw [List.getElem?_cons_succ] at e e'
    have nd' : (lent as).Nodup := by
      cases a with
      | d _ => exact nd
      | l _ => exact (List.nodup_cons.mp nd).2
    rw [lent_inj nd' e e']
/-- the callee's entry -/
def Fr.callee (F : Fr) (α : List (Option Addr)) (H : Hp) (as : List A) : Fr := ⟨H, F.B0 ++ cells α, fun j => ((as.map (cellOf α))[j]?).join⟩
theorem join_some {β : Type} {o : Option (Option β)} {a : β} : o.join = some a ↔ o = some (some a) := by
  cases o with
  | none => simp
  | some x => simp
theorem begin_of {as : List A} {ss : List S} {vs : List V} (R0 : Rel K F α τ σ H) (nd : (lent as).Nodup) (hs : slotsOf τ as = some ss) (ha : ArgsOk K (vis F α H) σ as vs) :
    Begin K (F.callee α H as) (as.map (cellOf α)) ss vs H := by
  have mem : ∀ b, b ∈ cells (as.map (cellOf α)) → b ∈ cells α := fun b hb => by
    obtain ⟨j, e⟩ := mem_cells.mp hb
    rw [List.getElem?_map] at e
    cases q : as[j]? with
    | none => rw [q] at e; cases e
    | some a =>
      rw [q] at e
      cases a with
      | d _ => cases e
      | l i => exact mem_cells.mpr ⟨i, join_some.mp (Option.some.inj e)⟩
  have sb : Sub (vis F α H) (vis (F.callee α H as) (as.map (cellOf α)) H) := hid_less (Sub.refl _) fun b hb => .inl (by
    rcases List.mem_append.mp hb with z | z
    · exact z
    · exact List.mem_append_right _ (mem b z))
  have at_l : ∀ (j i : Nat) (a : Addr), as[j]? = some (A.l i) → (as.map (cellOf α))[j]? = some (some a) → α[i]? = some (some a) := fun j i a e h => by
    rw [List.getElem?_map, e] at h
    exact join_some.mp (Option.some.inj h)
  refine ⟨rfl, ⟨by rw [List.length_map, slotsOf_len hs], by rw [List.length_map, ha.len, slotsOf_len hs], fun j s o x h1 h2 h3 => ?_, fun j k a h1 h2 => ?_, fun b hb => R0.tr b (mem b hb), fun b hb => R0.tb2 b hb, fun b hb => hb, fun a o e _ => e, fun j a h => .inl ?_⟩, fun j a => ?_⟩
  · obtain ⟨a, e1, e2⟩ := slotsOf_get hs h1
    obtain ⟨v, e3, e4⟩ := ha.get e1
    rw [List.getElem?_map, e1] at h2
    rw [List.getElem?_map, e3] at h3
    cases h3
    have ho : o = cellOf α a := (Option.some.inj h2).symm
    cases a with
    | d d =>
      cases e2
      exact ⟨ho, v, rfl, Den.mono sb _ _ e4⟩
    | l i =>
      have e4 : σ[i]? = some (some v) := e4
      have e2 : (τ[i]?).bind S.lend = some s := e2
      cases q : τ[i]? with
      | none => rw [q] at e2; cases e2
      | some t =>
        rw [q] at e2
        have e2 : t.lend = some s := e2
        obtain ⟨o', x', w1, w2, w3⟩ := R0.at_ q
        rw [e4] at w2
        cases w2
        have ho2 : o = o' := by
          rw [ho]
          show (α[i]?).join = o'
          rw [w1]
          rfl
        subst ho2
        have hpa : ∀ a, o = some a → (F.callee α H as).pa j = some a := fun a z => by
          show ((as.map (cellOf α))[j]?).join = some a
          rw [List.getElem?_map, e1]
          show ((some (cellOf α (.l i))) : Option (Option Addr)).join = some a
          rw [← ho, z]
          rfl
        cases t with
        | un => cases e2
        | sh d => cases e2
        | own c =>
          cases e2
          obtain ⟨a, u1, u2, u3, u4⟩ := w3
          exact ⟨a, u1, u2, hpa a u1, u4.mono sb fun _ z => z⟩
        | par c =>
          cases e2
          obtain ⟨a, u1, u2, u3, u4⟩ := w3
          exact ⟨a, u1, u2, hpa a u1, u4.mono sb fun _ z => z⟩
        | scr ns =>
          cases e2
          obtain ⟨u1, a, u2, u3⟩ := w3
          exact ⟨u1, a, u2, Sub.seqL sb u3⟩
  · have : ∀ j : Nat, (as.map (cellOf α))[j]? = some (some a) → ∃ i : Nat, as[j]? = some (A.l i) ∧ α[i]? = some (some a) := fun j h => by
      cases q : as[j]? with
      | none =>
        rw [List.getElem?_map, q] at h
        cases h
      | some b =>
        cases b with
        | d _ =>
          rw [List.getElem?_map, q] at h
          cases h
        | l i => exact ⟨i, rfl, at_l j i a q h⟩
    obtain ⟨i, h3, h4⟩ := this j h1
    obtain ⟨i', h5, h6⟩ := this k h2
    have := R0.inj _ _ _ h4 h6
    subst this
    exact lent_inj nd h3 h5
  · show ((as.map (cellOf α))[j]?).join = some a
    rw [h]
    rfl
  · show ((as.map (cellOf α))[j]?).join = some a ↔ _
    exact join_some

theorem back_len : ∀ {as : List A} {ss : List S} {τ τ' : List S}, back as ss τ = some τ' → τ'.length = τ.length
  | [], _, τ, τ', h => by
    unfold back at h
    cases h
    rfl
  | .d _ :: as, s :: ss, τ, τ', h => by
    unfold back at h
    exact back_len h
  | .d _ :: as, [], τ, τ', h => by
    unfold back at h
    cases h
  | .l i :: as, [], τ, τ', h => by
    unfold back at h
    cases h
  | .l i :: as, s :: ss, τ, τ', h => by
    unfold back at h
    split at h
    · rw [back_len h, List.length_set]
    · exact back_len h
    · cases h
/-- where a slot is not lent it is as it was; where it is, as it came back -/
theorem back_get : ∀ {as : List A} {ss : List S} {τ τ' : List S} {j : Nat} {t : S}, (lent as).Nodup → back as ss τ = some τ' → τ'[j]? = some t →
    (j ∉ lent as ∧ τ[j]? = some t) ∨ ∃ (k : Nat) (t0 : S), as[k]? = some (.l j) ∧ τ[j]? = some t0 ∧ ((∃ c, ss[k]? = some (.par c) ∧ t = t0.put c) ∨ (∃ ns ms, ss[k]? = some (.scr ns) ∧ t0 = .scr ms ∧ t = t0))
  | [], ss, τ, τ', j, t, nd, h, e => by
    unfold back at h
    cases h
    exact .inl ⟨by unfold lent; simp, e⟩
  | .d _ :: as, [], τ, τ', j, t, nd, h, e => by
    unfold back at h
    cases h
  | .l i :: as, [], τ, τ', j, t, nd, h, e => by
    unfold back at h
    cases h
  | .d _ :: as, s :: ss, τ, τ', j, t, nd, h, e => by
    unfold back at h
    rcases back_get (as := as) nd h e with ⟨h1, h2⟩ | ⟨k, t0, h1, h2, h3⟩
    · exact .inl ⟨h1, h2⟩
    · exact .inr ⟨k + 1, t0, by rw [List.getElem?_cons_succ]; exact h1, h2, by rw [List.getElem?_cons_succ]; exact h3⟩
  | .l i :: as, s :: ss, τ, τ', j, t, nd, h, e => by
    have nd' := List.nodup_cons.mp nd
    unfold back at h
    split at h
    · rename_i c t1 e1
      rcases back_get nd'.2 h e with ⟨h1, h2⟩ | ⟨k, t0, h1, h2, h3⟩
      · by_cases hj : i = j
        · subst hj
          have hl : i < τ.length := (List.getElem?_eq_some_iff.mp e1).1
          rw [List.getElem?_set_self hl] at h2
          cases h2
          exact .inr ⟨0, t1, rfl, e1, .inl ⟨c, rfl, rfl⟩⟩
        · rw [List.getElem?_set_ne hj] at h2
          exact .inl ⟨fun z => by
            rcases List.mem_cons.mp z with z | z
            · exact hj z.symm
            · exact h1 z, h2⟩
      · have hj : i ≠ j := fun z => nd'.1 (z ▸ lent_mem h1)
        rw [List.getElem?_set_ne hj] at h2
        exact .inr ⟨k + 1, t0, by rw [List.getElem?_cons_succ]; exact h1, h2, by rw [List.getElem?_cons_succ]; exact h3⟩
    · rename_i ns ms e1
      rcases back_get nd'.2 h e with ⟨h1, h2⟩ | ⟨k, t0, h1, h2, h3⟩
      · by_cases hj : i = j
        · subst hj
          rw [e1] at h2
          cases h2
          exact .inr ⟨0, _, rfl, e1, .inr ⟨_, _, rfl, rfl, rfl⟩⟩
        · exact .inl ⟨fun z => by
            rcases List.mem_cons.mp z with z | z
            · exact hj z.symm
            · exact h1 z, h2⟩
      · exact .inr ⟨k + 1, t0, by rw [List.getElem?_cons_succ]; exact h1, h2, by rw [List.getElem?_cons_succ]; exact h3⟩
    · cases h
/-- behind the call: the caller's state -/
theorem after_call {H1 : Hp} {as : List A} {ss ss' : List S} {τ2 : List S} {r : R} {v : V} (R0 : Rel K F α τ σ H) (nd : (lent as).Nodup) (hs : slotsOf τ as = some ss) (hb : back as ss' τ = some τ2)
    (f : Fin K (F.callee α H as) ss' H r v H1) : Rel K (F.hides (extra r v ++ F.B0)) α τ2 σ H1 ∧ Grow α H α H1 := by
  have hex : ∀ b ∈ extra r v, H b = none ∧ H1 b ≠ none := fun b hb => by
    have q := f.res
    cases r with
    | v d => cases hb
    | fl ds =>
      obtain ⟨a, vs, rfl, h0, h1, h2⟩ := q
      rcases List.mem_cons.mp hb with z | z
      · rw [z]
        exact ⟨h0, by rw [h1]; nofun⟩
      · cases z
  have pa_cell : ∀ (j : Nat) (a : Addr), (F.callee α H as).pa j = some a → ∃ i : Nat, as[j]? = some (A.l i) ∧ α[i]? = some (some a) := fun j a h => by
    have h : ((as.map (cellOf α))[j]?).join = some a := h
    have h := join_some.mp h
    rw [List.getElem?_map] at h
    cases q : as[j]? with
    | none => rw [q] at h; cases h
    | some b =>
      rw [q] at h
      cases b with
      | d _ => cases h
      | l i => exact ⟨i, rfl, join_some.mp (Option.some.inj h)⟩
  have g : Grow α H α H1 := ⟨fun a o e n => f.keep a o e fun j z => by
      obtain ⟨i, _, w⟩ := pa_cell j a z
      exact n (mem_cells.mpr ⟨i, w⟩), fun _ h => .inl h, f.tk⟩
  have gv : Sub (vis F α H) (vis (F.hides (extra r v ++ F.B0)) α H1) := fun a o e => by
    obtain ⟨e1, e2⟩ := hid_some.mp e
    refine hid_some.mpr ⟨fun z => ?_, (hid_some.mp (g.vis (F := F) a o e)).2⟩
    rcases List.mem_append.mp z with z | z
    · rcases List.mem_append.mp z with z | z
      · rw [(hex a z).1] at e2
        cases e2
      · exact e1 (List.mem_append_left _ z)
    · exact e1 (List.mem_append_right _ z)
  have nex : ∀ a, a ∉ F.B0 → (H a = none → False) → a ∉ extra r v ++ F.B0 := fun a n1 n2 z => by
    rcases List.mem_append.mp z with z | z
    · exact n2 (hex a z).1
    · exact n1 z
  refine ⟨⟨by rw [back_len hb]; exact R0.la, by rw [back_len hb]; exact R0.ls, fun j t o x h1 h2 h3 => ?_, R0.inj, fun b hb => g.tk b (R0.tr b hb), fun b hb => ?_, fun b hb => g.tk b (R0.tk b hb), fun a o e n => ?_, R0.ow⟩, g⟩
  · rcases back_get nd hb h1 with ⟨w1, w2⟩ | ⟨k, t0, w1, w2, w3⟩
    · have q := R0.sl j t o x w2 h2 h3
      have keepc : ∀ a, o = some a → ∀ u, H a = some u → H1 a = some u := fun a z u e => f.keep a u e fun i w => by
        obtain ⟨m, w5, w6⟩ := pa_cell i a w
        rw [z] at h2
        have := R0.inj _ _ _ w6 h2
        subst this
        exact w1 (lent_mem w5)
      cases t with
      | un => exact q
      | sh d =>
        obtain ⟨q0, u, q1, q2⟩ := q
        exact ⟨q0, u, q1, Den.mono gv _ _ q2⟩
      | own c =>
        obtain ⟨a, q1, q2, q3, q4⟩ := q
        exact ⟨a, q1, q2, ⟨q3.1, nex a q3.2 (q4.there)⟩, q4.mono gv (keepc a q1)⟩
      | par c =>
        obtain ⟨a, q1, q2, q3, q4⟩ := q
        exact ⟨a, q1, q2, q3, q4.mono gv (keepc a q1)⟩
      | scr ns =>
        obtain ⟨q0, a, q1, q2⟩ := q
        exact ⟨q0, a, q1, Sub.seqL gv q2⟩
    · have q := R0.sl j t0 o x w2 h2 h3
      rcases w3 with ⟨c, w4, rfl⟩ | ⟨ns, ms, w4, rfl, rfl⟩
      · obtain ⟨a, u1, u2⟩ := f.par k c w4
        obtain ⟨i, u3, u4⟩ := pa_cell k a u1
        rw [w1] at u3
        cases u3
        rw [h2] at u4
        cases u4
        have u2' : CellOk K (vis (F.hides (extra r v ++ F.B0)) α H1) H1 a c := u2.mono (hid_less (Sub.refl _) fun b hb => .inl (by
          rcases List.mem_append.mp hb with z | z
          · rcases List.mem_append.mp z with z | z
            · exact List.mem_append_left _ z
            · exact List.mem_append_right _ (List.mem_append_left _ z)
          · exact List.mem_append_right _ (List.mem_append_right _ z))) fun _ z => z
        cases t0 with
        | own c0 =>
          obtain ⟨a', q1, q2, q3, q4⟩ := q
          cases q1
          exact ⟨a, rfl, q2, ⟨q3.1, nex a q3.2 (q4.there)⟩, u2'⟩
        | par c0 =>
          obtain ⟨a', q1, q2, q3, q4⟩ := q
          cases q1
          exact ⟨a, rfl, q2, q3, u2'⟩
        | un => cases q
        | sh d => cases q.1
        | scr ns => cases q.1
      · obtain ⟨q0, a, q1, q2⟩ := q
        exact ⟨q0, a, q1, Sub.seqL gv q2⟩
  · rcases List.mem_append.mp hb with z | z
    · exact (hex b z).2
    · exact g.tk b (R0.tb b z)
  · refine f.keep a o (R0.fr a o e n) fun j z => ?_
    obtain ⟨i, _, w⟩ := pa_cell j a z
    rcases R0.ow i a w with w | w
    · exact n i w
    · have e : F.H0 a = some o := e
      rw [w] at e
      cases e
theorem fin_post {H0 H1 : Hp} {α0 : List (Option Addr)} {as : List A} {ss' τ2 : List S} {r : R} {v : V} (R0 : Rel K F α τ σ H) (R2 : Rel K (F.hides (extra r v ++ F.B0)) α τ2 σ H1) (g0 : Grow α0 H0 α H) (g : Grow α H α H1)
    (f : Fin K (F.callee α H as) ss' H r v H1) : Post K F α0 H0 τ2 σ v α H1 r := by
  have q := f.res
  cases r with
  | v d => exact ⟨R2, g0.trans g, q⟩
  | fl ds =>
    obtain ⟨a, vs, rfl, h0, h1, h2⟩ := q
    have h00 : H0 a = none := by
      cases e : H0 a with
      | none => rfl
      | some o => exact absurd h0 (g0.tk a (by rw [e]; nofun))
    have na : a ∉ F.B0 ++ cells α := fun z => R0.tb2 a z h0
    exact ⟨a, vs, rfl, h00, R2, g0.trans g, h1, h2, fun z => na (List.mem_append_right _ z)⟩
end
section
variable {X : Cx} {CX : CXT} {k : Nat} {f : Addr} {fd : FuncData} {ps : List Str} {E : XK} {gf : GF} {ga : GA} {e : Expr} {es : List Expr}
/-- hp is pe_callG .. with the written arguments -/
theorem er_call (hp : ∀ {t}, PA X es t → PE X e (tCall (spT X.K gf) [] E t)) (ha : EvA X es ga) : EvR X e (gCall gf ga) := by
  obtain ⟨t, pt, st⟩ := ha
  refine ⟨_, hp pt, fun F α τ σ H r τ' Q R0 hg hq => ?_⟩
  unfold gCall at hg
  split at hg
  · cases hg
  rename_i as τ1 e1
  split at hg
  · rename_i nd
    split at hg
    · cases hg
    rename_i ss e2
    split at hg
    · cases hg
    rename_i r' ss' e3
    split at hg
    · cases hg
    rename_i τ2 e4
    cases hg
    refine st F α τ σ H as τ1 _ R0 e1 fun vs α1 H1 R1 g1 a1 => ?_
    rw [List.append_nil]
    refine ⟨F.callee α1 H1 as, _, ss, r, ss', begin_of R1 nd e2 a1, e3, fun v H2 f => ?_⟩
    obtain ⟨R2, g2⟩ := after_call R1 nd e2 e4 f
    exact hq v α1 H2 (fin_post R1 R2 g1 g2 f)
  · cases hg
end
end TL
set_option Elab.async false
set_option linter.all false
set_option maxRecDepth 100000
/-! TL9: statements. -/
namespace TL
open PySem PySem.Spec PyProof.Rows L2

inductive O where
  | nx (τ : List S) | rt (r : R) (τ : List S) | bk (τ : List S) | ct (τ : List S)
abbrev GS := List S → Option O
def EndOk (K : PySem.W.Frag) (F : Fr) (α : List (Option Addr)) (H : Hp) (D : Ends) : O → Prop
  | .nx τ' => ∀ α' σ' H', Rel K F α' τ' σ' H' → Grow α H α' H' → D.nx σ' H'
  | .bk τ' => ∀ α' σ' H', Rel K F α' τ' σ' H' → Grow α H α' H' → D.bk σ' H'
  | .ct τ' => ∀ α' σ' H', Rel K F α' τ' σ' H' → Grow α H α' H' → D.ct σ' H'
  | .rt r τ' => ∀ v σ' α' H', Post K F α H τ' σ' v α' H' r → D.rt v H'
def StD (X : Cx) (st : Stmt) (g : GS) : Prop := ∃ t, PS X st t ∧ ∀ F α τ σ H o D, Rel X.K F α τ σ H → g τ = some o → EndOk X.K F α H D o → t D σ H
def StsD (X : Cx) (sts : List Stmt) (g : GS) : Prop := ∃ t, PSs X sts t ∧ ∀ F α τ σ H o D, Rel X.K F α τ σ H → g τ = some o → EndOk X.K F α H D o → t D σ H
section
variable {K : PySem.W.Frag} {F : Fr} {α α' α1 : List (Option Addr)} {τ τ' : List S} {σ σ' : L2.St} {H H' H1 : Hp}
theorem Post.trans {v : V} {r : R} (g : Grow α H α1 H1) (p : Post K F α1 H1 τ' σ v α' H' r) : Post K F α H τ' σ v α' H' r := by
  cases r with
  | v d => exact ⟨p.1, g.trans p.2.1, p.2.2⟩
  | fl ds =>
    obtain ⟨a, vs, e, h0, h1, h2, h3⟩ := p
    refine ⟨a, vs, e, ?_, h1, g.trans h2, h3⟩
    cases q : H a with
    | none => rfl
    | some o => exact absurd h0 (g.tk a (by rw [q]; nofun))
theorem EndOk.step {D : Ends} {o : O} (g : Grow α H α1 H1) (e : EndOk K F α H D o) : EndOk K F α1 H1 D o := by
  cases o with
  | nx τ' => exact fun α' σ' H' R g' => e α' σ' H' R (g.trans g')
  | bk τ' => exact fun α' σ' H' R g' => e α' σ' H' R (g.trans g')
  | ct τ' => exact fun α' σ' H' R g' => e α' σ' H' R (g.trans g')
  | rt r τ' => exact fun v σ' α' H' p => e v σ' α' H' (p.trans g)
end

def gSkip : GS := fun τ => some (.nx τ)
def gSeq (g h : GS) : GS := fun τ => match g τ with
  | some (.nx τ1) => h τ1
  | x => x
def gDrop (g : GE) : GS := fun τ => match g τ with
  | some (_, τ1) => some (.nx τ1)
  | none => none
def gRet (g : GR) : GS := fun τ => match g τ with
  | some (r, τ1) => some (.rt r τ1)
  | none => none
def gIfS (c : GB) (g h : GS) : GS := fun τ => match c τ with
  | some (true, τ1) => g τ1
  | some (false, τ1) => h τ1
  | none => none
def gNever : GS := fun _ => none
/-- store a result -/
def R.slot : R → S
  | .v d => .sh d
  | .fl ds => .own (.lst ds)
def setS (i : Nat) (s : S) (τ : List S) : Option (List S) := match τ[i]? with
  | some t => if t.free = true then some (τ.set i s) else none
  | none => none
def gSet (i : Nat) (g : GR) : GS := fun τ => match g τ with
  | some (r, τ1) => match setS i r.slot τ1 with
    | some τ2 => some (.nx τ2)
    | none => none
  | none => none
section
variable {X : Cx} {st : Stmt} {rest : List Stmt} {g h : GS} {e : Expr} {ge : GE} {gr : GR} {pos : Pos}
theorem ss_nil : StsD X [] gSkip := ⟨_, pss_nil, fun F α τ σ H o D R0 hg hq => by
  cases hg
  exact hq α σ H R0 Grow.refl⟩
theorem seq_ok {t u : TS} {F : Fr} {α : List (Option Addr)} {τ : List S} {σ : L2.St} {H : Hp} {o : O} {D : Ends}
    (h1 : ∀ F α τ σ H o D, Rel X.K F α τ σ H → g τ = some o → EndOk X.K F α H D o → t D σ H) (h2 : ∀ F α τ σ H o D, Rel X.K F α τ σ H → h τ = some o → EndOk X.K F α H D o → u D σ H)
    (R0 : Rel X.K F α τ σ H) (hg : gSeq g h τ = some o) (hq : EndOk X.K F α H D o) : tSeq t u D σ H := by
  unfold gSeq at hg
  split at hg
  · rename_i τ1 e1
    refine h1 F α τ σ H (.nx τ1) _ R0 e1 fun α1 σ1 H1 R1 g1 => ?_
    exact h2 F α1 τ1 σ1 H1 o D R1 hg (hq.step g1)
  · rename_i x hx
    refine h1 F α τ σ H o _ R0 hg ?_
    cases o with
    | nx τ' => exact absurd hg (hx τ')
    | bk τ' => exact hq
    | ct τ' => exact hq
    | rt r τ' => exact hq
theorem ss_cons (h1 : StD X st g) (h2 : StsD X rest h) : StsD X (st :: rest) (gSeq g h) := by
  obtain ⟨t, pt, st⟩ := h1
  obtain ⟨u, pu, su⟩ := h2
  exact ⟨_, pss_cons pt pu, fun F α τ σ H o D R0 hg hq => seq_ok st su R0 hg hq⟩
theorem ss_one (h1 : StD X st g) : StsD X [st] g := by
  obtain ⟨t, pt, st⟩ := h1
  exact ⟨_, pss_one pt, st⟩
theorem sd_pass : StD X (.Pass pos) gSkip := ⟨_, ps_pass, fun F α τ σ H o D R0 hg hq => by
  cases hg
  exact hq α σ H R0 Grow.refl⟩
theorem sd_break : StD X (.Break pos) (fun τ => some (.bk τ)) := ⟨_, ps_break, fun F α τ σ H o D R0 hg hq => by
  cases hg
  exact hq α σ H R0 Grow.refl⟩
theorem sd_continue : StD X (.Continue pos) (fun τ => some (.ct τ)) := ⟨_, ps_continue, fun F α τ σ H o D R0 hg hq => by
  cases hg
  exact hq α σ H R0 Grow.refl⟩
theorem sd_never : StD X st gNever := ⟨_, ps_never, fun F α τ σ H o D R0 hg hq => by cases hg⟩
theorem sd_expr (he : EvD X e ge) (hs : swapsWith e none pos.line X.env = pure false := by rfl) : StD X (.Expr e pos) (gDrop ge) := by
  obtain ⟨t, pt, st⟩ := he
  refine ⟨_, ps_expr pt hs, fun F α τ σ H o D R0 hg hq => ?_⟩
  unfold gDrop at hg
  split at hg
  · rename_i d τ1 e1
    cases hg
    exact st F α τ σ H _ τ1 _ R0 e1 fun v α1 H1 R1 g1 d1 => hq α1 σ H1 R1 g1
  · cases hg
theorem sd_ret (he : EvR X e gr) : StD X (.Return (some e) pos) (gRet gr) := by
  obtain ⟨t, pt, st⟩ := he
  refine ⟨_, ps_ret pt, fun F α τ σ H o D R0 hg hq => ?_⟩
  unfold gRet at hg
  split at hg
  · rename_i r τ1 e1
    cases hg
    exact st F α τ σ H _ τ1 _ R0 e1 fun v α1 H1 p => hq v σ α1 H1 p
  · cases hg
theorem sd_retN : StD X (.Return none pos) (fun τ => some (.rt (.v .non) τ)) := ⟨_, ps_retN, fun F α τ σ H o D R0 hg hq => by
  cases hg
  exact hq .non σ α H ⟨R0, Grow.refl, Den.non'⟩⟩
theorem sd_if {c : Expr} {a b : List Stmt} {gc : GB} (hc : EvT X c gc) (ha : StsD X a g) (hb : StsD X b h) : StD X (.If c a b pos) (gIfS gc g h) := by
  obtain ⟨tc, pc, sc⟩ := hc
  obtain ⟨ta, pa, sa⟩ := ha
  obtain ⟨tb, pb, sb⟩ := hb
  refine ⟨_, ps_if pc pa pb, fun F α τ σ H o D R0 hg hq => ?_⟩
  unfold gIfS at hg
  split at hg
  · rename_i τ1 e1
    refine sc F α τ σ H true τ1 _ R0 e1 fun α1 H1 R1 g1 => ?_
    rw [if_pos rfl]
    exact sa F α1 τ1 σ H1 o D R1 hg (hq.step g1)
  · rename_i τ1 e1
    refine sc F α τ σ H false τ1 _ R0 e1 fun α1 H1 R1 g1 => ?_
    rw [if_neg Bool.false_ne_true]
    exact sb F α1 τ1 σ H1 o D R1 hg (hq.step g1)
  · cases hg
/-- what is stored, where it is hidden meanwhile -/
theorem Post.store {K : PySem.W.Frag} {F : Fr} {α α' : List (Option Addr)} {τ' τ2 : List S} {σ : L2.St} {H H' : Hp} {v : V} {r : R} {i : Nat} (R0 : Rel K F α τ' σ H ∨ ∃ τ, Rel K F α τ σ H) (p : Post K F α H τ' σ v α' H' r) (hs : setS i r.slot τ' = some τ2) :
    ∃ α2, Rel K F α2 τ2 (σ.set i (some v)) H' ∧ Grow α H α2 H' := by
  have tk0 : (∀ b, F.H0 b ≠ none → H b ≠ none) ∧ ∀ b ∈ F.B0, H b ≠ none := by
    rcases R0 with R0 | ⟨τ, R0⟩
    · exact ⟨R0.tk, R0.tb⟩
    · exact ⟨R0.tk, R0.tb⟩
  unfold setS at hs
  split at hs
  · rename_i t et
    split at hs
    · rename_i hf
      cases hs
      cases r with
      | v d =>
        obtain ⟨p1, p2, p3⟩ := p
        have R1 : Rel K (F.hides F.B0) α' τ' σ H' := p1
        refine ⟨α'.set i none, R1.store (F := F) (fun b hb => hb) et hf ⟨rfl, v, rfl, ?_⟩ nofun, p2.trans Grow.drop⟩
        refine Den.mono (hid_less (Sub.refl _) fun b hb => .inl ?_) _ _ p3
        rcases List.mem_append.mp hb with z | z
        · exact List.mem_append_left _ z
        · exact List.mem_append_right _ (cells_set_none z)
      | fl ds =>
        obtain ⟨a, vs, rfl, h0, p1, p2, p3, p4, p5⟩ := p
        have n0 : F.H0 a = none := by
          cases q : F.H0 a with
          | none => rfl
          | some o => exact absurd h0 (tk0.1 a (by rw [q]; nofun))
        have nb : a ∉ F.B0 := fun z => tk0.2 a z h0
        have ht : H' a ≠ none := by
          rw [p3]
          nofun
        have mem : ∀ b, b ∈ cells (α'.set i (some a)) → b ∈ cells α' ∨ b = a := fun b hb => by
          obtain ⟨j, e⟩ := mem_cells.mp hb
          by_cases hj : i = j
          · subst hj
            rw [List.getElem?_set] at e
            rw [if_pos rfl] at e
            split at e
            · exact .inr (Option.some.inj (Option.some.inj e)).symm
            · cases e
          · rw [List.getElem?_set_ne hj] at e
            exact .inl (mem_cells.mpr ⟨j, e⟩)
        refine ⟨α'.set i (some a), p1.store (F := F) (fun b hb => List.mem_cons_of_mem _ hb) et hf ⟨a, rfl, rfl, ⟨n0, nb⟩, vs, p3, ?_⟩ (fun b hb => ?_), ⟨p2.keep, fun b hb => ?_, p2.tk⟩⟩
        · refine DenL.mono (hid_less (Sub.refl _) fun b hb => .inl ?_) _ _ p4
          rcases List.mem_append.mp hb with z | z
          · exact List.mem_append_left _ (List.mem_cons_of_mem _ z)
          · rcases mem b z with z | z
            · exact List.mem_append_right _ z
            · exact List.mem_append_left _ (z ▸ List.mem_cons_self)
        · cases hb
          exact ⟨n0, ht, List.mem_cons_self, p5⟩
        · rcases mem b hb with z | z
          · exact p2.new b z
          · exact .inr (z ▸ h0)
    · cases hs
  · cases hs
/-- name = e -/
theorem sd_set {i : Nat} {x : Str} {pos' : Pos} (hN : X.N.Nodup) (hi : X.N[i]? = some x) (hx : Loc X.env.scope x) (he : EvR X e gr) (hs : swapsWith e (some (.Name x pos')) pos.line X.env = pure false := by rfl)
    (hf : X.fn x = true ∨ X.env.scope.names.lookup x = some .local := by first | exact .inl rfl | exact .inr rfl | assumption) : StD X (.Assign [.Name x pos'] e pos) (gSet i gr) := by
  obtain ⟨t, pt, st⟩ := he
  refine ⟨_, ps_set hN hi hx pt hs hf, fun F α τ σ H o D R0 hg hq => ?_⟩
  unfold gSet at hg
  split at hg
  · rename_i r τ1 e1
    split at hg
    · rename_i τ2 e2
      cases hg
      refine st F α τ σ H r τ1 _ R0 e1 fun v α1 H1 p => ?_
      obtain ⟨α2, R2, g2⟩ := p.store (.inr ⟨τ, R0⟩) e2
      exact hq α2 _ H1 R2 g2
    · cases hg
  · cases hg
/-- x op= e, x a tree -/
def gAug (i : Nat) (f : D → D → Option D) (ge : GE) : GS := fun τ => match τ[i]? with
  | some (.sh a) => match ge τ with
    | some (b, τ1) => match f a b with
      | some d => match setS i (.sh d) τ1 with
        | some τ2 => some (.nx τ2)
        | none => none
      | none => none
    | none => none
  | _ => none
theorem sd_aug {i : Nat} {x : Str} {pos' : Pos} {op : Operator} {r : R2} {f : D → D → Option D} (hN : X.N.Nodup) (hi : X.N[i]? = some x) (hx : Loc X.env.scope x) (ho : OpR X (inplaceOp op) r) (hf2 : Op2 X.K r f) (he : EvD X e ge)
    (hf : X.fn x = true ∨ X.env.scope.names.lookup x = some .local := by first | exact .inl rfl | exact .inr rfl | assumption) : StD X (.AugAssign (.Name x pos') op e pos) (gAug i f ge) := by
  obtain ⟨t, pt, st⟩ := he
  refine ⟨_, ps_aug (ti := r) hN hi hx pt ho hf, fun F α τ σ H o D R0 hg hq => ?_⟩
  unfold gAug at hg
  split at hg
  · rename_i a e0
    split at hg
    · rename_i b τ1 e1
      split at hg
      · rename_i d e2
        split at hg
        · rename_i τ2 e3
          cases hg
          obtain ⟨u, h1, h2⟩ := R0.sh e0
          refine ⟨u, h1, st F α τ σ H b τ1 _ R0 e1 fun v α1 H1 R1 g1 d1 => ?_⟩
          refine hf2 _ H1 a b d u v _ R1.tb2 (Den.mono g1.vis _ _ h2) d1 e2 fun w H2 s2 dw => ?_
          have p : Post X.K F α H τ1 σ w α1 H2 (.v d) := ⟨R1.sub s2, g1.trans (Grow.of_sub s2), dw⟩
          obtain ⟨α2, R2, g2⟩ := p.store (.inr ⟨τ, R0⟩) e3
          exact hq α2 _ H2 R2 g2
        · cases hg
      · cases hg
    · cases hg
  · cases hg
/-! ### changes of a mutable list -/
/-- a cell of slot i gets c -/
def putC (i : Nat) (c : C) (τ : List S) : Option (List S) := match τ[i]? with
  | some s => match s.cell with
    | some _ => some (τ.set i (s.put c))
    | none => none
  | none => none
theorem Rel.putC {K : PySem.W.Frag} {F : Fr} {α : List (Option Addr)} {τ τ2 : List S} {σ : L2.St} {H : Hp} {i : Nat} {c : C} {vs' : List V} {xs' : List D} (R0 : Rel K F α τ σ H) (h : TL.cellAt τ i = some c) (hp : putC i (.lst xs') τ = some τ2) :
    ∃ a, σ[i]? = some (some (.ref a)) ∧ CellOk K (vis F α H) H a c ∧ (DenL K (vis F α H) xs' vs' → Rel K F α τ2 σ (L2.upd H a (.lst vs')) ∧ Grow α H α (L2.upd H a (.lst vs'))) := by
  obtain ⟨s, a, h1, h2, h3, h4, h5⟩ := R0.cellAt h
  unfold TL.putC at hp
  rw [h1] at hp
  simp only [h2] at hp
  cases hp
  have hm : a ∈ cells α := mem_cells.mpr ⟨i, h3⟩
  exact ⟨a, h4, h5, fun hd => ⟨R0.put h1 h2 h3 ⟨vs', upd_same, DenL.mono (vis_upd_cell hm) _ _ hd⟩, Grow.cell hm⟩⟩
/-- x.append(e) -/
def gAppend (i : Nat) (ge : GE) : GE := fun τ => match cellAt τ i with
  | none => none
  | some _ => match ge τ with
    | none => none
    | some (d, τ1) => match cellAt τ1 i with
      | some (.lst xs) => if xs.length < line then match putC i (.lst (xs ++ [d])) τ1 with
        | some τ2 => some (.non, τ2)
        | none => none else none
      | none => none
theorem ed_append {a : Expr} {i : Nat} (ha : EvD X a ge) (hs : starEach [a] X.env = (false, eval a X.env) :: starEach [] X.env)
    (hp : ∀ {t}, PA X [a] t → PE X e (tBM X.K "list" rAppend (tVar i) t)) : EvD X e (gAppend i ge) := by
  obtain ⟨t, pt, st⟩ := ha
  refine ⟨_, hp (pa_cons pt pa_nil hs), fun F α τ σ H d τ' Q R0 hg hq => ?_⟩
  unfold gAppend at hg
  split at hg
  · cases hg
  rename_i c0 e0
  split at hg
  · cases hg
  rename_i d1 τ1 e1
  split at hg
  · rename_i xs e2
    split at hg
    · rename_i hz
      split at hg
      · rename_i τ2 e3
        cases hg
        obtain ⟨s, p, _, _, _, h4, c5⟩ := R0.cellAt e0
        refine ⟨.ref p, h4, ?_, st F α τ σ H d1 τ1 _ R0 e1 fun v α1 H1 R1 g1 dv => ?_⟩
        · cases c0 with
          | lst ys =>
            obtain ⟨vs, h5, _⟩ := c5
            exact .inl ⟨rfl, _, .of h5⟩
        · obtain ⟨_, _, _, _, _, h4', vs, h6, h7⟩ := R1.cellAt e2
          obtain ⟨p', h8, _, h11⟩ := R1.putC (vs' := vs ++ [v]) e2 e3
          rw [h4] at h8 h4'
          cases h8
          cases h4'
          obtain ⟨R2, g2⟩ := h11 (DenL.append h7 (DenL.cons dv DenL.nil))
          exact ⟨p, vs, v, rfl, rfl, h6, by rw [h7.length, sizeLine_eq]; exact hz, hq _ α1 _ R2 (g1.trans g2) Den.non'⟩
      · cases hg
    · cases hg
  · cases hg
/-- x.pop() -/
def gPop (i : Nat) : GE := fun τ => match cellAt τ i with
  | some (.lst xs) => match xs[xs.length - 1]? with
    | some d => match putC i (.lst xs.dropLast) τ with
      | some τ2 => some (d, τ2)
      | none => none
    | none => none
  | none => none
theorem DenL.dropLast {K : PySem.W.Frag} {G : Hp} {ds : List D} {vs : List V} (h : DenL K G ds vs) : DenL K G ds.dropLast vs.dropLast := by
  rw [List.dropLast_eq_take, List.dropLast_eq_take, h.length]
  exact DenL.take _ h
theorem ed_pop {i : Nat} (hp : PE X e (tBM0 X.K "list" rPop (tVar i))) : EvD X e (gPop i) := by
  refine ⟨_, hp, fun F α τ σ H d τ' Q R0 hg hq => ?_⟩
  unfold gPop at hg
  split at hg
  · rename_i xs e0
    split at hg
    · rename_i d1 e1
      split at hg
      · rename_i τ2 e3
        cases hg
        obtain ⟨_, p, _, _, _, h4, vs, h6, h7⟩ := R0.cellAt e0
        obtain ⟨p', h8, _, h11⟩ := R0.putC (vs' := vs.dropLast) e0 e3
        rw [h4] at h8
        cases h8
        obtain ⟨v, h9, h10⟩ := h7.get e1
        obtain ⟨R2, g2⟩ := h11 h7.dropLast
        exact ⟨.ref p, h4, .inl ⟨rfl, _, .of h6⟩, p, vs, v, rfl, rfl, h6, by rw [h7.length]; exact h9, hq v α _ R2 g2 (Den.mono g2.vis _ _ h10)⟩
      · cases hg
    · cases hg
  · cases hg
/-- x.pop(k) -/
def gPopAt (i : Nat) (gk : GE) : GE := fun τ => match cellAt τ i with
  | none => none
  | some _ => match gk τ with
    | some (.int k, τ1) => match cellAt τ1 i with
      | some (.lst xs) => if -(2 ^ 63) ≤ k ∧ k < 2 ^ 63 then match seqIndex? k xs.length with
        | some j => match xs[j]? with
          | some d => match putC i (.lst (xs.eraseIdx j)) τ1 with
            | some τ2 => some (d, τ2)
            | none => none
          | none => none
        | none => none else none
      | none => none
    | _ => none
theorem ed_popAt {a : Expr} {i : Nat} (ha : EvD X a ge) (hs : starEach [a] X.env = (false, eval a X.env) :: starEach [] X.env)
    (hp : ∀ {t}, PA X [a] t → PE X e (tBM X.K "list" rPopAt (tVar i) t)) : EvD X e (gPopAt i ge) := by
  obtain ⟨t, pt, st⟩ := ha
  refine ⟨_, hp (pa_cons pt pa_nil hs), fun F α τ σ H d τ' Q R0 hg hq => ?_⟩
  unfold gPopAt at hg
  split at hg
  · cases hg
  rename_i c0 e0
  split at hg
  · rename_i k τ1 e1
    split at hg
    · rename_i xs e2
      split at hg
      · rename_i hz
        split at hg
        · rename_i j ej
          split at hg
          · rename_i d1 ed
            split at hg
            · rename_i τ2 e3
              cases hg
              obtain ⟨s, p, _, _, _, h4, c5⟩ := R0.cellAt e0
              refine ⟨.ref p, h4, ?_, st F α τ σ H _ τ1 _ R0 e1 fun v α1 H1 R1 g1 dv => ?_⟩
              · cases c0 with
                | lst ys =>
                  obtain ⟨vs, h5, _⟩ := c5
                  exact .inl ⟨rfl, _, .of h5⟩
              · obtain ⟨_, _, _, _, _, h4', vs, h6, h7⟩ := R1.cellAt e2
                obtain ⟨p', h8, _, h11⟩ := R1.putC (vs' := vs.eraseIdx j) e2 e3
                rw [h4] at h8 h4'
                cases h8
                cases h4'
                obtain ⟨w, h9, h10⟩ := h7.get ed
                obtain ⟨R2, g2⟩ := h11 (h7.eraseIdx j)
                unfold Den at dv
                subst dv
                exact ⟨p, vs, k, j, w, rfl, rfl, h6, hz.1, hz.2, by rw [h7.length]; exact ej, h9, hq w α1 _ R2 (g1.trans g2) (Den.mono g2.vis _ _ h10)⟩
            · cases hg
          · cases hg
        · cases hg
      · cases hg
    · cases hg
  · cases hg
/-- x.extend(e) -/
def gExtend (i : Nat) (ge : GE) : GE := fun τ => match cellAt τ i with
  | none => none
  | some _ => match ge τ with
    | some (.lst ys, τ1) => match cellAt τ1 i with
      | some (.lst xs) => if xs.length + ys.length ≤ line then match putC i (.lst (xs ++ ys)) τ1 with
        | some τ2 => some (.non, τ2)
        | none => none else none
      | none => none
    | _ => none
theorem ed_extend {a : Expr} {i : Nat} (ha : EvD X a ge) (hs : starEach [a] X.env = (false, eval a X.env) :: starEach [] X.env)
    (hp : ∀ {t}, PA X [a] t → PE X e (tBM X.K "list" rExtend (tVar i) t)) : EvD X e (gExtend i ge) := by
  obtain ⟨t, pt, st⟩ := ha
  refine ⟨_, hp (pa_cons pt pa_nil hs), fun F α τ σ H d τ' Q R0 hg hq => ?_⟩
  unfold gExtend at hg
  split at hg
  · cases hg
  rename_i c0 e0
  split at hg
  · rename_i ys τ1 e1
    split at hg
    · rename_i xs e2
      split at hg
      · rename_i hz
        split at hg
        · rename_i τ2 e3
          cases hg
          obtain ⟨s, p, _, _, _, h4, c5⟩ := R0.cellAt e0
          refine ⟨.ref p, h4, ?_, st F α τ σ H _ τ1 _ R0 e1 fun v α1 H1 R1 g1 dv => ?_⟩
          · cases c0 with
            | lst ys =>
              obtain ⟨vs, h5, _⟩ := c5
              exact .inl ⟨rfl, _, .of h5⟩
          · obtain ⟨_, _, _, _, _, h4', vs, h6, h7⟩ := R1.cellAt e2
            obtain ⟨b, ws, rfl, hb, hw⟩ := (show Den X.K (hid (F.B0 ++ cells α1) H1) (.lst ys) v from dv).lst_inv
            obtain ⟨p', h8, _, h11⟩ := R1.putC (vs' := vs ++ ws) e2 e3
            rw [h4] at h8 h4'
            cases h8
            cases h4'
            obtain ⟨R2, g2⟩ := h11 (DenL.append h7 hw)
            exact ⟨p, b, vs, ws, rfl, rfl, h6, hb, by rw [h7.length, hw.length, sizeLine_eq]; exact hz, hq _ α1 _ R2 (g1.trans g2) Den.non'⟩
        · cases hg
      · cases hg
    · cases hg
  · cases hg
/-- x[k] = e -/
def gSetC (i : Nat) (gk ge : GE) : GS := fun τ => match ge τ with
  | none => none
  | some (d, τ1) => match cellAt τ1 i with
    | none => none
    | some _ => match gk τ1 with
      | some (.int k, τ2) => match cellAt τ2 i with
        | some (.lst xs) => match ixN xs.length k with
          | some j => match putC i (.lst (xs.set j d)) τ2 with
            | some τ3 => some (.nx τ3)
            | none => none
          | none => none
        | none => none
      | _ => none
theorem sd_setC {k : Expr} {gk : GE} {i : Nat} (hk : EvD X k gk) (he : EvD X e ge)
    (hp : ∀ {te tk}, PE X e te → PE X k tk → PS X st (tAsg te (gSub (tVar i) tk rSetL))) : StD X st (gSetC i gk ge) := by
  obtain ⟨te, pe, se⟩ := he
  obtain ⟨tk, pk, sk⟩ := hk
  refine ⟨_, hp pe pk, fun F α τ σ H o D R0 hg hq => ?_⟩
  unfold gSetC at hg
  split at hg
  · cases hg
  rename_i d τ1 e1
  split at hg
  · cases hg
  rename_i c0 e0
  split at hg
  · rename_i kk τ2 e2
    split at hg
    · rename_i xs e3
      split at hg
      · rename_i j ej
        split at hg
        · rename_i τ3 e4
          cases hg
          refine se F α τ σ H d τ1 _ R0 e1 fun v α1 H1 R1 g1 dv => ?_
          obtain ⟨s, p, _, _, _, h4, c5⟩ := R1.cellAt e0
          refine ⟨.ref p, h4, sk F α1 τ1 σ H1 _ τ2 _ R1 e2 fun w α2 H2 R2 g2 dk => ?_⟩
          obtain ⟨_, _, _, _, _, h4', vs, h6, h7⟩ := R2.cellAt e3
          obtain ⟨p', h8, _, h11⟩ := R2.putC (vs' := vs.set j v) e3 e4
          rw [h4] at h8 h4'
          cases h8
          cases h4'
          obtain ⟨R3, g3⟩ := h11 (DenL.set (Den.mono g2.vis _ _ dv) j h7)
          unfold Den at dk
          exact ⟨p, vs, kk, j, rfl, dk, h6, by rw [h7.length]; exact ej, hq α2 σ _ R3 (g1.trans (g2.trans g3))⟩
        · cases hg
      · cases hg
    · cases hg
  · cases hg
end
end TL
set_option Elab.async false
set_option linter.all false
set_option maxRecDepth 100000
/-! TLA: what is walked, targets, loops. -/
namespace TL
open PySem PySem.Spec PyProof.Rows L2

/-- the iterator J gives ds, one by one, wherever what G shows is seen -/
def JOk (K : PySem.W.Frag) (G : Hp) (J : It) (ds : List D) : Prop :=
  ∀ (B : List Addr) (H : Hp), (∀ b ∈ B, H b ≠ none) → Sub G (hid B H) → ∀ i : Nat, (∀ d, ds[i]? = some d → J.go i H ∧ ∀ x H', J.yld i H x H' → Sub H H' ∧ Den K (hid B H') d x) ∧ (ds.length ≤ i → J.stop i H)
def EvI (X : Cx) (tg iter : Expr) (g : GL) : Prop := ∃ wi, PI X tg iter wi ∧ ∀ F α τ σ H ds τ' (Q : It → Hp → Prop), Rel X.K F α τ σ H → g τ = some (ds, τ') → (∀ J α' H', Rel X.K F α' τ' σ H' → Grow α H α' H' → JOk X.K (vis F α' H') J ds → Q J H') → wi σ H Q
abbrev GT := D → List S → Option (List S)
/-- slots off is are as they were -/
def Off (is : List Nat) (σ σ' : L2.St) : Prop := σ'.length = σ.length ∧ ∀ j, j ∉ is → σ'[j]? = σ[j]?
def EvG (X : Cx) (tg : Expr) (is : List Nat) (g : GT) : Prop := ∃ t, PG X tg t ∧ ∀ F α τ σ H d v τ' (Q : L2.St → Hp → Prop), Rel X.K F α τ σ H → Den X.K (vis F α H) d v → g d τ = some τ' → (∀ α' σ' H', Rel X.K F α' τ' σ' H' → Grow α H α' H' → Off is σ σ' → Q σ' H') → t v σ H Q
def EvGs (X : Cx) (tgs : List Expr) (is : List Nat) (g : List D → List S → Option (List S)) : Prop := ∃ t, PGs X tgs t ∧ ∀ F α τ σ H ds vs τ' (Q : L2.St → Hp → Prop), Rel X.K F α τ σ H → DenL X.K (vis F α H) ds vs → g ds τ = some τ' → (∀ α' σ' H', Rel X.K F α' τ' σ' H' → Grow α H α' H' → Off is σ σ' → Q σ' H') → t vs σ H Q
def gtName (i : Nat) : GT := fun d τ => setS i (.sh d) τ
def gtNil : List D → List S → Option (List S) := fun ds τ => match ds with
  | [] => some τ
  | _ => none
def gtCons (g : GT) (gs : List D → List S → Option (List S)) : List D → List S → Option (List S) := fun ds τ => match ds with
  | d :: ds => match g d τ with
    | some τ1 => gs ds τ1
    | none => none
  | _ => none
def gtTup (n : Nat) (gs : List D → List S → Option (List S)) : GT := fun d τ => match d with
  | .tup ds => if ds.length = n then gs ds τ else none
  | _ => none
section
variable {X : Cx} {pos : Pos}
theorem eg_name {i : Nat} {x : Str} (hN : X.N.Nodup) (hi : X.N[i]? = some x) (hx : Loc X.env.scope x) (hf : X.fn x = true ∨ X.env.scope.names.lookup x = some .local := by first | exact .inl rfl | exact .inr rfl | assumption) :
    EvG X (.Name x pos) [i] (gtName i) := ⟨_, pg_name hN hi hx hf, fun F α τ σ H d v τ' Q R0 dv hg hq => by
  have p : Post X.K F α H τ σ v α H (.v d) := ⟨R0, Grow.refl, dv⟩
  obtain ⟨α2, R2, g2⟩ := p.store (.inl R0) hg
  exact hq α2 _ H R2 g2 ⟨List.length_set, fun j hj => List.getElem?_set_ne fun z => hj (by rw [z]; exact List.mem_cons_self)⟩⟩
theorem egs_nil : EvGs X [] [] gtNil := ⟨_, pgs_nil, fun F α τ σ H ds vs τ' Q R0 dv hg hq => by
  unfold gtNil at hg
  split at hg
  · cases hg
    unfold DenL at dv
    exact ⟨dv, hq α σ H R0 Grow.refl ⟨rfl, fun _ _ => rfl⟩⟩
  · cases hg⟩
theorem egs_cons {e : Expr} {es : List Expr} {is js : List Nat} {g : GT} {gs : List D → List S → Option (List S)} (h1 : EvG X e is g) (h2 : EvGs X es js gs)
    (hs : (assignEach (e :: es) X.env).map (·.2) = assign e X.env :: (assignEach es X.env).map (·.2) := by rfl) : EvGs X (e :: es) (is ++ js) (gtCons g gs) := by
  obtain ⟨t, pt, st⟩ := h1
  obtain ⟨u, pu, su⟩ := h2
  refine ⟨_, pgs_cons pt pu hs, fun F α τ σ H ds vs τ' Q R0 dv hg hq => ?_⟩
  unfold gtCons at hg
  split at hg
  · rename_i d ds'
    split at hg
    · rename_i τ1 e1
      unfold DenL at dv
      obtain ⟨v, ws, rfl, d1, d2⟩ := dv
      refine ⟨v, ws, rfl, st F α τ σ H d v τ1 _ R0 d1 e1 fun α1 σ1 H1 R1 g1 o1 => ?_⟩
      refine su F α1 τ1 σ1 H1 ds' ws τ' _ R1 (DenL.mono g1.vis _ _ d2) hg fun α2 σ2 H2 R2 g2 o2 => ?_
      exact hq α2 σ2 H2 R2 (g1.trans g2) ⟨o2.1.trans o1.1, fun j hj => (o2.2 j fun z => hj (List.mem_append_right _ z)).trans (o1.2 j fun z => hj (List.mem_append_left _ z))⟩
    · cases hg
  · cases hg
theorem eg_tup {es : List Expr} {is : List Nat} {gs : List D → List S → Option (List S)} {k n : Nat} (hc : X.calm = true) (h : EvGs X es is gs)
    (hn : (assignEach es X.env).length = n := by rfl) (hst : (assignEach es X.env).findIdx? (·.1) = none := by rfl) : EvG X (.Tuple es k pos) is (gtTup n gs) := by
  obtain ⟨t, pt, st⟩ := h
  refine ⟨_, pg_tup hc pt hn hst, fun F α τ σ H d v τ' Q R0 dv hg hq => ?_⟩
  unfold gtTup at hg
  split at hg
  · rename_i ds
    split at hg
    · rename_i hl
      obtain ⟨p, vs, rfl, h1, h2⟩ := (show Den X.K (hid _ H) (.tup ds) v from dv).tup_inv
      exact ⟨p, vs, rfl, h1, by rw [h2.length, hl], st F α τ σ H ds vs τ' Q R0 h2 hg hq⟩
    · cases hg
  · cases hg
/-- target = e, e a tree -/
def gAsg (ge : GE) (gt : GT) : GS := fun τ => match ge τ with
  | some (d, τ1) => match gt d τ1 with
    | some τ2 => some (.nx τ2)
    | none => none
  | none => none
theorem sd_asg {tg e : Expr} {ge : GE} {gt : GT} {is : List Nat} (he : EvD X e ge) (hg : EvG X tg is gt) (hs : swapsWithSole [tg] e pos.line X.env = pure false := by rfl) (hw : swappedStores [tg] e X.env = pure none := by rfl)
    (h1 : (assignEach [tg] X.env).map (·.2) = [assign tg X.env] := by rfl) : StD X (.Assign [tg] e pos) (gAsg ge gt) := by
  obtain ⟨t, pt, st⟩ := he
  obtain ⟨u, pu, su⟩ := hg
  refine ⟨_, ps_asg pt pu hs hw h1, fun F α τ σ H o D R0 hg hq => ?_⟩
  unfold gAsg at hg
  split at hg
  · rename_i d τ1 e1
    split at hg
    · rename_i τ2 e2
      cases hg
      refine st F α τ σ H d τ1 _ R0 e1 fun v α1 H1 R1 g1 d1 => ?_
      exact su F α1 τ1 σ H1 d v τ2 _ R1 d1 e2 fun α2 σ2 H2 R2 g2 _ => hq α2 σ2 H2 R2 (g1.trans g2)
    · cases hg
  · cases hg

/-! ### what is walked -/
theorem PI.or {tg iter : Expr} {w w' : TI} (h : PI X tg iter w) (h' : PI X tg iter w') : PI X tg iter (fun σ H R => w σ H R ∨ w' σ H R) := ⟨fun pins s σ H R I q => by
  rcases q with q | q
  · exact h.run pins s σ H R I q
  · exact h'.run pins s σ H R I q⟩
def gIt (ge : GE) : GL := fun τ => match ge τ with
  | some (.lst ds, τ1) => some (ds, τ1)
  | some (.tup ds, τ1) => some (ds, τ1)
  | some (.str x, τ1) => some (x.cps.toList.map fun c => .str ⟨#[c]⟩, τ1)
  | _ => none
variable {K : PySem.W.Frag}
theorem j_lst {G : Hp} {a : Addr} {vs : List V} {ds : List D} (h1 : G a = some (.lst vs)) (h2 : DenL K G ds vs) : JOk K G (Itl K a) ds := fun B H hB hs i => by
  have hl : H a = some (.lst vs) := (hid_some.mp (hs _ _ h1)).2
  have uniq : ∀ xs, SqL K H a xs → True := fun _ _ => trivial
  refine ⟨fun d hd => ?_, fun hi => ⟨vs, .of hl, by rw [h2.length]; exact hi⟩⟩
  obtain ⟨v, hv, dv⟩ := h2.get hd
  refine ⟨⟨vs, v, .of hl, hv⟩, ?_⟩
  rintro x H' ⟨rfl, hx⟩
  have := hx vs (.of hl)
  rw [hv] at this
  cases this
  exact ⟨Sub.refl _, Den.mono hs _ _ dv⟩
theorem j_tup {G : Hp} {a : Addr} {vs : List V} {ds : List D} (h1 : SqT K G a vs) (h2 : DenL K G ds vs) : JOk K G (Itt K a) ds := fun B H hB hs i => by
  have hl : SqT K H a vs := Sub.seqT hid_sub (Sub.seqT hs h1)
  refine ⟨fun d hd => ?_, fun hi => ⟨vs, hl, by rw [h2.length]; exact hi⟩⟩
  obtain ⟨v, hv, dv⟩ := h2.get hd
  refine ⟨⟨vs, v, hl, hv⟩, ?_⟩
  rintro x H' ⟨rfl, hx⟩
  have := hx vs hl
  rw [hv] at this
  cases this
  exact ⟨Sub.refl _, Den.mono hs _ _ dv⟩
theorem ei_any {tg e : Expr} {ge : GE} (h : EvD X e ge) : EvI X tg e (gIt ge) := by
  obtain ⟨t, pt, st⟩ := h
  refine ⟨_, PI.or (pi_list pt) (PI.or (pi_tup pt) (pi_str pt)), fun F α τ σ H ds τ' Q R0 hg hq => ?_⟩
  unfold gIt at hg
  split at hg
  · rename_i e1
    cases hg
    refine .inl (st F α τ σ H _ τ' _ R0 e1 fun v α1 H1 R1 g1 d1 => ?_)
    unfold Den at d1
    obtain ⟨a, vs, rfl, h1, h2⟩ := d1
    exact ⟨a, rfl, ⟨vs, .of (hid_some.mp h1).2⟩, hq _ α1 H1 R1 g1 (j_lst h1 h2)⟩
  · rename_i e1
    cases hg
    refine .inr (.inl (st F α τ σ H _ τ' _ R0 e1 fun v α1 H1 R1 g1 d1 => ?_))
    unfold Den at d1
    obtain ⟨a, vs, rfl, h1, h2⟩ := d1
    exact ⟨a, rfl, ⟨vs, Sub.seqT hid_sub h1⟩, hq _ α1 H1 R1 g1 (j_tup h1 h2)⟩
  · rename_i x τ1 e1
    cases hg
    refine .inr (.inr (st F α τ σ H _ τ' _ R0 e1 fun v α1 H1 R1 g1 d1 => ?_))
    unfold Den at d1
    refine ⟨x, d1, hq _ α1 H1 R1 g1 fun B H2 hB hs i => ⟨fun d hd => ?_, fun hi => ?_⟩⟩
    · rw [List.getElem?_map] at hd
      cases q : x.cps.toList[i]? with
      | none => rw [q] at hd; cases hd
      | some c =>
        rw [q] at hd
        cases hd
        have q' : x.cps[i]? = some c := by simpa using q
        refine ⟨(Array.getElem?_eq_some_iff.mp q').1, ?_⟩
        rintro y H' ⟨rfl, c', hc, rfl⟩
        rw [q'] at hc
        cases hc
        exact ⟨Sub.refl _, Den.str'⟩
    · show x.cps.size ≤ i
      simpa using hi
  · cases hg
def rngD (lo hi : Int) : List D := (List.range (hi - lo).toNat).map fun (i : Nat) => .int (lo + i)
def gRng1 (gl : GL) : GL := fun τ => match gl τ with
  | some ([.int j], τ1) => if -(2 ^ 62) ≤ j ∧ j < 2 ^ 62 then some (rngD 0 j, τ1) else none
  | _ => none
def gRng2 (gl : GL) : GL := fun τ => match gl τ with
  | some ([.int i, .int j], τ1) => if -(2 ^ 62) ≤ i ∧ i < 2 ^ 62 ∧ -(2 ^ 62) ≤ j ∧ j < 2 ^ 62 then some (rngD i j, τ1) else none
  | _ => none
theorem j_rng {G : Hp} (lo : Int) (n : Nat) : JOk K G (Itr lo n) ((List.range n).map fun (i : Nat) => .int (lo + i)) := fun B H hB hs i => by
  refine ⟨fun d hd => ?_, fun hi => by
    show n ≤ i
    simpa using hi⟩
  rw [List.getElem?_map] at hd
  cases q : (List.range n)[i]? with
  | none => rw [q] at hd; cases hd
  | some j =>
    rw [q] at hd
    cases hd
    obtain ⟨h1, h2⟩ := List.getElem?_eq_some_iff.mp q
    rw [List.getElem_range] at h2
    subst h2
    rw [List.length_range] at h1
    refine ⟨h1, ?_⟩
    rintro x H' ⟨rfl, rfl⟩
    exact ⟨Sub.refl _, Den.int'⟩
theorem ei_rng1 {tg a : Expr} {gl : GL} {p : Pos} (hg : Gl X "range") (hm : X.mg "range" = none) (ha : EvL X [a] gl) (hs : starEach [a] X.env = [(false, eval a X.env)] := by rfl) : EvI X tg (.Call (.Name "range" p) [a] [] pos) (gRng1 gl) := by
  obtain ⟨t, pt, st⟩ := ha
  refine ⟨_, pi_range1 hg hm pt hs, fun F α τ σ H ds τ' Q R0 hg hq => ?_⟩
  unfold gRng1 at hg
  split at hg
  · rename_i j τ1 e1
    split at hg
    · rename_i hz
      cases hg
      refine st F α τ σ H _ τ' _ R0 e1 fun v α1 H1 R1 g1 d1 => ?_
      obtain ⟨u, rfl, hu⟩ := d1.one
      unfold Den at hu
      subst hu
      refine ⟨j, rfl, hz.1, hz.2, hq _ α1 H1 R1 g1 ?_⟩
      have := j_rng (K := X.K) (G := vis F α1 H1) 0 j.toNat
      unfold rngD
      rw [Int.sub_zero]
      exact this
    · cases hg
  · cases hg
theorem ei_rng2 {tg a b : Expr} {gl : GL} {p : Pos} (hg : Gl X "range") (hm : X.mg "range" = none) (ha : EvL X [a, b] gl) (hs : starEach [a, b] X.env = (false, eval a X.env) :: [(false, eval b X.env)] := by rfl) (hs2 : starEach [b] X.env = [(false, eval b X.env)] := by rfl) :
    EvI X tg (.Call (.Name "range" p) [a, b] [] pos) (gRng2 gl) := by
  obtain ⟨t, pt, st⟩ := ha
  refine ⟨_, pi_range2 hg hm pt hs hs2, fun F α τ σ H ds τ' Q R0 hg hq => ?_⟩
  unfold gRng2 at hg
  split at hg
  · rename_i i j τ1 e1
    split at hg
    · rename_i hz
      cases hg
      refine st F α τ σ H _ τ' _ R0 e1 fun v α1 H1 R1 g1 d1 => ?_
      obtain ⟨u, w, rfl, hu, hw⟩ := d1.two
      unfold Den at hu hw
      subst hu hw
      exact ⟨i, j, rfl, hz, hq _ α1 H1 R1 g1 (j_rng i (j - i).toNat)⟩
    · cases hg
  · cases hg
def gEnum (gl : GL) : GL := fun τ => match gl τ with
  | some ([.lst ds], τ1) => some (ds.zipIdx.map fun p => .tup [.int (p.2 : Nat), p.1], τ1)
  | _ => none
theorem ei_enum {a : Expr} {gl : GL} {p tpos : Pos} {elts : List Expr} {kk : Nat} (hg : Gl X "enumerate") (hm : X.mg "enumerate" = none) (ha : EvL X [a] gl) (hs : starEach [a] X.env = [(false, eval a X.env)] := by rfl) :
    EvI X (.Tuple elts kk tpos) (.Call (.Name "enumerate" p) [a] [] pos) (gEnum gl) := by
  obtain ⟨t, pt, st⟩ := ha
  refine ⟨_, pi_enum hg hm pt hs, fun F α τ σ H ds τ' Q R0 hg hq => ?_⟩
  unfold gEnum at hg
  split at hg
  · rename_i xs τ1 e1
    cases hg
    refine st F α τ σ H _ τ' _ R0 e1 fun v α1 H1 R1 g1 d1 => ?_
    obtain ⟨u, rfl, hu⟩ := d1.one
    unfold Den at hu
    obtain ⟨a, vs, rfl, h1, h2⟩ := hu
    refine ⟨a, vs, rfl, .of (hid_some.mp h1).2, hq _ α1 H1 R1 g1 fun B H2 hB hs i => ⟨fun d hd => ?_, fun hi => ⟨vs, .of (hid_some.mp (hs _ _ h1)).2, by rw [h2.length]; simpa using hi⟩⟩⟩
    have hl : H2 a = some (.lst vs) := (hid_some.mp (hs _ _ h1)).2
    rw [List.getElem?_map] at hd
    cases q : xs.zipIdx[i]? with
    | none => rw [q] at hd; cases hd
    | some pr =>
      rw [q] at hd
      cases hd
      rw [List.getElem?_zipIdx] at q
      cases q2 : xs[i]? with
      | none => rw [q2] at q; cases q
      | some d =>
        rw [q2] at q
        cases q
        obtain ⟨v, hv, dv⟩ := h2.get q2
        refine ⟨⟨vs, v, .of hl, hv⟩, ?_⟩
        rintro x H' ⟨T, y, rfl, hT, rfl, hy⟩
        have := hy vs (.of hl)
        rw [hv] at this
        cases this
        refine ⟨sub_upd hT, Den.mk_tup hB hT (DenL.cons ?_ (DenL.cons (Den.mono hs _ _ dv) DenL.nil))⟩
        unfold Den
        simp
  · cases hg
/-- zip of two lists or of two tuples -/
def gZip (gl : GL) : GL := fun τ => match gl τ with
  | some ([.lst xs, .lst ys], τ1) => some ((xs.zip ys).map fun p => .tup [p.1, p.2], τ1)
  | some ([.tup xs, .tup ys], τ1) => some ((xs.zip ys).map fun p => .tup [p.1, p.2], τ1)
  | _ => none
theorem zip_at {xs ys : List D} {i : Nat} {d : D} (hd : ((xs.zip ys).map fun p => D.tup [p.1, p.2])[i]? = some d) : ∃ x y, xs[i]? = some x ∧ ys[i]? = some y ∧ d = .tup [x, y] := by
  rw [List.getElem?_map] at hd
  cases q : (xs.zip ys)[i]? with
  | none => rw [q] at hd; cases hd
  | some pr =>
    rw [q] at hd
    cases hd
    obtain ⟨h1, h2⟩ := List.getElem?_zip_eq_some.mp q
    exact ⟨_, _, h1, h2, rfl⟩
theorem ei_zip {a b : Expr} {gl : GL} {p tpos : Pos} {elts : List Expr} {kk : Nat} (hg : Gl X "zip") (hm : X.mg "zip" = none) (ha : EvL X [a, b] gl)
    (hs : starEach [a, b] X.env = (false, eval a X.env) :: starEach [b] X.env := by rfl) (hpl : (backTo pos (starEach [b] X.env)).any (·.1) = false := by rfl) :
    EvI X (.Tuple elts kk tpos) (.Call (.Name "zip" p) [a, b] [] pos) (gZip gl) := by
  obtain ⟨t, pt, st⟩ := ha
  refine ⟨_, RZ.pi_zipA hg hm pt hs hpl, fun F α τ σ H ds τ' Q R0 hg hq => ?_⟩
  unfold gZip at hg
  split at hg
  · rename_i xs ys τ1 e1
    cases hg
    refine st F α τ σ H _ τ' _ R0 e1 fun v α1 H1 R1 g1 d1 => ?_
    obtain ⟨u, w, rfl, hu, hw⟩ := d1.two
    unfold Den at hu hw
    obtain ⟨a, vs, rfl, h1, h2⟩ := hu
    obtain ⟨b, ws, rfl, h3, h4⟩ := hw
    refine ⟨a, b, vs, ws, rfl, .inl ⟨.of (hid_some.mp h1).2, .of (hid_some.mp h3).2, hq _ α1 H1 R1 g1 fun B H2 hB hs i => ?_⟩⟩
    have l1 : H2 a = some (.lst vs) := (hid_some.mp (hs _ _ h1)).2
    have l2 : H2 b = some (.lst ws) := (hid_some.mp (hs _ _ h3)).2
    refine ⟨fun d hd => ?_, fun hi => ⟨vs, ws, .of l1, .of l2, ?_⟩⟩
    · obtain ⟨x, y, e1, e2, rfl⟩ := zip_at hd
      obtain ⟨v, hv, dv⟩ := h2.get e1
      obtain ⟨w, hw, dw⟩ := h4.get e2
      refine ⟨⟨vs, ws, v, w, .of l1, .of l2, hv, hw⟩, ?_⟩
      rintro z H' ⟨T, p, q, rfl, hT, rfl, hp, hq'⟩
      have t1 := hp vs (.of l1)
      have t2 := hq' ws (.of l2)
      rw [hv] at t1
      rw [hw] at t2
      cases t1
      cases t2
      exact ⟨sub_upd hT, Den.mk_tup hB hT (DenL.cons (Den.mono hs _ _ dv) (DenL.cons (Den.mono hs _ _ dw) DenL.nil))⟩
    · rw [h2.length, h4.length]
      rw [List.length_map, List.length_zip] at hi
      omega
  · rename_i xs ys τ1 e1
    cases hg
    refine st F α τ σ H _ τ' _ R0 e1 fun v α1 H1 R1 g1 d1 => ?_
    obtain ⟨u, w, rfl, hu, hw⟩ := d1.two
    unfold Den at hu hw
    obtain ⟨a, vs, rfl, h1, h2⟩ := hu
    obtain ⟨b, ws, rfl, h3, h4⟩ := hw
    refine ⟨a, b, vs, ws, rfl, .inr ⟨Sub.seqT hid_sub h1, Sub.seqT hid_sub h3, hq _ α1 H1 R1 g1 fun B H2 hB hs i => ?_⟩⟩
    have l1 : SqT X.K H2 a vs := Sub.seqT hid_sub (Sub.seqT hs h1)
    have l2 : SqT X.K H2 b ws := Sub.seqT hid_sub (Sub.seqT hs h3)
    refine ⟨fun d hd => ?_, fun hi => ⟨vs, ws, l1, l2, ?_⟩⟩
    · obtain ⟨x, y, e1, e2, rfl⟩ := zip_at hd
      obtain ⟨v, hv, dv⟩ := h2.get e1
      obtain ⟨w, hw, dw⟩ := h4.get e2
      refine ⟨⟨vs, ws, v, w, l1, l2, hv, hw⟩, ?_⟩
      rintro z H' ⟨T, p, q, rfl, hT, rfl, hp, hq'⟩
      have t1 := hp vs l1
      have t2 := hq' ws l2
      rw [hv] at t1
      rw [hw] at t2
      cases t1
      cases t2
      exact ⟨sub_upd hT, Den.mk_tup hB hT (DenL.cons (Den.mono hs _ _ dv) (DenL.cons (Den.mono hs _ _ dw) DenL.nil))⟩
    · rw [h2.length, h4.length]
      rw [List.length_map, List.length_zip] at hi
      omega
  · cases hg

/-! ### for -/
def forLoop (gt : GT) (gb : GS) : List D → List S → Option O
  | [], τ => some (.nx τ)
  | d :: ds, τ => match gt d τ with
    | none => none
    | some τ1 => match gb τ1 with
      | some (.nx τ2) => forLoop gt gb ds τ2
      | some (.ct τ2) => forLoop gt gb ds τ2
      | some (.bk τ2) => some (.nx τ2)
      | some (.rt r τ2) => some (.rt r τ2)
      | none => none
def gFor (gi : GL) (gt : GT) (gb : GS) : GS := fun τ => match gi τ with
  | some (ds, τ1) => forLoop gt gb ds τ1
  | none => none
theorem sd_for {tg iter : Expr} {body : List Stmt} {gi : GL} {gt : GT} {gb : GS} {is : List Nat} (hp : PassesOwn (model X.prog X.w) X.A X.env X.xe) (hc : X.calm = true) (hi : EvI X tg iter gi) (hg : EvG X tg is gt) (hb : StsD X body gb)
    (hs : ∀ x, foldedSetIterable iter X.env x = pure x := by intro _; rfl) : StD X (.For tg iter body [] pos) (gFor gi gt gb) := by
  obtain ⟨wi, pi, si⟩ := hi
  obtain ⟨t, pt, st⟩ := hg
  obtain ⟨u, pu, su⟩ := hb
  refine ⟨_, ps_for hp hc pi pt pu hs, fun F α τ σ H o D R0 hg hq => ?_⟩
  unfold gFor at hg
  split at hg
  · rename_i ds τ1 e1
    refine si F α τ σ H ds τ1 _ R0 e1 fun J α1 H1 R1 g1 hJ => ?_
    refine ⟨fun i m σ' H' => m = ds.length - i ∧ i ≤ ds.length ∧ ∃ α' τ', Rel X.K F α' τ' σ' H' ∧ Grow α1 H1 α' H' ∧ forLoop gt gb (ds.drop i) τ' = some o, ⟨ds.length, by simp, Nat.zero_le _, α1, τ1, R1, Grow.refl, by rw [List.drop_zero]; exact hg⟩, ?_⟩
    rintro i m σ' H' ⟨rfl, hi, α', τ', R', g', hl⟩
    have hj := hJ (F.B0 ++ cells α') H' R'.tb2 g'.vis i
    by_cases hlt : i < ds.length
    · obtain ⟨hgo, hy⟩ := hj.1 ds[i] (List.getElem?_eq_getElem hlt)
      rw [List.drop_eq_getElem_cons hlt] at hl
      unfold forLoop at hl
      split at hl
      · cases hl
      rename_i τa ea
      refine .inr ⟨hgo, fun σ2 H2 => ∃ α2 τ2, Rel X.K F α2 τ2 σ2 H2 ∧ Grow α1 H1 α2 H2 ∧ forLoop gt gb (ds.drop (i + 1)) τ2 = some o, ?_, fun x H2 hx => ?_⟩
      · rintro σ2 H2 ⟨α2, τ2, w1, w2, w3⟩
        exact ⟨ds.length - (i + 1), by omega, rfl, hlt, α2, τ2, w1, w2, w3⟩
      · obtain ⟨hsub, hden⟩ := hy x H2 hx
        refine st F α' τ' σ' H2 ds[i] x τa _ (R'.sub hsub) hden ea fun α3 σ3 H3 R3 g3 _ => ?_
        have g13 : Grow α1 H1 α3 H3 := g'.trans ((Grow.of_sub hsub).trans g3)
        split at hl
        · rename_i τ2 eb
          exact su F α3 τa σ3 H3 (.nx τ2) _ R3 eb fun α4 σ4 H4 R4 g4 => ⟨α4, τ2, R4, g13.trans g4, hl⟩
        · rename_i τ2 eb
          exact su F α3 τa σ3 H3 (.ct τ2) _ R3 eb fun α4 σ4 H4 R4 g4 => ⟨α4, τ2, R4, g13.trans g4, hl⟩
        · rename_i τ2 eb
          cases hl
          exact su F α3 τa σ3 H3 (.bk τ2) _ R3 eb fun α4 σ4 H4 R4 g4 => hq α4 σ4 H4 R4 (g1.trans (g13.trans g4))
        · rename_i r τ2 eb
          cases hl
          exact su F α3 τa σ3 H3 (.rt r τ2) _ R3 eb fun v σ4 α4 H4 p => hq v σ4 α4 H4 (p.trans (g1.trans g13))
        · cases hl
    · have e : i = ds.length := by omega
      subst e
      rw [List.drop_length] at hl
      unfold forLoop at hl
      cases hl
      exact .inl ⟨hj.2 (Nat.le_refl _), hq α' σ' H' R' (g1.trans g')⟩
  · cases hg
/-! ### while -/
def whLoop (c : GB) (gb : GS) : Nat → List S → Option O
  | 0, _ => none
  | n + 1, τ => match c τ with
    | none => none
    | some (false, τ1) => some (.nx τ1)
    | some (true, τ1) => match gb τ1 with
      | some (.nx τ2) => whLoop c gb n τ2
      | some (.ct τ2) => whLoop c gb n τ2
      | some (.bk τ2) => some (.nx τ2)
      | some (.rt r τ2) => some (.rt r τ2)
      | none => none
def gWhile (n : List S → Nat) (c : GB) (gb : GS) : GS := fun τ => whLoop c gb (n τ) τ
theorem sd_while {c : Expr} {body : List Stmt} {gc : GB} {gb : GS} (n : List S → Nat) (hp : PassesOwn (model X.prog X.w) X.A X.env X.xe) (hc : EvT X c gc) (hb : StsD X body gb) : StD X (.While c body [] pos) (gWhile n gc gb) := by
  obtain ⟨tc, pc, sc⟩ := hc
  obtain ⟨u, pu, su⟩ := hb
  refine ⟨_, ps_while hp pc pu, fun F α τ σ H o D R0 hg hq => ?_⟩
  refine ⟨fun m σ' H' => ∃ α' τ', Rel X.K F α' τ' σ' H' ∧ Grow α H α' H' ∧ whLoop gc gb m τ' = some o, ⟨n τ, α, τ, R0, Grow.refl, hg⟩, ?_⟩
  rintro m σ' H' ⟨α', τ', R', g', hl⟩
  cases m with
  | zero =>
    unfold whLoop at hl
    cases hl
  | succ m =>
    unfold whLoop at hl
    split at hl
    · cases hl
    · rename_i τ1 e1
      cases hl
      refine sc F α' τ' σ' H' false τ1 _ R' e1 fun α2 H2 R2 g2 => ?_
      rw [if_neg Bool.false_ne_true]
      exact hq α2 σ' H2 R2 (g'.trans g2)
    · rename_i τ1 e1
      refine sc F α' τ' σ' H' true τ1 _ R' e1 fun α2 H2 R2 g2 => ?_
      rw [if_pos rfl]
      refine ⟨fun σ3 H3 => ∃ α3 τ3, Rel X.K F α3 τ3 σ3 H3 ∧ Grow α H α3 H3 ∧ whLoop gc gb m τ3 = some o, fun σ3 H3 hN => ⟨m, Nat.lt_succ_self m, hN⟩, ?_⟩
      have g13 := g'.trans g2
      split at hl
      · rename_i τ2 eb
        exact su F α2 τ1 σ' H2 (.nx τ2) _ R2 eb fun α4 σ4 H4 R4 g4 => ⟨α4, τ2, R4, g13.trans g4, hl⟩
      · rename_i τ2 eb
        exact su F α2 τ1 σ' H2 (.ct τ2) _ R2 eb fun α4 σ4 H4 R4 g4 => ⟨α4, τ2, R4, g13.trans g4, hl⟩
      · rename_i τ2 eb
        cases hl
        exact su F α2 τ1 σ' H2 (.bk τ2) _ R2 eb fun α4 σ4 H4 R4 g4 => hq α4 σ4 H4 R4 (g13.trans g4)
      · rename_i r τ2 eb
        cases hl
        exact su F α2 τ1 σ' H2 (.rt r τ2) _ R2 eb fun v σ4 α4 H4 p => hq v σ4 α4 H4 (p.trans g13)
      · cases hl
end
end TL
set_option Elab.async false
set_option linter.all false
set_option maxRecDepth 100000
/-! TLB: list comprehensions. -/
namespace TL
open PySem PySem.Spec PyProof.Rows L2

/-! ### readings that hang on the combinator alone -/
def tGE (K : PySem.W.Frag) (g : GE) : TE := fun σ H Q => ∃ F α τ d τ', Rel K F α τ σ H ∧ g τ = some (d, τ') ∧ ∀ v α' H', Rel K F α' τ' σ H' → Grow α H α' H' → Den K (vis F α' H') d v → Q v H'
def tGB (K : PySem.W.Frag) (g : GB) : TT := fun σ H Q => ∃ F α τ b τ', Rel K F α τ σ H ∧ g τ = some (b, τ') ∧ ∀ α' H', Rel K F α' τ' σ H' → Grow α H α' H' → Q b H'
def tGT (K : PySem.W.Frag) (is : List Nat) (g : GT) : TG := fun v σ H Q => ∃ F α τ d τ', Rel K F α τ σ H ∧ Den K (vis F α H) d v ∧ g d τ = some τ' ∧ ∀ α' σ' H', Rel K F α' τ' σ' H' → Grow α H α' H' → Off is σ σ' → Q σ' H'
def tGI (K : PySem.W.Frag) (g : GL) : TI := fun σ H Q => ∃ F α τ ds τ', Rel K F α τ σ H ∧ g τ = some (ds, τ') ∧ ∀ J α' H', Rel K F α' τ' σ H' → Grow α H α' H' → JOk K (vis F α' H') J ds → Q J H'
section
variable {X : Cx} {e tg : Expr}
theorem EvD.pe {g : GE} (h : EvD X e g) : PE X e (tGE X.K g) := by
  obtain ⟨t, pt, st⟩ := h
  exact ⟨fun pins s σ H Q I ⟨F, α, τ, d, τ', R0, hg, hq⟩ => pt.run pins s σ H Q I (st F α τ σ H d τ' Q R0 hg hq)⟩
theorem EvT.pt {g : GB} (h : EvT X e g) : PT X e (tGB X.K g) := by
  obtain ⟨t, pt, st⟩ := h
  exact ⟨fun pins s σ H Q I ⟨F, α, τ, d, τ', R0, hg, hq⟩ => pt.run pins s σ H Q I (st F α τ σ H d τ' Q R0 hg hq)⟩
theorem EvG.pg {g : GT} {is : List Nat} (h : EvG X tg is g) : PG X tg (tGT X.K is g) := by
  obtain ⟨t, pt, st⟩ := h
  exact ⟨fun pins s σ H v u Q I r ⟨F, α, τ, d, τ', R0, dv, hg, hq⟩ => pt.run pins s σ H v u Q I r (st F α τ σ H d v τ' Q R0 dv hg hq)⟩
end

/-! ### the block's own names -/
def wipeT (τ : List S) : List Nat → List S
  | [] => τ
  | v :: vs => (wipeT τ vs).set v .un
def wipeA (α : List (Option Addr)) : List Nat → List (Option Addr)
  | [] => α
  | v :: vs => (wipeA α vs).set v none
theorem wipeT_len (τ : List S) : ∀ vs : List Nat, (wipeT τ vs).length = τ.length
  | [] => rfl
  | v :: vs => by unfold wipeT; rw [List.length_set, wipeT_len τ vs]
theorem wipeA_len (α : List (Option Addr)) : ∀ vs : List Nat, (wipeA α vs).length = α.length
  | [] => rfl
  | v :: vs => by unfold wipeA; rw [List.length_set, wipeA_len α vs]
theorem wipeT_get (τ : List S) (i : Nat) : ∀ vs : List Nat, (wipeT τ vs)[i]? = if i ∈ vs then (τ[i]?).map (fun _ => S.un) else τ[i]?
  | [] => by simp [wipeT]
  | v :: vs => by
    unfold wipeT
    by_cases h : v = i
    · subst h
      rw [if_pos List.mem_cons_self, List.getElem?_set, if_pos rfl, wipeT_len]
      by_cases hl : v < τ.length
      · rw [if_pos hl, List.getElem?_eq_getElem hl]
        rfl
      · rw [if_neg hl, List.getElem?_eq_none (by omega)]
        rfl
    · rw [List.getElem?_set_ne h, wipeT_get τ i vs]
      by_cases hm : i ∈ vs
      · rw [if_pos hm, if_pos (List.mem_cons_of_mem _ hm)]
      · rw [if_neg hm, if_neg (fun z => by
          rcases List.mem_cons.mp z with z | z
          · exact h z.symm
          · exact hm z)]
theorem wipeA_get (α : List (Option Addr)) (i : Nat) : ∀ vs : List Nat, (wipeA α vs)[i]? = if i ∈ vs then (α[i]?).map (fun _ => (none : Option Addr)) else α[i]?
  | [] => by simp [wipeA]
  | v :: vs => by
    unfold wipeA
    by_cases h : v = i
    · subst h
      rw [if_pos List.mem_cons_self, List.getElem?_set, if_pos rfl, wipeA_len]
      by_cases hl : v < α.length
      · rw [if_pos hl, List.getElem?_eq_getElem hl]
        rfl
      · rw [if_neg hl, List.getElem?_eq_none (by omega)]
        rfl
    · rw [List.getElem?_set_ne h, wipeA_get α i vs]
      by_cases hm : i ∈ vs
      · rw [if_pos hm, if_pos (List.mem_cons_of_mem _ hm)]
      · rw [if_neg hm, if_neg (fun z => by
          rcases List.mem_cons.mp z with z | z
          · exact h z.symm
          · exact hm z)]
theorem wipe_get (σ : L2.St) (i : Nat) : ∀ vs : List Nat, (wipe σ vs)[i]? = if i ∈ vs then (σ[i]?).map (fun _ => (none : Option V)) else σ[i]?
  | [] => by simp [wipe]
  | v :: vs => by
    unfold wipe
    by_cases h : v = i
    · subst h
      rw [if_pos List.mem_cons_self, List.getElem?_set, if_pos rfl, wipe_length]
      by_cases hl : v < σ.length
      · rw [if_pos hl, List.getElem?_eq_getElem hl]
        rfl
      · rw [if_neg hl, List.getElem?_eq_none (by omega)]
        rfl
    · rw [List.getElem?_set_ne h, wipe_get σ i vs]
      by_cases hm : i ∈ vs
      · rw [if_pos hm, if_pos (List.mem_cons_of_mem _ hm)]
      · rw [if_neg hm, if_neg (fun z => by
          rcases List.mem_cons.mp z with z | z
          · exact h z.symm
          · exact hm z)]
theorem wipe_same {σ σ' : L2.St} {vs : List Nat} (hl : σ'.length = σ.length) (h : ∀ j, j ∉ vs → σ'[j]? = σ[j]?) : wipe σ' vs = wipe σ vs := by
  apply List.ext_getElem?
  intro i
  rw [wipe_get, wipe_get]
  by_cases hm : i ∈ vs
  · rw [if_pos hm, if_pos hm]
    by_cases hi : i < σ.length
    · rw [List.getElem?_eq_getElem hi, List.getElem?_eq_getElem (by omega)]
      rfl
    · rw [List.getElem?_eq_none (by omega), List.getElem?_eq_none (by omega)]
  · rw [if_neg hm, if_neg hm, h i hm]
section
variable {K : PySem.W.Frag} {F : Fr} {α α1 : List (Option Addr)} {τ τ1 : List S} {σ σ2 : L2.St} {H H1 : Hp} {vs : List Nat}
theorem cells_wipe {a : Addr} (h : a ∈ cells (wipeA α vs)) : a ∈ cells α := by
  obtain ⟨j, e⟩ := mem_cells.mp h
  rw [wipeA_get] at e
  split at e
  · cases q : α[j]? with
    | none => rw [q] at e; cases e
    | some o => rw [q] at e; cases e
  · exact mem_cells.mpr ⟨j, e⟩
theorem Grow.wipe : Grow α H (wipeA α vs) H := ⟨fun _ _ e _ => e, fun _ h => .inl (cells_wipe h), fun _ h => h⟩
/-- the block's names forgotten; the slots' values there are whatever they are -/
theorem Rel.wipe (R0 : Rel K F α τ σ H) (hl : σ2.length = σ.length) (hs : ∀ j, j ∉ vs → σ2[j]? = σ[j]?) : Rel K F (wipeA α vs) (wipeT τ vs) σ2 H := by
  have sb : Sub (vis F α H) (vis F (wipeA α vs) H) := (Grow.wipe (α := α) (H := H) (vs := vs)).vis
  refine ⟨by rw [wipeA_len, wipeT_len]; exact R0.la, by rw [wipeT_len, hl]; exact R0.ls, fun i s o x h1 h2 h3 => ?_, fun i j a h1 h2 => ?_, fun b hb => R0.tr b (cells_wipe hb), R0.tb, R0.tk, R0.fr, fun i a h => ?_⟩
  · rw [wipeT_get] at h1
    rw [wipeA_get] at h2
    by_cases hm : i ∈ vs
    · rw [if_pos hm] at h1 h2
      cases q : τ[i]? with
      | none => rw [q] at h1; cases h1
      | some t =>
        rw [q] at h1
        cases h1
        cases q2 : α[i]? with
        | none => rw [q2] at h2; cases h2
        | some t =>
          rw [q2] at h2
          cases h2
          rfl
    · rw [if_neg hm] at h1 h2
      rw [hs i hm] at h3
      have q := R0.sl i s o x h1 h2 h3
      cases s with
      | un => exact q
      | sh d =>
        obtain ⟨q0, u, q1, q2⟩ := q
        exact ⟨q0, u, q1, Den.mono sb _ _ q2⟩
      | own c0 =>
        obtain ⟨b, q1, q2, q3, q4⟩ := q
        exact ⟨b, q1, q2, q3, q4.mono sb fun _ z => z⟩
      | par c0 =>
        obtain ⟨b, q1, q2, q3, q4⟩ := q
        exact ⟨b, q1, q2, q3, q4.mono sb fun _ z => z⟩
      | scr ns =>
        obtain ⟨q0, b, q1, q2⟩ := q
        exact ⟨q0, b, q1, Sub.seqL sb q2⟩
  · rw [wipeA_get] at h1 h2
    split at h1
    · cases q : α[i]? with
      | none => rw [q] at h1; cases h1
      | some t => rw [q] at h1; cases h1
    · split at h2
      · cases q : α[j]? with
        | none => rw [q] at h2; cases h2
        | some t => rw [q] at h2; cases h2
      · exact R0.inj i j a h1 h2
  · rw [wipeA_get] at h
    split at h
    · cases q : α[i]? with
      | none => rw [q] at h; cases h
      | some t => rw [q] at h; cases h
    · exact R0.ow i a h
def S.kept : Option S → S
  | some (.sh d) => .sh d
  | _ => .un
/-- the block's names as they were ahead of it -/
def mend (τ0 τ : List S) : List Nat → List S
  | [] => τ
  | v :: vs => (mend τ0 τ vs).set v (S.kept τ0[v]?)
theorem mend_len (τ0 τ : List S) : ∀ vs : List Nat, (mend τ0 τ vs).length = τ.length
  | [] => rfl
  | v :: vs => by unfold mend; rw [List.length_set, mend_len τ0 τ vs]
theorem mend_get (τ0 τ : List S) (i : Nat) : ∀ vs : List Nat, (mend τ0 τ vs)[i]? = if i ∈ vs then (τ[i]?).map (fun _ => S.kept τ0[i]?) else τ[i]?
  | [] => by simp [mend]
  | v :: vs => by
    unfold mend
    by_cases h : v = i
    · subst h
      rw [if_pos List.mem_cons_self, List.getElem?_set, if_pos rfl, mend_len]
      by_cases hl : v < τ.length
      · rw [if_pos hl, List.getElem?_eq_getElem (l := τ) hl]
        rfl
      · rw [if_neg hl, List.getElem?_eq_none (l := τ) (by omega)]
        rfl
    · rw [List.getElem?_set_ne h, mend_get τ0 τ i vs]
      by_cases hm : i ∈ vs
      · rw [if_pos hm, if_pos (List.mem_cons_of_mem _ hm)]
      · rw [if_neg hm, if_neg (fun z => by
          rcases List.mem_cons.mp z with z | z
          · exact h z.symm
          · exact hm z)]
/-- behind the block -/
theorem Rel.mend {τ0 : List S} {α0 : List (Option Addr)} {H0 : Hp} (R0 : Rel K F α0 τ0 σ H0) (R1 : Rel K F α τ (L2.wipe σ vs) H) (hv : ∀ i ∈ vs, ∀ o, α[i]? = some o → o = none) (g : Sub (vis F α0 H0) (vis F α H)) : Rel K F α (TL.mend τ0 τ vs) σ H := by
  refine ⟨by rw [mend_len]; exact R1.la, by rw [mend_len, ← R1.ls, L2.wipe_length], fun i s o x h1 h2 h3 => ?_, R1.inj, R1.tr, R1.tb, R1.tk, R1.fr, R1.ow⟩
  rw [mend_get] at h1
  by_cases hm : i ∈ vs
  · rw [if_pos hm] at h1
    have ho := hv i hm o h2
    subst ho
    cases q : τ[i]? with
    | none => rw [q] at h1; cases h1
    | some t =>
      rw [q] at h1
      have h1 : S.kept τ0[i]? = s := Option.some.inj h1
      subst h1
      cases q0 : τ0[i]? with
      | none => exact rfl
      | some t0 =>
        cases t0 with
        | sh d =>
          obtain ⟨v, e1, e2⟩ := R0.sh q0
          rw [h3] at e1
          exact ⟨rfl, v, Option.some.inj e1, Den.mono g _ _ e2⟩
        | un => exact rfl
        | own _ => exact rfl
        | par _ => exact rfl
        | scr _ => exact rfl
  · rw [if_neg hm] at h1
    exact R1.sl i s o x h1 h2 (by rw [wipe_get, if_neg hm]; exact h3)
end

/-! ### the comprehension -/
def lcLoop (vs : List Nat) (gt : GT) (gc : GB) (ge : GE) : List D → List S → Option (List D × List S)
  | [], τ => some ([], τ)
  | d :: ds, τ => match gt d τ with
    | none => none
    | some τ1 => match gc τ1 with
      | none => none
      | some (false, τ2) => lcLoop vs gt gc ge ds (wipeT τ2 vs)
      | some (true, τ2) => match ge τ2 with
        | none => none
        | some (e, τ3) => match lcLoop vs gt gc ge ds (wipeT τ3 vs) with
          | none => none
          | some (es, τ4) => some (e :: es, τ4)
def gYes : GB := fun τ => some (true, τ)
def gLc (vs : List Nat) (gi : GL) (gt : GT) (gc : GB) (ge : GE) : GR := fun τ => match gi τ with
  | none => none
  | some (ds, τ1) => if ds.length ≤ line then match lcLoop vs gt gc ge ds (wipeT τ1 vs) with
    | none => none
    | some (es, τ2) => some (.fl es, mend τ1 τ2 vs) else none
theorem lcLoop_un {vs : List Nat} {gt : GT} {gc : GB} {ge : GE} : ∀ {ds : List D} {τ : List S} {es : List D} {τ' : List S}, lcLoop vs gt gc ge ds τ = some (es, τ') → es.length ≤ ds.length
  | [], τ, es, τ', h => by
    unfold lcLoop at h
    cases h
    exact Nat.le_refl _
  | d :: ds, τ, es, τ', h => by
    unfold lcLoop at h
    split at h
    · cases h
    split at h
    · cases h
    · have := lcLoop_un h
      rw [List.length_cons]
      omega
    · split at h
      · cases h
      split at h
      · cases h
      rename_i es' τ4 e4
      cases h
      have := lcLoop_un e4
      rw [List.length_cons, List.length_cons]
      omega
section
variable {X : Cx} {elt tg iter : Expr} {ifs : List Expr} {scope : Scope} {own : List (Str × Nat)} {gi : GL} {gt : GT} {gc : GB} {ge : GE} {is : List Nat} {pos : Pos}
abbrev Blk (X : Cx) (scope : Scope) (p : Cx → Prop) : Prop := ∀ (s : Shared) (H : Hp) (C : Addr) (cl : List (Str × Addr)) (fp : List Addr), p (X.blk s H scope (compEnvC scope cl C X.env) fp)
/-- tests of a comprehension: none, or one -/
inductive EvIfs (X : Cx) : List Expr → GB → Prop
  | nil : EvIfs X [] gYes
  | one {c : Expr} {g : GB} : EvT X c g → EvIfs X [c] g
theorem EvIfs.pts {g : GB} (h : EvIfs X ifs g) : PTs X ifs (tGB X.K g) := by
  cases h with
  | nil => exact ⟨fun pins s σ H Q I ⟨F, α, τ, b, τ', R0, hg, hq⟩ => by
      cases hg
      exact pts_nil.run pins s σ H Q I (hq α H R0 Grow.refl)⟩
  | one h => exact pts_one h.pt
theorem lc_ok (is_sub : ∀ j ∈ is, j ∈ own.map (·.2)) {wi : TI} (si : ∀ F α τ σ H ds τ' (Q : It → Hp → Prop), Rel X.K F α τ σ H → gi τ = some (ds, τ') → (∀ J α' H', Rel X.K F α' τ' σ H' → Grow α H α' H' → JOk X.K (vis F α' H') J ds → Q J H') → wi σ H Q)
    {F : Fr} {α : List (Option Addr)} {τ : List S} {σ : L2.St} {H : Hp} {r : R} {τ' : List S} {Q : VK} (R0 : Rel X.K F α τ σ H) (hg : gLc (own.map (·.2)) gi gt gc ge τ = some (r, τ'))
    (hq : ∀ v α' H', Post X.K F α H τ' σ v α' H' r → Q v H') : tLc wi (tGT X.K is gt) (tGB X.K gc) (tGE X.K ge) (own.map (·.2)) σ H Q := by
  unfold gLc at hg
  split at hg
  · cases hg
  rename_i ds τ1 e1
  split at hg
  · rename_i hz
    have hz : ds.length ≤ 16777216 := hz
    split at hg
    · cases hg
    rename_i es τ2 e2
    cases hg
    refine si F α τ σ H ds τ1 _ R0 e1 fun J α1 H1 R1 g1 hJ => fun D hD => ?_
    have RD : Rel X.K (F.hide D) α1 τ1 σ (L2.upd H1 D (.lst [])) := R1.new hD
    have nD : D ∉ cells α1 := fun z => R1.tr D z hD
    have gD : Grow α1 H1 α1 (L2.upd H1 D (.lst [])) := Grow.upd hD
    have hn : ∀ (α : List (Option Addr)), ∀ i ∈ own.map (·.2), ∀ o, (wipeA α (own.map (·.2)))[i]? = some o → o = none := fun α i hi o e => by
      rw [wipeA_get, if_pos hi] at e
      cases q : α[i]? with
      | none => rw [q] at e; cases e
      | some t => rw [q] at e; exact (Option.some.inj e).symm
    refine ⟨fun i m H2 => m = ds.length - i ∧ i ≤ ds.length ∧ ∃ α2 τ3 acc accd, Rel X.K (F.hide D) (wipeA α2 (own.map (·.2))) τ3 (wipe σ (own.map (·.2))) H2 ∧ Grow α1 H1 (wipeA α2 (own.map (·.2))) H2 ∧ H2 D = some (.lst acc) ∧
        D ∉ cells (wipeA α2 (own.map (·.2))) ∧ DenL X.K (vis (F.hide D) (wipeA α2 (own.map (·.2))) H2) accd acc ∧ accd.length ≤ i ∧ ∃ es', lcLoop (own.map (·.2)) gt gc ge (ds.drop i) τ3 = some (es', τ2) ∧ accd ++ es' = es,
      ⟨ds.length, by simp, Nat.zero_le _, α1, wipeT τ1 (own.map (·.2)), [], [], ?_, gD.trans Grow.wipe, upd_same, fun z => nD (cells_wipe z), DenL.nil, Nat.le_refl _, es, by rw [List.drop_zero]; exact e2, rfl⟩, ?_⟩
    · exact RD.wipe (wipe_length _ _) fun j hj => by rw [wipe_get, if_neg hj]
    rintro i m H2 ⟨rfl, hi, α2, τ3, acc, accd, R2, g2, hacc, nD2, dacc, hlen, es', hl, hes⟩
    have hj := hJ ((F.hide D).B0 ++ cells (wipeA α2 (own.map (·.2)))) H2 R2.tb2 (fun a o e => by
      obtain ⟨e3, e4⟩ := hid_some.mp (g2.vis (F := F) a o e)
      refine hid_some.mpr ⟨fun z => ?_, e4⟩
      rcases List.mem_append.mp z with z | z
      · rcases List.mem_cons.mp z with z | z
        · obtain ⟨_, e5⟩ := hid_some.mp e
          rw [z, hD] at e5
          cases e5
        · exact e3 (List.mem_append_left _ z)
      · exact e3 (List.mem_append_right _ z)) i
    by_cases hlt : i < ds.length
    · obtain ⟨hgo, hy⟩ := hj.1 ds[i] (List.getElem?_eq_getElem hlt)
      rw [List.drop_eq_getElem_cons hlt] at hl
      unfold lcLoop at hl
      split at hl
      · cases hl
      rename_i τa ea
      refine .inr ⟨hgo, fun H3 => ∃ α3 τ4 acc accd, Rel X.K (F.hide D) (wipeA α3 (own.map (·.2))) τ4 (wipe σ (own.map (·.2))) H3 ∧ Grow α1 H1 (wipeA α3 (own.map (·.2))) H3 ∧ H3 D = some (.lst acc) ∧ D ∉ cells (wipeA α3 (own.map (·.2))) ∧
        DenL X.K (vis (F.hide D) (wipeA α3 (own.map (·.2))) H3) accd acc ∧ accd.length ≤ i + 1 ∧ ∃ es', lcLoop (own.map (·.2)) gt gc ge (ds.drop (i + 1)) τ4 = some (es', τ2) ∧ accd ++ es' = es, ?_, fun x H3 hx => ?_⟩
      · rintro H3 ⟨α3, τ4, acc, accd, w1, w2, w3, w4, w5, w6, w7⟩
        exact ⟨ds.length - (i + 1), by omega, rfl, hlt, α3, τ4, acc, accd, w1, w2, w3, w4, w5, w6, w7⟩
      obtain ⟨hsub, hden⟩ := hy x H3 hx
      refine ⟨F.hide D, _, τ3, ds[i], τa, R2.sub hsub, hden, ea, fun α4 σ4 H4 R4 g4 o4 => ?_⟩
      have ws : wipe (wipe σ (own.map (·.2))) (own.map (·.2)) = wipe σ (own.map (·.2)) := by
        apply List.ext_getElem?
        intro k
        rw [wipe_get, wipe_get]
        by_cases hk : k ∈ own.map (·.2)
        · rw [if_pos hk, if_pos hk]
          cases σ[k]? <;> rfl
        · rw [if_neg hk, if_neg hk]
      have off4 : ∀ j, j ∉ own.map (·.2) → σ4[j]? = (wipe σ (own.map (·.2)))[j]? := fun j hj => o4.2 j fun z => hj (is_sub j z)
      refine ⟨(wipe_same o4.1 off4).trans ws, ?_⟩
      have g24 : Grow (wipeA α2 (own.map (·.2))) H2 α4 H4 := (Grow.of_sub hsub).trans g4
      -- the list made so far stands
      have keepD : ∀ {α5 : List (Option Addr)} {H5 : Hp}, Grow (wipeA α2 (own.map (·.2))) H2 α5 H5 → H5 D = some (.lst acc) ∧ D ∉ cells α5 := fun {α5 H5} g => by
        refine ⟨g.keep D _ hacc nD2, fun z => ?_⟩
        rcases g.new D z with q | q
        · exact nD2 q
        · rw [hacc] at q
          cases q
      have back : ∀ {α5 : List (Option Addr)} {τ5 : List S} {H5 : Hp}, Rel X.K (F.hide D) α5 τ5 σ4 H5 → Rel X.K (F.hide D) (wipeA α5 (own.map (·.2))) (wipeT τ5 (own.map (·.2))) (wipe σ (own.map (·.2))) H5 := fun {α5 τ5 H5} R5 => by
        refine R5.wipe (by rw [o4.1]) fun j hj => (off4 j hj).symm
      split at hl
      · cases hl
      · -- not kept
        rename_i τ5 ec
        refine ⟨F.hide D, α4, τa, false, τ5, R4, ec, fun α5 H5 R5 g5 => ?_⟩
        have g25 := g24.trans g5
        obtain ⟨k1, k2⟩ := keepD g25
        exact iteF ⟨α5, _, acc, accd, back R5, g2.trans (g25.trans Grow.wipe), k1, fun z => k2 (cells_wipe z), DenL.mono (g25.trans Grow.wipe).vis _ _ dacc, by omega, es', hl, hes⟩
      · rename_i τ5 ec
        refine ⟨F.hide D, α4, τa, true, τ5, R4, ec, fun α5 H5 R5 g5 => iteT ?_⟩
        split at hl
        · cases hl
        rename_i e6 τ6 ee
        split at hl
        · cases hl
        rename_i es6 τ7 e7
        cases hl
        refine ⟨F.hide D, α5, τ5, e6, τ6, R5, ee, fun y α6 H6 R6 g6 dy => ?_⟩
        have g26 := g24.trans (g5.trans g6)
        obtain ⟨k1, k2⟩ := keepD g26
        have hal : acc.length = accd.length := dacc.length
        have gU : Grow α6 H6 α6 (L2.upd H6 D (.lst (acc ++ [y]))) → True := fun _ => trivial
        -- D is hidden: what is seen stays
        have vD : ∀ {α7 : List (Option Addr)}, Sub (vis (F.hide D) α7 H6) (vis (F.hide D) α7 (L2.upd H6 D (.lst (acc ++ [y])))) := fun {α7} b o e => by
          obtain ⟨e8, e9⟩ := hid_some.mp e
          refine hid_some.mpr ⟨e8, ?_⟩
          rw [upd_ne (fun z => e8 (List.mem_append_left _ (by rw [z]; exact List.mem_cons_self)))]
          exact e9
        have RU : Rel X.K (F.hide D) (wipeA α6 (own.map (·.2))) (wipeT τ6 (own.map (·.2))) (wipe σ (own.map (·.2))) (L2.upd H6 D (.lst (acc ++ [y]))) := by
          have R7 := back R6
          have tkU : ∀ b, H6 b ≠ none → L2.upd H6 D (.lst (acc ++ [y])) b ≠ none := fun b hb => by
            by_cases hbD : b = D
            · rw [hbD, upd_same]
              nofun
            · rw [upd_ne hbD]
              exact hb
          refine ⟨R7.la, R7.ls, fun i s o x h1 h2 h3 => ?_, R7.inj, fun b hb => tkU b (R7.tr b hb), fun b hb => tkU b (R7.tb b hb), fun b hb => tkU b (R7.tk b hb), fun a o e n => ?_, R7.ow⟩
          · have q := R7.sl i s o x h1 h2 h3
            have ne : ∀ a, o = some a → a ≠ D := fun a z w => by
              subst w
              subst z
              exact k2 (cells_wipe (mem_cells.mpr ⟨i, h2⟩))
            cases s with
            | un => exact q
            | sh d =>
              obtain ⟨q0, u, q1, q2⟩ := q
              exact ⟨q0, u, q1, Den.mono vD _ _ q2⟩
            | own c0 =>
              obtain ⟨b, q1, q2, q3, q4⟩ := q
              exact ⟨b, q1, q2, q3, q4.mono vD fun u z => by rw [upd_ne (ne b q1)]; exact z⟩
            | par c0 =>
              obtain ⟨b, q1, q2, q3, q4⟩ := q
              exact ⟨b, q1, q2, q3, q4.mono vD fun u z => by rw [upd_ne (ne b q1)]; exact z⟩
            | scr ns =>
              obtain ⟨q0, b, q1, q2⟩ := q
              exact ⟨q0, b, q1, Sub.seqL vD q2⟩
          · have : a ≠ D := fun z => by
              have e : F.H0 a = some o := e
              exact absurd hD (R1.tk D (by rw [← z, e]; nofun))
            rw [upd_ne this]
            exact R7.fr a o e n
        have g1U : Grow α1 H1 (wipeA α6 (own.map (·.2))) (L2.upd H6 D (.lst (acc ++ [y]))) := by
          have g16 := g2.trans (g26.trans (Grow.wipe (vs := own.map (·.2))))
          refine ⟨fun a o e n => ?_, g16.new, fun a ha => ?_⟩
          · rw [upd_ne (fun z => by rw [z, hD] at e; cases e)]
            exact g16.keep a o e n
          · by_cases hbD : a = D
            · rw [hbD, upd_same]
              nofun
            · rw [upd_ne hbD]
              exact g16.tk a ha
        refine ⟨acc, k1, by rw [hal, sizeLine_eq]; omega, α6, _, acc ++ [y], accd ++ [e6], RU, g1U, upd_same, fun z => k2 (cells_wipe z), ?_, by rw [List.length_append, List.length_singleton]; omega, es6, e7, ?_⟩
        · refine DenL.append (DenL.mono vD _ _ (DenL.mono (g26.trans Grow.wipe).vis _ _ dacc)) (DenL.cons (Den.mono vD _ _ (Den.mono (Grow.wipe (vs := own.map (·.2))).vis _ _ dy)) DenL.nil)
        · rw [List.append_assoc]
          exact hes
    · have e : i = ds.length := by omega
      subst e
      rw [List.drop_length] at hl
      unfold lcLoop at hl
      cases hl
      rw [List.append_nil] at hes
      subst hes
      have nB : D ∉ F.B0 := fun z => R1.tb D z hD
      have h0D : H D = none := by
        cases q : H D with
        | none => rfl
        | some o => exact absurd hD (g1.tk D (by rw [q]; nofun))
      refine .inl ⟨hj.2 (Nat.le_refl _), hq (.ref D) (wipeA α2 (own.map (·.2))) H2 ⟨D, acc, rfl, h0D, ?_, g1.trans g2, hacc, dacc, nD2⟩⟩
      -- ahead of the block, D hidden
      have RD1 : Rel X.K (F.hide D) α1 τ1 σ (L2.upd H1 D (.lst [])) := RD
      refine Rel.mend RD1 R2 (hn α2) fun a o e => ?_
      obtain ⟨e1, e2⟩ := hid_some.mp e
      have nd : a ≠ D := fun z => e1 (List.mem_append_left _ (by rw [z]; exact List.mem_cons_self))
      rw [upd_ne nd] at e2
      have nc : a ∉ cells α1 := fun z => e1 (List.mem_append_right _ z)
      refine hid_some.mpr ⟨fun z => ?_, g2.keep a o e2 nc⟩
      rcases List.mem_append.mp z with z | z
      · exact e1 (List.mem_append_left _ z)
      · rcases g2.new a z with q | q
        · exact nc q
        · rw [q] at e2
          cases e2
  · cases hg
theorem er_lc (hc : X.calm = true) (hN : X.N.Nodup) (hi : EvI X tg iter gi) (ok : BlkOk X.N X.env.scope scope own) (is_sub : ∀ j ∈ is, j ∈ own.map (·.2))
    (hg : Blk X scope fun Y => EvG Y tg is gt) (ht : Blk X scope fun Y => EvIfs Y ifs gc) (he : Blk X scope fun Y => EvD Y elt ge) (hs : ∀ x, foldedSetIterable iter X.env x = pure x := by intro _; rfl) :
    EvR X (.ListComp elt [⟨tg, iter, ifs, 0⟩] scope pos) (gLc (own.map (·.2)) gi gt gc ge) := by
  obtain ⟨wi, pi, si⟩ := hi
  exact ⟨_, pe_lc (g := tGT X.K is gt) (tt := tGB X.K gc) (te := tGE X.K ge) hc hN pi ok (fun s H C cl fp => (hg s H C cl fp).pg) (fun s H C cl fp => (ht s H C cl fp).pts) (fun s H C cl fp => (he s H C cl fp).pe) hs, fun F α τ σ H r τ' Q R0 hg hq => lc_ok is_sub si R0 hg hq⟩
/-- name = [..] -/
theorem sd_setLc {i : Nat} {y : Str} {py spos : Pos} (hc : X.calm = true) (hN : X.N.Nodup) (hy : X.N[i]? = some y) (hyl : X.env.scope.names.lookup y = some .local)
    (hsw : swapsWith (.ListComp elt [⟨tg, iter, ifs, 0⟩] scope pos) (some (.Name y py)) spos.line X.env = pure true) (hi : EvI X tg iter gi) (ok : BlkOk X.N X.env.scope scope own) (is_sub : ∀ j ∈ is, j ∈ own.map (·.2))
    (hg : Blk X scope fun Y => EvG Y tg is gt) (ht : Blk X scope fun Y => EvIfs Y ifs gc) (he : Blk X scope fun Y => EvD Y elt ge) (hs : ∀ x, foldedSetIterable iter X.env x = pure x := by intro _; rfl) :
    StD X (.Assign [.Name y py] (.ListComp elt [⟨tg, iter, ifs, 0⟩] scope pos) spos) (gSet i (gLc (own.map (·.2)) gi gt gc ge)) := by
  obtain ⟨wi, pi, si⟩ := hi
  refine ⟨_, ps_setLc (g := tGT X.K is gt) (tt := tGB X.K gc) (te := tGE X.K ge) hc hN hy hyl hsw pi ok (fun s H C cl fp => (hg s H C cl fp).pg) (fun s H C cl fp => (ht s H C cl fp).pts) (fun s H C cl fp => (he s H C cl fp).pe) hs, fun F α τ σ H o D R0 hg hq => ?_⟩
  unfold gSet at hg
  split at hg
  · rename_i r τ1 e1
    split at hg
    · rename_i τ2 e2
      cases hg
      refine lc_ok is_sub si R0 e1 fun v α1 H1 p => ?_
      obtain ⟨α2, R2, g2⟩ := p.store (.inr ⟨τ, R0⟩) e2
      exact hq α2 _ H1 R2 g2
    · cases hg
  · cases hg
end
end TL
set_option Elab.async false
set_option linter.all false
set_option maxRecDepth 100000
/-! TLC: two ways in one, truth, two names at once, defs, the law. -/
namespace TL
open PySem PySem.Spec PyProof.Rows L2

/-! ### two ways in one -/
def gAlt {β : Type} (g h : List S → Option β) : List S → Option β := fun τ => match g τ with
  | some r => some r
  | none => h τ
section
variable {X : Cx} {e : Expr}
theorem PE.or {t u : TE} (h : PE X e t) (h' : PE X e u) : PE X e (fun σ H Q => t σ H Q ∨ u σ H Q) := ⟨fun pins s σ H Q I q => by
  rcases q with q | q
  · exact h.run pins s σ H Q I q
  · exact h'.run pins s σ H Q I q⟩
theorem PT.or {t u : TT} (h : PT X e t) (h' : PT X e u) : PT X e (fun σ H Q => t σ H Q ∨ u σ H Q) := ⟨fun pins s σ H Q I q => by
  rcases q with q | q
  · exact h.run pins s σ H Q I q
  · exact h'.run pins s σ H Q I q⟩
theorem EvD.alt {g h : GE} (h1 : EvD X e g) (h2 : EvD X e h) : EvD X e (gAlt g h) := by
  obtain ⟨t, pt, st⟩ := h1
  obtain ⟨u, pu, su⟩ := h2
  refine ⟨_, PE.or pt pu, fun F α τ σ H d τ' Q R0 hg hq => ?_⟩
  unfold gAlt at hg
  split at hg
  · rename_i r e1
    cases hg
    exact .inl (st F α τ σ H d τ' Q R0 e1 hq)
  · exact .inr (su F α τ σ H d τ' Q R0 hg hq)
theorem EvR.alt {g h : GR} (h1 : EvR X e g) (h2 : EvR X e h) : EvR X e (gAlt g h) := by
  obtain ⟨t, pt, st⟩ := h1
  obtain ⟨u, pu, su⟩ := h2
  refine ⟨_, PE.or pt pu, fun F α τ σ H d τ' Q R0 hg hq => ?_⟩
  unfold gAlt at hg
  split at hg
  · rename_i r e1
    cases hg
    exact .inl (st F α τ σ H d τ' Q R0 e1 hq)
  · exact .inr (su F α τ σ H d τ' Q R0 hg hq)
theorem EvT.alt {g h : GB} (h1 : EvT X e g) (h2 : EvT X e h) : EvT X e (gAlt g h) := by
  obtain ⟨t, pt, st⟩ := h1
  obtain ⟨u, pu, su⟩ := h2
  refine ⟨_, PT.or pt pu, fun F α τ σ H d τ' Q R0 hg hq => ?_⟩
  unfold gAlt at hg
  split at hg
  · rename_i r e1
    cases hg
    exact .inl (st F α τ σ H d τ' Q R0 e1 hq)
  · exact .inr (su F α τ σ H d τ' Q R0 hg hq)

/-! ### truth -/
def dTru : D → Option Bool
  | .non => some false
  | .bl b => some b
  | .int i => some (i != 0)
  | .str x => if x.length ≤ line then some ((x.length : Int) != 0) else none
  | .tup xs => some (!xs.isEmpty)
  | .lst xs => some (!xs.isEmpty)
  | .ty _ => none
def gTru (g : GE) : GB := fun τ => match g τ with
  | some (d, τ1) => match dTru d with
    | some b => some (b, τ1)
    | none => none
  | none => none
def gTruC (i : Nat) : GB := fun τ => match cellAt τ i with
  | some (.lst xs) => some (!xs.isEmpty, τ)
  | none => none
theorem isEmpty_len {α β : Type} {xs : List α} {ys : List β} (h : xs.length = ys.length) : xs.isEmpty = ys.isEmpty := by
  cases xs <;> cases ys <;> first | rfl | cases h
theorem et_tru {g : GE} (h : EvD X e g) (he : ∀ whole, isTrue e X.env whole = (do let v ← whole; standAt e.pos; holding [v] (truthy v)) := by intro _; rfl) : EvT X e (gTru g) := by
  obtain ⟨t, pt, st⟩ := h
  refine ⟨_, pt_truth pt he, fun F α τ σ H b τ' Q R0 hg hq => ?_⟩
  unfold gTru at hg
  split at hg
  · rename_i d τ1 e1
    split at hg
    · rename_i b' e2
      cases hg
      refine st F α τ σ H d τ' _ R0 e1 fun v α1 H1 R1 g1 d1 => ⟨b, ?_, hq α1 H1 R1 g1⟩
      cases d with
      | non => cases e2; unfold Den at d1; subst d1; rfl
      | bl _ => cases e2; unfold Den at d1; subst d1; rfl
      | int _ => cases e2; unfold Den at d1; subst d1; rfl
      | str x =>
        unfold dTru at e2
        simp only at e2
        split at e2
        · rename_i hz
          cases e2
          unfold Den at d1
          subst d1
          exact ⟨by rw [sizeLine_eq]; exact hz, rfl⟩
        · cases e2
      | tup xs =>
        cases e2
        obtain ⟨p, vs, rfl, h1, h2⟩ := (show Den X.K (hid _ H1) (.tup xs) v from d1).tup_inv
        exact .inr (.inl ⟨vs, h1, by rw [isEmpty_len h2.length]⟩)
      | lst xs =>
        cases e2
        obtain ⟨p, vs, rfl, h1, h2⟩ := (show Den X.K (hid _ H1) (.lst xs) v from d1).lst_inv
        exact .inl ⟨vs, .of h1, by rw [isEmpty_len h2.length]⟩
      | ty _ => cases e2
    · cases hg
  · cases hg
theorem et_truC {i : Nat} (hn : PE X e (tVar i)) (he : ∀ whole, isTrue e X.env whole = (do let v ← whole; standAt e.pos; holding [v] (truthy v)) := by intro _; rfl) : EvT X e (gTruC i) := by
  refine ⟨_, pt_truth hn he, fun F α τ σ H b τ' Q R0 hg hq => ?_⟩
  unfold gTruC at hg
  split at hg
  · rename_i xs e0
    cases hg
    obtain ⟨_, p, _, _, _, h4, vs, h5, h6⟩ := R0.cellAt e0
    exact ⟨.ref p, h4, _, .inl ⟨vs, .of h5, by rw [isEmpty_len h6.length]⟩, hq α H R0 Grow.refl⟩
  · cases hg
end

/-! ### several names at once -/
abbrev GRs := List S → Option (List R × List S)
def gRNil : GRs := fun τ => some ([], τ)
def gRCons (g : GR) (gs : GRs) : GRs := fun τ => match g τ with
  | none => none
  | some (r, τ1) => match gs τ1 with
    | none => none
    | some (rs, τ2) => some (r :: rs, τ2)
/-- results that wait, their new cells B hidden; X: all that is hidden besides -/
inductive HeldL (K : PySem.W.Frag) (F : Fr) (X : List Addr) (α : List (Option Addr)) (H : Hp) : List R → List V → List Addr → Prop
  | nil : HeldL K F X α H [] [] []
  | tr {d : D} {v : V} {rs : List R} {vs : List V} {B : List Addr} : Den K (hid (X ++ (F.B0 ++ cells α)) H) d v → HeldL K F X α H rs vs B → HeldL K F X α H (.v d :: rs) (v :: vs) B
  | nw {ds : List D} {a : Addr} {ws : List V} {rs : List R} {vs : List V} {B : List Addr} : F.H0 a = none → H a = some (.lst ws) → DenL K (hid (X ++ (F.B0 ++ cells α)) H) ds ws → a ∉ cells α → a ∉ F.B0 → a ∉ B →
      HeldL K F X α H rs vs B → HeldL K F X α H (.fl ds :: rs) (.ref a :: vs) (a :: B)
section
variable {K : PySem.W.Frag} {F F' : Fr} {X X' : List Addr} {α α' : List (Option Addr)} {H H' : Hp}
theorem HeldL.mono (hF : F'.H0 = F.H0) (hB : ∀ a ∈ F'.B0, a ∈ F.B0) (s : Sub (hid (X ++ (F.B0 ++ cells α)) H) (hid (X' ++ (F'.B0 ++ cells α')) H')) : ∀ {rs : List R} {vs : List V} {B : List Addr}, (∀ a ∈ B, ∀ o, H a = some o → a ∉ cells α → H' a = some o ∧ a ∉ cells α') →
    HeldL K F X α H rs vs B → HeldL K F' X' α' H' rs vs B
  | _, _, _, _, .nil => .nil
  | _, _, _, k, .tr h t => .tr (Den.mono s _ _ h) (HeldL.mono hF hB s k t)
  | _, _, _, k, .nw h0 h1 h2 h3 h4 h5 t => .nw (by rw [hF]; exact h0) (k _ List.mem_cons_self _ h1 h3).1 (DenL.mono s _ _ h2) (k _ List.mem_cons_self _ h1 h3).2 (fun z => h4 (hB _ z)) h5 (HeldL.mono hF hB s (fun a ha => k a (List.mem_cons_of_mem _ ha)) t)
end
def EvRs (X : Cx) (es : List Expr) (g : GRs) : Prop := ∃ t, PA X es t ∧ ∀ F α τ σ H rs τ' Q, Rel X.K F α τ σ H → g τ = some (rs, τ') →
  (∀ vs B α' H', Rel X.K (F.hides (B ++ F.B0)) α' τ' σ H' → Grow α H α' H' → (∀ b ∈ B, H b = none) → HeldL X.K F B α' H' rs vs B → Q vs H') → t σ H Q
section
variable {X : Cx} {e : Expr} {es : List Expr}
theorem ers_nil : EvRs X [] gRNil := ⟨_, pa_nil, fun F α τ σ H rs τ' Q R0 hg hq => by
  cases hg
  exact hq [] [] α H R0 Grow.refl nofun .nil⟩
theorem ers_cons {g : GR} {gs : GRs} (ha : EvR X e g) (hl : EvRs X es gs) (hs : starEach (e :: es) X.env = (false, eval e X.env) :: starEach es X.env := by rfl) : EvRs X (e :: es) (gRCons g gs) := by
  obtain ⟨ta, pa, sa⟩ := ha
  obtain ⟨tl, pl, sl⟩ := hl
  refine ⟨_, pa_cons pa pl hs, fun F α τ σ H rs τ' Q R0 hg hq => ?_⟩
  unfold gRCons at hg
  split at hg
  · cases hg
  rename_i r τ1 e1
  split at hg
  · cases hg
  rename_i rs' τ2 e2
  cases hg
  refine sa F α τ σ H r τ1 _ R0 e1 fun v α1 H1 p => ?_
  cases r with
  | v d =>
    obtain ⟨R1, g1, d1⟩ := p
    refine sl F α1 τ1 σ H1 rs' τ' _ R1 e2 fun vs B α2 H2 R2 g2 n2 h2 => ?_
    refine hq (v :: vs) B α2 H2 R2 (g1.trans g2) (fun b hb => ?_) (.tr (Den.mono (fun a o e => ?_) _ _ d1) h2)
    · cases q : H b with
      | none => rfl
      | some o => exact absurd (n2 b hb) (g1.tk b (by rw [q]; nofun))
    · obtain ⟨w1, w2⟩ := hid_some.mp e
      refine hid_some.mpr ⟨fun z => ?_, g2.keep a o w2 fun z => w1 (List.mem_append_right _ z)⟩
      rcases List.mem_append.mp z with z | z
      · rw [n2 a z] at w2
        cases w2
      · rcases List.mem_append.mp z with z | z
        · exact w1 (List.mem_append_left _ z)
        · rcases g2.new a z with q | q
          · exact w1 (List.mem_append_right _ q)
          · rw [q] at w2
            cases w2
  | fl ds =>
    obtain ⟨p, ws, rfl, h0, R1, g1, h1, d1, n1⟩ := p
    have nb : p ∉ F.B0 := fun z => R0.tb p z h0
    have n0 : F.H0 p = none := by
      cases q : F.H0 p with
      | none => rfl
      | some o => exact absurd h0 (R0.tk p (by rw [q]; nofun))
    refine sl (F.hide p) α1 τ1 σ H1 rs' τ' _ R1 e2 fun vs B α2 H2 R2 g2 n2 h2 => ?_
    have np2 : p ∉ cells α2 := fun z => by
      rcases g2.new p z with q | q
      · exact n1 q
      · rw [h1] at q
        cases q
    have npB : p ∉ B := fun z => by
      rw [n2 p z] at h1
      cases h1
    have R2' : Rel X.K (F.hides ((p :: B) ++ F.B0)) α2 τ' σ H2 := by
      refine Rel.unhide (F := F.hides ((p :: B) ++ F.B0)) (B1 := B ++ (p :: F.B0)) R2 fun b hb => ?_
      have hb : b ∈ (p :: B) ++ F.B0 := hb
      simp only [List.mem_append, List.mem_cons] at hb ⊢
      rcases hb with (z | z) | z
      · exact .inr (.inl z)
      · exact .inl z
      · exact .inr (.inr z)
    refine hq (.ref p :: vs) (p :: B) α2 H2 R2' (g1.trans g2) (fun b hb => ?_) (.nw n0 (g2.keep p _ h1 n1) (DenL.mono (fun a o e => ?_) _ _ d1) np2 nb npB (HeldL.mono (F := F.hide p) (F' := F) rfl (fun a ha => List.mem_cons_of_mem _ ha) (hid_less (Sub.refl _) fun b hb => .inl ?_) (fun a ha o q1 q2 => ⟨q1, q2⟩) h2))
    · rcases List.mem_cons.mp hb with z | z
      · rw [z]
        exact h0
      · cases q : H b with
        | none => rfl
        | some o => exact absurd (n2 b z) (g1.tk b (by rw [q]; nofun))
    · obtain ⟨w1, w2⟩ := hid_some.mp e
      refine hid_some.mpr ⟨fun z => ?_, g2.keep a o w2 fun z => w1 (List.mem_append_right _ z)⟩
      rcases List.mem_append.mp z with z | z
      · rcases List.mem_cons.mp z with z | z
        · exact w1 (List.mem_append_left _ (by rw [z]; exact List.mem_cons_self))
        · rw [n2 a z] at w2
          cases w2
      · rcases List.mem_append.mp z with z | z
        · exact w1 (List.mem_append_left _ (List.mem_cons_of_mem _ z))
        · rcases g2.new a z with q | q
          · exact w1 (List.mem_append_right _ q)
          · rw [q] at w2
            cases w2
    · show b ∈ B ++ ((p :: F.B0) ++ cells α2)
      simp only [List.mem_append, List.mem_cons] at hb ⊢
      rcases hb with (z | z) | z | z
      · exact .inr (.inl (.inl z))
      · exact .inl z
      · exact .inr (.inl (.inr z))
      · exact .inr (.inr z)
end
theorem setS_inv {i : Nat} {s : S} {τ τ' : List S} (h : setS i s τ = some τ') : ∃ t, τ[i]? = some t ∧ t.free = true ∧ τ' = τ.set i s := by
  unfold setS at h
  split at h
  · rename_i t e
    split at h
    · rename_i hf
      cases h
      exact ⟨t, e, hf, rfl⟩
    · cases h
  · cases h
theorem mem_cells_set {α : List (Option Addr)} {i : Nat} {a b : Addr} (hb : b ∈ cells (α.set i (some a))) : b ∈ cells α ∨ b = a := by
  obtain ⟨j, e⟩ := mem_cells.mp hb
  by_cases hj : i = j
  · subst hj
    rw [List.getElem?_set, if_pos rfl] at e
    split at e
    · exact .inr (Option.some.inj (Option.some.inj e)).symm
    · cases e
  · rw [List.getElem?_set_ne hj] at e
    exact .inl (mem_cells.mpr ⟨j, e⟩)
def setAll : List Nat → List R → List S → Option (List S)
  | [], [], τ => some τ
  | i :: is, r :: rs, τ => match setS i r.slot τ with
    | some τ1 => setAll is rs τ1
    | none => none
  | _, _, _ => none
def stAll : List Nat → List V → L2.St → L2.St
  | i :: is, v :: vs, σ => stAll is vs (σ.set i (some v))
  | _, _, σ => σ
theorem HeldL.store {K : PySem.W.Frag} {F : Fr} {H : Hp} {X : List Addr} : ∀ {is : List Nat} {rs : List R} {vs : List V} {B : List Addr} {α : List (Option Addr)} {τ τ' : List S} {σ : L2.St}, (∀ b ∈ B, b ∈ X) → Rel K (F.hides (B ++ F.B0)) α τ σ H → HeldL K F X α H rs vs B → setAll is rs τ = some τ' →
    ∃ α', Rel K F α' τ' (stAll is vs σ) H ∧ ∀ b ∈ cells α', b ∈ cells α ∨ b ∈ B
  | [], rs, vs, B, α, τ, τ', σ, hX, R0, h, hs => by
    cases h with
    | nil =>
      cases hs
      exact ⟨α, R0, fun b hb => .inl hb⟩
    | tr _ _ => cases hs
    | nw _ _ _ _ _ _ _ => cases hs
  | i :: is, rs, vs, B, α, τ, τ', σ, hX, R0, h, hs => by
    cases h with
    | nil => cases hs
    | @tr d v rs vs B h t =>
      unfold setAll at hs
      split at hs
      · rename_i τ1 e1
        obtain ⟨t0, e2, e3, rfl⟩ := setS_inv e1
        have R1 : Rel K (F.hides (B ++ F.B0)) (α.set i none) (τ.set i (.sh d)) (σ.set i (some v)) H := by
          refine Rel.store (F := F.hides (B ++ F.B0)) (B1 := B ++ F.B0) R0 (fun b hb => hb) e2 e3 ⟨rfl, v, rfl, Den.mono (hid_less (Sub.refl _) fun b hb => .inl ?_) _ _ h⟩ nofun
          rcases List.mem_append.mp hb with z | z
          · rcases List.mem_append.mp z with z | z
            · exact List.mem_append_left _ (hX b z)
            · exact List.mem_append_right _ (List.mem_append_left _ z)
          · exact List.mem_append_right _ (List.mem_append_right _ (cells_set_none z))
        have t' : HeldL K F X (α.set i none) H rs vs B := t.mono rfl (fun a ha => ha) (hid_less (Sub.refl _) fun b hb => .inl (by
          rcases List.mem_append.mp hb with z | z
          · exact List.mem_append_left _ z
          · rcases List.mem_append.mp z with z | z
            · exact List.mem_append_right _ (List.mem_append_left _ z)
            · exact List.mem_append_right _ (List.mem_append_right _ (cells_set_none z)))) fun a ha o q1 q2 => ⟨q1, fun z => q2 (cells_set_none z)⟩
        obtain ⟨α', R2, m2⟩ := HeldL.store hX R1 t' hs
        refine ⟨α', R2, fun b hb => ?_⟩
        rcases m2 b hb with z | z
        · exact .inl (cells_set_none z)
        · exact .inr z
      · cases hs
    | @nw ds a ws rs vs B h0 h1 h2 h3 h4 h5 t =>
      unfold setAll at hs
      split at hs
      · rename_i τ1 e1
        obtain ⟨t0, e2, e3, rfl⟩ := setS_inv e1
        have R1 : Rel K (F.hides (B ++ F.B0)) (α.set i (some a)) (τ.set i (.own (.lst ds))) (σ.set i (some (.ref a))) H := by
          refine Rel.store (F := F.hides (B ++ F.B0)) (B1 := (a :: B) ++ F.B0) R0 (fun b hb => List.mem_cons_of_mem _ hb) e2 e3 ⟨a, rfl, rfl, ⟨h0, fun z => ?_⟩, ws, h1, DenL.mono (hid_less (Sub.refl _) fun b hb => .inl ?_) _ _ h2⟩ fun b hb => ?_
          · rcases List.mem_append.mp z with z | z
            · exact h5 z
            · exact h4 z
          · rcases List.mem_append.mp hb with z | z
            · rcases List.mem_append.mp z with z | z
              · exact List.mem_append_left _ (hX b (List.mem_cons_of_mem _ z))
              · exact List.mem_append_right _ (List.mem_append_left _ z)
            · rcases mem_cells_set z with z | z
              · exact List.mem_append_right _ (List.mem_append_right _ z)
              · exact List.mem_append_left _ (by rw [z]; exact hX a List.mem_cons_self)
          · cases hb
            exact ⟨h0, by rw [h1]; nofun, List.mem_cons_self, h3⟩
        have t' : HeldL K F X (α.set i (some a)) H rs vs B := t.mono rfl (fun a ha => ha) (hid_less (Sub.refl _) fun b hb => .inl (by
          rcases List.mem_append.mp hb with z | z
          · exact List.mem_append_left _ z
          · rcases List.mem_append.mp z with z | z
            · exact List.mem_append_right _ (List.mem_append_left _ z)
            · rcases mem_cells_set z with z | z
              · exact List.mem_append_right _ (List.mem_append_right _ z)
              · exact List.mem_append_left _ (by rw [z]; exact hX a List.mem_cons_self))) fun b hb o q1 q2 => ⟨q1, fun z => by
                rcases mem_cells_set z with z | z
                · exact q2 z
                · rw [z] at hb
                  exact h5 hb⟩
        obtain ⟨α', R2, m2⟩ := HeldL.store (fun b hb => hX b (List.mem_cons_of_mem _ hb)) R1 t' hs
        refine ⟨α', R2, fun b hb => ?_⟩
        rcases m2 b hb with z | z
        · rcases mem_cells_set z with z | z
          · exact .inl z
          · exact .inr (by rw [z]; exact List.mem_cons_self)
        · exact .inr (List.mem_cons_of_mem _ z)
      · cases hs
def gPar (is : List Nat) (g : GRs) : GS := fun τ => match g τ with
  | some (rs, τ1) => match setAll is rs τ1 with
    | some τ2 => some (.nx τ2)
    | none => none
  | none => none
section
variable {X : Cx} {es : List Expr} {g : GRs}
/-- hp: what it asks of the values is that they are stored one by one -/
theorem HeldL.length {K : PySem.W.Frag} {F : Fr} {B0 : List Addr} {α : List (Option Addr)} {H : Hp} {is : List Nat} {rs : List R} {vs : List V} {B : List Addr} {τ τ' : List S} (hh : HeldL K F B0 α H rs vs B) : setAll is rs τ = some τ' → vs.length = is.length := by
  induction hh generalizing is τ with
  | nil =>
    intro e
    cases is with
    | nil => rfl
    | cons i is => cases e
  | tr _ _ ih =>
    intro e
    cases is with
    | nil => cases e
    | cons i is =>
      unfold setAll at e
      split at e
      · rw [List.length_cons, List.length_cons, ih e]
      · cases e
  | nw _ _ _ _ _ _ _ ih =>
    intro e
    cases is with
    | nil => cases e
    | cons i is =>
      unfold setAll at e
      split at e
      · rw [List.length_cons, List.length_cons, ih e]
      · cases e
/-- hp: what it asks of the values is that they are stored one by one -/
theorem sd_parN {st : Stmt} {is : List Nat} {Pst : Ends → L2.St → List V → Hp → Prop} (hp : ∀ {t}, PA X es t → PS X st (fun D σ H => t σ H (Pst D σ)))
    (hP : ∀ D σ vs H, vs.length = is.length → D.nx (stAll is vs σ) H → Pst D σ vs H) (h : EvRs X es g) : StD X st (gPar is g) := by
  obtain ⟨t, pt, tt⟩ := h
  refine ⟨_, hp pt, fun F α τ σ H o D R0 hg hq => ?_⟩
  unfold gPar at hg
  split at hg
  · rename_i rs τ1 e1
    split at hg
    · rename_i τ2 e2
      cases hg
      refine tt F α τ σ H rs τ1 _ R0 e1 fun vs B α1 H1 R1 g1 n1 h1 => ?_
      obtain ⟨α2, R2, m2⟩ := HeldL.store (fun b hb => hb) R1 h1 e2
      refine hP D σ vs H1 (HeldL.length h1 e2) (hq α2 _ H1 R2 ⟨g1.keep, fun a ha => ?_, g1.tk⟩)
      rcases m2 a ha with z | z
      · exact g1.new a z
      · exact .inr (n1 a z)
    · cases hg
  · cases hg
theorem sd_par {i j : Nat} {x y : Str} {a b : Expr} {px py pt pos : Pos} {kt k2 pt2} (hc : X.calm = true) (hN : X.N.Nodup) (hi : X.N[i]? = some x) (hj : X.N[j]? = some y) (hij : i ≠ j)
    (hx : X.env.scope.names.lookup x = some .local) (hy : X.env.scope.names.lookup y = some .local) (ha : EvRs X [a, b] g)
    (hw : swappedStores [.Tuple [.Name x px, .Name y py] kt pt] (.Tuple [a, b] k2 pt2) X.env = pure (some [x, y]))
    (hs : swapsWithSole [.Tuple [.Name x px, .Name y py] kt pt] (.Tuple [a, b] k2 pt2) pos.line X.env = pure false := by rfl) :
    StD X (.Assign [.Tuple [.Name x px, .Name y py] kt pt] (.Tuple [a, b] k2 pt2) pos) (gPar [i, j] g) :=
  sd_parN (is := [i, j]) (fun pt => ps_par hc hN hi hj hij hx hy pt hw hs) (fun D σ vs H hl hd => by
    match vs, hl, hd with
    | [v, w], _, hd => exact ⟨v, w, rfl, hd⟩) ha
theorem sd_par3 {i j l : Nat} {x y z : Str} {a b c : Expr} {px py pz pt pos : Pos} {kt k2 pt2} (hc : X.calm = true) (hN : X.N.Nodup) (hi : X.N[i]? = some x) (hj : X.N[j]? = some y) (hl : X.N[l]? = some z) (hij : i ≠ j) (hil : i ≠ l) (hjl : j ≠ l)
    (hx : X.env.scope.names.lookup x = some .local) (hy : X.env.scope.names.lookup y = some .local) (hz : X.env.scope.names.lookup z = some .local) (ha : EvRs X [a, b, c] g)
    (hw : swappedStores [.Tuple [.Name x px, .Name y py, .Name z pz] kt pt] (.Tuple [a, b, c] k2 pt2) X.env = pure (some [x, y, z]))
    (hs : swapsWithSole [.Tuple [.Name x px, .Name y py, .Name z pz] kt pt] (.Tuple [a, b, c] k2 pt2) pos.line X.env = pure false := by rfl) :
    StD X (.Assign [.Tuple [.Name x px, .Name y py, .Name z pz] kt pt] (.Tuple [a, b, c] k2 pt2) pos) (gPar [i, j, l] g) :=
  sd_parN (is := [i, j, l]) (fun pt => L2.ps_par3 hc hN hi hj hl hij hil hjl hx hy hz pt hw hs) (fun D σ vs H hl hd => by
    match vs, hl, hd with
    | [v, w, u], _, hd => exact ⟨v, w, u, rfl, hd⟩) ha
end

/-! ### defs -/
/-- a def: np parameters, nl other names -/
def gDef (np nl : Nat) (gb : GS) : GF := fun ss => if ss.length = np then match gb (ss ++ List.replicate nl .un) with
  | some (.rt r τ) => some (r, τ.take np)
  | some (.nx τ) => some (.v .non, τ.take np)
  | _ => none else none
section
variable {P : Program} {w : World} {K : PySem.W.Frag} {mg : Str → Option Value} {base : Heap} {k : Nat} {f : Addr} {fd : FuncData} {ps N : List Str} {x qual : Str} {params : Arguments} {body : List Stmt} {scope : Scope}
theorem rel_start {F : Fr} {α : List (Option Addr)} {ss : List S} {vs : List V} {H : Hp} (b : Begin K F α ss vs H) (n : Nat) : Rel K F (α ++ List.replicate n none) (ss ++ List.replicate n .un) (vs.map some ++ List.replicate n none) H := by
  have R0 := b.rel
  have la := R0.la
  have ls := R0.ls
  have cs : ∀ a, a ∈ cells (α ++ List.replicate n none) → a ∈ cells α := fun a h => by
    unfold cells at h ⊢
    rw [List.filterMap_append] at h
    rcases List.mem_append.mp h with z | z
    · exact z
    · obtain ⟨o, h1, h2⟩ := List.mem_filterMap.mp z
      rw [List.mem_replicate] at h1
      rw [h1.2] at h2
      cases h2
  have at_ : ∀ (i : Nat) (a : Addr), (α ++ List.replicate n none)[i]? = some (some a) → α[i]? = some (some a) := fun i a h => by
    by_cases hi : i < α.length
    · rwa [List.getElem?_append_left hi] at h
    · rw [List.getElem?_append_right (by omega), List.getElem?_replicate] at h
      split at h <;> cases h
  have sb : Sub (vis F α H) (vis F (α ++ List.replicate n none) H) := hid_less (Sub.refl _) fun b hb => .inl (by
    rcases List.mem_append.mp hb with z | z
    · exact List.mem_append_left _ z
    · exact List.mem_append_right _ (cs b z))
  refine ⟨by simp [la], by simp [← ls], fun i s o x h1 h2 h3 => ?_, fun i j a h1 h2 => R0.inj i j a (at_ i a h1) (at_ j a h2), fun b hb => R0.tr b (cs b hb), R0.tb, R0.tk, R0.fr, fun i a h => R0.ow i a (at_ i a h)⟩
  by_cases hi : i < ss.length
  · rw [List.getElem?_append_left hi] at h1
    rw [List.getElem?_append_left (by omega)] at h2
    rw [List.getElem?_append_left (by omega)] at h3
    have q := R0.sl i s o x h1 h2 h3
    cases s with
    | un => exact q
    | sh d =>
      obtain ⟨q0, u, q1, q2⟩ := q
      exact ⟨q0, u, q1, Den.mono sb _ _ q2⟩
    | own c0 =>
      obtain ⟨b, q1, q2, q3, q4⟩ := q
      exact ⟨b, q1, q2, q3, q4.mono sb fun _ z => z⟩
    | par c0 =>
      obtain ⟨b, q1, q2, q3, q4⟩ := q
      exact ⟨b, q1, q2, q3, q4.mono sb fun _ z => z⟩
    | scr ns =>
      obtain ⟨q0, b, q1, q2⟩ := q
      exact ⟨q0, b, q1, Sub.seqL sb q2⟩
  · rw [List.getElem?_append_right (by omega), List.getElem?_replicate] at h1
    rw [List.getElem?_append_right (by omega), List.getElem?_replicate] at h2
    split at h1
    · cases h1
      split at h2
      · cases h2
        rfl
      · cases h2
    · cases h1
theorem fin_of {F : Fr} {α α0 α' : List (Option Addr)} {ss τ' : List S} {σ' : L2.St} {vs : List V} {H H' : Hp} {r : R} {v : V} {np : Nat} (b : Begin K F α ss vs H) (hc : ∀ a, a ∈ cells α0 → a ∈ cells α) (p : Post K F α0 H τ' σ' v α' H' r) : Fin K F (τ'.take np) H r v H' := by
  have key : Rel K (F.hides (extra r v ++ F.B0)) α' τ' σ' H' ∧ Grow α0 H α' H' ∧ RFin K F H H' r v := by
    cases r with
    | v d =>
      refine ⟨p.1, p.2.1, Den.mono (hid_less (Sub.refl _) fun b hb => .inl (List.mem_append_left _ hb)) _ _ p.2.2⟩
    | fl ds =>
      obtain ⟨a, ws, rfl, h0, h1, h2, h3, h4, h5⟩ := p
      refine ⟨h1, h2, a, ws, rfl, h0, h3, DenL.mono (hid_less (Sub.refl _) fun b hb => .inl (List.mem_append_left _ hb)) _ _ h4⟩
  obtain ⟨R1, g1, fr⟩ := key
  refine ⟨fun a o e n => g1.keep a o e fun z => ?_, g1.tk, fun i c h => ?_, fr⟩
  · obtain ⟨i, hi⟩ := mem_cells.mp (hc a z)
    exact n i ((b.pa i a).mpr hi)
  · have h' : τ'[i]? = some (.par c) := by
      rw [List.getElem?_take] at h
      split at h
      · exact h
      · cases h
    obtain ⟨o, x, h1, h2, a, q1, q2, q3, q4⟩ := R1.at_ h'
    exact ⟨a, q3, q4.mono (hid_less (Sub.refl _) fun b hb => .inl (List.mem_append_left _ hb)) fun _ z => z⟩
/-- a def that lets nothing out -/
theorem fnT {gb : GS} (F : FunD K x qual params body scope [] [] f fd) (S0 : FnScope N ps scope) (np nl : Nat) (hnp : ps.length = np) (hnl : N.length - np = nl)
    (hb : ∀ (cdv : Value) (A : Around) (outer : List Env) (s : Shared) (H : Hp) (E : XK), A.guards = some [] → Room k (A.deeper (envOfC qual scope s.heap.objs.size f cdv)) → StsD (cxOf CX0 P w K mg base N qual scope f cdv A outer s H E).nox body gb) :
    FnG P w K mg base CX0 (k + 1) f fd ps (spT K (gDef np nl gb)) := by
  have arity : ∀ (vs : List V) (H : Hp) (Q : VK) (E : XK), spT K (gDef np nl gb) vs H Q E → vs.length = ps.length := by
    rintro vs H Q E ⟨F1, α, ss, r, ss', b, hg, _⟩
    unfold gDef at hg
    split at hg
    · rename_i hl
      have := b.rel.ls
      rw [List.length_map] at this
      omega
    · cases hg
  refine FnG.body F S0 arity fun cdv A outer s H vs Q E hgd hr hsp => ?_
  obtain ⟨t, pt, st⟩ := hb cdv A outer s H E hgd hr
  have hl := arity vs H Q E hsp
  obtain ⟨F1, α, ss, r, ss', b, hg, hq⟩ := hsp
  refine ⟨t, pt.nox, ?_⟩
  have hstart : L2.start N vs = vs.map some ++ List.replicate nl none := by
    unfold L2.start
    rw [hl, hnp, hnl]
  rw [hstart]
  have hc : ∀ a, a ∈ cells (α ++ List.replicate nl none) → a ∈ cells α := fun a h => by
    unfold cells at h ⊢
    rw [List.filterMap_append] at h
    rcases List.mem_append.mp h with z | z
    · exact z
    · obtain ⟨o, h1, h2⟩ := List.mem_filterMap.mp z
      rw [List.mem_replicate] at h1
      rw [h1.2] at h2
      cases h2
  unfold gDef at hg
  split at hg
  · split at hg
    · rename_i r1 τ1 e1
      cases hg
      exact st F1 _ _ _ H _ _ (rel_start b nl) e1 fun v σ' α' H' p => hq v H' (fin_of b hc p)
    · rename_i τ1 e1
      cases hg
      exact st F1 _ _ _ H _ _ (rel_start b nl) e1 fun α' σ' H' R1 g1 => hq .non H' (fin_of (σ' := σ') b hc (show Post K F1 _ H τ1 σ' .non α' H' (.v .non) from ⟨R1, g1, Den.non'⟩))
    · cases hg
  · cases hg
/-- the law at a script -/
theorem law_sp {gl : GF} {H : Hp} {a : Addr} {ns : List Int} {ss' : List S} (hS : SqL K H a (ns.map V.int)) (hg : gl [.scr ns] = some (.v (.bl true), ss')) : spT K gl [.ref a] H (fun v _ => v = .bl true) fun _ _ _ => False := by
  refine ⟨⟨H, [], fun _ => none⟩, [none], [.scr ns], .v (.bl true), ss', ⟨rfl, ⟨rfl, rfl, fun i s o x h1 h2 h3 => ?_, fun i j a h1 h2 => ?_, fun b hb => ?_, nofun, fun b hb => hb, fun a o e _ => e, fun i a h => ?_⟩, fun i b => ⟨nofun, fun h => ?_⟩⟩, hg, fun v H' f => ?_⟩
  · cases i with
    | zero =>
      cases h1
      cases h2
      cases h3
      refine ⟨rfl, a, rfl, ?_⟩
      exact Sub.seqL (fun b o e => hid_some.mpr ⟨nofun, e⟩) hS
    | succ i => simp at h1
  · cases i with
    | zero => cases h1
    | succ i => simp at h1
  · obtain ⟨i, h⟩ := mem_cells.mp hb
    cases i with
    | zero => cases h
    | succ i => simp at h
  · cases i with
    | zero => cases h
    | succ i => simp at h
  · cases i with
    | zero => cases h
    | succ i => simp at h
  · have q := f.res
    unfold RFin at q
    unfold Den at q
    exact q
end
end TL
set_option Elab.async false
set_option linter.all false
set_option maxRecDepth 100000
/-! TLD: rules by name: operators, built-ins, methods, calls of the text's own defs. -/
namespace TL
open PySem PySem.Spec PyProof.Rows L2

/-! ### operations with either kind of result -/
def Out (K : PySem.W.Frag) (B : List Addr) (H : Hp) (v : V) (H' : Hp) : R → Prop
  | .v d => Sub H H' ∧ Den K (hid B H') d v
  | .fl ds => ∃ p vs, v = .ref p ∧ H p = none ∧ H' = upd H p (.lst vs) ∧ DenL K (hid B H) ds vs
def Op2R (K : PySem.W.Frag) (r : R2) (f : D → D → Option R) : Prop :=
  ∀ (B : List Addr) (H : Hp) (a b : D) (o : R) (x y : V) (Q : VK), (∀ c ∈ B, H c ≠ none) → Den K (hid B H) a x → Den K (hid B H) b y → f a b = some o → (∀ v H', Out K B H v H' o → Q v H') → r x y H Q
def gBinR (f : D → D → Option R) (ga gb : GE) : GR := fun τ => match ga τ with
  | none => none
  | some (a, τ1) => match gb τ1 with
    | none => none
    | some (b, τ2) => match f a b with
      | none => none
      | some r => some (r, τ2)
theorem out_post {K : PySem.W.Frag} {F : Fr} {α α1 : List (Option Addr)} {τ1 : List S} {σ : L2.St} {H H1 H' : Hp} {v : V} {r : R} (R1 : Rel K F α1 τ1 σ H1) (g1 : Grow α H α1 H1) (o : Out K (F.B0 ++ cells α1) H1 v H' r) : Post K F α H τ1 σ v α1 H' r := by
  cases r with
  | v d => exact ⟨R1.sub o.1, g1.trans (Grow.of_sub o.1), o.2⟩
  | fl ds =>
    obtain ⟨p, vs, rfl, h1, rfl, h2⟩ := o
    refine ⟨p, vs, rfl, ?_, R1.new h1, g1.trans (Grow.upd h1), upd_same, DenL.mono (hid_less (sub_upd h1) fun b hb => ?_) _ _ h2, fun z => R1.tr p z h1⟩
    · cases e : H p with
      | none => rfl
      | some o => exact absurd h1 (g1.tk p (by rw [e]; nofun))
    · rcases List.mem_append.mp hb with z | z
      · rcases List.mem_cons.mp z with z | z
        · exact .inr (z ▸ h1)
        · exact .inl (List.mem_append_left _ z)
      · exact .inl (List.mem_append_right _ z)
section
variable {X : Cx} {a b e : Expr} {ga gb : GE} {pos : Pos}
theorem er_binR {r : R2} {f : D → D → Option R} (hp : ∀ {ta tb}, PE X a ta → PE X b tb → PE X e (tOp r ta tb)) (hf : Op2R X.K r f) (ha : EvD X a ga) (hb : EvD X b gb) : EvR X e (gBinR f ga gb) := by
  obtain ⟨ta, pa, sa⟩ := ha
  obtain ⟨tb, pb, sb⟩ := hb
  refine ⟨_, hp pa pb, fun F α τ σ H d τ' Q R0 hg hq => ?_⟩
  unfold gBinR at hg
  split at hg
  · cases hg
  rename_i x τ1 e1
  split at hg
  · cases hg
  rename_i y τ2 e2
  split at hg
  · cases hg
  rename_i z e3
  cases hg
  refine sa F α τ σ H x τ1 _ R0 e1 fun v α1 H1 R1 g1 d1 => ?_
  refine sb F α1 τ1 σ H1 y τ' _ R1 e2 fun u α2 H2 R2 g2 d2 => ?_
  exact hf _ H2 x y d v u Q R2.tb2 (Den.mono g2.vis _ _ d1) d2 e3 fun w H' o => hq w α2 H' (out_post R2 (g1.trans g2) o)
def dAddR : D → D → Option R
  | .lst xs, .lst ys => if xs.length + ys.length ≤ line then some (.fl (xs ++ ys)) else none
  | a, b => match dAdd a b with
    | some d => some (.v d)
    | none => none
abbrev rAddR (K : PySem.W.Frag) : R2 := fun x y H Q => rAddA K x y H Q ∨ rCat x y H Q
theorem op_addR : OpR X (binaryOp .Add) (rAddR X.K) := op_addA.or op_cat
theorem o2_addR {K : PySem.W.Frag} : Op2R K (rAddR K) dAddR := fun B H a b o x y Q hB ha hb hf hq => by
  unfold dAddR at hf
  split at hf
  · rename_i xs ys
    split at hf
    · rename_i hz
      cases hf
      refine .inr (o2_cat B H (.lst xs) (.lst ys) (xs ++ ys) x y Q hB ha hb ?_ fun p vs hp dv => hq _ _ ⟨p, vs, rfl, hp, rfl, dv⟩)
      unfold fCat
      simp only [if_pos hz]
    · cases hf
  · split at hf
    · rename_i d e1
      cases hf
      exact .inl (o2_add B H _ _ d x y Q hB ha hb e1 fun v H' s dv => hq v H' ⟨s, dv⟩)
    · cases hf
def dMulR : D → D → Option R
  | .lst xs, .int k => if -(2 ^ 63) ≤ k ∧ k < 2 ^ 63 ∧ xs.length * k.toNat ≤ line then some (.fl (List.replicate k.toNat xs).flatten) else none
  | a, b => match dMul a b with
    | some d => some (.v d)
    | none => none
abbrev rMulR : R2 := fun x y H Q => rMulA x y H Q ∨ rRep x y H Q
theorem op_mulR : OpR X (binaryOp .Mult) rMulR := op_mulA.or op_rep
theorem o2_mulR {K : PySem.W.Frag} : Op2R K rMulR dMulR := fun B H a b o x y Q hB ha hb hf hq => by
  unfold dMulR at hf
  split at hf
  · rename_i xs k
    split at hf
    · rename_i hz
      cases hf
      refine .inr (o2_rep B H (.lst xs) (.int k) (List.replicate k.toNat xs).flatten x y Q hB ha hb ?_ fun p vs hp dv => hq _ _ ⟨p, vs, rfl, hp, rfl, dv⟩)
      unfold fRep
      simp only [if_pos hz]
    · cases hf
  · split at hf
    · rename_i d e1
      cases hf
      exact .inl (o2_mul B H _ _ d x y Q hB ha hb e1 fun v H' s dv => hq v H' ⟨s, dv⟩)
    · cases hf

/-! ### comparisons as tests -/
theorem et_cmp {op : CmpOp} {r : R2} {f : D → D → Option D} (ho : OpR X (compareOp op) r) (hf : Op2 X.K r f) (ha : EvD X a ga) (hb : EvD X b gb) (hm : behindInMarks op b = false) : EvT X (.Compare a [op] [b] pos) (gTB (gBin f ga gb)) := by
  obtain ⟨ta, pa, sa⟩ := ha
  obtain ⟨tb, pb, sb⟩ := hb
  refine ⟨_, pt_cmpR ho pa pb hm, fun F α τ σ H k τ' Q R0 hg hq => ?_⟩
  unfold gTB at hg
  split at hg
  · rename_i k' τ3 hg2
    cases hg
    unfold gBin at hg2
    split at hg2
    · cases hg2
    rename_i x τ1 e1
    split at hg2
    · cases hg2
    rename_i y τ2 e2
    split at hg2
    · cases hg2
    rename_i z e3
    cases hg2
    refine sa F α τ σ H x τ1 _ R0 e1 fun v α1 H1 R1 g1 d1 => ?_
    refine sb F α1 τ1 σ H1 y τ' _ R1 e2 fun u α2 H2 R2 g2 d2 => ?_
    refine hf _ H2 x y _ v u _ R2.tb2 (Den.mono g2.vis _ _ d1) d2 e3 fun w H' s dw => ?_
    unfold Den at dw
    exact ⟨k, dw, hq α2 H' (R2.sub s) ((g1.trans g2).trans (Grow.of_sub s))⟩
  · cases hg
theorem et_cmpC {op : CmpOp} {r : R2} {f : D → D → Option D} {i : Nat} (ho : OpR X (compareOp op) r) (hf : Op2 X.K r f) (hn : PE X a (tVar i)) (hb : EvD X b gb) (hm : behindInMarks op b = false) : EvT X (.Compare a [op] [b] pos) (gTB (gBinC f i gb)) := by
  obtain ⟨tb, pb, sb⟩ := hb
  refine ⟨_, pt_cmpR ho hn pb hm, fun F α τ σ H k τ' Q R0 hg hq => ?_⟩
  unfold gTB at hg
  split at hg
  · rename_i k' τ3 hg2
    cases hg
    unfold gBinC at hg2
    split at hg2
    · cases hg2
    rename_i c0 e0
    split at hg2
    · rename_i y τ1 e1
      split at hg2
      · rename_i xs e2
        split at hg2
        · rename_i d' e3
          split at hg2
          · rename_i hd
            cases hg2
            obtain ⟨s, p, _, _, _, h4, _⟩ := R0.cellAt e0
            refine ⟨_, h4, sb F α τ σ H _ τ' _ R0 e1 fun v α1 H1 R1 g1 d1 => ?_⟩
            obtain ⟨p', B', h1, h2, h3, h5⟩ := R1.peek e2
            rw [h4] at h1
            cases h1
            refine hf B' H1 _ _ _ _ _ _ h2 h5 (Den.mono h3 _ _ d1) e3 fun w H' s' dw => ?_
            unfold Den at dw
            exact ⟨k, dw, hq α1 H' (R1.sub s') (g1.trans (Grow.of_sub s'))⟩
          · cases hg2
        · cases hg2
      · cases hg2
    · cases hg2
  · cases hg

/-! ### names that are not the def's own -/
theorem ed_ty {x : Str} {n : String} (hg : Gl X x) (hm : X.mg x = none) (hv : bootBuiltins x = some (.type n)) (hn : x ≠ "__name__" := by decide) (hd : (x == ("__debug__" : Str)) = false := by decide) : EvD X (.Name x pos) (gC (.ty n)) :=
  ed_const (pe_bltn hg hm hv (show RelV (.ty n) (.type n) from rfl) hn hd) fun _ => Den.ty'
theorem ed_gint {x : Str} {i : Int} {t : Tok} (hg : Gl X x) (hm : X.mg x = some (.int i t)) (hd : (x == ("__debug__" : Str)) = false := by decide) : EvD X (.Name x pos) (gC (.int i)) :=
  ed_const (pe_glob hg hm (show RelV (.int i) (.int i t) from ⟨t, rfl⟩) hd) fun _ => Den.int'
theorem ed_gstr {x z : Str} {t : Tok} (hg : Gl X x) (hm : X.mg x = some (.str z t)) (hd : (x == ("__debug__" : Str)) = false := by decide) : EvD X (.Name x pos) (gC (.str z)) :=
  ed_const (pe_glob hg hm (show RelV (.str z) (.str z t) from ⟨t, rfl⟩) hd) fun _ => Den.str'
end

theorem hu120 {k : Nat} {A : Around} (hr : Room k A) : A.units + 120 < cLine := by
  have := hr.un
  omega
/-- the built-ins' names are not the module's -/
structure Bi (mg : Str → Option Value) : Prop where
  len : mg "len" = none
  int : mg "int" = none
  abs : mg "abs" = none
  max : mg "max" = none
  min : mg "min" = none
  isinstance : mg "isinstance" = none
  sum : mg "sum" = none
  any : mg "any" = none
  all : mg "all" = none
  tuple : mg "tuple" = none
  list : mg "list" = none
  repr : mg "repr" = none
  range : mg "range" = none
  enumerate : mg "enumerate" = none
  zip : mg "zip" = none
  str : mg "str" = none
  ord : mg "ord" = none
  bool : mg "bool" = none
  sorted : mg "sorted" = none
  set : mg "set" = none
  dict : mg "dict" = none
section
variable {X : Cx} {e : Expr} {es : List Expr} {gl : GL} {p pos : Pos} {i : Nat}
abbrev St1 (X : Cx) (e : Expr) (es : List Expr) : Prop := starEach (e :: es) X.env = (false, eval e X.env) :: starEach es X.env
abbrev Pl1 (X : Cx) (pos : Pos) (es : List Expr) : Prop := (backTo pos (starEach es X.env)).any (·.1) = false
theorem ed_len (B : Bi X.mg) (ha : EvL X [e] gl) (hg : Gl X "len" := by rfl) (h1 : St1 X e [] := by rfl) (h2 : Pl1 X pos [] := by rfl) : EvD X (.Call (.Name "len" p) [e] [] pos) (gOpN fLen gl) :=
  ed_opN (fun h => pe_callB call_len hg B.len boot_len h (he := h1) (hpl := h2)) on_len ha
theorem ed_lenC (B : Bi X.mg) (hn : PE X e (tVar i)) (hg : Gl X "len" := by rfl) (h1 : St1 X e [] := by rfl) (h2 : Pl1 X pos [] := by rfl) : EvD X (.Call (.Name "len" p) [e] [] pos) (gOpC fLen i) :=
  ed_opC (fun h => pe_callB call_len hg B.len boot_len h (he := h1) (hpl := h2)) on_len hn h1
theorem ed_int1 (B : Bi X.mg) (ha : EvL X [e] gl) (hg : Gl X "int" := by rfl) (h1 : St1 X e [] := by rfl) (h2 : Pl1 X pos [] := by rfl) : EvD X (.Call (.Name "int" p) [e] [] pos) (gOpN fInt gl) :=
  ed_opN (fun h => pe_callTy call_int1 hg B.int (by decide +kernel) h (he := h1) (hpl := h2)) on_int ha
theorem ed_abs (B : Bi X.mg) (ha : EvL X [e] gl) (hg : Gl X "abs" := by rfl) (h1 : St1 X e [] := by rfl) (h2 : Pl1 X pos [] := by rfl) : EvD X (.Call (.Name "abs" p) [e] [] pos) (gOpN fAbs gl) :=
  ed_opN (fun h => pe_callB call_abs hg B.abs (by decide +kernel) h (he := h1) (hpl := h2)) on_abs ha
theorem ed_max2 {a : Expr} (hc : X.calm = true) (B : Bi X.mg) (ha : EvL X [e, a] gl) (hg : Gl X "max" := by rfl) (h1 : St1 X e [a] := by rfl) (h2 : Pl1 X pos [a] := by rfl) : EvD X (.Call (.Name "max" p) [e, a] [] pos) (gOpN fMax2 gl) :=
  ed_opN (fun h => pe_callB (call_max2 hc) hg B.max (by decide +kernel) h (he := h1) (hpl := h2)) on_max2 ha
theorem ed_min2 {a : Expr} (hc : X.calm = true) (B : Bi X.mg) (ha : EvL X [e, a] gl) (hg : Gl X "min" := by rfl) (h1 : St1 X e [a] := by rfl) (h2 : Pl1 X pos [a] := by rfl) : EvD X (.Call (.Name "min" p) [e, a] [] pos) (gOpN fMin2 gl) :=
  ed_opN (fun h => pe_callB (call_min2 hc) hg B.min (by decide +kernel) h (he := h1) (hpl := h2)) on_min2 ha
theorem ed_isi {a : Expr} (B : Bi X.mg) (ha : EvL X [e, a] gl) (hg : Gl X "isinstance" := by rfl) (h1 : St1 X e [a] := by rfl) (h2 : Pl1 X pos [a] := by rfl) : EvD X (.Call (.Name "isinstance" p) [e, a] [] pos) (gOpN fIsi gl) :=
  ed_opN (fun h => pe_callB call_isi hg B.isinstance boot_isinstance h (he := h1) (hpl := h2)) on_isi ha
theorem ed_sum (hc : X.calm = true) (B : Bi X.mg) (ha : EvL X [e] gl) (hg : Gl X "sum" := by rfl) (h1 : St1 X e [] := by rfl) (h2 : Pl1 X pos [] := by rfl) : EvD X (.Call (.Name "sum" p) [e] [] pos) (gOpN fSum gl) :=
  ed_opN (fun h => pe_callB (cr_sumA hc) hg B.sum boot_sum h (he := h1) (hpl := h2)) on_sum ha
theorem ed_any (hc : X.calm = true) (B : Bi X.mg) (ha : EvL X [e] gl) (hg : Gl X "any" := by rfl) (h1 : St1 X e [] := by rfl) (h2 : Pl1 X pos [] := by rfl) : EvD X (.Call (.Name "any" p) [e] [] pos) (gOpN fAny gl) :=
  ed_opN (fun h => pe_callB (cr_any hc) hg B.any (by decide +kernel) h (he := h1) (hpl := h2)) on_any ha
theorem ed_all (hc : X.calm = true) (B : Bi X.mg) (ha : EvL X [e] gl) (hg : Gl X "all" := by rfl) (h1 : St1 X e [] := by rfl) (h2 : Pl1 X pos [] := by rfl) : EvD X (.Call (.Name "all" p) [e] [] pos) (gOpN fAll gl) :=
  ed_opN (fun h => pe_callB (cr_all hc) hg B.all (by decide +kernel) h (he := h1) (hpl := h2)) on_all ha
theorem ed_tupOf (B : Bi X.mg) (ha : EvL X [e] gl) (hg : Gl X "tuple" := by rfl) (h1 : St1 X e [] := by rfl) (h2 : Pl1 X pos [] := by rfl) : EvD X (.Call (.Name "tuple" p) [e] [] pos) (gOpN fTupOf gl) :=
  ed_opN (fun h => pe_callTy call_tuple_of hg B.tuple (by decide +kernel) h (he := h1) (hpl := h2)) on_tupOf ha
theorem er_lstOf (B : Bi X.mg) (ha : EvL X [e] gl) (hg : Gl X "list" := by rfl) (h1 : St1 X e [] := by rfl) (h2 : Pl1 X pos [] := by rfl) : EvR X (.Call (.Name "list" p) [e] [] pos) (gOpNF fLstOf gl) :=
  er_opN (fun h => pe_callTy call_list_of hg B.list (by decide +kernel) h (he := h1) (hpl := h2)) on_lstOf ha
theorem ed_repr (gd : X.A.guards = some []) (hu : X.A.units + 120 < cLine) (B : Bi X.mg) (ha : EvL X [e] gl) (hg : Gl X "repr" := by rfl) (h1 : St1 X e [] := by rfl) (h2 : Pl1 X pos [] := by rfl) : EvD X (.Call (.Name "repr" p) [e] [] pos) (gOpN fRepr gl) :=
  ed_opN (fun h => pe_callB (cr_repr gd hu) hg B.repr boot_repr h (he := h1) (hpl := h2)) on_repr ha
theorem ed_strOf (B : Bi X.mg) (ha : EvL X [e] gl) (hg : Gl X "str" := by rfl) (h1 : St1 X e [] := by rfl) (h2 : Pl1 X pos [] := by rfl) : EvD X (.Call (.Name "str" p) [e] [] pos) (gOpN fStrOf gl) :=
  ed_opN (fun h => pe_callTy call_str_int hg B.str (by decide +kernel) h (he := h1) (hpl := h2)) on_strOf ha
theorem ed_ord (B : Bi X.mg) (ha : EvL X [e] gl) (hg : Gl X "ord" := by rfl) (h1 : St1 X e [] := by rfl) (h2 : Pl1 X pos [] := by rfl) : EvD X (.Call (.Name "ord" p) [e] [] pos) (gOpN fOrd gl) :=
  ed_opN (fun h => pe_callB call_ord hg B.ord (by decide +kernel) h (he := h1) (hpl := h2)) on_ord ha
/-! ### the text's own defs -/
end
/-- a def of the text as it stands behind the top: its promise, where it stands -/
structure OkD (P : Program) (w : World) (K : PySem.W.Frag) (mg : Str → Option Value) (base : Heap) (k : Nat) (x : Str) (ps : List Str) (gf : GF) : Prop where
  ex : ∃ (f : Addr) (fd : FuncData), FnG P w K mg base CX0 k f fd ps (spT K gf) ∧ Binds K fd ps [] ∧ PySem.W.keepIn K (.ref f) = true ∧ mg x = some (.ref f)
section
variable {X : Cx} {e : Expr} {es : List Expr} {p pos : Pos} {x : Str} {ps : List Str} {gf : GF} {ga : GA} {k j : Nat}
theorem er_callD (F : OkD X.prog X.w X.K X.mg X.base j x ps gf) (gd : X.A.guards = some []) (hr : Room k X.A) (hjk : j ≤ k) (ha : EvA X (e :: es) ga) (hG : Gl X x := by rfl) (hdb : (x == ("__debug__" : Str)) = false := by decide)
    (h1 : St1 X e es := by rfl) (h2 : Pl1 X pos es := by rfl) : EvR X (.Call (.Name x p) (e :: es) [] pos) (gCall gf ga) := by
  obtain ⟨f, fd, F1, hb, hk, hm⟩ := F.ex
  exact er_call (fun h => pe_callG F1 gd (hr.mono hjk) hG hm hk hb .nil pass0 h hdb (he := h1) (hpl := h2)) ha
end
end TL
set_option Elab.async false
set_option linter.all false
set_option maxRecDepth 100000
/-! TLE: the end: a law whose function on slots answers true at each script. -/
namespace TL
open PySem PySem.Spec PyProof.Rows L2
theorem walk_ofG {l : PySem.W.OpenLaw} {n k : Nat} {q : Program} {loose : List Str} {XP : (Str → Option Value) → Heap → Prop} {YP : World → Heap → Prop} {d : DefRec} {x : Str} {gl : GF}
    (hn : l.most = some n) (hn2 : n ≤ sizeLine) (hdf : d.params.defaults = []) (hr : Room k callerA)
    (F : ∀ (w : World) (mg : Str → Option Value) (fa : Addr) (h : Heap), YP w h → h.Ns mainGlobals mg → mg d.name = some (.ref fa) →
      ∃ K : PySem.W.Frag, K.In h ∧ ∀ base : Heap, K.In base → base.Ns mainGlobals mg → OkD l.prog w K mg base k d.name [x] gl)
    (hl : ∀ ns : List Int, ns.length ≤ n → ∃ ss', gl [.scr ns] = some (.v (.bl true), ss')) :
    PySem.W.WalkO q loose XP YP l.row.toRowW d [] (fun f vs => PySem.call f vs) := by
  refine Att.attach_call hn hdf fun w s₀ s₁ mg mb fa o pm cd doc a vs ns G Y ho hd hcd hmg hobj hints hlen hg => ?_
  obtain ⟨K, KX, hF⟩ := F w mg fa _ Y G.T.g hmg
  refine lawG (CX := CX0) (sp := spT K gl) (x := x) KX G.T.g G.T.b G.T.builtins G.T.nolimit hg hobj hints (Nat.le_trans hlen hn2) hr (fun base kb nb => ?_) (fun H hO hS => ?_) fun H e s' z => z
  · obtain ⟨f, fd, F1, hb, hk, hm⟩ := (hF base kb nb).ex
    rw [hmg] at hm
    cases hm
    exact ⟨fd, F1, hb⟩
  · obtain ⟨ss', e⟩ := hl ns hlen
    exact law_sp hS e
abbrev StandsT (K : PySem.W.Frag) (mg : Str → Option Value) (x : Str) (st : Stmt) : Prop := (∃ fd, FunD K x x (defArgs st) (defBody st) (defScope st) [] [] (He.ga K x) fd) ∧ mg x = some (.ref (He.ga K x))
def defT (x : Str) (st : Stmt) : He.DefD := ⟨(x, none), x, x, defArgs st, defBody st, defScope st, [], []⟩
theorem standsT {K : PySem.W.Frag} {h : Heap} {mg : Str → Option Value} {fa : List He.Fa} {fn : List He.DefD} (X : K.In h) (G : h.Ns mainGlobals mg) (c : He.SaysD fa fn K) (i : Nat) {x : Str} {st : Stmt}
    (h1 : fn[i]? = some (defT x st) := by rfl) (h2 : fa[i]? = some (.glo x) := by rfl) : StandsT K mg x st := ⟨c.def_ i h1, He.glo_ok X G (c.fact i h2)⟩
def biNames : List He.Fa := [.free "len", .free "int", .free "abs", .free "max", .free "min", .free "isinstance", .free "sum", .free "any", .free "all", .free "tuple", .free "list", .free "repr", .free "range", .free "enumerate", .free "zip", .free "str", .free "ord", .free "bool", .free "sorted", .free "set", .free "dict"]
theorem bi_of {K : PySem.W.Frag} {h : Heap} {mg : Str → Option Value} {fa : List He.Fa} {fn : List He.DefD} (X : K.In h) (G : h.Ns mainGlobals mg) (c : He.SaysD fa fn K) (n : Nat) (e : fa.drop n = biNames) : Bi mg := by
  have at_ : ∀ (i : Nat) (f : He.Fa), biNames[i]? = some f → f.ok K = true := fun i f h => c.fact (n + i) (by rw [← e, List.getElem?_drop] at h; exact h)
  exact ⟨He.free_ok X G (at_ 0 _ rfl), He.free_ok X G (at_ 1 _ rfl), He.free_ok X G (at_ 2 _ rfl), He.free_ok X G (at_ 3 _ rfl), He.free_ok X G (at_ 4 _ rfl), He.free_ok X G (at_ 5 _ rfl), He.free_ok X G (at_ 6 _ rfl), He.free_ok X G (at_ 7 _ rfl), He.free_ok X G (at_ 8 _ rfl), He.free_ok X G (at_ 9 _ rfl), He.free_ok X G (at_ 10 _ rfl), He.free_ok X G (at_ 11 _ rfl), He.free_ok X G (at_ 12 _ rfl), He.free_ok X G (at_ 13 _ rfl), He.free_ok X G (at_ 14 _ rfl), He.free_ok X G (at_ 15 _ rfl), He.free_ok X G (at_ 16 _ rfl), He.free_ok X G (at_ 17 _ rfl), He.free_ok X G (at_ 18 _ rfl), He.free_ok X G (at_ 19 _ rfl), He.free_ok X G (at_ 20 _ rfl)⟩
end TL
set_option Elab.async false
set_option linter.all false
/-! TLF: the functions on slots, opened (printed by mksimp.py). -/
namespace TL
open PySem PySem.Spec PyProof.Rows L2
@[simp] theorem gD_ap (g : GR) (τ : List S) : gD g τ = match g τ with
  | some (r, τ') => some (r.d, τ')
  | none => none := Eq.trans rfl rfl
@[simp] theorem gR_ap (g : GE) (τ : List S) : gR g τ = match g τ with
  | some (d, τ') => some (.v d, τ')
  | none => none := Eq.trans rfl rfl
@[simp] theorem gC_ap (d : D) (τ : List S) : gC d τ = some (d, τ) := Eq.trans rfl rfl
@[simp] theorem gVar_ap (i : Nat) (τ : List S) : gVar i τ = match τ[i]? with
  | some (.sh d) => some (d, τ)
  | _ => none := Eq.trans rfl rfl
@[simp] theorem gFrz_ap (i : Nat) (τ : List S) : gFrz i τ = match τ[i]? with
  | some (.own (.lst xs)) => some (.lst xs, τ.set i (.sh (.lst xs)))
  | some (.sh d) => some (d, τ)
  | _ => none := Eq.trans rfl rfl
@[simp] theorem gBin_ap (f : D → D → Option D) (ga gb : GE) (τ : List S) : gBin f ga gb τ = match ga τ with
  | none => none
  | some (a, τ1) => match gb τ1 with
    | none => none
    | some (b, τ2) => match f a b with
      | none => none
      | some d => some (d, τ2) := Eq.trans rfl rfl
@[simp] theorem gUn_ap (f : D → Option D) (ga : GE) (τ : List S) : gUn f ga τ = match ga τ with
  | none => none
  | some (a, τ1) => match f a with
    | none => none
    | some d => some (d, τ1) := Eq.trans rfl rfl
@[simp] theorem gNil_ap (τ : List S) : gNil  τ = some ([], τ) := Eq.trans rfl rfl
@[simp] theorem gCons_ap (ga : GE) (gl : GL) (τ : List S) : gCons ga gl τ = match ga τ with
  | none => none
  | some (a, τ1) => match gl τ1 with
    | none => none
    | some (ds, τ2) => some (a :: ds, τ2) := Eq.trans rfl rfl
@[simp] theorem gOpN_ap (f : List D → Option D) (gl : GL) (τ : List S) : gOpN f gl τ = match gl τ with
  | none => none
  | some (ds, τ1) => match f ds with
    | none => none
    | some d => some (d, τ1) := Eq.trans rfl rfl
@[simp] theorem gIf_ap (c : GB) (a b : GE) (τ : List S) : gIf c a b τ = match c τ with
  | none => none
  | some (true, τ1) => a τ1
  | some (false, τ1) => b τ1 := Eq.trans rfl rfl
@[simp] theorem gTB_ap (g : GE) (τ : List S) : gTB g τ = match g τ with
  | some (.bl b, τ1) => some (b, τ1)
  | _ => none := Eq.trans rfl rfl
@[simp] theorem gNot_ap (g : GB) (τ : List S) : gNot g τ = match g τ with
  | some (b, τ1) => some (!b, τ1)
  | none => none := Eq.trans rfl rfl
@[simp] theorem gAnd_ap (g h : GB) (τ : List S) : gAnd g h τ = match g τ with
  | some (true, τ1) => h τ1
  | some (false, τ1) => some (false, τ1)
  | none => none := Eq.trans rfl rfl
@[simp] theorem gOr_ap (g h : GB) (τ : List S) : gOr g h τ = match g τ with
  | some (false, τ1) => h τ1
  | some (true, τ1) => some (true, τ1)
  | none => none := Eq.trans rfl rfl
@[simp] theorem gAndV_ap (g h : GE) (τ : List S) : gAndV g h τ = match g τ with
  | some (.bl true, τ1) => h τ1
  | some (.bl false, τ1) => some (.bl false, τ1)
  | _ => none := Eq.trans rfl rfl
@[simp] theorem gOrV_ap (g h : GE) (τ : List S) : gOrV g h τ = match g τ with
  | some (.bl false, τ1) => h τ1
  | some (.bl true, τ1) => some (.bl true, τ1)
  | _ => none := Eq.trans rfl rfl
@[simp] theorem gNotV_ap (g : GE) (τ : List S) : gNotV g τ = match g τ with
  | some (.bl b, τ1) => some (.bl (!b), τ1)
  | _ => none := Eq.trans rfl rfl
@[simp] theorem gIxC_ap (i : Nat) (gb : GE) (τ : List S) : gIxC i gb τ = match cellAt τ i with
  | none => none
  | some _ => match gb τ with
    | some (.int k, τ1) => match cellAt τ1 i with
      | some (.lst xs) => match atI xs k with
        | some d => some (d, τ1)
        | none => none
      | none => none
    | _ => none := Eq.trans rfl rfl
@[simp] theorem gOpC_ap (f : List D → Option D) (i : Nat) (τ : List S) : gOpC f i τ = match cellAt τ i with
  | some (.lst xs) => match f [.lst xs] with
    | some d => if d.flat = true then some (d, τ) else none
    | none => none
  | none => none := Eq.trans rfl rfl
@[simp] theorem gBinC_ap (f : D → D → Option D) (i : Nat) (gb : GE) (τ : List S) : gBinC f i gb τ = match cellAt τ i with
  | none => none
  | some _ => match gb τ with
    | some (b, τ1) => match cellAt τ1 i with
      | some (.lst xs) => match f (.lst xs) b with
        | some d => if d.flat = true then some (d, τ1) else none
        | none => none
      | none => none
    | none => none := Eq.trans rfl rfl
@[simp] theorem gNoPart_ap (τ : List S) : gNoPart  τ = some (none, τ) := Eq.trans rfl rfl
@[simp] theorem gPart_ap (g : GE) (τ : List S) : gPart g τ = match g τ with
  | some (.int i, τ1) => some (some i, τ1)
  | _ => none := Eq.trans rfl rfl
@[simp] theorem gSl_ap (ga : GE) (glo ghi : GO) (τ : List S) : gSl ga glo ghi τ = match ga τ with
  | none => none
  | some (a, τ1) => match glo τ1 with
    | none => none
    | some (lo, τ2) => match ghi τ2 with
      | none => none
      | some (hi, τ3) => match dSl a lo hi with
        | none => none
        | some r => some (r, τ3) := Eq.trans rfl rfl
@[simp] theorem gSlScr_ap (i : Nat) (glo ghi : GO) (τ : List S) : gSlScr i glo ghi τ = match τ[i]? with
  | some (.scr ns) => match glo τ with
    | none => none
    | some (lo, τ2) => match ghi τ2 with
      | none => none
      | some (hi, τ3) => some (.fl ((cutA ns lo hi).map D.int), τ3)
  | _ => none := Eq.trans rfl rfl
@[simp] theorem gSlC_ap (i : Nat) (glo ghi : GO) (τ : List S) : gSlC i glo ghi τ = match cellAt τ i with
  | some _ => match glo τ with
    | none => none
    | some (lo, τ2) => match ghi τ2 with
      | none => none
      | some (hi, τ3) => match cellAt τ3 i with
        | some (.lst xs) => some (.fl (cutA xs lo hi), τ3)
        | none => none
  | _ => none := Eq.trans rfl rfl
@[simp] theorem gaNil_ap (τ : List S) : gaNil  τ = some ([], τ) := Eq.trans rfl rfl
@[simp] theorem gaD_ap (g : GE) (ga : GA) (τ : List S) : gaD g ga τ = match g τ with
  | none => none
  | some (d, τ1) => match ga τ1 with
    | none => none
    | some (as, τ2) => some (.d d :: as, τ2) := Eq.trans rfl rfl
@[simp] theorem gaL_ap (i : Nat) (ga : GA) (τ : List S) : gaL i ga τ = match τ[i]? with
  | some (.un) => none
  | some (.sh _) => none
  | none => none
  | some _ => match ga τ with
    | none => none
    | some (as, τ2) => some (.l i :: as, τ2) := Eq.trans rfl rfl
@[simp] theorem gCall_ap (gf : GF) (ga : GA) (τ : List S) : gCall gf ga τ = match ga τ with
  | none => none
  | some (as, τ1) => if (lent as).Nodup then match slotsOf τ1 as with
    | none => none
    | some ss => match gf ss with
      | none => none
      | some (r, ss') => match back as ss' τ1 with
        | none => none
        | some τ2 => some (r, τ2)
    else none := Eq.trans rfl rfl
@[simp] theorem gSkip_ap (τ : List S) : gSkip  τ = some (.nx τ) := Eq.trans rfl rfl
@[simp] theorem gSeq_ap (g h : GS) (τ : List S) : gSeq g h τ = match g τ with
  | some (.nx τ1) => h τ1
  | x => x := Eq.trans rfl rfl
@[simp] theorem gDrop_ap (g : GE) (τ : List S) : gDrop g τ = match g τ with
  | some (_, τ1) => some (.nx τ1)
  | none => none := Eq.trans rfl rfl
@[simp] theorem gRet_ap (g : GR) (τ : List S) : gRet g τ = match g τ with
  | some (r, τ1) => some (.rt r τ1)
  | none => none := Eq.trans rfl rfl
@[simp] theorem gIfS_ap (c : GB) (g h : GS) (τ : List S) : gIfS c g h τ = match c τ with
  | some (true, τ1) => g τ1
  | some (false, τ1) => h τ1
  | none => none := Eq.trans rfl rfl
@[simp] theorem gSet_ap (i : Nat) (g : GR) (τ : List S) : gSet i g τ = match g τ with
  | some (r, τ1) => match setS i r.slot τ1 with
    | some τ2 => some (.nx τ2)
    | none => none
  | none => none := Eq.trans rfl rfl
@[simp] theorem gAug_ap (i : Nat) (f : D → D → Option D) (ge : GE) (τ : List S) : gAug i f ge τ = match τ[i]? with
  | some (.sh a) => match ge τ with
    | some (b, τ1) => match f a b with
      | some d => match setS i (.sh d) τ1 with
        | some τ2 => some (.nx τ2)
        | none => none
      | none => none
    | none => none
  | _ => none := Eq.trans rfl rfl
@[simp] theorem gAppend_ap (i : Nat) (ge : GE) (τ : List S) : gAppend i ge τ = match cellAt τ i with
  | none => none
  | some _ => match ge τ with
    | none => none
    | some (d, τ1) => match cellAt τ1 i with
      | some (.lst xs) => if xs.length < line then match putC i (.lst (xs ++ [d])) τ1 with
        | some τ2 => some (.non, τ2)
        | none => none else none
      | none => none := Eq.trans rfl rfl
@[simp] theorem gPop_ap (i : Nat) (τ : List S) : gPop i τ = match cellAt τ i with
  | some (.lst xs) => match xs[xs.length - 1]? with
    | some d => match putC i (.lst xs.dropLast) τ with
      | some τ2 => some (d, τ2)
      | none => none
    | none => none
  | none => none := Eq.trans rfl rfl
@[simp] theorem gPopAt_ap (i : Nat) (gk : GE) (τ : List S) : gPopAt i gk τ = match cellAt τ i with
  | none => none
  | some _ => match gk τ with
    | some (.int k, τ1) => match cellAt τ1 i with
      | some (.lst xs) => if -(2 ^ 63) ≤ k ∧ k < 2 ^ 63 then match seqIndex? k xs.length with
        | some j => match xs[j]? with
          | some d => match putC i (.lst (xs.eraseIdx j)) τ1 with
            | some τ2 => some (d, τ2)
            | none => none
          | none => none
        | none => none else none
      | none => none
    | _ => none := Eq.trans rfl rfl
@[simp] theorem gExtend_ap (i : Nat) (ge : GE) (τ : List S) : gExtend i ge τ = match cellAt τ i with
  | none => none
  | some _ => match ge τ with
    | some (.lst ys, τ1) => match cellAt τ1 i with
      | some (.lst xs) => if xs.length + ys.length ≤ line then match putC i (.lst (xs ++ ys)) τ1 with
        | some τ2 => some (.non, τ2)
        | none => none else none
      | none => none
    | _ => none := Eq.trans rfl rfl
@[simp] theorem gSetC_ap (i : Nat) (gk ge : GE) (τ : List S) : gSetC i gk ge τ = match ge τ with
  | none => none
  | some (d, τ1) => match cellAt τ1 i with
    | none => none
    | some _ => match gk τ1 with
      | some (.int k, τ2) => match cellAt τ2 i with
        | some (.lst xs) => match ixN xs.length k with
          | some j => match putC i (.lst (xs.set j d)) τ2 with
            | some τ3 => some (.nx τ3)
            | none => none
          | none => none
        | none => none
      | _ => none := Eq.trans rfl rfl
@[simp] theorem gtName_ap (i : Nat) (d : D) (τ : List S) : gtName i d τ = setS i (.sh d) τ := Eq.trans rfl rfl
@[simp] theorem gtNil_ap (ds : List D) (τ : List S) : gtNil  ds τ = match ds with
  | [] => some τ
  | _ => none := Eq.trans rfl rfl
@[simp] theorem gAsg_ap (ge : GE) (gt : GT) (τ : List S) : gAsg ge gt τ = match ge τ with
  | some (d, τ1) => match gt d τ1 with
    | some τ2 => some (.nx τ2)
    | none => none
  | none => none := Eq.trans rfl rfl
@[simp] theorem gIt_ap (ge : GE) (τ : List S) : gIt ge τ = match ge τ with
  | some (.lst ds, τ1) => some (ds, τ1)
  | some (.tup ds, τ1) => some (ds, τ1)
  | some (.str x, τ1) => some (x.cps.toList.map fun c => .str ⟨#[c]⟩, τ1)
  | _ => none := Eq.trans rfl rfl
@[simp] theorem gRng1_ap (gl : GL) (τ : List S) : gRng1 gl τ = match gl τ with
  | some ([.int j], τ1) => if -(2 ^ 62) ≤ j ∧ j < 2 ^ 62 then some (rngD 0 j, τ1) else none
  | _ => none := Eq.trans rfl rfl
@[simp] theorem gRng2_ap (gl : GL) (τ : List S) : gRng2 gl τ = match gl τ with
  | some ([.int i, .int j], τ1) => if -(2 ^ 62) ≤ i ∧ i < 2 ^ 62 ∧ -(2 ^ 62) ≤ j ∧ j < 2 ^ 62 then some (rngD i j, τ1) else none
  | _ => none := Eq.trans rfl rfl
@[simp] theorem gEnum_ap (gl : GL) (τ : List S) : gEnum gl τ = match gl τ with
  | some ([.lst ds], τ1) => some (ds.zipIdx.map fun p => .tup [.int (p.2 : Nat), p.1], τ1)
  | _ => none := Eq.trans rfl rfl
@[simp] theorem gZip_ap (gl : GL) (τ : List S) : gZip gl τ = match gl τ with
  | some ([.lst xs, .lst ys], τ1) => some ((xs.zip ys).map fun p => .tup [p.1, p.2], τ1)
  | some ([.tup xs, .tup ys], τ1) => some ((xs.zip ys).map fun p => .tup [p.1, p.2], τ1)
  | _ => none := Eq.trans rfl rfl
@[simp] theorem gFor_ap (gi : GL) (gt : GT) (gb : GS) (τ : List S) : gFor gi gt gb τ = match gi τ with
  | some (ds, τ1) => forLoop gt gb ds τ1
  | none => none := Eq.trans rfl rfl
@[simp] theorem gWhile_ap (n : List S → Nat) (c : GB) (gb : GS) (τ : List S) : gWhile n c gb τ = whLoop c gb (n τ) τ := Eq.trans rfl rfl
@[simp] theorem gYes_ap (τ : List S) : gYes  τ = some (true, τ) := Eq.trans rfl rfl
@[simp] theorem gLc_ap (vs : List Nat) (gi : GL) (gt : GT) (gc : GB) (ge : GE) (τ : List S) : gLc vs gi gt gc ge τ = match gi τ with
  | none => none
  | some (ds, τ1) => if ds.length ≤ line then match lcLoop vs gt gc ge ds (wipeT τ1 vs) with
    | none => none
    | some (es, τ2) => some (.fl es, mend τ1 τ2 vs) else none := Eq.trans rfl rfl
@[simp] theorem gAlt_ap {β : Type} (g h : List S → Option β) (τ : List S) : gAlt g h τ = match g τ with
  | some r => some r
  | none => h τ := Eq.trans rfl rfl
@[simp] theorem gTru_ap (g : GE) (τ : List S) : gTru g τ = match g τ with
  | some (d, τ1) => match dTru d with
    | some b => some (b, τ1)
    | none => none
  | none => none := Eq.trans rfl rfl
@[simp] theorem gTruC_ap (i : Nat) (τ : List S) : gTruC i τ = match cellAt τ i with
  | some (.lst xs) => some (!xs.isEmpty, τ)
  | none => none := Eq.trans rfl rfl
@[simp] theorem gRNil_ap (τ : List S) : gRNil  τ = some ([], τ) := Eq.trans rfl rfl
@[simp] theorem gRCons_ap (g : GR) (gs : GRs) (τ : List S) : gRCons g gs τ = match g τ with
  | none => none
  | some (r, τ1) => match gs τ1 with
    | none => none
    | some (rs, τ2) => some (r :: rs, τ2) := Eq.trans rfl rfl
@[simp] theorem gPar_ap (is : List Nat) (g : GRs) (τ : List S) : gPar is g τ = match g τ with
  | some (rs, τ1) => match setAll is rs τ1 with
    | some τ2 => some (.nx τ2)
    | none => none
  | none => none := Eq.trans rfl rfl
@[simp] theorem gBinR_ap (f : D → D → Option R) (ga gb : GE) (τ : List S) : gBinR f ga gb τ = match ga τ with
  | none => none
  | some (a, τ1) => match gb τ1 with
    | none => none
    | some (b, τ2) => match f a b with
      | none => none
      | some r => some (r, τ2) := Eq.trans rfl rfl
@[simp] theorem forLoop_nil (gt : GT) (gb : GS) (τ : List S) : forLoop gt gb [] τ = some (.nx τ) := Eq.trans rfl rfl
@[simp] theorem lcLoop_nil (vs : List Nat) (gt : GT) (gc : GB) (ge : GE) (τ : List S) : lcLoop vs gt gc ge [] τ = some ([], τ) := Eq.trans rfl rfl
theorem forLoop_cons (gt : GT) (gb : GS) (d : D) (ds : List D) (τ : List S) : forLoop gt gb (d :: ds) τ = (match gt d τ with
    | none => none
    | some τ1 => match gb τ1 with
      | some (.nx τ2) => forLoop gt gb ds τ2
      | some (.ct τ2) => forLoop gt gb ds τ2
      | some (.bk τ2) => some (.nx τ2)
      | some (.rt r τ2) => some (.rt r τ2)
      | none => none) := Eq.trans rfl rfl
theorem lcLoop_cons (vs : List Nat) (gt : GT) (gc : GB) (ge : GE) (d : D) (ds : List D) (τ : List S) : lcLoop vs gt gc ge (d :: ds) τ = (match gt d τ with
    | none => none
    | some τ1 => match gc τ1 with
      | none => none
      | some (false, τ2) => lcLoop vs gt gc ge ds (wipeT τ2 vs)
      | some (true, τ2) => match ge τ2 with
        | none => none
        | some (e, τ3) => match lcLoop vs gt gc ge ds (wipeT τ3 vs) with
          | none => none
          | some (es, τ4) => some (e :: es, τ4)) := Eq.trans rfl rfl
theorem whLoop_succ (c : GB) (gb : GS) (n : Nat) (τ : List S) : whLoop c gb (n + 1) τ = (match c τ with
    | none => none
    | some (false, τ1) => some (.nx τ1)
    | some (true, τ1) => match gb τ1 with
      | some (.nx τ2) => whLoop c gb n τ2
      | some (.ct τ2) => whLoop c gb n τ2
      | some (.bk τ2) => some (.nx τ2)
      | some (.rt r τ2) => some (.rt r τ2)
      | none => none) := Eq.trans rfl rfl
@[simp] theorem setAll_nil (τ : List S) : setAll [] [] τ = some τ := Eq.trans rfl rfl
@[simp] theorem setAll_cons (i : Nat) (is : List Nat) (r : R) (rs : List R) (τ : List S) : setAll (i :: is) (r :: rs) τ = (match setS i r.slot τ with
    | some τ1 => setAll is rs τ1
    | none => none) := Eq.trans rfl rfl
@[simp] theorem gBinF_ap (f : D → D → Option (List D)) (ga gb : GE) (τ : List S) : gBinF f ga gb τ = (match ga τ with
  | none => none
  | some (a, τ1) => match gb τ1 with
    | none => none
    | some (b, τ2) => match f a b with
      | none => none
      | some ds => some (.fl ds, τ2)) := Eq.trans rfl rfl
@[simp] theorem gOpNF_ap (f : List D → Option (List D)) (gl : GL) (τ : List S) : gOpNF f gl τ = (match gl τ with
  | none => none
  | some (ds, τ1) => match f ds with
    | none => none
    | some es => some (.fl es, τ1)) := Eq.trans rfl rfl
@[simp] theorem gtCons_ap (g : GT) (gs : List D → List S → Option (List S)) (d : D) (ds : List D) (τ : List S) : gtCons g gs (d :: ds) τ = (match g d τ with
    | some τ1 => gs ds τ1
    | none => none) := Eq.trans rfl rfl
@[simp] theorem gtTup_ap (n : Nat) (gs : List D → List S → Option (List S)) (ds : List D) (τ : List S) : gtTup n gs (.tup ds) τ = (if ds.length = n then gs ds τ else none) := Eq.trans rfl rfl
theorem gDef_ap (np nl : Nat) (gb : GS) (ss : List S) : gDef np nl gb ss = (if ss.length = np then match gb (ss ++ List.replicate nl .un) with
  | some (.rt r τ) => some (r, τ.take np)
  | some (.nx τ) => some (.v .non, τ.take np)
  | _ => none else none) := Eq.trans rfl rfl
end TL
set_option Elab.async false
set_option linter.all false
/-! TLG: helps to reckon with functions on slots; the hand that the laws draw from. -/
namespace TL
open PySem PySem.Spec PyProof.Rows L2
/-! ### opened operations -/
section
variable {i j : Int} {xs : List D}
@[simp] theorem dAdd_ii : dAdd (.int i) (.int j) = some (.int (i + j)) := Eq.trans rfl rfl
@[simp] theorem dSub_ii : dSub (.int i) (.int j) = some (.int (i - j)) := Eq.trans rfl rfl
@[simp] theorem dLt_ii : dLt (.int i) (.int j) = some (.bl (decide (i < j))) := Eq.trans rfl rfl
@[simp] theorem dLe_ii : dLe (.int i) (.int j) = some (.bl (decide (i ≤ j))) := Eq.trans rfl rfl
@[simp] theorem dGt_ii : dGt (.int i) (.int j) = some (.bl (decide (j < i))) := Eq.trans rfl rfl
@[simp] theorem dGe_ii : dGe (.int i) (.int j) = some (.bl (decide (j ≤ i))) := Eq.trans rfl rfl
@[simp] theorem dEq_ii : dEq (.int i) (.int j) = some (.bl (decide (i = j))) := Eq.trans rfl rfl
@[simp] theorem dNe_ii : dNe (.int i) (.int j) = some (.bl (!decide (i = j))) := Eq.trans rfl rfl
@[simp] theorem dAddR_ii : dAddR (.int i) (.int j) = some (.v (.int (i + j))) := Eq.trans rfl rfl
theorem dMul_ii (h : i.natAbs < 2 ^ 64 ∨ j.natAbs < 2 ^ 64 ∨ i.natAbs.log2 + j.natAbs.log2 < 1000000) : dMul (.int i) (.int j) = some (.int (i * j)) := if_pos h
theorem dMulR_ii (h : i.natAbs < 2 ^ 64 ∨ j.natAbs < 2 ^ 64 ∨ i.natAbs.log2 + j.natAbs.log2 < 1000000) : dMulR (.int i) (.int j) = some (.v (.int (i * j))) := by
  show (match dMul (.int i) (.int j) with
    | some d => some (R.v d)
    | none => none) = _
  rw [dMul_ii h]
theorem dDiv_ii (h : 0 < j) (h2 : j.natAbs.log2 < 9000) : dDiv (.int i) (.int j) = some (.int (i / j)) := if_pos ⟨h, h2⟩
theorem dMod_ii (h : 0 < j) : dMod (.int i) (.int j) = some (.int (i % j)) := if_pos h
@[simp] theorem fInt_i : fInt [.int i] = some (.int i) := Eq.trans rfl rfl
@[simp] theorem fAbs_i : fAbs [.int i] = some (.int (if i < 0 then -i else i)) := Eq.trans rfl rfl
@[simp] theorem fMax2_i : fMax2 [.int i, .int j] = some (.int (if j > i then j else i)) := Eq.trans rfl rfl
@[simp] theorem fMin2_i : fMin2 [.int i, .int j] = some (.int (if j < i then j else i)) := Eq.trans rfl rfl
@[simp] theorem fLen_l : fLen [.lst xs] = some (.int xs.length) := Eq.trans rfl rfl
@[simp] theorem fLen_t : fLen [.tup xs] = some (.int xs.length) := Eq.trans rfl rfl
@[simp] theorem fTupOf_l : fTupOf [.lst xs] = some (.tup xs) := Eq.trans rfl rfl
@[simp] theorem fTupOf_t : fTupOf [.tup xs] = some (.tup xs) := Eq.trans rfl rfl
@[simp] theorem fLstOf_l : fLstOf [.lst xs] = some xs := Eq.trans rfl rfl
@[simp] theorem fLstOf_t : fLstOf [.tup xs] = some xs := Eq.trans rfl rfl
@[simp] theorem dTru_b {k : Bool} : dTru (.bl k) = some k := Eq.trans rfl rfl
@[simp] theorem slot_v {d : D} : (R.v d).slot = .sh d := Eq.trans rfl rfl
@[simp] theorem slot_fl {ds : List D} : (R.fl ds).slot = .own (.lst ds) := Eq.trans rfl rfl
@[simp] theorem d_v {d : D} : (R.v d).d = d := Eq.trans rfl rfl
@[simp] theorem d_fl {ds : List D} : (R.fl ds).d = .lst ds := Eq.trans rfl rfl
@[simp] theorem flat_i : (D.int i).flat = true := Eq.trans rfl rfl
@[simp] theorem flat_b {k : Bool} : (D.bl k).flat = true := Eq.trans rfl rfl
theorem atI_nat {α : Type} (xs : List α) (n : Nat) : atI xs (n : Int) = xs[n]? := by
  unfold atI ixN
  rw [if_pos (by omega)]
  by_cases h : n < xs.length
  · rw [if_pos (by omega)]
    rfl
  · rw [if_neg (by omega)]
    exact (List.getElem?_eq_none (by omega)).symm
theorem atI_of {α : Type} (xs : List α) (i : Int) (h : 0 ≤ i) : atI xs i = xs[i.toNat]? := by
  have := atI_nat xs i.toNat
  rwa [Int.toNat_of_nonneg h] at this
@[simp] theorem atI_0 {α : Type} (xs : List α) : atI xs 0 = xs[0]? := atI_nat xs 0
@[simp] theorem atI_1 {α : Type} (xs : List α) : atI xs 1 = xs[1]? := atI_nat xs 1
@[simp] theorem atI_2 {α : Type} (xs : List α) : atI xs 2 = xs[2]? := atI_nat xs 2
@[simp] theorem atI_3 {α : Type} (xs : List α) : atI xs 3 = xs[3]? := atI_nat xs 3
@[simp] theorem atI_4 {α : Type} (xs : List α) : atI xs 4 = xs[4]? := atI_nat xs 4
@[simp] theorem dIx_t : dIx (.tup xs) (.int i) = atI xs i := Eq.trans rfl rfl
@[simp] theorem dIx_l : dIx (.lst xs) (.int i) = atI xs i := Eq.trans rfl rfl
theorem ixN_nat {n k : Nat} (h : k < n) : ixN n (k : Int) = some k := by
  unfold ixN
  rw [if_pos (by omega), if_pos (by omega)]
  rfl
@[simp] theorem cellAt_own {τ : List S} {c : C} : cellAt (.own c :: τ) 0 = some c := Eq.trans rfl rfl
@[simp] theorem cellAt_par {τ : List S} {c : C} : cellAt (.par c :: τ) 0 = some c := Eq.trans rfl rfl
@[simp] theorem cellAt_sh {τ : List S} {d : D} : cellAt (.sh d :: τ) 0 = none := Eq.trans rfl rfl
@[simp] theorem cellAt_un {τ : List S} : cellAt (.un :: τ) 0 = none := Eq.trans rfl rfl
@[simp] theorem cellAt_scr {τ : List S} {ns : List Int} : cellAt (.scr ns :: τ) 0 = none := Eq.trans rfl rfl
@[simp] theorem cellAt_succ {τ : List S} {s : S} {n : Nat} : cellAt (s :: τ) (n + 1) = cellAt τ n := by
  unfold cellAt
  rw [List.getElem?_cons_succ]
theorem fTup_of {ds : List D} (h : ds.length ≤ 16777216) : fTup ds = some (.tup ds) := if_pos h
theorem fLst_of {ds : List D} (h : ds.length ≤ 16777216) : fLst ds = some ds := if_pos h
@[simp] theorem fTup_1 {a : D} : fTup [a] = some (.tup [a]) := fTup_of (by simp)
@[simp] theorem fTup_2 {a b : D} : fTup [a, b] = some (.tup [a, b]) := fTup_of (by simp)
@[simp] theorem fTup_3 {a b c : D} : fTup [a, b, c] = some (.tup [a, b, c]) := fTup_of (by simp)
end
/-! ### numbers -/
theorem natAbs_cast (n : Nat) : ((n : Int)).natAbs = n := rfl
theorem log2_lt {n k : Nat} (h : n < 2 ^ k) (hk : 0 < k) : n.log2 < k := by
  by_cases h0 : n = 0
  · subst h0
    simpa using hk
  · exact (Nat.log2_lt h0).mpr h
theorem dMod_nn {a b : Nat} (h : 0 < b) : dMod (.int (a : Int)) (.int (b : Int)) = some (.int ((a % b : Nat) : Int)) := dMod_ii (i := a) (j := b) (Int.ofNat_lt.mpr h)
theorem dDiv_nn {a b : Nat} (h : 0 < b) (h2 : b.log2 < 9000) : dDiv (.int (a : Int)) (.int (b : Int)) = some (.int ((a / b : Nat) : Int)) := dDiv_ii (i := a) (j := b) (Int.ofNat_lt.mpr h) h2
theorem dMulR_nn {a b : Nat} (h : a < 2 ^ 64 ∨ b < 2 ^ 64 ∨ a.log2 + b.log2 < 1000000) : dMulR (.int (a : Int)) (.int (b : Int)) = some (.v (.int ((a * b : Nat) : Int))) := (dMulR_ii (i := a) (j := b) h).trans (by rw [Int.natCast_mul])
theorem dAddR_nn {a b : Nat} : dAddR (.int (a : Int)) (.int (b : Int)) = some (.v (.int ((a + b : Nat) : Int))) := rfl
/-! ### steps -/
section
variable {g h : GS} {c : GB} {ge : GE} {gr : GR} {gf : GF} {ga : GA} {τ τ1 τ2 τ3 ss ss' : List S} {o : O} {r : R} {d : D} {i np nl : Nat} {as : List A}
theorem def_rt (h0 : ss.length = np) (h1 : g (ss ++ List.replicate nl .un) = some (.rt r τ)) : gDef np nl g ss = some (r, τ.take np) := by
  rw [gDef_ap, if_pos h0, h1]
theorem seq_nx (h1 : g τ = some (.nx τ1)) (h2 : h τ1 = some o) : gSeq g h τ = some o := by
  rw [gSeq_ap, h1]
  exact h2
theorem seq_rt (h1 : g τ = some (.rt r τ1)) : gSeq g h τ = some (.rt r τ1) := by
  rw [gSeq_ap, h1]
theorem if_t (h1 : c τ = some (true, τ1)) (h2 : g τ1 = some o) : gIfS c g h τ = some o := by
  rw [gIfS_ap, h1]
  exact h2
theorem if_f (h1 : c τ = some (false, τ1)) (h2 : h τ1 = some o) : gIfS c g h τ = some o := by
  rw [gIfS_ap, h1]
  exact h2
theorem if_skip (h1 : c τ = some (false, τ1)) : gIfS c g gSkip τ = some (.nx τ1) := if_f h1 rfl
theorem set_of (h1 : gr τ = some (r, τ1)) (h2 : setS i r.slot τ1 = some τ2) : gSet i gr τ = some (.nx τ2) := by
  rw [gSet_ap, h1]
  show (match setS i r.slot τ1 with
    | some τ2 => some (O.nx τ2)
    | none => none) = _
  rw [h2]
theorem ret_of (h1 : gr τ = some (r, τ1)) : gRet gr τ = some (.rt r τ1) := by
  rw [gRet_ap, h1]
theorem drop_of (h1 : ge τ = some (d, τ1)) : gDrop ge τ = some (.nx τ1) := by
  rw [gDrop_ap, h1]
theorem call_of (h1 : ga τ = some (as, τ1)) (hn : (lent as).Nodup) (h2 : slotsOf τ1 as = some ss) (h3 : gf ss = some (r, ss')) (h4 : back as ss' τ1 = some τ2) : gCall gf ga τ = some (r, τ2) := by
  rw [gCall_ap, h1]
  show (if (lent as).Nodup then _ else _) = _
  rw [if_pos hn]
  show (match slotsOf τ1 as with
    | none => none
    | some ss => match gf ss with
      | none => none
      | some (r, ss') => match back as ss' τ1 with
        | none => none
        | some τ2 => some (r, τ2)) = _
  rw [h2]
  show (match gf ss with
      | none => none
      | some (r, ss') => match back as ss' τ1 with
        | none => none
        | some τ2 => some (r, τ2)) = _
  rw [h3]
  show (match back as ss' τ1 with
        | none => none
        | some τ2 => some (r, τ2)) = _
  rw [h4]
theorem gD_of (h1 : gr τ = some (r, τ1)) : gD gr τ = some (r.d, τ1) := by
  rw [gD_ap, h1]
theorem set0_of (h1 : gr τ = some (.v d, τ)) (h2 : setS i (.sh d) τ = some τ2) : gSet i gr τ = some (.nx τ2) := set_of h1 h2
theorem setf_of {ds : List D} (h1 : gr τ = some (.fl ds, τ)) (h2 : setS i (.own (.lst ds)) τ = some τ2) : gSet i gr τ = some (.nx τ2) := set_of h1 h2
end
end TL
set_option Elab.async false
set_option linter.all false
/-! TLR: rules that reckon a function on slots out, one step each. -/
namespace TL
open PySem PySem.Spec PyProof.Rows L2
def cAnd (h : GB) : Bool → List S → Option (Bool × List S)
  | true, τ => h τ
  | false, τ => some (false, τ)
def cOr (h : GB) : Bool → List S → Option (Bool × List S)
  | false, τ => h τ
  | true, τ => some (true, τ)
def cAndV (h : GE) : Bool → List S → Option (D × List S)
  | true, τ => h τ
  | false, τ => some (.bl false, τ)
def cOrV (h : GE) : Bool → List S → Option (D × List S)
  | false, τ => h τ
  | true, τ => some (.bl true, τ)
def cIf {β : Type} (g h : List S → Option β) : Bool → List S → Option β
  | true, τ => g τ
  | false, τ => h τ
def cSeq (h : GS) : O → Option O
  | .nx τ => h τ
  | o => some o
def frzS (i : Nat) (τ : List S) : S → Option (D × List S)
  | .own (.lst xs) => (setS i (.sh (.lst xs)) τ).map fun τ1 => (.lst xs, τ1)
  | .sh d => some (d, τ)
  | _ => none
section
variable {τ τ1 τ2 τ3 τ4 ss ss' l l' : List S} {a b c d x : D} {ds xs ys : List D} {s t u : S} {o o1 : O} {r : R} {rs : List R} {i n m nl : Nat} {k : Int} {as : List A} {bb b2 : Bool} {β : Type}
  {ga gb ge ge2 : GE} {gr : GR} {gl : GL} {gt : GT} {gts : List D → List S → Option (List S)} {cb cb2 : GB} {g h : GS} {gf : GF} {gg : GA} {grs : GRs} {f : D → D → Option D} {fr : D → D → Option R} {f1 : D → Option D} {fn : List D → Option D} {ff : List D → Option (List D)} {C0 C1 : C} {o2 : Option Int} {lo hi : GO}
theorem r_c : gC d τ = some (d, τ) := rfl
theorem get_z : (s :: τ)[0]? = some s := rfl
theorem get_s (e : τ[i]? = some s) : (t :: τ)[i + 1]? = some s := by rw [List.getElem?_cons_succ]; exact e
theorem set_z (e : t.free = true) : setS 0 s (t :: τ) = some (s :: τ) := by
  unfold setS
  rw [get_z]
  exact if_pos e
theorem set_s (e : setS i s τ = some τ1) : setS (i + 1) s (t :: τ) = some (t :: τ1) := by
  obtain ⟨u, e1, e2, rfl⟩ := setS_inv e
  unfold setS
  rw [get_s e1]
  exact if_pos e2
theorem free_un : S.un.free = true := rfl
theorem free_sh : (S.sh d).free = true := rfl
theorem free_own : (S.own C0).free = true := rfl
theorem slot_rv : (R.v d).slot = .sh d := rfl
theorem slot_rf : (R.fl ds).slot = .own (.lst ds) := rfl
theorem put_own : putC 0 C0 (.own C1 :: τ) = some (.own C0 :: τ) := rfl
theorem put_par : putC 0 C0 (.par C1 :: τ) = some (.par C0 :: τ) := rfl
theorem put_s (e : putC i C0 τ = some τ1) : putC (i + 1) C0 (t :: τ) = some (t :: τ1) := by
  unfold putC at e ⊢
  rw [List.getElem?_cons_succ]
  cases q : τ[i]? with
  | none => rw [q] at e; cases e
  | some v =>
    rw [q] at e
    revert e
    show (match v.cell with
      | some _ => some (τ.set i (v.put C0))
      | none => none) = _ → (match v.cell with
      | some _ => some ((t :: τ).set (i + 1) (v.put C0))
      | none => none) = _
    cases v.cell with
    | none => intro e; cases e
    | some _ => intro e; cases e; rfl
theorem cell_own : cellAt (.own C0 :: τ) 0 = some C0 := rfl
theorem cell_par : cellAt (.par C0 :: τ) 0 = some C0 := rfl
theorem cell_s (e : cellAt τ i = some C0) : cellAt (t :: τ) (i + 1) = some C0 := by rw [cellAt_succ]; exact e
theorem r_frz (e : τ[i]? = some s) (e2 : frzS i τ s = some (d, τ1)) : gFrz i τ = some (d, τ1) := by
  rw [gFrz_ap, e]
  cases s with
  | own c =>
    cases c with
    | lst xs =>
      unfold frzS at e2
      unfold setS at e2
      rw [e] at e2
      exact e2
  | sh d => exact e2
  | un => cases e2
  | par _ => cases e2
  | scr _ => cases e2
theorem frz_sh : frzS i τ (.sh d) = some (d, τ) := rfl
theorem frz_own (e : setS i (.sh (.lst xs)) τ = some τ1) : frzS i τ (.own (.lst xs)) = some (.lst xs, τ1) := by
  show (setS i (.sh (.lst xs)) τ).map (fun τ1 => (D.lst xs, τ1)) = _
  rw [e]
  rfl
theorem r_bin (h1 : ga τ = some (a, τ1)) (h2 : gb τ1 = some (b, τ2)) (h3 : f a b = some d) : gBin f ga gb τ = some (d, τ2) := by simp only [gBin_ap, h1, h2, h3]
theorem r_binR (h1 : ga τ = some (a, τ1)) (h2 : gb τ1 = some (b, τ2)) (h3 : fr a b = some r) : gBinR fr ga gb τ = some (r, τ2) := by simp only [gBinR_ap, h1, h2, h3]
theorem r_un (h1 : ga τ = some (a, τ1)) (h3 : f1 a = some d) : gUn f1 ga τ = some (d, τ1) := by simp only [gUn_ap, h1, h3]
theorem r_opN (h1 : gl τ = some (ds, τ1)) (h3 : fn ds = some d) : gOpN fn gl τ = some (d, τ1) := by simp only [gOpN_ap, h1, h3]
theorem r_opNF (h1 : gl τ = some (ds, τ1)) (h3 : ff ds = some xs) : gOpNF ff gl τ = some (.fl xs, τ1) := by simp only [gOpNF_ap, h1, h3]
theorem r_nil : gNil τ = some ([], τ) := rfl
theorem r_cons (h1 : ga τ = some (a, τ1)) (h2 : gl τ1 = some (ds, τ2)) : gCons ga gl τ = some (a :: ds, τ2) := by simp only [gCons_ap, h1, h2]
theorem r_gD (h1 : gr τ = some (r, τ1)) (h2 : r.d = d) : gD gr τ = some (d, τ1) := by simp only [gD_ap, h1, h2]
theorem rd_v : (R.v d).d = d := rfl
theorem rd_f : (R.fl ds).d = .lst ds := rfl
theorem r_gR (h1 : ga τ = some (a, τ1)) : gR ga τ = some (.v a, τ1) := by simp only [gR_ap, h1]
theorem r_if (h1 : cb τ = some (bb, τ1)) (h2 : cIf ga gb bb τ1 = some (d, τ2)) : gIf cb ga gb τ = some (d, τ2) := by
  cases bb <;> simp only [gIf_ap, h1] <;> exact h2
theorem cif_t {g h : List S → Option β} {r : β} (e : g τ = some r) : cIf g h true τ = some r := e
theorem cif_f {g h : List S → Option β} {r : β} (e : h τ = some r) : cIf g h false τ = some r := e
theorem r_tb (h1 : ge τ = some (.bl bb, τ1)) : gTB ge τ = some (bb, τ1) := by simp only [gTB_ap, h1]
theorem r_tru (h1 : ge τ = some (d, τ1)) (h2 : dTru d = some bb) : gTru ge τ = some (bb, τ1) := by simp only [gTru_ap, h1, h2]
theorem tru_bl : dTru (.bl bb) = some bb := rfl
theorem r_not (h1 : cb τ = some (bb, τ1)) (h2 : (!bb) = b2) : gNot cb τ = some (b2, τ1) := by simp only [gNot_ap, h1, h2]
theorem r_notV (h1 : ge τ = some (.bl bb, τ1)) (h2 : (!bb) = b2) : gNotV ge τ = some (.bl b2, τ1) := by simp only [gNotV_ap, h1, h2]
theorem not_t : (!true) = false := rfl
theorem not_f : (!false) = true := rfl
theorem r_and (h1 : cb τ = some (bb, τ1)) (h2 : cAnd cb2 bb τ1 = some (b2, τ2)) : gAnd cb cb2 τ = some (b2, τ2) := by
  cases bb <;> simp only [gAnd_ap, h1] <;> exact h2
theorem cand_t (e : cb τ = some (bb, τ1)) : cAnd cb true τ = some (bb, τ1) := e
theorem cand_f : cAnd cb false τ = some (false, τ) := rfl
theorem r_or (h1 : cb τ = some (bb, τ1)) (h2 : cOr cb2 bb τ1 = some (b2, τ2)) : gOr cb cb2 τ = some (b2, τ2) := by
  cases bb <;> simp only [gOr_ap, h1] <;> exact h2
theorem cor_f (e : cb τ = some (bb, τ1)) : cOr cb false τ = some (bb, τ1) := e
theorem cor_t : cOr cb true τ = some (true, τ) := rfl
theorem r_andV (h1 : ge τ = some (.bl bb, τ1)) (h2 : cAndV ge2 bb τ1 = some (d, τ2)) : gAndV ge ge2 τ = some (d, τ2) := by
  cases bb <;> simp only [gAndV_ap, h1] <;> exact h2
theorem candV_t (e : ge τ = some (d, τ1)) : cAndV ge true τ = some (d, τ1) := e
theorem candV_f : cAndV ge false τ = some (.bl false, τ) := rfl
theorem r_orV (h1 : ge τ = some (.bl bb, τ1)) (h2 : cOrV ge2 bb τ1 = some (d, τ2)) : gOrV ge ge2 τ = some (d, τ2) := by
  cases bb <;> simp only [gOrV_ap, h1] <;> exact h2
theorem corV_f (e : ge τ = some (d, τ1)) : cOrV ge false τ = some (d, τ1) := e
theorem corV_t : cOrV ge true τ = some (.bl true, τ) := rfl
theorem r_ixC (h0 : cellAt τ i = some C0) (h1 : gb τ = some (.int k, τ1)) (h2 : cellAt τ1 i = some (.lst xs)) (h3 : atI xs k = some d) : gIxC i gb τ = some (d, τ1) := by simp only [gIxC_ap, h0, h1, h2, h3]
theorem r_opC (h0 : cellAt τ i = some (.lst xs)) (h1 : fn [.lst xs] = some d) (h2 : d.flat = true) : gOpC fn i τ = some (d, τ) := by
  simp only [gOpC_ap, h0, h1]
  exact if_pos h2
theorem r_binC (h0 : cellAt τ i = some C0) (h1 : gb τ = some (b, τ1)) (h2 : cellAt τ1 i = some (.lst xs)) (h3 : f (.lst xs) b = some d) (h4 : d.flat = true) : gBinC f i gb τ = some (d, τ1) := by
  simp only [gBinC_ap, h0, h1, h2, h3]
  exact if_pos h4
theorem flat_int : (D.int k).flat = true := rfl
theorem flat_bl : (D.bl bb).flat = true := rfl
theorem r_skip : gSkip τ = some (.nx τ) := rfl
theorem r_seq (h1 : g τ = some o1) (h2 : cSeq h o1 = some o) : gSeq g h τ = some o := by
  rw [gSeq_ap, h1]
  cases o1 <;> exact h2
theorem cseq_nx (e : h τ = some o) : cSeq h (.nx τ) = some o := e
theorem cseq_rt : cSeq h (.rt r τ) = some (.rt r τ) := rfl
theorem r_drop (h1 : ge τ = some (d, τ1)) : gDrop ge τ = some (.nx τ1) := drop_of h1
theorem r_ret (h1 : gr τ = some (r, τ1)) : gRet gr τ = some (.rt r τ1) := ret_of h1
theorem r_ifS (h1 : cb τ = some (bb, τ1)) (h2 : cIf g h bb τ1 = some o) : gIfS cb g h τ = some o := by
  cases bb <;> rw [gIfS_ap, h1] <;> exact h2
theorem r_set (h1 : gr τ = some (r, τ1)) (h2 : r.slot = s) (h3 : setS i s τ1 = some τ2) : gSet i gr τ = some (.nx τ2) := set_of h1 (h2 ▸ h3)
theorem r_setC (h1 : ge τ = some (d, τ1)) (h2 : cellAt τ1 i = some C0) (h3 : gb τ1 = some (.int k, τ2)) (h4 : cellAt τ2 i = some (.lst xs)) (h5 : ixN xs.length k = some n) (h6 : xs.set n d = ys) (h7 : putC i (.lst ys) τ2 = some τ3) : gSetC i gb ge τ = some (.nx τ3) := by
  subst h6
  simp only [gSetC_ap, h1, h2, h3, h4, h5, h7]
theorem r_append (h1 : cellAt τ i = some C0) (h2 : ge τ = some (d, τ1)) (h3 : cellAt τ1 i = some (.lst xs)) (h4 : xs.length < line) (h5 : putC i (.lst (xs ++ [d])) τ1 = some τ2) : gAppend i ge τ = some (.non, τ2) := by
  simp only [gAppend_ap, h1, h2, h3, h4, h5, if_true]
theorem r_popAt {gk : GE} (h0 : cellAt τ i = some C0) (h1 : gk τ = some (.int k, τ1)) (h2 : cellAt τ1 i = some (.lst xs)) (h3 : -(2 ^ 63) ≤ k ∧ k < 2 ^ 63) (h4 : seqIndex? k xs.length = some n) (h5 : xs[n]? = some d) (h6 : putC i (.lst (xs.eraseIdx n)) τ1 = some τ2) : gPopAt i gk τ = some (d, τ2) := by
  simp only [gPopAt_ap, h0, h1, h2, if_pos h3, h4, h5, h6]
theorem r_alt {g h : List S → Option β} {r : β} (e : g τ = some r) : gAlt g h τ = some r := by rw [gAlt_ap, e]
theorem r_alt2 {g h : List S → Option β} {r : β} (e0 : g τ = none) (e : h τ = some r) : gAlt g h τ = some r := by rw [gAlt_ap, e0]; exact e
theorem r_asg (h1 : ge τ = some (d, τ1)) (h2 : gt d τ1 = some τ2) : gAsg ge gt τ = some (.nx τ2) := by simp only [gAsg_ap, h1, h2]
theorem rt_name (h1 : setS i (.sh d) τ = some τ1) : gtName i d τ = some τ1 := h1
theorem rt_nil : gtNil [] τ = some τ := rfl
theorem rt_cons (h1 : gt d τ = some τ1) (h2 : gts ds τ1 = some τ2) : gtCons gt gts (d :: ds) τ = some τ2 := by
  rw [gtCons_ap, h1]
  exact h2
theorem rt_tup (h1 : ds.length = n) (h2 : gts ds τ = some τ1) : gtTup n gts (.tup ds) τ = some τ1 := by
  rw [gtTup_ap, if_pos h1]
  exact h2
theorem r_rnil : gRNil τ = some ([], τ) := rfl
theorem r_rcons (h1 : gr τ = some (r, τ1)) (h2 : grs τ1 = some (rs, τ2)) : gRCons gr grs τ = some (r :: rs, τ2) := by simp only [gRCons_ap, h1, h2]
theorem sa_nil : setAll [] [] τ = some τ := rfl
theorem sa_cons {is : List Nat} (h0 : r.slot = s) (h1 : setS i s τ = some τ1) (h2 : setAll is rs τ1 = some τ2) : setAll (i :: is) (r :: rs) τ = some τ2 := by
  subst h0
  rw [setAll_cons, h1]
  exact h2
theorem r_par {is : List Nat} (h1 : grs τ = some (rs, τ1)) (h2 : setAll is rs τ1 = some τ2) : gPar is grs τ = some (.nx τ2) := by simp only [gPar_ap, h1, h2]
theorem r_ganil : gaNil τ = some ([], τ) := rfl
theorem r_gad (h1 : ge τ = some (d, τ1)) (h2 : gg τ1 = some (as, τ2)) : gaD ge gg τ = some (.d d :: as, τ2) := by simp only [gaD_ap, h1, h2]
def lendS : S → Bool
  | .un => false
  | .sh _ => false
  | _ => true
theorem r_gal (h0 : τ[i]? = some s) (h1 : lendS s = true) (h2 : gg τ = some (as, τ2)) : gaL i gg τ = some (.l i :: as, τ2) := by
  cases s with
  | un => cases h1
  | sh _ => cases h1
  | own _ => simp only [gaL_ap, h0, h2]
  | par _ => simp only [gaL_ap, h0, h2]
  | scr _ => simp only [gaL_ap, h0, h2]
theorem ls_own : lendS (.own C0) = true := rfl
theorem ls_par : lendS (.par C0) = true := rfl
theorem ls_scr {ns : List Int} : lendS (.scr ns) = true := rfl
theorem le_nil : (lent []).Nodup := .nil
theorem le_d (e : (lent as).Nodup) : (lent (.d d :: as)).Nodup := e
theorem le_l (e : lent as = []) : (lent (.l i :: as)).Nodup := by
  show (i :: lent as).Nodup
  rw [e]
  exact List.nodup_cons.mpr ⟨nofun, .nil⟩
theorem ln_nil : lent [] = [] := rfl
theorem ln_d (e : lent as = []) : lent (.d d :: as) = [] := e
theorem so_nil : slotsOf τ [] = some [] := rfl
theorem so_d (e : slotsOf τ as = some ss) : slotsOf τ (.d d :: as) = some (.sh d :: ss) := by
  unfold slotsOf
  rw [e]
  rfl
theorem so_l (e0 : τ[i]? = some s) (e1 : s.lend = some t) (e : slotsOf τ as = some ss) : slotsOf τ (.l i :: as) = some (t :: ss) := by
  unfold slotsOf
  have : slotOf τ (.l i) = some t := by
    show (τ[i]?).bind S.lend = some t
    rw [e0]
    exact e1
  rw [this, e]
theorem sl_own : (S.own C0).lend = some (.par C0) := rfl
theorem sl_par : (S.par C0).lend = some (.par C0) := rfl
theorem sl_scr {ns : List Int} : (S.scr ns).lend = some (.scr ns) := rfl
theorem bk_nil : back [] ss τ = some τ := by
  cases ss <;> rfl
theorem bk_d (e : back as ss τ = some τ1) : back (.d d :: as) (s :: ss) τ = some τ1 := e
theorem bk_par (e0 : putC i C0 τ = some τ1) (e : back as ss τ1 = some τ2) : back (.l i :: as) (.par C0 :: ss) τ = some τ2 := by
  unfold putC at e0
  cases q : τ[i]? with
  | none => rw [q] at e0; cases e0
  | some v =>
    rw [q] at e0
    revert e0
    show (match v.cell with
      | some _ => some (τ.set i (v.put C0))
      | none => none) = _ → _
    cases v.cell with
    | none => intro e0; cases e0
    | some _ =>
      intro e0
      cases e0
      unfold back
      rw [q]
      exact e
theorem bk_scr {ns ms : List Int} (e0 : τ[i]? = some (.scr ms)) (e : back as ss τ = some τ2) : back (.l i :: as) (.scr ns :: ss) τ = some τ2 := by
  unfold back
  rw [e0]
  exact e
theorem r_call (h1 : gg τ = some (as, τ1)) (hn : (lent as).Nodup) (h2 : slotsOf τ1 as = some ss) (h3 : gf ss = some (r, ss')) (h4 : back as ss' τ1 = some τ2) : gCall gf gg τ = some (r, τ2) := call_of h1 hn h2 h3 h4
theorem re_z : List.replicate 0 S.un = [] := rfl
theorem re_s (e : List.replicate n S.un = l) : List.replicate (n + 1) S.un = .un :: l := by rw [← e]; rfl
theorem r_def1 (h0 : List.replicate nl S.un = l) (h1 : g (s :: l) = some (.rt r (t :: l'))) : gDef 1 nl g [s] = some (r, [t]) := def_rt (τ := t :: l') rfl (by rw [h0]; exact h1)
theorem r_def2 {s2 t2 : S} (h0 : List.replicate nl S.un = l) (h1 : g (s :: s2 :: l) = some (.rt r (t :: t2 :: l'))) : gDef 2 nl g [s, s2] = some (r, [t, t2]) := def_rt (τ := t :: t2 :: l') rfl (by rw [h0]; exact h1)
theorem r_def3 {s2 t2 s3 t3 : S} (h0 : List.replicate nl S.un = l) (h1 : g (s :: s2 :: s3 :: l) = some (.rt r (t :: t2 :: t3 :: l'))) : gDef 3 nl g [s, s2, s3] = some (r, [t, t2, t3]) := def_rt (τ := t :: t2 :: t3 :: l') rfl (by rw [h0]; exact h1)
def itD : D → Option (List D)
  | .lst ds => some ds
  | .tup ds => some ds
  | _ => none
theorem r_it (h1 : ge τ = some (d, τ1)) (h2 : itD d = some ds) : gIt ge τ = some (ds, τ1) := by
  cases d with
  | lst l => cases h2; simp only [gIt_ap, h1]
  | tup l => cases h2; simp only [gIt_ap, h1]
  | non => cases h2
  | bl _ => cases h2
  | int _ => cases h2
  | str _ => cases h2
  | ty _ => cases h2
theorem it_l : itD (.lst ds) = some ds := rfl
theorem it_t : itD (.tup ds) = some ds := rfl
theorem ls_z : (t :: τ).set 0 s = s :: τ := rfl
theorem ls_s (e : τ.set i s = τ1) : (t :: τ).set (i + 1) s = t :: τ1 := by rw [← e]; rfl
theorem kp_un : S.kept (some .un) = .un := rfl
theorem kp_sh : S.kept (some (.sh d)) = .sh d := rfl
theorem kp_own : S.kept (some (.own C0)) = .un := rfl
theorem wp_1 (e : τ.set i .un = τ1) : wipeT τ [i] = τ1 := e
theorem md_1 (e0 : τ[i]? = some s) (e1 : S.kept (some s) = t) (e : τ1.set i t = τ2) : mend τ τ1 [i] = τ2 := by
  subst e1
  rw [← e0] at e
  exact e
theorem r_for {gi : GL} (h1 : gi τ = some (ds, τ1)) (h2 : forLoop gt g ds τ1 = some o) : gFor gi gt g τ = some o := by
  rw [gFor_ap, h1]
  exact h2
theorem r_while {w : List S → Nat} {c0 : GB} (h2 : whLoop c0 g (w τ) τ = some o) : gWhile w c0 g τ = some o := h2
theorem r_lc {vs : List Nat} {gi : GL} {es : List D} (h1 : gi τ = some (ds, τ1)) (h2 : ds.length ≤ line) (hw : wipeT τ1 vs = τ4) (h3 : lcLoop vs gt cb ge ds τ4 = some (es, τ2)) (h4 : mend τ1 τ2 vs = τ3) : gLc vs gi gt cb ge τ = some (.fl es, τ3) := by
  subst h4
  subst hw
  rw [gLc_ap, h1]
  show (if ds.length ≤ line then _ else _) = _
  rw [if_pos h2]
  show (match lcLoop vs gt cb ge ds (wipeT τ1 vs) with
    | none => none
    | some (es, τ2) => some (R.fl es, mend τ1 τ2 vs)) = _
  rw [h3]
theorem r_rng1 {j : Int} (h1 : gl τ = some ([.int j], τ1)) (h2 : -(2 ^ 62) ≤ j ∧ j < 2 ^ 62) : gRng1 gl τ = some (rngD 0 j, τ1) := by
  rw [gRng1_ap, h1]
  exact if_pos h2
theorem r_rng2 {j j2 : Int} (h1 : gl τ = some ([.int j, .int j2], τ1)) (h2 : -(2 ^ 62) ≤ j ∧ j < 2 ^ 62 ∧ -(2 ^ 62) ≤ j2 ∧ j2 < 2 ^ 62) : gRng2 gl τ = some (rngD j j2, τ1) := by
  rw [gRng2_ap, h1]
  exact if_pos h2
variable {e : D}
theorem at5_0 : atI [a, b, c, d, e] 0 = some a := rfl
theorem ix5_0 : ixN [a, b, c, d, e].length 0 = some 0 := rfl
theorem st5_0 : [a, b, c, d, e].set 0 x = [x, b, c, d, e] := rfl
theorem at5_1 : atI [a, b, c, d, e] 1 = some b := rfl
theorem ix5_1 : ixN [a, b, c, d, e].length 1 = some 1 := rfl
theorem st5_1 : [a, b, c, d, e].set 1 x = [a, x, c, d, e] := rfl
theorem at5_2 : atI [a, b, c, d, e] 2 = some c := rfl
theorem ix5_2 : ixN [a, b, c, d, e].length 2 = some 2 := rfl
theorem st5_2 : [a, b, c, d, e].set 2 x = [a, b, x, d, e] := rfl
theorem at5_3 : atI [a, b, c, d, e] 3 = some d := rfl
theorem ix5_3 : ixN [a, b, c, d, e].length 3 = some 3 := rfl
theorem st5_3 : [a, b, c, d, e].set 3 x = [a, b, c, x, e] := rfl
theorem at5_4 : atI [a, b, c, d, e] 4 = some e := rfl
theorem ix5_4 : ixN [a, b, c, d, e].length 4 = some 4 := rfl
theorem st5_4 : [a, b, c, d, e].set 4 x = [a, b, c, d, x] := rfl
theorem ixt2_0 : dIx (.tup [a, b]) (.int 0) = some a := rfl
theorem ixt2_1 : dIx (.tup [a, b]) (.int 1) = some b := rfl
theorem fLst_0 : fLst [] = some [] := rfl
theorem fLst_1 : fLst [a] = some [a] := rfl
theorem fLst_2 : fLst [a, b] = some [a, b] := rfl
theorem fLst_3 : fLst [a, b, c] = some [a, b, c] := rfl
theorem fLst_4 : fLst [a, b, c, d] = some [a, b, c, d] := rfl
theorem fLst_5 : fLst [a, b, c, d, e] = some [a, b, c, d, e] := rfl
theorem dIsNot_tt : dIsNot (.bl true) (.bl true) = some (.bl false) := rfl
theorem r_slScr {lo2 hi2 : Option Int} {ns : List Int} (h0 : τ[i]? = some (.scr ns)) (h1 : lo τ = some (lo2, τ1)) (h2 : hi τ1 = some (hi2, τ2)) : gSlScr i lo hi τ = some (.fl ((cutA ns lo2 hi2).map D.int), τ2) := by
  simp only [gSlScr_ap, h0, h1, h2]
theorem r_nopart : gNoPart τ = some (none, τ) := rfl
theorem r_part (h1 : ge τ = some (.int k, τ1)) : gPart ge τ = some (some k, τ1) := by simp only [gPart_ap, h1]
end
end TL
set_option Elab.async false
set_option linter.all false
set_option exponentiation.threshold 3000
/-! TLS: the text of a tree of whole numbers. -/
namespace TL
open PySem PySem.Spec PyProof.Rows L2
mutual
def D.okR : D → Bool
  | .non => true
  | .bl _ => true
  | .int i => decide (0 ≤ i) && decide (i.natAbs.log2 < 1920)
  | .str _ => false
  | .ty _ => false
  | .tup ds => D.okRs ds
  | .lst ds => D.okRs ds
def D.okRs : List D → Bool
  | [] => true
  | d :: ds => D.okR d && D.okRs ds
end
mutual
def D.bk : D → Nat
  | .tup ds => D.bks ds
  | .lst ds => D.bks ds
  | _ => 0
def D.bks : List D → Nat
  | [] => 0
  | d :: ds => D.bk d + 1 + D.bks ds
end
mutual
def D.dep : D → Nat
  | .tup ds => D.deps ds + 1
  | .lst ds => D.deps ds + 1
  | _ => 0
def D.deps : List D → Nat
  | [] => 0
  | d :: ds => max (D.dep d) (D.deps ds)
end
structure OkP (p : PyData) (b n : Nat) : Prop where
  sh : p.showable = true
  ls : p.leavesShort 600 = true
  hd : p.hasDict = false
  bk : p.bulk = b
  dp : p.depth = n
  cl : p.canLay0 = true
structure OkPs (p : List PyData) (b n : Nat) : Prop where
  sh : PyData.showableAll p = true
  ls : PyData.leavesShortAll 600 p = true
  hd : PyData.hasDictAll p = false
  bk : PyData.bulkAll p = b
  dp : PyData.depthAll p = n
  cl : PyData.canLayAll0 p = true
mutual
theorem okR_py : ∀ d : D, d.okR = true → ∃ p, d.py = some p ∧ OkP p d.bk d.dep
  | .non, _ => ⟨_, rfl, rfl, rfl, rfl, rfl, rfl, rfl⟩
  | .bl _, _ => ⟨_, rfl, rfl, rfl, rfl, rfl, rfl, rfl⟩
  | .int i, h => by
    have h : (decide (0 ≤ i) && decide (i.natAbs.log2 < 1920)) = true := h
    simp only [Bool.and_eq_true, decide_eq_true_eq] at h
    refine ⟨_, rfl, ?_, ?_, rfl, rfl, rfl, rfl⟩
    · exact decide_eq_true h.2
    · refine decide_eq_true ?_
      refine toString_length_le h.1 (by decide) ?_
      by_cases h0 : i.natAbs = 0
      · have : i = 0 := by omega
        rw [this]
        decide
      · have h3 := (Nat.log2_lt h0).mp h.2
        have h4 : (2 : Nat) ^ 1920 < 10 ^ 600 := by decide +kernel
        have h5 : (i.natAbs : Int) < ((10 ^ 600 : Nat) : Int) := Int.ofNat_lt.mpr (Nat.lt_trans h3 h4)
        have h6 : (i.natAbs : Int) = i := by omega
        rw [h6] at h5
        rwa [Int.natCast_pow] at h5
  | .str _, h => by cases h
  | .ty _, h => by cases h
  | .tup ds, h => by
    obtain ⟨ps, e, o⟩ := okRs_pys ds h
    refine ⟨.tuple ps, ?_, o.sh, o.ls, o.hd, o.bk, ?_, o.cl⟩
    · unfold D.py
      rw [e]
    · show PyData.depthAll ps + 1 = _
      rw [o.dp]
      rfl
  | .lst ds, h => by
    obtain ⟨ps, e, o⟩ := okRs_pys ds h
    refine ⟨.list ps, ?_, o.sh, o.ls, o.hd, o.bk, ?_, o.cl⟩
    · unfold D.py
      rw [e]
    · show PyData.depthAll ps + 1 = _
      rw [o.dp]
      rfl
theorem okRs_pys : ∀ ds : List D, D.okRs ds = true → ∃ ps, D.pys ds = some ps ∧ OkPs ps (D.bks ds) (D.deps ds)
  | [], _ => ⟨_, rfl, rfl, rfl, rfl, rfl, rfl, rfl⟩
  | d :: ds, h => by
    have h : (D.okR d && D.okRs ds) = true := h
    simp only [Bool.and_eq_true] at h
    obtain ⟨p, e, o⟩ := okR_py d h.1
    obtain ⟨ps, es, os⟩ := okRs_pys ds h.2
    refine ⟨p :: ps, ?_, ?_, ?_, ?_, ?_, ?_, ?_⟩
    · unfold D.pys
      rw [e, es]
    · show (p.showable && PyData.showableAll ps) = true
      rw [o.sh, os.sh]
      rfl
    · show (p.leavesShort 600 && PyData.leavesShortAll 600 ps) = true
      rw [o.ls, os.ls]
      rfl
    · show (p.hasDict || PyData.hasDictAll ps) = false
      rw [o.hd, os.hd]
      rfl
    · show p.bulk + 1 + PyData.bulkAll ps = _
      rw [o.bk, os.bk]
      rfl
    · show max p.depth (PyData.depthAll ps) = _
      rw [o.dp, os.dp]
      rfl
    · show (p.canLay0 && PyData.canLayAll0 ps) = true
      rw [o.cl, os.cl]
      rfl
end
theorem repr_ok {d : D} (h : d.okR = true) (hb : d.bk ≤ 20000) (hd : d.dep ≤ 100) : ∃ x, fRepr [d] = some (.str x) := by
  obtain ⟨p, e, o⟩ := okR_py d h
  have l := PyData.shown_le_bulk 600 (by decide) p o.ls
  rw [o.bk] at l
  refine ⟨p.shown, ?_⟩
  have : shownOf d = some p.shown := by
    unfold shownOf
    rw [e]
    exact if_pos ⟨o.sh, by rw [o.dp]; exact hd, by show _ ≤ 16777216; omega, o.hd⟩
  show (match shownOf d with
    | some x => some (D.str x)
    | none => none) = _
  rw [this]
theorem eq_str {x : Str} : dEq (.str x) (.str x) = some (.bl true) := by
  show (match (some (decide (x = x)) : Option Bool) with
    | some k => some (D.bl k)
    | none => none) = _
  rw [decide_eq_true rfl]
theorem okRs_all {ds : List D} (h : ∀ d ∈ ds, d.okR = true) : D.okRs ds = true := by
  induction ds with
  | nil => rfl
  | cons d ds ih =>
    show (D.okR d && D.okRs ds) = true
    rw [h d List.mem_cons_self, ih fun x hx => h x (List.mem_cons_of_mem _ hx)]
    rfl
theorem bks_le {ds : List D} {m : Nat} (h : ∀ d ∈ ds, d.bk ≤ m) : D.bks ds ≤ (m + 1) * ds.length := by
  induction ds with
  | nil => exact Nat.zero_le _
  | cons d ds ih =>
    have h1 := h d List.mem_cons_self
    have h2 := ih fun x hx => h x (List.mem_cons_of_mem _ hx)
    show D.bk d + 1 + D.bks ds ≤ (m + 1) * (ds.length + 1)
    rw [Nat.mul_add]
    omega
theorem deps_le {ds : List D} {m : Nat} (h : ∀ d ∈ ds, d.dep ≤ m) : D.deps ds ≤ m := by
  induction ds with
  | nil => exact Nat.zero_le _
  | cons d ds ih =>
    exact Nat.max_le.mpr ⟨h d List.mem_cons_self, ih fun x hx => h x (List.mem_cons_of_mem _ hx)⟩
theorem okR_nat {n : Nat} (h : n < 2 ^ 1900) : (D.int (n : Int)).okR = true := by
  have h1 : (n : Int).natAbs.log2 < 1920 := Nat.lt_of_lt_of_le (log2_lt (n := n) h (by decide)) (by decide)
  show (decide (0 ≤ (n : Int)) && decide ((n : Int).natAbs.log2 < 1920)) = true
  rw [decide_eq_true h1, decide_eq_true (by omega)]
  rfl
theorem shaped_of {d : D} {p : PyData} (e : d.py = some p) (h : d.okR = true) (hd : d.dep ≤ 64) : SeqAt.shaped p = true := by
  obtain ⟨p', e', o⟩ := okR_py d h
  rw [e] at e'
  cases e'
  show (p.canLay0 && decide (p.depth ≤ 64)) = true
  rw [o.cl, o.dp, decide_eq_true hd]
  rfl
theorem eqB_py {a b : D} {p q : PyData} (ea : a.py = some p) (eb : b.py = some q) (ha : a.okR = true) (hb : b.okR = true) (da : a.dep ≤ 64) (db : b.dep ≤ 64) : (match a.py, b.py with
    | some d, some e => if SeqAt.shaped d = true ∧ SeqAt.shaped e = true then some (PyData.eqv d e) else none
    | _, _ => none) = some (PyData.eqv p q) := by
  rw [ea, eb]
  exact if_pos ⟨shaped_of ea ha da, shaped_of eb hb db⟩
theorem ne_nil {xs : List D} (h : D.okRs xs = true) (hd : D.deps xs ≤ 63) : dNe (.lst xs) (.lst []) = some (.bl (!xs.isEmpty)) := by
  obtain ⟨ps, e, o⟩ := okRs_pys xs h
  have e1 : (D.lst xs).py = some (.list ps) := by
    unfold D.py
    rw [e]
  have e2 := eqB_py (a := .lst xs) (b := .lst []) (p := .list ps) (q := .list []) e1 rfl h rfl (Nat.succ_le_succ hd) (by decide)
  have e3 : dEqB (.lst xs) (.lst []) = some (PyData.eqv (.list ps) (.list [])) := e2
  show (match dEqB (.lst xs) (.lst []) with
    | some k => some (D.bl (!k))
    | none => none) = _
  rw [e3]
  cases xs with
  | nil =>
    cases e
    rfl
  | cons x xs =>
    cases ps with
    | nil =>
      exfalso
      unfold D.pys at e
      revert e
      cases D.py x <;> cases D.pys xs <;> intro e <;> cases e
    | cons p ps => rfl
theorem eq_pair {a b c d : Int} (h1 : (D.int a).okR = true) (h2 : (D.int b).okR = true) (h3 : (D.int c).okR = true) (h4 : (D.int d).okR = true) : dEq (.tup [.int a, .int b]) (.tup [.int c, .int d]) = some (.bl (decide (a = c) && decide (b = d))) := by
  have e2 := eqB_py (a := .tup [.int a, .int b]) (b := .tup [.int c, .int d]) (p := .tuple [.int a, .int b]) (q := .tuple [.int c, .int d]) rfl rfl
    (by show ((D.int a).okR && ((D.int b).okR && true)) = true; rw [h1, h2]; rfl) (by show ((D.int c).okR && ((D.int d).okR && true)) = true; rw [h3, h4]; rfl) (show 1 ≤ 64 by decide) (show 1 ≤ 64 by decide)
  have e3 : dEqB (.tup [.int a, .int b]) (.tup [.int c, .int d]) = some (PyData.eqv (.tuple [.int a, .int b]) (.tuple [.int c, .int d])) := e2
  show (match dEqB (.tup [.int a, .int b]) (.tup [.int c, .int d]) with
    | some k => some (D.bl k)
    | none => none) = _
  rw [e3]
  show some (D.bl ((a == c) && ((b == d) && true))) = _
  rw [Bool.and_true]
  rfl
end TL
set_option Elab.async false
set_option linter.all false
set_option maxRecDepth 100000
/-! K07: the text's defs as functions on slots (printed by gen.py). -/
namespace K07
open PySem PySem.Spec PyProof.Rows L2 TL

def g_is_integer : GF := gDef 1 0 (gRet (gR (gAndV (gOpN fIsi (gCons (gFrz 0) (gCons (gC (.ty "int")) gNil))) (gNotV (gOpN fIsi (gCons (gFrz 0) (gCons (gC (.ty "bool")) gNil)))))))
def g_is_tuple_of : GF := gDef 2 0 (gRet (gR (gAndV (gOpN fIsi (gCons (gFrz 0) (gCons (gC (.ty "tuple")) gNil))) (gBin dEq (gOpN fLen (gCons (gFrz 0) gNil)) (gFrz 1)))))
def g_common : GF := gDef 2 0 (gSeq (gWhile (fun _ => 20000) (gTB (gBin dNe (gFrz 1) (gC (.int 0)))) (gPar [0, 1] (gRCons (gR (gFrz 1)) (gRCons (gR (gBin dMod (gFrz 0) (gFrz 1))) gRNil))))
    (gRet (gR (gFrz 0))))
def g_ratio : GF := gDef 2 1 (gSeq (gSet 2 (gCall g_common (gaD (gFrz 0) (gaD (gFrz 1) gaNil))))
    (gRet (gR (gOpN fTup (gCons (gBin dDiv (gFrz 0) (gFrz 2)) (gCons (gBin dDiv (gFrz 1) (gFrz 2)) gNil))))))
def g_plus : GF := gDef 2 0 (gRet (gCall g_ratio (gaD (gD (gBinR dAddR (gD (gBinR dMulR (gBin dIx (gFrz 0) (gC (.int 0))) (gBin dIx (gFrz 1) (gC (.int 1))))) (gD (gBinR dMulR (gBin dIx (gFrz 1) (gC (.int 0))) (gBin dIx (gFrz 0) (gC (.int 1))))))) (gaD (gD (gBinR dMulR (gBin dIx (gFrz 0) (gC (.int 1))) (gBin dIx (gFrz 1) (gC (.int 1))))) gaNil))))
def g_times : GF := gDef 2 0 (gRet (gCall g_ratio (gaD (gD (gBinR dMulR (gBin dIx (gFrz 0) (gC (.int 0))) (gBin dIx (gFrz 1) (gC (.int 0))))) (gaD (gD (gBinR dMulR (gBin dIx (gFrz 0) (gC (.int 1))) (gBin dIx (gFrz 1) (gC (.int 1))))) gaNil))))
def g_total : GF := gDef 1 2 (gSeq (gSet 1 (gR (gOpN fTup (gCons (gC (.int 0)) (gCons (gC (.int 1)) gNil)))))
    (gSeq (gFor (gIt (gFrz 0)) (gtName 2) (gSet 1 (gCall g_plus (gaD (gFrz 1) (gaD (gFrz 2) gaNil)))))
    (gRet (gR (gFrz 1)))))
def g_is_more : GF := gDef 2 0 (gRet (gR (gBin dGt (gD (gBinR dMulR (gBin dIx (gFrz 0) (gC (.int 0))) (gBin dIx (gFrz 1) (gC (.int 1))))) (gD (gBinR dMulR (gBin dIx (gFrz 1) (gC (.int 0))) (gBin dIx (gFrz 0) (gC (.int 1))))))))
def g_is_ratio : GF := gDef 1 0 (gSeq (gIfS (gOr (gNot (gTru (gD (gCall g_is_tuple_of (gaD (gFrz 0) (gaD (gC (.int 2)) gaNil)))))) (gOr (gNot (gTru (gD (gCall g_is_integer (gaD (gBin dIx (gFrz 0) (gC (.int 0))) gaNil))))) (gNot (gTru (gD (gCall g_is_integer (gaD (gBin dIx (gFrz 0) (gC (.int 1))) gaNil))))))) (gRet (gR (gC (.bl false)))) gSkip)
    (gRet (gR (gAndV (gBin dGe (gBin dIx (gFrz 0) (gC (.int 0))) (gC (.int 0))) (gAndV (gBin dGt (gBin dIx (gFrz 0) (gC (.int 1))) (gC (.int 0))) (gBin dEq (gD (gCall g_ratio (gaD (gBin dIx (gFrz 0) (gC (.int 0))) (gaD (gBin dIx (gFrz 0) (gC (.int 1))) gaNil)))) (gFrz 0)))))))
def g_shared : GF := gDef 1 2 (gSeq (gSet 1 (gR (gOpN fSum (gCons (gFrz 0) gNil))))
    (gRet (gR (gOpN fTupOf (gCons (gD (gLc [2] (gIt (gFrz 0)) (gtName 2) gYes (gD (gCall g_ratio (gaD (gFrz 2) (gaD (gFrz 1) gaNil)))))) gNil)))))
def g_law_hand : GF := gDef 1 2 (gSeq (gSet 1 (gLc [2] (gIt (gD (gSlScr 0 gNoPart (gPart (gC (.int 63)))))) (gtName 2) gYes (gBin dMod (gOpN fAbs (gCons (gOpN fInt (gCons (gFrz 2) gNil)) gNil)) (gBin dPow (gC (.int 10)) (gC (.int 36))))))
    (gRet (gOpNF fLst (gCons (gFrz 1) (gCons (gC (.int 0)) (gCons (gC (.int 0)) (gCons (gD (gBinR dAddR (gC (.int 17417)) (gD (gBinR dMulR (gC (.int 311)) (gOpN fLen (gCons (gFrz 1) gNil)))))) (gCons (gC (.int 0)) gNil))))))))
def g_law_draw : GF := gDef 2 3 (gSeq (gIfS (gAnd (gTB (gBin dEq (gIxC 0 (gC (.int 2))) (gC (.int 0)))) (gTB (gBin dLt (gIxC 0 (gC (.int 1))) (gOpN fLen (gCons (gIxC 0 (gC (.int 0))) gNil))))) (gSeq (gSet 2 (gR (gBin dIx (gIxC 0 (gC (.int 0))) (gIxC 0 (gC (.int 1))))))
    (gSeq (gSetC 0 (gC (.int 1)) (gD (gBinR dAddR (gIxC 0 (gC (.int 1))) (gC (.int 1)))))
    (gSeq (gSetC 0 (gC (.int 3)) (gBin dMod (gOpN fInt (gCons (gD (gBinR dAddR (gD (gBinR dAddR (gD (gBinR dMulR (gIxC 0 (gC (.int 3))) (gC (.int 69621)))) (gFrz 2))) (gC (.int 103)))) gNil)) (gC (.int 2147483629))))
    (gIfS (gTB (gBin dGe (gFrz 2) (gBin dPow (gC (.int 10)) (gC (.int 18))))) (gSetC 0 (gC (.int 2)) (gFrz 2)) gSkip)))) gSkip)
    (gSeq (gIfS (gTB (gBin dGt (gIxC 0 (gC (.int 2))) (gC (.int 0)))) (gSeq (gSet 3 (gR (gBin dMod (gOpN fInt (gCons (gIxC 0 (gC (.int 2))) gNil)) (gFrz 1))))
    (gSeq (gSetC 0 (gC (.int 2)) (gBin dDiv (gIxC 0 (gC (.int 2))) (gFrz 1)))
    (gRet (gR (gFrz 3))))) gSkip)
    (gSeq (gSetC 0 (gC (.int 4)) (gD (gBinR dAddR (gIxC 0 (gC (.int 4))) (gC (.int 1)))))
    (gSeq (gSet 4 (gR (gBin dMod (gOpN fInt (gCons (gD (gBinR dMulR (gOpN fInt (gCons (gD (gBinR dAddR (gIxC 0 (gC (.int 3))) (gD (gBinR dMulR (gC (.int 7919)) (gIxC 0 (gC (.int 4))))))) gNil)) (gC (.int 48271)))) gNil)) (gC (.int 2147483647)))))
    (gSeq (gSet 4 (gR (gBin dMod (gOpN fInt (gCons (gD (gBinR dMulR (gFrz 4) (gD (gBinR dAddR (gBin dDiv (gFrz 4) (gC (.int 1009))) (gC (.int 69621)))))) gNil)) (gC (.int 2147483647)))))
    (gSeq (gSet 4 (gR (gBin dMod (gOpN fInt (gCons (gD (gBinR dMulR (gFrz 4) (gD (gBinR dAddR (gBin dDiv (gFrz 4) (gC (.int 2003))) (gC (.int 40692)))))) gNil)) (gC (.int 2147483399)))))
    (gRet (gR (gBin dMod (gOpN fInt (gCons (gBin dDiv (gFrz 4) (gC (.int 16))) gNil)) (gFrz 1))))))))))
def g_law_some : GF := gDef 2 0 (gRet (gR (gBin dIx (gFrz 1) (gD (gCall g_law_draw (gaL 0 (gaD (gOpN fLen (gCons (gFrz 1) gNil)) gaNil)))))))
def g_law_same : GF := gDef 2 0 (gRet (gR (gBin dEq (gOpN fRepr (gCons (gFrz 0) gNil)) (gOpN fRepr (gCons (gFrz 1) gNil)))))
def g_law_common : GF := gDef 2 1 (gSeq (gFor (gRng1 (gCons (gC (.int 4000)) gNil)) (gtName 2) (gSeq (gIfS (gTB (gBin dEq (gFrz 1) (gC (.int 0)))) (gRet (gR (gFrz 0))) gSkip)
    (gPar [0, 1] (gRCons (gR (gFrz 1)) (gRCons (gR (gBin dMod (gOpN fInt (gCons (gFrz 0) gNil)) (gFrz 1))) gRNil)))))
    (gRet (gR (gFrz 0))))
def g_law_low : GF := gDef 2 1 (gSeq (gSet 2 (gCall g_law_common (gaD (gFrz 0) (gaD (gFrz 1) gaNil))))
    (gRet (gR (gOpN fTup (gCons (gBin dDiv (gFrz 0) (gFrz 2)) (gCons (gBin dDiv (gFrz 1) (gFrz 2)) gNil))))))
def g_law_number : GF := gDef 1 3 (gSeq (gSet 1 (gCall g_law_draw (gaL 0 (gaD (gC (.int 4)) gaNil))))
    (gSeq (gIfS (gTB (gBin dEq (gFrz 1) (gC (.int 0)))) (gRet (gCall g_law_draw (gaL 0 (gaD (gC (.int 7)) gaNil)))) gSkip)
    (gSeq (gIfS (gTB (gBin dEq (gFrz 1) (gC (.int 1)))) (gRet (gBinR dAddR (gD (gBinR dMulR (gD (gCall g_law_draw (gaL 0 (gaD (gBin dPow (gC (.int 10)) (gC (.int 12))) gaNil)))) (gBin dPow (gC (.int 10)) (gC (.int 20))))) (gD (gCall g_law_draw (gaL 0 (gaD (gBin dPow (gC (.int 10)) (gC (.int 12))) gaNil)))))) gSkip)
    (gSeq (gSet 2 (gR (gC (.int 1))))
    (gSeq (gFor (gRng1 (gCons (gD (gCall g_law_draw (gaL 0 (gaD (gC (.int 24)) gaNil)))) gNil)) (gtName 3) (gSet 2 (gBinR dMulR (gFrz 2) (gD (gCall g_law_some (gaL 0 (gaD (gD (gOpNF fLst (gCons (gC (.int 2)) (gCons (gC (.int 2)) (gCons (gC (.int 3)) (gCons (gC (.int 3)) (gCons (gC (.int 5)) (gCons (gC (.int 7)) (gCons (gC (.int 11)) gNil))))))))) gaNil)))))))
    (gRet (gR (gFrz 2))))))))
def g_law_part : GF := gDef 1 0 (gRet (gCall g_law_low (gaD (gD (gCall g_law_number (gaL 0 gaNil))) (gaD (gD (gBinR dAddR (gC (.int 1)) (gD (gCall g_law_number (gaL 0 gaNil))))) gaNil))))
def g_law_mixed : GF := gDef 2 2 (gSeq (gPar [2, 3] (gRCons (gOpNF fLstOf (gCons (gFrz 1) gNil)) (gRCons (gOpNF fLst gNil) gRNil)))
    (gSeq (gWhile (fun _ => 1000) (gAlt (gTB (gBinC dNe 2 (gD (gOpNF fLst gNil)))) (gTB (gBin dNe (gFrz 2) (gD (gOpNF fLst gNil))))) (gDrop (gAppend 3 (gPopAt 2 (gD (gCall g_law_draw (gaL 0 (gaD (gAlt (gOpC fLen 2) (gOpN fLen (gCons (gFrz 2) gNil))) gaNil))))))))
    (gRet (gR (gFrz 3)))))
def g_law_are_sums_right : GF := gDef 1 8 (gSeq (gSet 1 (gBinR dAddR (gC (.int 1)) (gD (gCall g_law_draw (gaL 0 (gaD (gC (.int 200)) gaNil))))))
    (gSeq (gSet 2 (gLc [3] (gRng2 (gCons (gC (.int 1)) (gCons (gD (gBinR dAddR (gFrz 1) (gC (.int 1)))) gNil))) (gtName 3) gYes (gOpN fTup (gCons (gC (.int 1)) (gCons (gD (gBinR dMulR (gFrz 3) (gD (gBinR dAddR (gFrz 3) (gC (.int 1)))))) gNil)))))
    (gSeq (gIfS (gNot (gTru (gD (gCall g_law_same (gaD (gD (gCall g_total (gaD (gD (gCall g_law_mixed (gaL 0 (gaD (gFrz 2) gaNil)))) gaNil))) (gaD (gOpN fTup (gCons (gFrz 1) (gCons (gD (gBinR dAddR (gFrz 1) (gC (.int 1)))) gNil))) gaNil)))))) (gRet (gR (gC (.bl false)))) gSkip)
    (gSeq (gSet 1 (gBinR dAddR (gC (.int 1)) (gD (gCall g_law_draw (gaL 0 (gaD (gC (.int 120)) gaNil))))))
    (gSeq (gSet 2 (gLc [3] (gRng2 (gCons (gC (.int 1)) (gCons (gD (gBinR dAddR (gFrz 1) (gC (.int 1)))) gNil))) (gtName 3) gYes (gOpN fTup (gCons (gC (.int 1)) (gCons (gBin dShl (gC (.int 1)) (gFrz 3)) gNil)))))
    (gSeq (gIfS (gNot (gTru (gD (gCall g_law_same (gaD (gD (gOpNF fLst (gCons (gD (gCall g_total (gaD (gFrz 2) gaNil))) (gCons (gD (gCall g_total (gaD (gD (gBinR dAddR (gFrz 2) (gD (gOpNF fLst (gCons (gOpN fTup (gCons (gC (.int 1)) (gCons (gBin dShl (gC (.int 1)) (gFrz 1)) gNil))) gNil))))) gaNil))) gNil)))) (gaD (gD (gOpNF fLst (gCons (gOpN fTup (gCons (gBin dSub (gBin dShl (gC (.int 1)) (gFrz 1)) (gC (.int 1))) (gCons (gBin dShl (gC (.int 1)) (gFrz 1)) gNil))) (gCons (gOpN fTup (gCons (gC (.int 1)) (gCons (gC (.int 1)) gNil))) gNil)))) gaNil)))))) (gRet (gR (gC (.bl false)))) gSkip)
    (gSeq (gAsg (gOpN fTup (gCons (gD (gBinR dAddR (gC (.int 1)) (gD (gCall g_law_draw (gaL 0 (gaD (gC (.int 90)) gaNil)))))) (gCons (gD (gBinR dAddR (gC (.int 1)) (gD (gCall g_law_draw (gaL 0 (gaD (gC (.int 90)) gaNil)))))) gNil))) (gtTup 2 (gtCons (gtName 1) (gtCons (gtName 4) gtNil))))
    (gSeq (gSet 2 (gLc [3] (gRng1 (gCons (gD (gBinR dAddR (gFrz 1) (gC (.int 1)))) gNil)) (gtName 3) gYes (gD (gCall g_law_low (gaD (gFrz 3) (gaD (gFrz 4) gaNil))))))
    (gSeq (gIfS (gNot (gTru (gD (gCall g_law_same (gaD (gD (gCall g_total (gaD (gD (gCall g_law_mixed (gaL 0 (gaD (gFrz 2) gaNil)))) gaNil))) (gaD (gD (gCall g_law_low (gaD (gD (gBinR dMulR (gFrz 1) (gD (gBinR dAddR (gFrz 1) (gC (.int 1)))))) (gaD (gD (gBinR dMulR (gC (.int 2)) (gFrz 4))) gaNil)))) gaNil)))))) (gRet (gR (gC (.bl false)))) gSkip)
    (gSeq (gPar [1, 5, 2] (gRCons (gBinR dAddR (gC (.int 1)) (gD (gCall g_law_draw (gaL 0 (gaD (gC (.int 20)) gaNil))))) (gRCons (gR (gC (.int 1))) (gRCons (gOpNF fLst gNil) gRNil))))
    (gSeq (gFor (gRng2 (gCons (gC (.int 1)) (gCons (gD (gBinR dAddR (gFrz 1) (gC (.int 1)))) gNil))) (gtName 3) (gSeq (gSet 5 (gBinR dMulR (gFrz 5) (gD (gBinR dAddR (gFrz 3) (gC (.int 1))))))
    (gDrop (gAppend 2 (gD (gCall g_law_low (gaD (gFrz 3) (gaD (gFrz 5) gaNil))))))))
    (gSeq (gIfS (gNot (gTru (gD (gCall g_law_same (gaD (gD (gCall g_total (gaD (gFrz 2) gaNil))) (gaD (gOpN fTup (gCons (gBin dSub (gFrz 5) (gC (.int 1))) (gCons (gFrz 5) gNil))) gaNil)))))) (gRet (gR (gC (.bl false)))) gSkip)
    (gSeq (gSet 2 (gLc [6] (gRng1 (gCons (gD (gCall g_law_draw (gaL 0 (gaD (gC (.int 9)) gaNil)))) gNil)) (gtName 6) gYes (gD (gCall g_law_part (gaL 0 gaNil)))))
    (gSeq (gSet 7 (gR (gOpN fTup (gCons (gC (.int 0)) (gCons (gC (.int 1)) gNil)))))
    (gSeq (gFor (gIt (gFrz 2)) (gtName 8) (gSet 7 (gCall g_law_low (gaD (gD (gBinR dAddR (gD (gBinR dMulR (gBin dIx (gFrz 7) (gC (.int 0))) (gBin dIx (gFrz 8) (gC (.int 1))))) (gD (gBinR dMulR (gBin dIx (gFrz 8) (gC (.int 0))) (gBin dIx (gFrz 7) (gC (.int 1))))))) (gaD (gD (gBinR dMulR (gBin dIx (gFrz 7) (gC (.int 1))) (gBin dIx (gFrz 8) (gC (.int 1))))) gaNil)))))
    (gRet (gCall g_law_same (gaD (gD (gOpNF fLst (gCons (gD (gCall g_total (gaD (gFrz 2) gaNil))) (gCons (gD (gCall g_total (gaD (gD (gCall g_law_mixed (gaL 0 (gaD (gFrz 2) gaNil)))) gaNil))) gNil)))) (gaD (gD (gOpNF fLst (gCons (gFrz 7) (gCons (gFrz 7) gNil)))) gaNil)))))))))))))))))))
def g_law_are_pairs_right : GF := gDef 1 7 (gSeq (gPar [1, 2] (gRCons (gCall g_law_part (gaL 0 gaNil)) (gRCons (gCall g_law_part (gaL 0 gaNil)) gRNil)))
    (gSeq (gSet 2 (gCall g_law_some (gaL 0 (gaD (gD (gOpNF fLst (gCons (gFrz 2) (gCons (gFrz 2) (gCons (gFrz 1) (gCons (gOpN fTup (gCons (gBin dIx (gFrz 1) (gC (.int 1))) (gCons (gOpN fMax2 (gCons (gC (.int 1)) (gCons (gBin dIx (gFrz 1) (gC (.int 0))) gNil))) gNil))) (gCons (gOpN fTup (gCons (gD (gBinR dAddR (gBin dIx (gFrz 1) (gC (.int 0))) (gC (.int 1)))) (gCons (gBin dIx (gFrz 1) (gC (.int 1))) gNil))) gNil))))))) gaNil))))
    (gSeq (gSet 2 (gCall g_law_low (gaD (gBin dIx (gFrz 2) (gC (.int 0))) (gaD (gBin dIx (gFrz 2) (gC (.int 1))) gaNil))))
    (gSeq (gSet 3 (gBinR dAddR (gC (.int 1)) (gD (gCall g_law_number (gaL 0 gaNil)))))
    (gSeq (gSet 4 (gOpNF fLst (gCons (gD (gCall g_plus (gaD (gFrz 1) (gaD (gFrz 2) gaNil)))) (gCons (gD (gCall g_plus (gaD (gFrz 2) (gaD (gFrz 1) gaNil)))) (gCons (gD (gCall g_times (gaD (gFrz 1) (gaD (gFrz 2) gaNil)))) (gCons (gD (gCall g_ratio (gaD (gD (gBinR dMulR (gBin dIx (gFrz 1) (gC (.int 0))) (gFrz 3))) (gaD (gD (gBinR dMulR (gBin dIx (gFrz 1) (gC (.int 1))) (gFrz 3))) gaNil)))) (gCons (gD (gCall g_is_more (gaD (gFrz 1) (gaD (gFrz 2) gaNil)))) gNil)))))))
    (gSeq (gSet 5 (gCall g_law_low (gaD (gD (gBinR dAddR (gD (gBinR dMulR (gBin dIx (gFrz 1) (gC (.int 0))) (gBin dIx (gFrz 2) (gC (.int 1))))) (gD (gBinR dMulR (gBin dIx (gFrz 2) (gC (.int 0))) (gBin dIx (gFrz 1) (gC (.int 1))))))) (gaD (gD (gBinR dMulR (gBin dIx (gFrz 1) (gC (.int 1))) (gBin dIx (gFrz 2) (gC (.int 1))))) gaNil))))
    (gSeq (gSet 5 (gOpNF fLst (gCons (gFrz 5) (gCons (gFrz 5) (gCons (gD (gCall g_law_low (gaD (gD (gBinR dMulR (gBin dIx (gFrz 1) (gC (.int 0))) (gBin dIx (gFrz 2) (gC (.int 0))))) (gaD (gD (gBinR dMulR (gBin dIx (gFrz 1) (gC (.int 1))) (gBin dIx (gFrz 2) (gC (.int 1))))) gaNil)))) (gCons (gFrz 1) (gCons (gBin dGt (gD (gBinR dMulR (gBin dIx (gFrz 1) (gC (.int 0))) (gBin dIx (gFrz 2) (gC (.int 1))))) (gD (gBinR dMulR (gBin dIx (gFrz 2) (gC (.int 0))) (gBin dIx (gFrz 1) (gC (.int 1)))))) gNil)))))))
    (gSeq (gIfS (gOr (gNot (gTru (gD (gCall g_law_same (gaD (gFrz 4) (gaD (gFrz 5) gaNil)))))) (gOr (gTB (gBin dIsNot (gD (gCall g_is_ratio (gaD (gFrz 1) gaNil))) (gC (.bl true)))) (gTB (gBin dIsNot (gD (gCall g_is_ratio (gaD (gD (gCall g_ratio (gaD (gC (.int 0)) (gaD (gFrz 3) gaNil)))) gaNil))) (gC (.bl true)))))) (gRet (gR (gC (.bl false)))) gSkip)
    (gSeq (gSet 4 (gOpNF fLst (gCons (gD (gCall g_ratio (gaD (gC (.int 0)) (gaD (gFrz 3) gaNil)))) (gCons (gD (gCall g_ratio (gaD (gFrz 3) (gaD (gFrz 3) gaNil)))) (gCons (gD (gCall g_times (gaD (gFrz 1) (gaD (gOpN fTup (gCons (gC (.int 0)) (gCons (gC (.int 1)) gNil))) gaNil)))) (gCons (gD (gCall g_plus (gaD (gFrz 1) (gaD (gOpN fTup (gCons (gC (.int 0)) (gCons (gC (.int 1)) gNil))) gaNil)))) gNil))))))
    (gSeq (gIfS (gNot (gTru (gD (gCall g_law_same (gaD (gFrz 4) (gaD (gD (gOpNF fLst (gCons (gOpN fTup (gCons (gC (.int 0)) (gCons (gC (.int 1)) gNil))) (gCons (gOpN fTup (gCons (gC (.int 1)) (gCons (gC (.int 1)) gNil))) (gCons (gOpN fTup (gCons (gC (.int 0)) (gCons (gC (.int 1)) gNil))) (gCons (gFrz 1) gNil)))))) gaNil)))))) (gRet (gR (gC (.bl false)))) gSkip)
    (gSeq (gSet 6 (gOpNF fLst (gCons (gOpN fTup (gCons (gD (gBinR dMulR (gBin dIx (gFrz 1) (gC (.int 0))) (gC (.int 2)))) (gCons (gD (gBinR dMulR (gBin dIx (gFrz 1) (gC (.int 1))) (gC (.int 2)))) gNil))) (gCons (gOpN fTup (gCons (gBin dSub (gC (.int 0)) (gC (.int 1))) (gCons (gC (.int 2)) gNil))) (gCons (gOpN fTup (gCons (gC (.int 1)) (gCons (gC (.int 0)) gNil))) (gCons (gOpN fTup (gCons (gC (.int 1)) (gCons (gBin dSub (gC (.int 0)) (gC (.int 2))) gNil))) (gCons (gOpN fTup (gCons (gC (.int 0)) (gCons (gC (.int 5)) gNil))) (gCons (gD (gOpNF fLst (gCons (gC (.int 1)) (gCons (gC (.int 2)) gNil)))) (gCons (gOpN fTup (gCons (gC (.int 1)) (gCons (gC (.int 2)) (gCons (gC (.int 3)) gNil)))) (gCons (gOpN fTup (gCons (gC (.int 1)) gNil)) (gCons (gC .non) (gCons (gC (.int 3)) (gCons (gOpN fTup (gCons (gC (.str "1")) (gCons (gC (.int 2)) gNil))) gNil)))))))))))))
    (gSeq (gSet 6 (gBinR dAddR (gFrz 6) (gD (gOpNF fLst (gCons (gOpN fTup (gCons (gC (.bl true)) (gCons (gC (.int 2)) gNil))) (gCons (gOpN fTup (gCons (gC (.int 1)) (gCons (gC (.bl true)) gNil))) (gCons (gOpN fTup (gCons (gC (.int 2)) (gCons (gC (.int 4)) gNil))) (gCons (gOpN fTup (gCons (gD (gBinR dMulR (gFrz 3) (gC (.int 3)))) (gCons (gD (gBinR dMulR (gFrz 3) (gC (.int 3)))) gNil))) (gCons (gOpN fTup (gCons (gOpN fTup (gCons (gC (.int 1)) (gCons (gC (.int 2)) gNil))) (gCons (gC (.int 1)) gNil))) (gCons (gOpN fTup (gCons (gC (.int 1)) (gCons (gC .non) gNil))) gNil))))))))))
    (gRet (gR (gNotV (gOpN fAny (gCons (gD (gLc [7] (gIt (gFrz 6)) (gtName 7) gYes (gD (gCall g_is_ratio (gaD (gFrz 7) gaNil))))) gNil)))))))))))))))))
def g_law_are_weights_right : GF := gDef 1 7 (gSeq (gSet 1 (gCall g_law_some (gaL 0 (gaD (gD (gOpNF fLst (gCons (gC (.int 2)) (gCons (gC (.int 50)) (gCons (gBin dPow (gC (.int 10)) (gC (.int 30))) gNil))))) gaNil))))
    (gSeq (gSet 2 (gLc [3] (gRng1 (gCons (gD (gBinR dAddR (gC (.int 1)) (gD (gCall g_law_draw (gaL 0 (gaD (gC (.int 100)) gaNil)))))) gNil)) (gtName 3) gYes (gD (gCall g_law_draw (gaL 0 (gaD (gFrz 1) gaNil))))))
    (gSeq (gSetC 2 (gD (gCall g_law_draw (gaL 0 (gaD (gAlt (gOpC fLen 2) (gOpN fLen (gCons (gFrz 2) gNil))) gaNil)))) (gD (gBinR dAddR (gC (.int 1)) (gD (gCall g_law_draw (gaL 0 (gaD (gFrz 1) gaNil)))))))
    (gSeq (gSet 2 (gR (gOpN fTupOf (gCons (gFrz 2) gNil))))
    (gSeq (gSet 4 (gR (gOpN fSum (gCons (gFrz 2) gNil))))
    (gSeq (gSet 5 (gCall g_shared (gaD (gFrz 2) gaNil)))
    (gSeq (gIfS (gNot (gTru (gD (gCall g_law_same (gaD (gFrz 5) (gaD (gOpN fTupOf (gCons (gD (gLc [6] (gIt (gFrz 2)) (gtName 6) gYes (gD (gCall g_law_low (gaD (gFrz 6) (gaD (gFrz 4) gaNil)))))) gNil)) gaNil)))))) (gRet (gR (gC (.bl false)))) gSkip)
    (gSeq (gSet 7 (gBinR dAddR (gC (.int 1)) (gD (gCall g_law_draw (gaL 0 (gaD (gC (.int 99)) gaNil))))))
    (gRet (gCall g_law_same (gaD (gD (gOpNF fLst (gCons (gD (gCall g_total (gaD (gD (gOpNF fLstOf (gCons (gFrz 5) gNil))) gaNil))) (gCons (gD (gCall g_shared (gaD (gOpN fTupOf (gCons (gD (gLc [6] (gIt (gFrz 2)) (gtName 6) gYes (gD (gBinR dMulR (gFrz 6) (gFrz 7))))) gNil)) gaNil))) gNil)))) (gaD (gD (gOpNF fLst (gCons (gOpN fTup (gCons (gC (.int 1)) (gCons (gC (.int 1)) gNil))) (gCons (gFrz 5) gNil)))) gaNil))))))))))))
def g_law : GF := gDef 1 3 (gSeq (gSet 1 (gCall g_law_hand (gaL 0 gaNil)))
    (gSeq (gIfS (gOr (gTB (gBin dNe (gD (gCall g_total (gaD (gD (gOpNF fLst gNil)) gaNil))) (gOpN fTup (gCons (gC (.int 0)) (gCons (gC (.int 1)) gNil))))) (gOr (gTB (gBin dNe (gD (gCall g_total (gaD (gD (gOpNF fLst (gCons (gOpN fTup (gCons (gC (.int 1)) (gCons (gC (.int 2)) gNil))) (gCons (gOpN fTup (gCons (gC (.int 1)) (gCons (gC (.int 3)) gNil))) (gCons (gOpN fTup (gCons (gC (.int 1)) (gCons (gC (.int 6)) gNil))) gNil))))) gaNil))) (gOpN fTup (gCons (gC (.int 1)) (gCons (gC (.int 1)) gNil))))) (gTB (gBin dNe (gD (gCall g_ratio (gaD (gC (.int 91)) (gaD (gC (.int 39)) gaNil)))) (gOpN fTup (gCons (gC (.int 7)) (gCons (gC (.int 3)) gNil))))))) (gRet (gR (gC (.bl false)))) gSkip)
    (gSeq (gFor (gRng1 (gCons (gC (.int 3)) gNil)) (gtName 2) (gSeq (gIfS (gOr (gNot (gTru (gD (gCall g_law_are_sums_right (gaL 1 gaNil))))) (gNot (gTru (gD (gCall g_law_are_weights_right (gaL 1 gaNil)))))) (gRet (gR (gC (.bl false)))) gSkip)
    (gIfS (gNot (gTru (gOpN fAll (gCons (gD (gLc [3] (gRng1 (gCons (gC (.int 4)) gNil)) (gtName 3) gYes (gD (gCall g_law_are_pairs_right (gaL 1 gaNil))))) gNil)))) (gRet (gR (gC (.bl false)))) gSkip)))
    (gRet (gR (gC (.bl true)))))))
end K07
set_option Elab.async false
set_option linter.all false
set_option maxRecDepth 100000
/-! K07Walk: each def does what its function says (printed by gen.py). -/
namespace K07
open PySem PySem.Spec PyProof.Rows L2 TL

def topS (i : Nat) : Stmt := PySem.Challenge.pw_onionpost_k07_whole_parts_of_closed_sums.main.body.getD i (.Pass ⟨0, 0, 0, 0⟩)
abbrev s_is_integer : Stmt := topS 1
abbrev n_is_integer : List Str := ["thing"]
abbrev p_is_integer : List Str := ["thing"]
theorem sc_is_integer : FnScope n_is_integer p_is_integer (defScope s_is_integer) := ⟨rfl, rfl, rfl, by decide +kernel, rfl, by decide +kernel, by decide +kernel⟩
abbrev s_is_tuple_of : Stmt := topS 2
abbrev n_is_tuple_of : List Str := ["thing", "many"]
abbrev p_is_tuple_of : List Str := ["thing", "many"]
theorem sc_is_tuple_of : FnScope n_is_tuple_of p_is_tuple_of (defScope s_is_tuple_of) := ⟨rfl, rfl, rfl, by decide +kernel, rfl, by decide +kernel, by decide +kernel⟩
abbrev s_common : Stmt := topS 4
abbrev n_common : List Str := ["one", "other"]
abbrev p_common : List Str := ["one", "other"]
theorem sc_common : FnScope n_common p_common (defScope s_common) := ⟨rfl, rfl, rfl, by decide +kernel, rfl, by decide +kernel, by decide +kernel⟩
abbrev s_ratio : Stmt := topS 5
abbrev n_ratio : List Str := ["over", "under", "divisor"]
abbrev p_ratio : List Str := ["over", "under"]
theorem sc_ratio : FnScope n_ratio p_ratio (defScope s_ratio) := ⟨rfl, rfl, rfl, by decide +kernel, rfl, by decide +kernel, by decide +kernel⟩
abbrev s_plus : Stmt := topS 6
abbrev n_plus : List Str := ["one", "other"]
abbrev p_plus : List Str := ["one", "other"]
theorem sc_plus : FnScope n_plus p_plus (defScope s_plus) := ⟨rfl, rfl, rfl, by decide +kernel, rfl, by decide +kernel, by decide +kernel⟩
abbrev s_times : Stmt := topS 7
abbrev n_times : List Str := ["one", "other"]
abbrev p_times : List Str := ["one", "other"]
theorem sc_times : FnScope n_times p_times (defScope s_times) := ⟨rfl, rfl, rfl, by decide +kernel, rfl, by decide +kernel, by decide +kernel⟩
abbrev s_total : Stmt := topS 8
abbrev n_total : List Str := ["ratios", "found", "one"]
abbrev p_total : List Str := ["ratios"]
theorem sc_total : FnScope n_total p_total (defScope s_total) := ⟨rfl, rfl, rfl, by decide +kernel, rfl, by decide +kernel, by decide +kernel⟩
abbrev s_is_more : Stmt := topS 9
abbrev n_is_more : List Str := ["one", "other"]
abbrev p_is_more : List Str := ["one", "other"]
theorem sc_is_more : FnScope n_is_more p_is_more (defScope s_is_more) := ⟨rfl, rfl, rfl, by decide +kernel, rfl, by decide +kernel, by decide +kernel⟩
abbrev s_is_ratio : Stmt := topS 10
abbrev n_is_ratio : List Str := ["thing"]
abbrev p_is_ratio : List Str := ["thing"]
theorem sc_is_ratio : FnScope n_is_ratio p_is_ratio (defScope s_is_ratio) := ⟨rfl, rfl, rfl, by decide +kernel, rfl, by decide +kernel, by decide +kernel⟩
abbrev s_shared : Stmt := topS 11
abbrev n_shared : List Str := ["weights", "whole", "one"]
abbrev p_shared : List Str := ["weights"]
theorem sc_shared : FnScope n_shared p_shared (defScope s_shared) := ⟨rfl, rfl, rfl, by decide +kernel, rfl, by decide +kernel, by decide +kernel⟩
abbrev s_law_hand : Stmt := topS 13
abbrev n_law_hand : List Str := ["script", "cells", "cell"]
abbrev p_law_hand : List Str := ["script"]
theorem sc_law_hand : FnScope n_law_hand p_law_hand (defScope s_law_hand) := ⟨rfl, rfl, rfl, by decide +kernel, rfl, by decide +kernel, by decide +kernel⟩
abbrev s_law_draw : Stmt := topS 14
abbrev n_law_draw : List Str := ["hand", "many", "cell", "digit", "number"]
abbrev p_law_draw : List Str := ["hand", "many"]
theorem sc_law_draw : FnScope n_law_draw p_law_draw (defScope s_law_draw) := ⟨rfl, rfl, rfl, by decide +kernel, rfl, by decide +kernel, by decide +kernel⟩
abbrev s_law_some : Stmt := topS 15
abbrev n_law_some : List Str := ["hand", "things"]
abbrev p_law_some : List Str := ["hand", "things"]
theorem sc_law_some : FnScope n_law_some p_law_some (defScope s_law_some) := ⟨rfl, rfl, rfl, by decide +kernel, rfl, by decide +kernel, by decide +kernel⟩
abbrev s_law_same : Stmt := topS 16
abbrev n_law_same : List Str := ["told", "due"]
abbrev p_law_same : List Str := ["told", "due"]
theorem sc_law_same : FnScope n_law_same p_law_same (defScope s_law_same) := ⟨rfl, rfl, rfl, by decide +kernel, rfl, by decide +kernel, by decide +kernel⟩
abbrev s_law_common : Stmt := topS 17
abbrev n_law_common : List Str := ["one", "other", "step"]
abbrev p_law_common : List Str := ["one", "other"]
theorem sc_law_common : FnScope n_law_common p_law_common (defScope s_law_common) := ⟨rfl, rfl, rfl, by decide +kernel, rfl, by decide +kernel, by decide +kernel⟩
abbrev s_law_low : Stmt := topS 18
abbrev n_law_low : List Str := ["over", "under", "by"]
abbrev p_law_low : List Str := ["over", "under"]
theorem sc_law_low : FnScope n_law_low p_law_low (defScope s_law_low) := ⟨rfl, rfl, rfl, by decide +kernel, rfl, by decide +kernel, by decide +kernel⟩
abbrev s_law_number : Stmt := topS 19
abbrev n_law_number : List Str := ["hand", "kind", "found", "step"]
abbrev p_law_number : List Str := ["hand"]
theorem sc_law_number : FnScope n_law_number p_law_number (defScope s_law_number) := ⟨rfl, rfl, rfl, by decide +kernel, rfl, by decide +kernel, by decide +kernel⟩
abbrev s_law_part : Stmt := topS 20
abbrev n_law_part : List Str := ["hand"]
abbrev p_law_part : List Str := ["hand"]
theorem sc_law_part : FnScope n_law_part p_law_part (defScope s_law_part) := ⟨rfl, rfl, rfl, by decide +kernel, rfl, by decide +kernel, by decide +kernel⟩
abbrev s_law_mixed : Stmt := topS 21
abbrev n_law_mixed : List Str := ["hand", "things", "left", "found"]
abbrev p_law_mixed : List Str := ["hand", "things"]
theorem sc_law_mixed : FnScope n_law_mixed p_law_mixed (defScope s_law_mixed) := ⟨rfl, rfl, rfl, by decide +kernel, rfl, by decide +kernel, by decide +kernel⟩
abbrev s_law_are_sums_right : Stmt := topS 22
abbrev n_law_are_sums_right : List Str := ["hand", "many", "some", "k", "by", "under", "lap", "whole", "one"]
abbrev p_law_are_sums_right : List Str := ["hand"]
theorem sc_law_are_sums_right : FnScope n_law_are_sums_right p_law_are_sums_right (defScope s_law_are_sums_right) := ⟨rfl, rfl, rfl, by decide +kernel, rfl, by decide +kernel, by decide +kernel⟩
abbrev s_law_are_pairs_right : Stmt := topS 23
abbrev n_law_are_pairs_right : List Str := ["hand", "one", "other", "by", "told", "due", "odd", "thing"]
abbrev p_law_are_pairs_right : List Str := ["hand"]
theorem sc_law_are_pairs_right : FnScope n_law_are_pairs_right p_law_are_pairs_right (defScope s_law_are_pairs_right) := ⟨rfl, rfl, rfl, by decide +kernel, rfl, by decide +kernel, by decide +kernel⟩
abbrev s_law_are_weights_right : Stmt := topS 24
abbrev n_law_are_weights_right : List Str := ["hand", "top", "weights", "lap", "whole", "told", "one", "by"]
abbrev p_law_are_weights_right : List Str := ["hand"]
theorem sc_law_are_weights_right : FnScope n_law_are_weights_right p_law_are_weights_right (defScope s_law_are_weights_right) := ⟨rfl, rfl, rfl, by decide +kernel, rfl, by decide +kernel, by decide +kernel⟩
abbrev s_law : Stmt := topS 25
abbrev n_law : List Str := ["script", "hand", "lap", "turn"]
abbrev p_law : List Str := ["script"]
theorem sc_law : FnScope n_law p_law (defScope s_law) := ⟨rfl, rfl, rfl, by decide +kernel, rfl, by decide +kernel, by decide +kernel⟩
section
variable {P : Program} {w : World} {K : PySem.W.Frag} {mg : Str → Option Value} {base : Heap}
abbrev Stands (K : PySem.W.Frag) (mg : Str → Option Value) (x : Str) (st : Stmt) : Prop := (∃ fd, FunD K x x (defArgs st) (defBody st) (defScope st) [] [] (He.ga K x) fd) ∧ mg x = some (.ref (He.ga K x))
theorem ok_is_integer (B : Bi mg) (F : Stands K mg "is_integer" s_is_integer) : OkD P w K mg base 1 "is_integer" p_is_integer g_is_integer := by
  obtain ⟨⟨fd, F⟩, mF⟩ := F
  refine ⟨⟨_, fd, fnT (N := n_is_integer) F sc_is_integer 1 0 rfl rfl (fun cdv A outer s H E gd hr => ?_), F.bindsN (ps := p_is_integer) (fun _ _ _ _ _ _ us hl => match us, hl with | [_], _ => rfl), F.kp, mF⟩⟩
  exact ss_one (sd_ret (EvD.r (ed_and (ed_isi B (el_cons (ed_frz (pv 0)) (el_cons (ed_ty (by rfl) B.int (by decide +kernel)) el_nil))) (ed_one (ed_not (ed_isi B (el_cons (ed_frz (pv 0)) (el_cons (ed_ty (by rfl) B.bool (by decide +kernel)) el_nil))))))))
theorem ok_is_tuple_of (B : Bi mg) (F : Stands K mg "is_tuple_of" s_is_tuple_of) : OkD P w K mg base 1 "is_tuple_of" p_is_tuple_of g_is_tuple_of := by
  obtain ⟨⟨fd, F⟩, mF⟩ := F
  refine ⟨⟨_, fd, fnT (N := n_is_tuple_of) F sc_is_tuple_of 2 0 rfl rfl (fun cdv A outer s H E gd hr => ?_), F.bindsN (ps := p_is_tuple_of) (fun _ _ _ _ _ _ us hl => match us, hl with | [_, _], _ => rfl), F.kp, mF⟩⟩
  exact ss_one (sd_ret (EvD.r (ed_and (ed_isi B (el_cons (ed_frz (pv 0)) (el_cons (ed_ty (by rfl) B.tuple (by decide +kernel)) el_nil))) (ed_one (ed_bin (fun h1 h2 => pe_cmpR (op_eqA hr.units) h1 h2 (nomark _)) o2_eq (ed_len B (el_cons (ed_frz (pv 0)) el_nil)) (ed_frz (pv 1)))))))
theorem ok_common (B : Bi mg) (F : Stands K mg "common" s_common) : OkD P w K mg base 1 "common" p_common g_common := by
  obtain ⟨⟨fd, F⟩, mF⟩ := F
  refine ⟨⟨_, fd, fnT (N := n_common) F sc_common 2 0 rfl rfl (fun cdv A outer s H E gd hr => ?_), F.bindsN (ps := p_common) (fun _ _ _ _ _ _ us hl => match us, hl with | [_, _], _ => rfl), F.kp, mF⟩⟩
  exact ss_cons (sd_while (fun _ => 20000) PassesOwn.never (et_cmp (op_neA hr.units) o2_ne (ed_frz (pv 1)) ed_int (nomark _)) (ss_one (sd_par (i := 0) (j := 1) rfl sc_common.nd rfl rfl (by decide) rfl rfl (ers_cons (EvD.r (ed_frz (pv 1))) (ers_cons (EvD.r (ed_bin (fun h1 h2 => pe_op op_mod h1 h2) o2_mod (ed_frz (pv 0)) (ed_frz (pv 1)))) ers_nil)) rfl)))
    (ss_one (sd_ret (EvD.r (ed_frz (pv 0)))))
theorem ok_ratio (B : Bi mg) (D_common : OkD P w K mg base 1 "common" p_common g_common) (F : Stands K mg "ratio" s_ratio) : OkD P w K mg base 2 "ratio" p_ratio g_ratio := by
  obtain ⟨⟨fd, F⟩, mF⟩ := F
  refine ⟨⟨_, fd, fnT (N := n_ratio) F sc_ratio 2 1 rfl rfl (fun cdv A outer s H E gd hr => ?_), F.bindsN (ps := p_ratio) (fun _ _ _ _ _ _ us hl => match us, hl with | [_, _], _ => rfl), F.kp, mF⟩⟩
  exact ss_cons (sd_set (i := 2) sc_ratio.nd rfl (Or.inl rfl) (er_callD D_common gd hr (by decide) (ea_d (ed_frz (pv 0)) (ea_d (ed_frz (pv 1)) ea_nil))))
    (ss_one (sd_ret (EvD.r (ed_tup (el_cons (ed_bin (fun h1 h2 => pe_op op_fdivW h1 h2) o2_div (ed_frz (pv 0)) (ed_frz (pv 2))) (el_cons (ed_bin (fun h1 h2 => pe_op op_fdivW h1 h2) o2_div (ed_frz (pv 1)) (ed_frz (pv 2))) el_nil))))))
theorem ok_plus (B : Bi mg) (D_ratio : OkD P w K mg base 2 "ratio" p_ratio g_ratio) (F : Stands K mg "plus" s_plus) : OkD P w K mg base 3 "plus" p_plus g_plus := by
  obtain ⟨⟨fd, F⟩, mF⟩ := F
  refine ⟨⟨_, fd, fnT (N := n_plus) F sc_plus 2 0 rfl rfl (fun cdv A outer s H E gd hr => ?_), F.bindsN (ps := p_plus) (fun _ _ _ _ _ _ us hl => match us, hl with | [_, _], _ => rfl), F.kp, mF⟩⟩
  exact ss_one (sd_ret (er_callD D_ratio gd hr (by decide) (ea_d (EvR.d (er_binR (fun h1 h2 => pe_op op_addR h1 h2) o2_addR (EvR.d (er_binR (fun h1 h2 => pe_op op_mulR h1 h2) o2_mulR (ed_bin (fun h1 h2 => pe_ix ix_seq h1 h2 (fun _ _ => rfl)) o2_ix (ed_frz (pv 0)) ed_int) (ed_bin (fun h1 h2 => pe_ix ix_seq h1 h2 (fun _ _ => rfl)) o2_ix (ed_frz (pv 1)) ed_int))) (EvR.d (er_binR (fun h1 h2 => pe_op op_mulR h1 h2) o2_mulR (ed_bin (fun h1 h2 => pe_ix ix_seq h1 h2 (fun _ _ => rfl)) o2_ix (ed_frz (pv 1)) ed_int) (ed_bin (fun h1 h2 => pe_ix ix_seq h1 h2 (fun _ _ => rfl)) o2_ix (ed_frz (pv 0)) ed_int))))) (ea_d (EvR.d (er_binR (fun h1 h2 => pe_op op_mulR h1 h2) o2_mulR (ed_bin (fun h1 h2 => pe_ix ix_seq h1 h2 (fun _ _ => rfl)) o2_ix (ed_frz (pv 0)) ed_int) (ed_bin (fun h1 h2 => pe_ix ix_seq h1 h2 (fun _ _ => rfl)) o2_ix (ed_frz (pv 1)) ed_int))) ea_nil))))
theorem ok_times (B : Bi mg) (D_ratio : OkD P w K mg base 2 "ratio" p_ratio g_ratio) (F : Stands K mg "times" s_times) : OkD P w K mg base 3 "times" p_times g_times := by
  obtain ⟨⟨fd, F⟩, mF⟩ := F
  refine ⟨⟨_, fd, fnT (N := n_times) F sc_times 2 0 rfl rfl (fun cdv A outer s H E gd hr => ?_), F.bindsN (ps := p_times) (fun _ _ _ _ _ _ us hl => match us, hl with | [_, _], _ => rfl), F.kp, mF⟩⟩
  exact ss_one (sd_ret (er_callD D_ratio gd hr (by decide) (ea_d (EvR.d (er_binR (fun h1 h2 => pe_op op_mulR h1 h2) o2_mulR (ed_bin (fun h1 h2 => pe_ix ix_seq h1 h2 (fun _ _ => rfl)) o2_ix (ed_frz (pv 0)) ed_int) (ed_bin (fun h1 h2 => pe_ix ix_seq h1 h2 (fun _ _ => rfl)) o2_ix (ed_frz (pv 1)) ed_int))) (ea_d (EvR.d (er_binR (fun h1 h2 => pe_op op_mulR h1 h2) o2_mulR (ed_bin (fun h1 h2 => pe_ix ix_seq h1 h2 (fun _ _ => rfl)) o2_ix (ed_frz (pv 0)) ed_int) (ed_bin (fun h1 h2 => pe_ix ix_seq h1 h2 (fun _ _ => rfl)) o2_ix (ed_frz (pv 1)) ed_int))) ea_nil))))
theorem ok_total (B : Bi mg) (D_plus : OkD P w K mg base 3 "plus" p_plus g_plus) (F : Stands K mg "total" s_total) : OkD P w K mg base 4 "total" p_total g_total := by
  obtain ⟨⟨fd, F⟩, mF⟩ := F
  refine ⟨⟨_, fd, fnT (N := n_total) F sc_total 1 2 rfl rfl (fun cdv A outer s H E gd hr => ?_), F.bindsN (ps := p_total) (fun _ _ _ _ _ _ us hl => match us, hl with | [_], _ => rfl), F.kp, mF⟩⟩
  exact ss_cons (sd_set (i := 1) sc_total.nd rfl (Or.inl rfl) (EvD.r (ed_tup (el_cons ed_int (el_cons ed_int el_nil)))))
    (ss_cons (sd_for PassesOwn.never rfl (ei_any (ed_frz (pv 0))) (eg_name (i := 2) sc_total.nd rfl (Or.inl rfl)) (ss_one (sd_set (i := 1) sc_total.nd rfl (Or.inl rfl) (er_callD D_plus gd hr (by decide) (ea_d (ed_frz (pv 1)) (ea_d (ed_frz (pv 2)) ea_nil))))))
    (ss_one (sd_ret (EvD.r (ed_frz (pv 1))))))
theorem ok_is_more (B : Bi mg) (F : Stands K mg "is_more" s_is_more) : OkD P w K mg base 1 "is_more" p_is_more g_is_more := by
  obtain ⟨⟨fd, F⟩, mF⟩ := F
  refine ⟨⟨_, fd, fnT (N := n_is_more) F sc_is_more 2 0 rfl rfl (fun cdv A outer s H E gd hr => ?_), F.bindsN (ps := p_is_more) (fun _ _ _ _ _ _ us hl => match us, hl with | [_, _], _ => rfl), F.kp, mF⟩⟩
  exact ss_one (sd_ret (EvD.r (ed_bin (fun h1 h2 => pe_cmpR op_gt h1 h2 (nomark _)) o2_gt (EvR.d (er_binR (fun h1 h2 => pe_op op_mulR h1 h2) o2_mulR (ed_bin (fun h1 h2 => pe_ix ix_seq h1 h2 (fun _ _ => rfl)) o2_ix (ed_frz (pv 0)) ed_int) (ed_bin (fun h1 h2 => pe_ix ix_seq h1 h2 (fun _ _ => rfl)) o2_ix (ed_frz (pv 1)) ed_int))) (EvR.d (er_binR (fun h1 h2 => pe_op op_mulR h1 h2) o2_mulR (ed_bin (fun h1 h2 => pe_ix ix_seq h1 h2 (fun _ _ => rfl)) o2_ix (ed_frz (pv 1)) ed_int) (ed_bin (fun h1 h2 => pe_ix ix_seq h1 h2 (fun _ _ => rfl)) o2_ix (ed_frz (pv 0)) ed_int))))))
theorem ok_is_ratio (B : Bi mg) (D_is_tuple_of : OkD P w K mg base 1 "is_tuple_of" p_is_tuple_of g_is_tuple_of) (D_is_integer : OkD P w K mg base 1 "is_integer" p_is_integer g_is_integer) (D_ratio : OkD P w K mg base 2 "ratio" p_ratio g_ratio) (F : Stands K mg "is_ratio" s_is_ratio) : OkD P w K mg base 3 "is_ratio" p_is_ratio g_is_ratio := by
  obtain ⟨⟨fd, F⟩, mF⟩ := F
  refine ⟨⟨_, fd, fnT (N := n_is_ratio) F sc_is_ratio 1 0 rfl rfl (fun cdv A outer s H E gd hr => ?_), F.bindsN (ps := p_is_ratio) (fun _ _ _ _ _ _ us hl => match us, hl with | [_], _ => rfl), F.kp, mF⟩⟩
  exact ss_cons (sd_if (EvW.t (ew_or (et_not (et_tru (EvR.d (er_callD D_is_tuple_of gd hr (by decide) (ea_d (ed_frz (pv 0)) (ea_d ed_int ea_nil)))))) (ew_or (et_not (et_tru (EvR.d (er_callD D_is_integer gd hr (by decide) (ea_d (ed_bin (fun h1 h2 => pe_ix ix_seq h1 h2 (fun _ _ => rfl)) o2_ix (ed_frz (pv 0)) ed_int) ea_nil))))) (ew_or1 (et_not (et_tru (EvR.d (er_callD D_is_integer gd hr (by decide) (ea_d (ed_bin (fun h1 h2 => pe_ix ix_seq h1 h2 (fun _ _ => rfl)) o2_ix (ed_frz (pv 0)) ed_int) ea_nil))))))))) (ss_one (sd_ret (EvD.r ed_bl))) ss_nil)
    (ss_one (sd_ret (EvD.r (ed_and (ed_bin (fun h1 h2 => pe_cmpR op_ge h1 h2 (nomark _)) o2_ge (ed_bin (fun h1 h2 => pe_ix ix_seq h1 h2 (fun _ _ => rfl)) o2_ix (ed_frz (pv 0)) ed_int) ed_int) (ed_and (ed_bin (fun h1 h2 => pe_cmpR op_gt h1 h2 (nomark _)) o2_gt (ed_bin (fun h1 h2 => pe_ix ix_seq h1 h2 (fun _ _ => rfl)) o2_ix (ed_frz (pv 0)) ed_int) ed_int) (ed_one (ed_bin (fun h1 h2 => pe_cmpR (op_eqA hr.units) h1 h2 (nomark _)) o2_eq (EvR.d (er_callD D_ratio gd hr (by decide) (ea_d (ed_bin (fun h1 h2 => pe_ix ix_seq h1 h2 (fun _ _ => rfl)) o2_ix (ed_frz (pv 0)) ed_int) (ea_d (ed_bin (fun h1 h2 => pe_ix ix_seq h1 h2 (fun _ _ => rfl)) o2_ix (ed_frz (pv 0)) ed_int) ea_nil)))) (ed_frz (pv 0)))))))))
theorem ok_shared (B : Bi mg) (D_ratio : OkD P w K mg base 2 "ratio" p_ratio g_ratio) (F : Stands K mg "shared" s_shared) : OkD P w K mg base 3 "shared" p_shared g_shared := by
  obtain ⟨⟨fd, F⟩, mF⟩ := F
  refine ⟨⟨_, fd, fnT (N := n_shared) F sc_shared 1 2 rfl rfl (fun cdv A outer s H E gd hr => ?_), F.bindsN (ps := p_shared) (fun _ _ _ _ _ _ us hl => match us, hl with | [_], _ => rfl), F.kp, mF⟩⟩
  exact ss_cons (sd_set (i := 1) sc_shared.nd rfl (Or.inr rfl) (EvD.r (ed_sum rfl B (el_cons (ed_frz (pv 0)) el_nil))))
    (ss_one (sd_ret (EvD.r (ed_tupOf B (el_cons (EvR.d (er_lc (own := [("one", 2)]) rfl sc_shared.nd (ei_any (ed_frz (pv 0))) (blkOk_by (own := [("one", 2)]) (N := n_shared) (sc := defScope s_shared) (by decide +kernel)) (by decide) (fun _ _ _ _ _ => eg_name (i := 2) sc_shared.nd rfl (Or.inl rfl)) (fun _ _ _ _ _ => EvIfs.nil) (fun _ _ _ _ _ => EvR.d (er_callD D_ratio gd hr (by decide) (ea_d (ed_frz (pv 2)) (ea_d (ed_frz (pv 1)) ea_nil)))))) el_nil)))))
theorem ok_law_hand (B : Bi mg) (F : Stands K mg "_law_hand" s_law_hand) : OkD P w K mg base 1 "_law_hand" p_law_hand g_law_hand := by
  obtain ⟨⟨fd, F⟩, mF⟩ := F
  refine ⟨⟨_, fd, fnT (N := n_law_hand) F sc_law_hand 1 2 rfl rfl (fun cdv A outer s H E gd hr => ?_), F.bindsN (ps := p_law_hand) (fun _ _ _ _ _ _ us hl => match us, hl with | [_], _ => rfl), F.kp, mF⟩⟩
  exact ss_cons (sd_setLc (own := [("cell", 2)]) (i := 1) rfl sc_law_hand.nd rfl rfl (sw_true rfl rfl rfl (by decide +kernel)) (ei_any (EvR.d (er_slScr (pv 0) eo_none (eo_some ed_int)))) (blkOk_by (own := [("cell", 2)]) (N := n_law_hand) (sc := defScope s_law_hand) (by decide +kernel)) (by decide) (fun _ _ _ _ _ => eg_name (i := 2) sc_law_hand.nd rfl (Or.inl rfl)) (fun _ _ _ _ _ => EvIfs.nil) (fun _ _ _ _ _ => ed_bin (fun h1 h2 => pe_op op_mod h1 h2) o2_mod (ed_abs B (el_cons (ed_int1 B (el_cons (ed_frz (pv 2)) el_nil)) el_nil)) (ed_bin (fun h1 h2 => pe_op op_pow h1 h2) o2_pow ed_int ed_int)))
    (ss_one (sd_ret (er_lst (el_cons (ed_frz (pv 1)) (el_cons ed_int (el_cons ed_int (el_cons (EvR.d (er_binR (fun h1 h2 => pe_op op_addR h1 h2) o2_addR ed_int (EvR.d (er_binR (fun h1 h2 => pe_op op_mulR h1 h2) o2_mulR ed_int (ed_len B (el_cons (ed_frz (pv 1)) el_nil)))))) (el_cons ed_int el_nil))))))))
theorem ok_law_draw (B : Bi mg) (F : Stands K mg "_law_draw" s_law_draw) : OkD P w K mg base 1 "_law_draw" p_law_draw g_law_draw := by
  obtain ⟨⟨fd, F⟩, mF⟩ := F
  refine ⟨⟨_, fd, fnT (N := n_law_draw) F sc_law_draw 2 3 rfl rfl (fun cdv A outer s H E gd hr => ?_), F.bindsN (ps := p_law_draw) (fun _ _ _ _ _ _ us hl => match us, hl with | [_, _], _ => rfl), F.kp, mF⟩⟩
  exact ss_cons (sd_if (EvW.t (ew_and (et_cmp (op_eqA hr.units) o2_eq (ed_ixC (fun h => pe_ix ix_seq (pv 0) h (fun _ _ => rfl)) ed_int) ed_int (nomark _)) (ew_and1 (et_cmp op_lt o2_lt (ed_ixC (fun h => pe_ix ix_seq (pv 0) h (fun _ _ => rfl)) ed_int) (ed_len B (el_cons (ed_ixC (fun h => pe_ix ix_seq (pv 0) h (fun _ _ => rfl)) ed_int) el_nil)) (nomark _))))) (ss_cons (sd_set (i := 2) sc_law_draw.nd rfl (Or.inl rfl) (EvD.r (ed_bin (fun h1 h2 => pe_ix ix_seq h1 h2 (fun _ _ => rfl)) o2_ix (ed_ixC (fun h => pe_ix ix_seq (pv 0) h (fun _ _ => rfl)) ed_int) (ed_ixC (fun h => pe_ix ix_seq (pv 0) h (fun _ _ => rfl)) ed_int))))
    (ss_cons (sd_setC ed_int (EvR.d (er_binR (fun h1 h2 => pe_op op_addR h1 h2) o2_addR (ed_ixC (fun h => pe_ix ix_seq (pv 0) h (fun _ _ => rfl)) ed_int) ed_int)) (fun he hk => ps_asg he (pg_sub (pv 0) hk set_list)))
    (ss_cons (sd_setC ed_int (ed_bin (fun h1 h2 => pe_op op_mod h1 h2) o2_mod (ed_int1 B (el_cons (EvR.d (er_binR (fun h1 h2 => pe_op op_addR h1 h2) o2_addR (EvR.d (er_binR (fun h1 h2 => pe_op op_addR h1 h2) o2_addR (EvR.d (er_binR (fun h1 h2 => pe_op op_mulR h1 h2) o2_mulR (ed_ixC (fun h => pe_ix ix_seq (pv 0) h (fun _ _ => rfl)) ed_int) ed_int)) (ed_frz (pv 2)))) ed_int)) el_nil)) ed_int) (fun he hk => ps_asg he (pg_sub (pv 0) hk set_list)))
    (ss_one (sd_if (et_cmp op_ge o2_ge (ed_frz (pv 2)) (ed_bin (fun h1 h2 => pe_op op_pow h1 h2) o2_pow ed_int ed_int) (nomark _)) (ss_one (sd_setC ed_int (ed_frz (pv 2)) (fun he hk => ps_asg he (pg_sub (pv 0) hk set_list)))) ss_nil))))) ss_nil)
    (ss_cons (sd_if (et_cmp op_gt o2_gt (ed_ixC (fun h => pe_ix ix_seq (pv 0) h (fun _ _ => rfl)) ed_int) ed_int (nomark _)) (ss_cons (sd_set (i := 3) sc_law_draw.nd rfl (Or.inl rfl) (EvD.r (ed_bin (fun h1 h2 => pe_op op_mod h1 h2) o2_mod (ed_int1 B (el_cons (ed_ixC (fun h => pe_ix ix_seq (pv 0) h (fun _ _ => rfl)) ed_int) el_nil)) (ed_frz (pv 1)))))
    (ss_cons (sd_setC ed_int (ed_bin (fun h1 h2 => pe_op op_fdivW h1 h2) o2_div (ed_ixC (fun h => pe_ix ix_seq (pv 0) h (fun _ _ => rfl)) ed_int) (ed_frz (pv 1))) (fun he hk => ps_asg he (pg_sub (pv 0) hk set_list)))
    (ss_one (sd_ret (EvD.r (ed_frz (pv 3))))))) ss_nil)
    (ss_cons (sd_setC ed_int (EvR.d (er_binR (fun h1 h2 => pe_op op_addR h1 h2) o2_addR (ed_ixC (fun h => pe_ix ix_seq (pv 0) h (fun _ _ => rfl)) ed_int) ed_int)) (fun he hk => ps_asg he (pg_sub (pv 0) hk set_list)))
    (ss_cons (sd_set (i := 4) sc_law_draw.nd rfl (Or.inl rfl) (EvD.r (ed_bin (fun h1 h2 => pe_op op_mod h1 h2) o2_mod (ed_int1 B (el_cons (EvR.d (er_binR (fun h1 h2 => pe_op op_mulR h1 h2) o2_mulR (ed_int1 B (el_cons (EvR.d (er_binR (fun h1 h2 => pe_op op_addR h1 h2) o2_addR (ed_ixC (fun h => pe_ix ix_seq (pv 0) h (fun _ _ => rfl)) ed_int) (EvR.d (er_binR (fun h1 h2 => pe_op op_mulR h1 h2) o2_mulR ed_int (ed_ixC (fun h => pe_ix ix_seq (pv 0) h (fun _ _ => rfl)) ed_int))))) el_nil)) ed_int)) el_nil)) ed_int)))
    (ss_cons (sd_set (i := 4) sc_law_draw.nd rfl (Or.inl rfl) (EvD.r (ed_bin (fun h1 h2 => pe_op op_mod h1 h2) o2_mod (ed_int1 B (el_cons (EvR.d (er_binR (fun h1 h2 => pe_op op_mulR h1 h2) o2_mulR (ed_frz (pv 4)) (EvR.d (er_binR (fun h1 h2 => pe_op op_addR h1 h2) o2_addR (ed_bin (fun h1 h2 => pe_op op_fdivW h1 h2) o2_div (ed_frz (pv 4)) ed_int) ed_int)))) el_nil)) ed_int)))
    (ss_cons (sd_set (i := 4) sc_law_draw.nd rfl (Or.inl rfl) (EvD.r (ed_bin (fun h1 h2 => pe_op op_mod h1 h2) o2_mod (ed_int1 B (el_cons (EvR.d (er_binR (fun h1 h2 => pe_op op_mulR h1 h2) o2_mulR (ed_frz (pv 4)) (EvR.d (er_binR (fun h1 h2 => pe_op op_addR h1 h2) o2_addR (ed_bin (fun h1 h2 => pe_op op_fdivW h1 h2) o2_div (ed_frz (pv 4)) ed_int) ed_int)))) el_nil)) ed_int)))
    (ss_one (sd_ret (EvD.r (ed_bin (fun h1 h2 => pe_op op_mod h1 h2) o2_mod (ed_int1 B (el_cons (ed_bin (fun h1 h2 => pe_op op_fdivW h1 h2) o2_div (ed_frz (pv 4)) ed_int) el_nil)) (ed_frz (pv 1)))))))))))
theorem ok_law_some (B : Bi mg) (D_law_draw : OkD P w K mg base 1 "_law_draw" p_law_draw g_law_draw) (F : Stands K mg "_law_some" s_law_some) : OkD P w K mg base 2 "_law_some" p_law_some g_law_some := by
  obtain ⟨⟨fd, F⟩, mF⟩ := F
  refine ⟨⟨_, fd, fnT (N := n_law_some) F sc_law_some 2 0 rfl rfl (fun cdv A outer s H E gd hr => ?_), F.bindsN (ps := p_law_some) (fun _ _ _ _ _ _ us hl => match us, hl with | [_, _], _ => rfl), F.kp, mF⟩⟩
  exact ss_one (sd_ret (EvD.r (ed_bin (fun h1 h2 => pe_ix ix_seq h1 h2 (fun _ _ => rfl)) o2_ix (ed_frz (pv 1)) (EvR.d (er_callD D_law_draw gd hr (by decide) (ea_l (pv 0) (ea_d (ed_len B (el_cons (ed_frz (pv 1)) el_nil)) ea_nil)))))))
theorem ok_law_same (B : Bi mg) (F : Stands K mg "_law_same" s_law_same) : OkD P w K mg base 1 "_law_same" p_law_same g_law_same := by
  obtain ⟨⟨fd, F⟩, mF⟩ := F
  refine ⟨⟨_, fd, fnT (N := n_law_same) F sc_law_same 2 0 rfl rfl (fun cdv A outer s H E gd hr => ?_), F.bindsN (ps := p_law_same) (fun _ _ _ _ _ _ us hl => match us, hl with | [_, _], _ => rfl), F.kp, mF⟩⟩
  exact ss_one (sd_ret (EvD.r (ed_bin (fun h1 h2 => pe_cmpR (op_eqA hr.units) h1 h2 (nomark _)) o2_eq (ed_repr gd (hu120 hr) B (el_cons (ed_frz (pv 0)) el_nil)) (ed_repr gd (hu120 hr) B (el_cons (ed_frz (pv 1)) el_nil)))))
theorem ok_law_common (B : Bi mg) (F : Stands K mg "_law_common" s_law_common) : OkD P w K mg base 1 "_law_common" p_law_common g_law_common := by
  obtain ⟨⟨fd, F⟩, mF⟩ := F
  refine ⟨⟨_, fd, fnT (N := n_law_common) F sc_law_common 2 1 rfl rfl (fun cdv A outer s H E gd hr => ?_), F.bindsN (ps := p_law_common) (fun _ _ _ _ _ _ us hl => match us, hl with | [_, _], _ => rfl), F.kp, mF⟩⟩
  exact ss_cons (sd_for PassesOwn.never rfl (ei_rng1 (by rfl) B.range (el_cons ed_int el_nil)) (eg_name (i := 2) sc_law_common.nd rfl (Or.inl rfl)) (ss_cons (sd_if (et_cmp (op_eqA hr.units) o2_eq (ed_frz (pv 1)) ed_int (nomark _)) (ss_one (sd_ret (EvD.r (ed_frz (pv 0))))) ss_nil)
    (ss_one (sd_par (i := 0) (j := 1) rfl sc_law_common.nd rfl rfl (by decide) rfl rfl (ers_cons (EvD.r (ed_frz (pv 1))) (ers_cons (EvD.r (ed_bin (fun h1 h2 => pe_op op_mod h1 h2) o2_mod (ed_int1 B (el_cons (ed_frz (pv 0)) el_nil)) (ed_frz (pv 1)))) ers_nil)) rfl))))
    (ss_one (sd_ret (EvD.r (ed_frz (pv 0)))))
theorem ok_law_low (B : Bi mg) (D_law_common : OkD P w K mg base 1 "_law_common" p_law_common g_law_common) (F : Stands K mg "_law_low" s_law_low) : OkD P w K mg base 2 "_law_low" p_law_low g_law_low := by
  obtain ⟨⟨fd, F⟩, mF⟩ := F
  refine ⟨⟨_, fd, fnT (N := n_law_low) F sc_law_low 2 1 rfl rfl (fun cdv A outer s H E gd hr => ?_), F.bindsN (ps := p_law_low) (fun _ _ _ _ _ _ us hl => match us, hl with | [_, _], _ => rfl), F.kp, mF⟩⟩
  exact ss_cons (sd_set (i := 2) sc_law_low.nd rfl (Or.inl rfl) (er_callD D_law_common gd hr (by decide) (ea_d (ed_frz (pv 0)) (ea_d (ed_frz (pv 1)) ea_nil))))
    (ss_one (sd_ret (EvD.r (ed_tup (el_cons (ed_bin (fun h1 h2 => pe_op op_fdivW h1 h2) o2_div (ed_frz (pv 0)) (ed_frz (pv 2))) (el_cons (ed_bin (fun h1 h2 => pe_op op_fdivW h1 h2) o2_div (ed_frz (pv 1)) (ed_frz (pv 2))) el_nil))))))
theorem ok_law_number (B : Bi mg) (D_law_draw : OkD P w K mg base 1 "_law_draw" p_law_draw g_law_draw) (D_law_some : OkD P w K mg base 2 "_law_some" p_law_some g_law_some) (F : Stands K mg "_law_number" s_law_number) : OkD P w K mg base 3 "_law_number" p_law_number g_law_number := by
  obtain ⟨⟨fd, F⟩, mF⟩ := F
  refine ⟨⟨_, fd, fnT (N := n_law_number) F sc_law_number 1 3 rfl rfl (fun cdv A outer s H E gd hr => ?_), F.bindsN (ps := p_law_number) (fun _ _ _ _ _ _ us hl => match us, hl with | [_], _ => rfl), F.kp, mF⟩⟩
  exact ss_cons (sd_set (i := 1) sc_law_number.nd rfl (Or.inl rfl) (er_callD D_law_draw gd hr (by decide) (ea_l (pv 0) (ea_d ed_int ea_nil))))
    (ss_cons (sd_if (et_cmp (op_eqA hr.units) o2_eq (ed_frz (pv 1)) ed_int (nomark _)) (ss_one (sd_ret (er_callD D_law_draw gd hr (by decide) (ea_l (pv 0) (ea_d ed_int ea_nil))))) ss_nil)
    (ss_cons (sd_if (et_cmp (op_eqA hr.units) o2_eq (ed_frz (pv 1)) ed_int (nomark _)) (ss_one (sd_ret (er_binR (fun h1 h2 => pe_op op_addR h1 h2) o2_addR (EvR.d (er_binR (fun h1 h2 => pe_op op_mulR h1 h2) o2_mulR (EvR.d (er_callD D_law_draw gd hr (by decide) (ea_l (pv 0) (ea_d (ed_bin (fun h1 h2 => pe_op op_pow h1 h2) o2_pow ed_int ed_int) ea_nil)))) (ed_bin (fun h1 h2 => pe_op op_pow h1 h2) o2_pow ed_int ed_int))) (EvR.d (er_callD D_law_draw gd hr (by decide) (ea_l (pv 0) (ea_d (ed_bin (fun h1 h2 => pe_op op_pow h1 h2) o2_pow ed_int ed_int) ea_nil))))))) ss_nil)
    (ss_cons (sd_set (i := 2) sc_law_number.nd rfl (Or.inl rfl) (EvD.r ed_int))
    (ss_cons (sd_for PassesOwn.never rfl (ei_rng1 (by rfl) B.range (el_cons (EvR.d (er_callD D_law_draw gd hr (by decide) (ea_l (pv 0) (ea_d ed_int ea_nil)))) el_nil)) (eg_name (i := 3) sc_law_number.nd rfl (Or.inl rfl)) (ss_one (sd_set (i := 2) sc_law_number.nd rfl (Or.inl rfl) (er_binR (fun h1 h2 => pe_op op_mulR h1 h2) o2_mulR (ed_frz (pv 2)) (EvR.d (er_callD D_law_some gd hr (by decide) (ea_l (pv 0) (ea_d (EvR.d (er_lst (el_cons ed_int (el_cons ed_int (el_cons ed_int (el_cons ed_int (el_cons ed_int (el_cons ed_int (el_cons ed_int el_nil))))))))) ea_nil))))))))
    (ss_one (sd_ret (EvD.r (ed_frz (pv 2)))))))))
theorem ok_law_part (B : Bi mg) (D_law_low : OkD P w K mg base 2 "_law_low" p_law_low g_law_low) (D_law_number : OkD P w K mg base 3 "_law_number" p_law_number g_law_number) (F : Stands K mg "_law_part" s_law_part) : OkD P w K mg base 4 "_law_part" p_law_part g_law_part := by
  obtain ⟨⟨fd, F⟩, mF⟩ := F
  refine ⟨⟨_, fd, fnT (N := n_law_part) F sc_law_part 1 0 rfl rfl (fun cdv A outer s H E gd hr => ?_), F.bindsN (ps := p_law_part) (fun _ _ _ _ _ _ us hl => match us, hl with | [_], _ => rfl), F.kp, mF⟩⟩
  exact ss_one (sd_ret (er_callD D_law_low gd hr (by decide) (ea_d (EvR.d (er_callD D_law_number gd hr (by decide) (ea_l (pv 0) ea_nil))) (ea_d (EvR.d (er_binR (fun h1 h2 => pe_op op_addR h1 h2) o2_addR ed_int (EvR.d (er_callD D_law_number gd hr (by decide) (ea_l (pv 0) ea_nil))))) ea_nil))))
theorem ok_law_mixed (B : Bi mg) (D_law_draw : OkD P w K mg base 1 "_law_draw" p_law_draw g_law_draw) (F : Stands K mg "_law_mixed" s_law_mixed) : OkD P w K mg base 2 "_law_mixed" p_law_mixed g_law_mixed := by
  obtain ⟨⟨fd, F⟩, mF⟩ := F
  refine ⟨⟨_, fd, fnT (N := n_law_mixed) F sc_law_mixed 2 2 rfl rfl (fun cdv A outer s H E gd hr => ?_), F.bindsN (ps := p_law_mixed) (fun _ _ _ _ _ _ us hl => match us, hl with | [_, _], _ => rfl), F.kp, mF⟩⟩
  exact ss_cons (sd_par (i := 2) (j := 3) rfl sc_law_mixed.nd rfl rfl (by decide) rfl rfl (ers_cons (er_lstOf B (el_cons (ed_frz (pv 1)) el_nil)) (ers_cons (er_lst el_nil) ers_nil)) rfl)
    (ss_cons (sd_while (fun _ => 1000) PassesOwn.never (EvT.alt (et_cmpC (op_neA hr.units) o2_ne (pv 2) (EvR.d (er_lst el_nil)) (nomark _)) (et_cmp (op_neA hr.units) o2_ne (ed_frz (pv 2)) (EvR.d (er_lst el_nil)) (nomark _))) (ss_one (sd_expr (ed_append (ed_popAt (EvR.d (er_callD D_law_draw gd hr (by decide) (ea_l (pv 0) (ea_d (EvD.alt (ed_lenC B (pv 2)) (ed_len B (el_cons (ed_frz (pv 2)) el_nil))) ea_nil)))) rfl (fun h => pe_bm PySem.F.plainAttrs_list PySem.F.slot_list_pop PySem.F.type_list_pop mt_popAt (pv 2) h)) rfl (fun h => pe_bm PySem.F.plainAttrs_list PySem.F.slot_list_append PySem.F.type_list_append mt_append (pv 3) h)))))
    (ss_one (sd_ret (EvD.r (ed_frz (pv 3))))))
theorem ok_law_are_sums_right (B : Bi mg) (D_law_draw : OkD P w K mg base 1 "_law_draw" p_law_draw g_law_draw) (D_law_same : OkD P w K mg base 1 "_law_same" p_law_same g_law_same) (D_total : OkD P w K mg base 4 "total" p_total g_total) (D_law_mixed : OkD P w K mg base 2 "_law_mixed" p_law_mixed g_law_mixed) (D_law_low : OkD P w K mg base 2 "_law_low" p_law_low g_law_low) (D_law_part : OkD P w K mg base 4 "_law_part" p_law_part g_law_part) (F : Stands K mg "_law_are_sums_right" s_law_are_sums_right) : OkD P w K mg base 5 "_law_are_sums_right" p_law_are_sums_right g_law_are_sums_right := by
  obtain ⟨⟨fd, F⟩, mF⟩ := F
  refine ⟨⟨_, fd, fnT (N := n_law_are_sums_right) F sc_law_are_sums_right 1 8 rfl rfl (fun cdv A outer s H E gd hr => ?_), F.bindsN (ps := p_law_are_sums_right) (fun _ _ _ _ _ _ us hl => match us, hl with | [_], _ => rfl), F.kp, mF⟩⟩
  exact ss_cons (sd_set (i := 1) sc_law_are_sums_right.nd rfl (Or.inl rfl) (er_binR (fun h1 h2 => pe_op op_addR h1 h2) o2_addR ed_int (EvR.d (er_callD D_law_draw gd hr (by decide) (ea_l (pv 0) (ea_d ed_int ea_nil))))))
    (ss_cons (sd_setLc (own := [("k", 3)]) (i := 2) rfl sc_law_are_sums_right.nd rfl rfl (sw_true rfl rfl rfl (by decide +kernel)) (ei_rng2 (by rfl) B.range (el_cons ed_int (el_cons (EvR.d (er_binR (fun h1 h2 => pe_op op_addR h1 h2) o2_addR (ed_frz (pv 1)) ed_int)) el_nil))) (blkOk_by (own := [("k", 3)]) (N := n_law_are_sums_right) (sc := defScope s_law_are_sums_right) (by decide +kernel)) (by decide) (fun _ _ _ _ _ => eg_name (i := 3) sc_law_are_sums_right.nd rfl (Or.inl rfl)) (fun _ _ _ _ _ => EvIfs.nil) (fun _ _ _ _ _ => ed_tup (el_cons ed_int (el_cons (EvR.d (er_binR (fun h1 h2 => pe_op op_mulR h1 h2) o2_mulR (ed_frz (pv 3)) (EvR.d (er_binR (fun h1 h2 => pe_op op_addR h1 h2) o2_addR (ed_frz (pv 3)) ed_int)))) el_nil))))
    (ss_cons (sd_if (et_not (et_tru (EvR.d (er_callD D_law_same gd hr (by decide) (ea_d (EvR.d (er_callD D_total gd hr (by decide) (ea_d (EvR.d (er_callD D_law_mixed gd hr (by decide) (ea_l (pv 0) (ea_d (ed_frz (pv 2)) ea_nil)))) ea_nil))) (ea_d (ed_tup (el_cons (ed_frz (pv 1)) (el_cons (EvR.d (er_binR (fun h1 h2 => pe_op op_addR h1 h2) o2_addR (ed_frz (pv 1)) ed_int)) el_nil))) ea_nil)))))) (ss_one (sd_ret (EvD.r ed_bl))) ss_nil)
    (ss_cons (sd_set (i := 1) sc_law_are_sums_right.nd rfl (Or.inl rfl) (er_binR (fun h1 h2 => pe_op op_addR h1 h2) o2_addR ed_int (EvR.d (er_callD D_law_draw gd hr (by decide) (ea_l (pv 0) (ea_d ed_int ea_nil))))))
    (ss_cons (sd_setLc (own := [("k", 3)]) (i := 2) rfl sc_law_are_sums_right.nd rfl rfl (sw_true rfl rfl rfl (by decide +kernel)) (ei_rng2 (by rfl) B.range (el_cons ed_int (el_cons (EvR.d (er_binR (fun h1 h2 => pe_op op_addR h1 h2) o2_addR (ed_frz (pv 1)) ed_int)) el_nil))) (blkOk_by (own := [("k", 3)]) (N := n_law_are_sums_right) (sc := defScope s_law_are_sums_right) (by decide +kernel)) (by decide) (fun _ _ _ _ _ => eg_name (i := 3) sc_law_are_sums_right.nd rfl (Or.inl rfl)) (fun _ _ _ _ _ => EvIfs.nil) (fun _ _ _ _ _ => ed_tup (el_cons ed_int (el_cons (ed_bin (fun h1 h2 => pe_op op_shl h1 h2) o2_shl ed_int (ed_frz (pv 3))) el_nil))))
    (ss_cons (sd_if (et_not (et_tru (EvR.d (er_callD D_law_same gd hr (by decide) (ea_d (EvR.d (er_lst (el_cons (EvR.d (er_callD D_total gd hr (by decide) (ea_d (ed_frz (pv 2)) ea_nil))) (el_cons (EvR.d (er_callD D_total gd hr (by decide) (ea_d (EvR.d (er_binR (fun h1 h2 => pe_op op_addR h1 h2) o2_addR (ed_frz (pv 2)) (EvR.d (er_lst (el_cons (ed_tup (el_cons ed_int (el_cons (ed_bin (fun h1 h2 => pe_op op_shl h1 h2) o2_shl ed_int (ed_frz (pv 1))) el_nil))) el_nil))))) ea_nil))) el_nil)))) (ea_d (EvR.d (er_lst (el_cons (ed_tup (el_cons (ed_bin (fun h1 h2 => pe_op op_sub h1 h2) o2_sub (ed_bin (fun h1 h2 => pe_op op_shl h1 h2) o2_shl ed_int (ed_frz (pv 1))) ed_int) (el_cons (ed_bin (fun h1 h2 => pe_op op_shl h1 h2) o2_shl ed_int (ed_frz (pv 1))) el_nil))) (el_cons (ed_tup (el_cons ed_int (el_cons ed_int el_nil))) el_nil)))) ea_nil)))))) (ss_one (sd_ret (EvD.r ed_bl))) ss_nil)
    (ss_cons (sd_asg (ed_tup (el_cons (EvR.d (er_binR (fun h1 h2 => pe_op op_addR h1 h2) o2_addR ed_int (EvR.d (er_callD D_law_draw gd hr (by decide) (ea_l (pv 0) (ea_d ed_int ea_nil)))))) (el_cons (EvR.d (er_binR (fun h1 h2 => pe_op op_addR h1 h2) o2_addR ed_int (EvR.d (er_callD D_law_draw gd hr (by decide) (ea_l (pv 0) (ea_d ed_int ea_nil)))))) el_nil))) (eg_tup rfl (egs_cons (eg_name (i := 1) sc_law_are_sums_right.nd rfl (Or.inl rfl)) (egs_cons (eg_name (i := 4) sc_law_are_sums_right.nd rfl (Or.inr rfl)) egs_nil))))
    (ss_cons (sd_setLc (own := [("k", 3)]) (i := 2) rfl sc_law_are_sums_right.nd rfl rfl (sw_true rfl rfl rfl (by decide +kernel)) (ei_rng1 (by rfl) B.range (el_cons (EvR.d (er_binR (fun h1 h2 => pe_op op_addR h1 h2) o2_addR (ed_frz (pv 1)) ed_int)) el_nil)) (blkOk_by (own := [("k", 3)]) (N := n_law_are_sums_right) (sc := defScope s_law_are_sums_right) (by decide +kernel)) (by decide) (fun _ _ _ _ _ => eg_name (i := 3) sc_law_are_sums_right.nd rfl (Or.inl rfl)) (fun _ _ _ _ _ => EvIfs.nil) (fun _ _ _ _ _ => EvR.d (er_callD D_law_low gd hr (by decide) (ea_d (ed_frz (pv 3)) (ea_d (ed_frz (pv 4)) ea_nil)))))
    (ss_cons (sd_if (et_not (et_tru (EvR.d (er_callD D_law_same gd hr (by decide) (ea_d (EvR.d (er_callD D_total gd hr (by decide) (ea_d (EvR.d (er_callD D_law_mixed gd hr (by decide) (ea_l (pv 0) (ea_d (ed_frz (pv 2)) ea_nil)))) ea_nil))) (ea_d (EvR.d (er_callD D_law_low gd hr (by decide) (ea_d (EvR.d (er_binR (fun h1 h2 => pe_op op_mulR h1 h2) o2_mulR (ed_frz (pv 1)) (EvR.d (er_binR (fun h1 h2 => pe_op op_addR h1 h2) o2_addR (ed_frz (pv 1)) ed_int)))) (ea_d (EvR.d (er_binR (fun h1 h2 => pe_op op_mulR h1 h2) o2_mulR ed_int (ed_frz (pv 4)))) ea_nil)))) ea_nil)))))) (ss_one (sd_ret (EvD.r ed_bl))) ss_nil)
    (ss_cons (sd_par3 (i := 1) (j := 5) (l := 2) rfl sc_law_are_sums_right.nd rfl rfl rfl (by decide) (by decide) (by decide) rfl rfl rfl (ers_cons (er_binR (fun h1 h2 => pe_op op_addR h1 h2) o2_addR ed_int (EvR.d (er_callD D_law_draw gd hr (by decide) (ea_l (pv 0) (ea_d ed_int ea_nil))))) (ers_cons (EvD.r ed_int) (ers_cons (er_lst el_nil) ers_nil))) rfl)
    (ss_cons (sd_for PassesOwn.never rfl (ei_rng2 (by rfl) B.range (el_cons ed_int (el_cons (EvR.d (er_binR (fun h1 h2 => pe_op op_addR h1 h2) o2_addR (ed_frz (pv 1)) ed_int)) el_nil))) (eg_name (i := 3) sc_law_are_sums_right.nd rfl (Or.inl rfl)) (ss_cons (sd_set (i := 5) sc_law_are_sums_right.nd rfl (Or.inl rfl) (er_binR (fun h1 h2 => pe_op op_mulR h1 h2) o2_mulR (ed_frz (pv 5)) (EvR.d (er_binR (fun h1 h2 => pe_op op_addR h1 h2) o2_addR (ed_frz (pv 3)) ed_int))))
    (ss_one (sd_expr (ed_append (EvR.d (er_callD D_law_low gd hr (by decide) (ea_d (ed_frz (pv 3)) (ea_d (ed_frz (pv 5)) ea_nil)))) rfl (fun h => pe_bm PySem.F.plainAttrs_list PySem.F.slot_list_append PySem.F.type_list_append mt_append (pv 2) h))))))
    (ss_cons (sd_if (et_not (et_tru (EvR.d (er_callD D_law_same gd hr (by decide) (ea_d (EvR.d (er_callD D_total gd hr (by decide) (ea_d (ed_frz (pv 2)) ea_nil))) (ea_d (ed_tup (el_cons (ed_bin (fun h1 h2 => pe_op op_sub h1 h2) o2_sub (ed_frz (pv 5)) ed_int) (el_cons (ed_frz (pv 5)) el_nil))) ea_nil)))))) (ss_one (sd_ret (EvD.r ed_bl))) ss_nil)
    (ss_cons (sd_setLc (own := [("lap", 6)]) (i := 2) rfl sc_law_are_sums_right.nd rfl rfl (sw_true rfl rfl rfl (by decide +kernel)) (ei_rng1 (by rfl) B.range (el_cons (EvR.d (er_callD D_law_draw gd hr (by decide) (ea_l (pv 0) (ea_d ed_int ea_nil)))) el_nil)) (blkOk_by (own := [("lap", 6)]) (N := n_law_are_sums_right) (sc := defScope s_law_are_sums_right) (by decide +kernel)) (by decide) (fun _ _ _ _ _ => eg_name (i := 6) sc_law_are_sums_right.nd rfl (Or.inl rfl)) (fun _ _ _ _ _ => EvIfs.nil) (fun _ _ _ _ _ => EvR.d (er_callD D_law_part gd hr (by decide) (ea_l (pv 0) ea_nil))))
    (ss_cons (sd_set (i := 7) sc_law_are_sums_right.nd rfl (Or.inl rfl) (EvD.r (ed_tup (el_cons ed_int (el_cons ed_int el_nil)))))
    (ss_cons (sd_for PassesOwn.never rfl (ei_any (ed_frz (pv 2))) (eg_name (i := 8) sc_law_are_sums_right.nd rfl (Or.inl rfl)) (ss_one (sd_set (i := 7) sc_law_are_sums_right.nd rfl (Or.inl rfl) (er_callD D_law_low gd hr (by decide) (ea_d (EvR.d (er_binR (fun h1 h2 => pe_op op_addR h1 h2) o2_addR (EvR.d (er_binR (fun h1 h2 => pe_op op_mulR h1 h2) o2_mulR (ed_bin (fun h1 h2 => pe_ix ix_seq h1 h2 (fun _ _ => rfl)) o2_ix (ed_frz (pv 7)) ed_int) (ed_bin (fun h1 h2 => pe_ix ix_seq h1 h2 (fun _ _ => rfl)) o2_ix (ed_frz (pv 8)) ed_int))) (EvR.d (er_binR (fun h1 h2 => pe_op op_mulR h1 h2) o2_mulR (ed_bin (fun h1 h2 => pe_ix ix_seq h1 h2 (fun _ _ => rfl)) o2_ix (ed_frz (pv 8)) ed_int) (ed_bin (fun h1 h2 => pe_ix ix_seq h1 h2 (fun _ _ => rfl)) o2_ix (ed_frz (pv 7)) ed_int))))) (ea_d (EvR.d (er_binR (fun h1 h2 => pe_op op_mulR h1 h2) o2_mulR (ed_bin (fun h1 h2 => pe_ix ix_seq h1 h2 (fun _ _ => rfl)) o2_ix (ed_frz (pv 7)) ed_int) (ed_bin (fun h1 h2 => pe_ix ix_seq h1 h2 (fun _ _ => rfl)) o2_ix (ed_frz (pv 8)) ed_int))) ea_nil))))))
    (ss_one (sd_ret (er_callD D_law_same gd hr (by decide) (ea_d (EvR.d (er_lst (el_cons (EvR.d (er_callD D_total gd hr (by decide) (ea_d (ed_frz (pv 2)) ea_nil))) (el_cons (EvR.d (er_callD D_total gd hr (by decide) (ea_d (EvR.d (er_callD D_law_mixed gd hr (by decide) (ea_l (pv 0) (ea_d (ed_frz (pv 2)) ea_nil)))) ea_nil))) el_nil)))) (ea_d (EvR.d (er_lst (el_cons (ed_frz (pv 7)) (el_cons (ed_frz (pv 7)) el_nil)))) ea_nil)))))))))))))))))))
theorem ok_law_are_pairs_right (B : Bi mg) (D_law_part : OkD P w K mg base 4 "_law_part" p_law_part g_law_part) (D_law_some : OkD P w K mg base 2 "_law_some" p_law_some g_law_some) (D_law_low : OkD P w K mg base 2 "_law_low" p_law_low g_law_low) (D_law_number : OkD P w K mg base 3 "_law_number" p_law_number g_law_number) (D_is_more : OkD P w K mg base 1 "is_more" p_is_more g_is_more) (D_ratio : OkD P w K mg base 2 "ratio" p_ratio g_ratio) (D_times : OkD P w K mg base 3 "times" p_times g_times) (D_plus : OkD P w K mg base 3 "plus" p_plus g_plus) (D_law_same : OkD P w K mg base 1 "_law_same" p_law_same g_law_same) (D_is_ratio : OkD P w K mg base 3 "is_ratio" p_is_ratio g_is_ratio) (F : Stands K mg "_law_are_pairs_right" s_law_are_pairs_right) : OkD P w K mg base 5 "_law_are_pairs_right" p_law_are_pairs_right g_law_are_pairs_right := by
  obtain ⟨⟨fd, F⟩, mF⟩ := F
  refine ⟨⟨_, fd, fnT (N := n_law_are_pairs_right) F sc_law_are_pairs_right 1 7 rfl rfl (fun cdv A outer s H E gd hr => ?_), F.bindsN (ps := p_law_are_pairs_right) (fun _ _ _ _ _ _ us hl => match us, hl with | [_], _ => rfl), F.kp, mF⟩⟩
  exact ss_cons (sd_par (i := 1) (j := 2) rfl sc_law_are_pairs_right.nd rfl rfl (by decide) rfl rfl (ers_cons (er_callD D_law_part gd hr (by decide) (ea_l (pv 0) ea_nil)) (ers_cons (er_callD D_law_part gd hr (by decide) (ea_l (pv 0) ea_nil)) ers_nil)) rfl)
    (ss_cons (sd_set (i := 2) sc_law_are_pairs_right.nd rfl (Or.inl rfl) (er_callD D_law_some gd hr (by decide) (ea_l (pv 0) (ea_d (EvR.d (er_lst (el_cons (ed_frz (pv 2)) (el_cons (ed_frz (pv 2)) (el_cons (ed_frz (pv 1)) (el_cons (ed_tup (el_cons (ed_bin (fun h1 h2 => pe_ix ix_seq h1 h2 (fun _ _ => rfl)) o2_ix (ed_frz (pv 1)) ed_int) (el_cons (ed_max2 rfl B (el_cons ed_int (el_cons (ed_bin (fun h1 h2 => pe_ix ix_seq h1 h2 (fun _ _ => rfl)) o2_ix (ed_frz (pv 1)) ed_int) el_nil))) el_nil))) (el_cons (ed_tup (el_cons (EvR.d (er_binR (fun h1 h2 => pe_op op_addR h1 h2) o2_addR (ed_bin (fun h1 h2 => pe_ix ix_seq h1 h2 (fun _ _ => rfl)) o2_ix (ed_frz (pv 1)) ed_int) ed_int)) (el_cons (ed_bin (fun h1 h2 => pe_ix ix_seq h1 h2 (fun _ _ => rfl)) o2_ix (ed_frz (pv 1)) ed_int) el_nil))) el_nil))))))) ea_nil))))
    (ss_cons (sd_set (i := 2) sc_law_are_pairs_right.nd rfl (Or.inl rfl) (er_callD D_law_low gd hr (by decide) (ea_d (ed_bin (fun h1 h2 => pe_ix ix_seq h1 h2 (fun _ _ => rfl)) o2_ix (ed_frz (pv 2)) ed_int) (ea_d (ed_bin (fun h1 h2 => pe_ix ix_seq h1 h2 (fun _ _ => rfl)) o2_ix (ed_frz (pv 2)) ed_int) ea_nil))))
    (ss_cons (sd_set (i := 3) sc_law_are_pairs_right.nd rfl (Or.inl rfl) (er_binR (fun h1 h2 => pe_op op_addR h1 h2) o2_addR ed_int (EvR.d (er_callD D_law_number gd hr (by decide) (ea_l (pv 0) ea_nil)))))
    (ss_cons (sd_set (i := 4) sc_law_are_pairs_right.nd rfl (Or.inl rfl) (er_lst (el_cons (EvR.d (er_callD D_plus gd hr (by decide) (ea_d (ed_frz (pv 1)) (ea_d (ed_frz (pv 2)) ea_nil)))) (el_cons (EvR.d (er_callD D_plus gd hr (by decide) (ea_d (ed_frz (pv 2)) (ea_d (ed_frz (pv 1)) ea_nil)))) (el_cons (EvR.d (er_callD D_times gd hr (by decide) (ea_d (ed_frz (pv 1)) (ea_d (ed_frz (pv 2)) ea_nil)))) (el_cons (EvR.d (er_callD D_ratio gd hr (by decide) (ea_d (EvR.d (er_binR (fun h1 h2 => pe_op op_mulR h1 h2) o2_mulR (ed_bin (fun h1 h2 => pe_ix ix_seq h1 h2 (fun _ _ => rfl)) o2_ix (ed_frz (pv 1)) ed_int) (ed_frz (pv 3)))) (ea_d (EvR.d (er_binR (fun h1 h2 => pe_op op_mulR h1 h2) o2_mulR (ed_bin (fun h1 h2 => pe_ix ix_seq h1 h2 (fun _ _ => rfl)) o2_ix (ed_frz (pv 1)) ed_int) (ed_frz (pv 3)))) ea_nil)))) (el_cons (EvR.d (er_callD D_is_more gd hr (by decide) (ea_d (ed_frz (pv 1)) (ea_d (ed_frz (pv 2)) ea_nil)))) el_nil)))))))
    (ss_cons (sd_set (i := 5) sc_law_are_pairs_right.nd rfl (Or.inl rfl) (er_callD D_law_low gd hr (by decide) (ea_d (EvR.d (er_binR (fun h1 h2 => pe_op op_addR h1 h2) o2_addR (EvR.d (er_binR (fun h1 h2 => pe_op op_mulR h1 h2) o2_mulR (ed_bin (fun h1 h2 => pe_ix ix_seq h1 h2 (fun _ _ => rfl)) o2_ix (ed_frz (pv 1)) ed_int) (ed_bin (fun h1 h2 => pe_ix ix_seq h1 h2 (fun _ _ => rfl)) o2_ix (ed_frz (pv 2)) ed_int))) (EvR.d (er_binR (fun h1 h2 => pe_op op_mulR h1 h2) o2_mulR (ed_bin (fun h1 h2 => pe_ix ix_seq h1 h2 (fun _ _ => rfl)) o2_ix (ed_frz (pv 2)) ed_int) (ed_bin (fun h1 h2 => pe_ix ix_seq h1 h2 (fun _ _ => rfl)) o2_ix (ed_frz (pv 1)) ed_int))))) (ea_d (EvR.d (er_binR (fun h1 h2 => pe_op op_mulR h1 h2) o2_mulR (ed_bin (fun h1 h2 => pe_ix ix_seq h1 h2 (fun _ _ => rfl)) o2_ix (ed_frz (pv 1)) ed_int) (ed_bin (fun h1 h2 => pe_ix ix_seq h1 h2 (fun _ _ => rfl)) o2_ix (ed_frz (pv 2)) ed_int))) ea_nil))))
    (ss_cons (sd_set (i := 5) sc_law_are_pairs_right.nd rfl (Or.inl rfl) (er_lst (el_cons (ed_frz (pv 5)) (el_cons (ed_frz (pv 5)) (el_cons (EvR.d (er_callD D_law_low gd hr (by decide) (ea_d (EvR.d (er_binR (fun h1 h2 => pe_op op_mulR h1 h2) o2_mulR (ed_bin (fun h1 h2 => pe_ix ix_seq h1 h2 (fun _ _ => rfl)) o2_ix (ed_frz (pv 1)) ed_int) (ed_bin (fun h1 h2 => pe_ix ix_seq h1 h2 (fun _ _ => rfl)) o2_ix (ed_frz (pv 2)) ed_int))) (ea_d (EvR.d (er_binR (fun h1 h2 => pe_op op_mulR h1 h2) o2_mulR (ed_bin (fun h1 h2 => pe_ix ix_seq h1 h2 (fun _ _ => rfl)) o2_ix (ed_frz (pv 1)) ed_int) (ed_bin (fun h1 h2 => pe_ix ix_seq h1 h2 (fun _ _ => rfl)) o2_ix (ed_frz (pv 2)) ed_int))) ea_nil)))) (el_cons (ed_frz (pv 1)) (el_cons (ed_bin (fun h1 h2 => pe_cmpR op_gt h1 h2 (nomark _)) o2_gt (EvR.d (er_binR (fun h1 h2 => pe_op op_mulR h1 h2) o2_mulR (ed_bin (fun h1 h2 => pe_ix ix_seq h1 h2 (fun _ _ => rfl)) o2_ix (ed_frz (pv 1)) ed_int) (ed_bin (fun h1 h2 => pe_ix ix_seq h1 h2 (fun _ _ => rfl)) o2_ix (ed_frz (pv 2)) ed_int))) (EvR.d (er_binR (fun h1 h2 => pe_op op_mulR h1 h2) o2_mulR (ed_bin (fun h1 h2 => pe_ix ix_seq h1 h2 (fun _ _ => rfl)) o2_ix (ed_frz (pv 2)) ed_int) (ed_bin (fun h1 h2 => pe_ix ix_seq h1 h2 (fun _ _ => rfl)) o2_ix (ed_frz (pv 1)) ed_int)))) el_nil)))))))
    (ss_cons (sd_if (EvW.t (ew_or (et_not (et_tru (EvR.d (er_callD D_law_same gd hr (by decide) (ea_d (ed_frz (pv 4)) (ea_d (ed_frz (pv 5)) ea_nil)))))) (ew_or (et_cmp op_isNotA o2_isNot (EvR.d (er_callD D_is_ratio gd hr (by decide) (ea_d (ed_frz (pv 1)) ea_nil))) ed_bl (nomark _)) (ew_or1 (et_cmp op_isNotA o2_isNot (EvR.d (er_callD D_is_ratio gd hr (by decide) (ea_d (EvR.d (er_callD D_ratio gd hr (by decide) (ea_d ed_int (ea_d (ed_frz (pv 3)) ea_nil)))) ea_nil))) ed_bl (nomark _)))))) (ss_one (sd_ret (EvD.r ed_bl))) ss_nil)
    (ss_cons (sd_set (i := 4) sc_law_are_pairs_right.nd rfl (Or.inl rfl) (er_lst (el_cons (EvR.d (er_callD D_ratio gd hr (by decide) (ea_d ed_int (ea_d (ed_frz (pv 3)) ea_nil)))) (el_cons (EvR.d (er_callD D_ratio gd hr (by decide) (ea_d (ed_frz (pv 3)) (ea_d (ed_frz (pv 3)) ea_nil)))) (el_cons (EvR.d (er_callD D_times gd hr (by decide) (ea_d (ed_frz (pv 1)) (ea_d (ed_tup (el_cons ed_int (el_cons ed_int el_nil))) ea_nil)))) (el_cons (EvR.d (er_callD D_plus gd hr (by decide) (ea_d (ed_frz (pv 1)) (ea_d (ed_tup (el_cons ed_int (el_cons ed_int el_nil))) ea_nil)))) el_nil))))))
    (ss_cons (sd_if (et_not (et_tru (EvR.d (er_callD D_law_same gd hr (by decide) (ea_d (ed_frz (pv 4)) (ea_d (EvR.d (er_lst (el_cons (ed_tup (el_cons ed_int (el_cons ed_int el_nil))) (el_cons (ed_tup (el_cons ed_int (el_cons ed_int el_nil))) (el_cons (ed_tup (el_cons ed_int (el_cons ed_int el_nil))) (el_cons (ed_frz (pv 1)) el_nil)))))) ea_nil)))))) (ss_one (sd_ret (EvD.r ed_bl))) ss_nil)
    (ss_cons (sd_set (i := 6) sc_law_are_pairs_right.nd rfl (Or.inl rfl) (er_lst (el_cons (ed_tup (el_cons (EvR.d (er_binR (fun h1 h2 => pe_op op_mulR h1 h2) o2_mulR (ed_bin (fun h1 h2 => pe_ix ix_seq h1 h2 (fun _ _ => rfl)) o2_ix (ed_frz (pv 1)) ed_int) ed_int)) (el_cons (EvR.d (er_binR (fun h1 h2 => pe_op op_mulR h1 h2) o2_mulR (ed_bin (fun h1 h2 => pe_ix ix_seq h1 h2 (fun _ _ => rfl)) o2_ix (ed_frz (pv 1)) ed_int) ed_int)) el_nil))) (el_cons (ed_tup (el_cons (ed_bin (fun h1 h2 => pe_op op_sub h1 h2) o2_sub ed_int ed_int) (el_cons ed_int el_nil))) (el_cons (ed_tup (el_cons ed_int (el_cons ed_int el_nil))) (el_cons (ed_tup (el_cons ed_int (el_cons (ed_bin (fun h1 h2 => pe_op op_sub h1 h2) o2_sub ed_int ed_int) el_nil))) (el_cons (ed_tup (el_cons ed_int (el_cons ed_int el_nil))) (el_cons (EvR.d (er_lst (el_cons ed_int (el_cons ed_int el_nil)))) (el_cons (ed_tup (el_cons ed_int (el_cons ed_int (el_cons ed_int el_nil)))) (el_cons (ed_tup (el_cons ed_int el_nil)) (el_cons ed_non (el_cons ed_int (el_cons (ed_tup (el_cons ed_str (el_cons ed_int el_nil))) el_nil)))))))))))))
    (ss_cons (sd_set (i := 6) sc_law_are_pairs_right.nd rfl (Or.inl rfl) (er_binR (fun h1 h2 => pe_op op_addR h1 h2) o2_addR (ed_frz (pv 6)) (EvR.d (er_lst (el_cons (ed_tup (el_cons ed_bl (el_cons ed_int el_nil))) (el_cons (ed_tup (el_cons ed_int (el_cons ed_bl el_nil))) (el_cons (ed_tup (el_cons ed_int (el_cons ed_int el_nil))) (el_cons (ed_tup (el_cons (EvR.d (er_binR (fun h1 h2 => pe_op op_mulR h1 h2) o2_mulR (ed_frz (pv 3)) ed_int)) (el_cons (EvR.d (er_binR (fun h1 h2 => pe_op op_mulR h1 h2) o2_mulR (ed_frz (pv 3)) ed_int)) el_nil))) (el_cons (ed_tup (el_cons (ed_tup (el_cons ed_int (el_cons ed_int el_nil))) (el_cons ed_int el_nil))) (el_cons (ed_tup (el_cons ed_int (el_cons ed_non el_nil))) el_nil))))))))))
    (ss_one (sd_ret (EvD.r (ed_not (ed_any rfl B (el_cons (EvR.d (er_lc (own := [("thing", 7)]) rfl sc_law_are_pairs_right.nd (ei_any (ed_frz (pv 6))) (blkOk_by (own := [("thing", 7)]) (N := n_law_are_pairs_right) (sc := defScope s_law_are_pairs_right) (by decide +kernel)) (by decide) (fun _ _ _ _ _ => eg_name (i := 7) sc_law_are_pairs_right.nd rfl (Or.inl rfl)) (fun _ _ _ _ _ => EvIfs.nil) (fun _ _ _ _ _ => EvR.d (er_callD D_is_ratio gd hr (by decide) (ea_d (ed_frz (pv 7)) ea_nil))))) el_nil)))))))))))))))))
theorem ok_law_are_weights_right (B : Bi mg) (D_law_some : OkD P w K mg base 2 "_law_some" p_law_some g_law_some) (D_law_draw : OkD P w K mg base 1 "_law_draw" p_law_draw g_law_draw) (D_shared : OkD P w K mg base 3 "shared" p_shared g_shared) (D_law_same : OkD P w K mg base 1 "_law_same" p_law_same g_law_same) (D_law_low : OkD P w K mg base 2 "_law_low" p_law_low g_law_low) (D_total : OkD P w K mg base 4 "total" p_total g_total) (F : Stands K mg "_law_are_weights_right" s_law_are_weights_right) : OkD P w K mg base 5 "_law_are_weights_right" p_law_are_weights_right g_law_are_weights_right := by
  obtain ⟨⟨fd, F⟩, mF⟩ := F
  refine ⟨⟨_, fd, fnT (N := n_law_are_weights_right) F sc_law_are_weights_right 1 7 rfl rfl (fun cdv A outer s H E gd hr => ?_), F.bindsN (ps := p_law_are_weights_right) (fun _ _ _ _ _ _ us hl => match us, hl with | [_], _ => rfl), F.kp, mF⟩⟩
  exact ss_cons (sd_set (i := 1) sc_law_are_weights_right.nd rfl (Or.inr rfl) (er_callD D_law_some gd hr (by decide) (ea_l (pv 0) (ea_d (EvR.d (er_lst (el_cons ed_int (el_cons ed_int (el_cons (ed_bin (fun h1 h2 => pe_op op_pow h1 h2) o2_pow ed_int ed_int) el_nil))))) ea_nil))))
    (ss_cons (sd_setLc (own := [("lap", 3)]) (i := 2) rfl sc_law_are_weights_right.nd rfl rfl (sw_true rfl rfl rfl (by decide +kernel)) (ei_rng1 (by rfl) B.range (el_cons (EvR.d (er_binR (fun h1 h2 => pe_op op_addR h1 h2) o2_addR ed_int (EvR.d (er_callD D_law_draw gd hr (by decide) (ea_l (pv 0) (ea_d ed_int ea_nil)))))) el_nil)) (blkOk_by (own := [("lap", 3)]) (N := n_law_are_weights_right) (sc := defScope s_law_are_weights_right) (by decide +kernel)) (by decide) (fun _ _ _ _ _ => eg_name (i := 3) sc_law_are_weights_right.nd rfl (Or.inl rfl)) (fun _ _ _ _ _ => EvIfs.nil) (fun _ _ _ _ _ => EvR.d (er_callD D_law_draw gd hr (by decide) (ea_l (pv 0) (ea_d (ed_frz (pv 1)) ea_nil)))))
    (ss_cons (sd_setC (EvR.d (er_callD D_law_draw gd hr (by decide) (ea_l (pv 0) (ea_d (EvD.alt (ed_lenC B (pv 2)) (ed_len B (el_cons (ed_frz (pv 2)) el_nil))) ea_nil)))) (EvR.d (er_binR (fun h1 h2 => pe_op op_addR h1 h2) o2_addR ed_int (EvR.d (er_callD D_law_draw gd hr (by decide) (ea_l (pv 0) (ea_d (ed_frz (pv 1)) ea_nil)))))) (fun he hk => ps_asg he (pg_sub (pv 2) hk set_list)))
    (ss_cons (sd_set (i := 2) sc_law_are_weights_right.nd rfl (Or.inl rfl) (EvD.r (ed_tupOf B (el_cons (ed_frz (pv 2)) el_nil))))
    (ss_cons (sd_set (i := 4) sc_law_are_weights_right.nd rfl (Or.inr rfl) (EvD.r (ed_sum rfl B (el_cons (ed_frz (pv 2)) el_nil))))
    (ss_cons (sd_set (i := 5) sc_law_are_weights_right.nd rfl (Or.inl rfl) (er_callD D_shared gd hr (by decide) (ea_d (ed_frz (pv 2)) ea_nil)))
    (ss_cons (sd_if (et_not (et_tru (EvR.d (er_callD D_law_same gd hr (by decide) (ea_d (ed_frz (pv 5)) (ea_d (ed_tupOf B (el_cons (EvR.d (er_lc (own := [("one", 6)]) rfl sc_law_are_weights_right.nd (ei_any (ed_frz (pv 2))) (blkOk_by (own := [("one", 6)]) (N := n_law_are_weights_right) (sc := defScope s_law_are_weights_right) (by decide +kernel)) (by decide) (fun _ _ _ _ _ => eg_name (i := 6) sc_law_are_weights_right.nd rfl (Or.inl rfl)) (fun _ _ _ _ _ => EvIfs.nil) (fun _ _ _ _ _ => EvR.d (er_callD D_law_low gd hr (by decide) (ea_d (ed_frz (pv 6)) (ea_d (ed_frz (pv 4)) ea_nil)))))) el_nil)) ea_nil)))))) (ss_one (sd_ret (EvD.r ed_bl))) ss_nil)
    (ss_cons (sd_set (i := 7) sc_law_are_weights_right.nd rfl (Or.inr rfl) (er_binR (fun h1 h2 => pe_op op_addR h1 h2) o2_addR ed_int (EvR.d (er_callD D_law_draw gd hr (by decide) (ea_l (pv 0) (ea_d ed_int ea_nil))))))
    (ss_one (sd_ret (er_callD D_law_same gd hr (by decide) (ea_d (EvR.d (er_lst (el_cons (EvR.d (er_callD D_total gd hr (by decide) (ea_d (EvR.d (er_lstOf B (el_cons (ed_frz (pv 5)) el_nil))) ea_nil))) (el_cons (EvR.d (er_callD D_shared gd hr (by decide) (ea_d (ed_tupOf B (el_cons (EvR.d (er_lc (own := [("one", 6)]) rfl sc_law_are_weights_right.nd (ei_any (ed_frz (pv 2))) (blkOk_by (own := [("one", 6)]) (N := n_law_are_weights_right) (sc := defScope s_law_are_weights_right) (by decide +kernel)) (by decide) (fun _ _ _ _ _ => eg_name (i := 6) sc_law_are_weights_right.nd rfl (Or.inl rfl)) (fun _ _ _ _ _ => EvIfs.nil) (fun _ _ _ _ _ => EvR.d (er_binR (fun h1 h2 => pe_op op_mulR h1 h2) o2_mulR (ed_frz (pv 6)) (ed_frz (pv 7)))))) el_nil)) ea_nil))) el_nil)))) (ea_d (EvR.d (er_lst (el_cons (ed_tup (el_cons ed_int (el_cons ed_int el_nil))) (el_cons (ed_frz (pv 5)) el_nil)))) ea_nil))))))))))))
theorem ok_law (B : Bi mg) (D_law_hand : OkD P w K mg base 1 "_law_hand" p_law_hand g_law_hand) (D_total : OkD P w K mg base 4 "total" p_total g_total) (D_ratio : OkD P w K mg base 2 "ratio" p_ratio g_ratio) (D_law_are_sums_right : OkD P w K mg base 5 "_law_are_sums_right" p_law_are_sums_right g_law_are_sums_right) (D_law_are_weights_right : OkD P w K mg base 5 "_law_are_weights_right" p_law_are_weights_right g_law_are_weights_right) (D_law_are_pairs_right : OkD P w K mg base 5 "_law_are_pairs_right" p_law_are_pairs_right g_law_are_pairs_right) (F : Stands K mg "law" s_law) : OkD P w K mg base 6 "law" p_law g_law := by
  obtain ⟨⟨fd, F⟩, mF⟩ := F
  refine ⟨⟨_, fd, fnT (N := n_law) F sc_law 1 3 rfl rfl (fun cdv A outer s H E gd hr => ?_), F.bindsN (ps := p_law) (fun _ _ _ _ _ _ us hl => match us, hl with | [_], _ => rfl), F.kp, mF⟩⟩
  exact ss_cons (sd_set (i := 1) sc_law.nd rfl (Or.inr rfl) (er_callD D_law_hand gd hr (by decide) (ea_l (pv 0) ea_nil)))
    (ss_cons (sd_if (EvW.t (ew_or (et_cmp (op_neA hr.units) o2_ne (EvR.d (er_callD D_total gd hr (by decide) (ea_d (EvR.d (er_lst el_nil)) ea_nil))) (ed_tup (el_cons ed_int (el_cons ed_int el_nil))) (nomark _)) (ew_or (et_cmp (op_neA hr.units) o2_ne (EvR.d (er_callD D_total gd hr (by decide) (ea_d (EvR.d (er_lst (el_cons (ed_tup (el_cons ed_int (el_cons ed_int el_nil))) (el_cons (ed_tup (el_cons ed_int (el_cons ed_int el_nil))) (el_cons (ed_tup (el_cons ed_int (el_cons ed_int el_nil))) el_nil))))) ea_nil))) (ed_tup (el_cons ed_int (el_cons ed_int el_nil))) (nomark _)) (ew_or1 (et_cmp (op_neA hr.units) o2_ne (EvR.d (er_callD D_ratio gd hr (by decide) (ea_d ed_int (ea_d ed_int ea_nil)))) (ed_tup (el_cons ed_int (el_cons ed_int el_nil))) (nomark _)))))) (ss_one (sd_ret (EvD.r ed_bl))) ss_nil)
    (ss_cons (sd_for PassesOwn.never rfl (ei_rng1 (by rfl) B.range (el_cons ed_int el_nil)) (eg_name (i := 2) sc_law.nd rfl (Or.inl rfl)) (ss_cons (sd_if (EvW.t (ew_or (et_not (et_tru (EvR.d (er_callD D_law_are_sums_right gd hr (by decide) (ea_l (pv 1) ea_nil))))) (ew_or1 (et_not (et_tru (EvR.d (er_callD D_law_are_weights_right gd hr (by decide) (ea_l (pv 1) ea_nil)))))))) (ss_one (sd_ret (EvD.r ed_bl))) ss_nil)
    (ss_one (sd_if (et_not (et_tru (ed_all rfl B (el_cons (EvR.d (er_lc (own := [("turn", 3)]) rfl sc_law.nd (ei_rng1 (by rfl) B.range (el_cons ed_int el_nil)) (blkOk_by (own := [("turn", 3)]) (N := n_law) (sc := defScope s_law) (by decide +kernel)) (by decide) (fun _ _ _ _ _ => eg_name (i := 3) sc_law.nd rfl (Or.inl rfl)) (fun _ _ _ _ _ => EvIfs.nil) (fun _ _ _ _ _ => EvR.d (er_callD D_law_are_pairs_right gd hr (by decide) (ea_l (pv 1) ea_nil))))) el_nil)))) (ss_one (sd_ret (EvD.r ed_bl))) ss_nil))))
    (ss_one (sd_ret (EvD.r ed_bl)))))
end
end K07
set_option Elab.async false
set_option linter.all false
set_option maxRecDepth 100000
set_option maxHeartbeats 0
/-! K07Head: the end (printed by gen.py). -/
namespace K07
open PySem PySem.Spec PyProof.Rows L2 TL

def fnH : List He.DefD := [defT "is_integer" s_is_integer, defT "is_tuple_of" s_is_tuple_of, defT "common" s_common, defT "ratio" s_ratio, defT "plus" s_plus, defT "times" s_times, defT "total" s_total, defT "is_more" s_is_more, defT "is_ratio" s_is_ratio, defT "shared" s_shared, defT "_law_hand" s_law_hand, defT "_law_draw" s_law_draw, defT "_law_some" s_law_some, defT "_law_same" s_law_same, defT "_law_common" s_law_common, defT "_law_low" s_law_low, defT "_law_number" s_law_number, defT "_law_part" s_law_part, defT "_law_mixed" s_law_mixed, defT "_law_are_sums_right" s_law_are_sums_right, defT "_law_are_pairs_right" s_law_are_pairs_right, defT "_law_are_weights_right" s_law_are_weights_right, defT "law" s_law]
def faH : List He.Fa := [.glo "is_integer", .glo "is_tuple_of", .glo "common", .glo "ratio", .glo "plus", .glo "times", .glo "total", .glo "is_more", .glo "is_ratio", .glo "shared", .glo "_law_hand", .glo "_law_draw", .glo "_law_some", .glo "_law_same", .glo "_law_common", .glo "_law_low", .glo "_law_number", .glo "_law_part", .glo "_law_mixed", .glo "_law_are_sums_right", .glo "_law_are_pairs_right", .glo "_law_are_weights_right", .glo "law"] ++ biNames
abbrev R : PySem.W.OpenRow := PySem.W.OpenLaw.row PySem.Challenge.rw_onionpost_k07_whole_parts_of_closed_sums
abbrev hk : PySem.W.Hook := He.hookD 4 faH fnH
def ob (s : PySem.W.SharedT) : He.AlD := He.obsDG 4 faH fnH (HandSHeadRun.getT s)
theorem ob_eq (s : PySem.W.SharedT) : ob s = hk.obs s.abs := He.obsDG_eq (HandSHeadRun.getT_eq s)
abbrev looseH : List PySem.Str := ["__name__", "is_integer", "is_tuple_of", "common", "ratio", "plus", "times", "total", "is_more", "is_ratio", "shared", "_law_hand", "_law_draw", "_law_some", "_law_same", "_law_common", "_law_low", "_law_number", "_law_part", "_law_mixed", "_law_are_sums_right", "_law_are_pairs_right", "_law_are_weights_right"]
theorem run (w : World) : HandSHeadRun.RunEq R (PySem.W.view R.prog [25]) hk ob 4000 looseH w := by
  intro os
  kernel_rfl
theorem facts {P : Program} {w : World} {K : PySem.W.Frag} {h : Heap} {mg : Str → Option Value} (X : K.In h) (G : h.Ns mainGlobals mg) (c : He.SaysD faH fnH K) (base : Heap) : OkD P w K mg base 6 "law" p_law g_law := by
  have B : Bi mg := bi_of X G c 23 rfl
  have D0 : OkD P w K mg base 1 "is_integer" p_is_integer g_is_integer := ok_is_integer B (standsT X G c 0)
  have D1 : OkD P w K mg base 1 "is_tuple_of" p_is_tuple_of g_is_tuple_of := ok_is_tuple_of B (standsT X G c 1)
  have D2 : OkD P w K mg base 1 "common" p_common g_common := ok_common B (standsT X G c 2)
  have D3 : OkD P w K mg base 2 "ratio" p_ratio g_ratio := ok_ratio B D2 (standsT X G c 3)
  have D4 : OkD P w K mg base 3 "plus" p_plus g_plus := ok_plus B D3 (standsT X G c 4)
  have D5 : OkD P w K mg base 3 "times" p_times g_times := ok_times B D3 (standsT X G c 5)
  have D6 : OkD P w K mg base 4 "total" p_total g_total := ok_total B D4 (standsT X G c 6)
  have D7 : OkD P w K mg base 1 "is_more" p_is_more g_is_more := ok_is_more B (standsT X G c 7)
  have D8 : OkD P w K mg base 3 "is_ratio" p_is_ratio g_is_ratio := ok_is_ratio B D1 D0 D3 (standsT X G c 8)
  have D9 : OkD P w K mg base 3 "shared" p_shared g_shared := ok_shared B D3 (standsT X G c 9)
  have D10 : OkD P w K mg base 1 "_law_hand" p_law_hand g_law_hand := ok_law_hand B (standsT X G c 10)
  have D11 : OkD P w K mg base 1 "_law_draw" p_law_draw g_law_draw := ok_law_draw B (standsT X G c 11)
  have D12 : OkD P w K mg base 2 "_law_some" p_law_some g_law_some := ok_law_some B D11 (standsT X G c 12)
  have D13 : OkD P w K mg base 1 "_law_same" p_law_same g_law_same := ok_law_same B (standsT X G c 13)
  have D14 : OkD P w K mg base 1 "_law_common" p_law_common g_law_common := ok_law_common B (standsT X G c 14)
  have D15 : OkD P w K mg base 2 "_law_low" p_law_low g_law_low := ok_law_low B D14 (standsT X G c 15)
  have D16 : OkD P w K mg base 3 "_law_number" p_law_number g_law_number := ok_law_number B D11 D12 (standsT X G c 16)
  have D17 : OkD P w K mg base 4 "_law_part" p_law_part g_law_part := ok_law_part B D15 D16 (standsT X G c 17)
  have D18 : OkD P w K mg base 2 "_law_mixed" p_law_mixed g_law_mixed := ok_law_mixed B D11 (standsT X G c 18)
  have D19 : OkD P w K mg base 5 "_law_are_sums_right" p_law_are_sums_right g_law_are_sums_right := ok_law_are_sums_right B D11 D13 D6 D18 D15 D17 (standsT X G c 19)
  have D20 : OkD P w K mg base 5 "_law_are_pairs_right" p_law_are_pairs_right g_law_are_pairs_right := ok_law_are_pairs_right B D17 D12 D15 D16 D7 D3 D5 D4 D13 D8 (standsT X G c 20)
  have D21 : OkD P w K mg base 5 "_law_are_weights_right" p_law_are_weights_right g_law_are_weights_right := ok_law_are_weights_right B D12 D11 D9 D13 D15 D6 (standsT X G c 21)
  have D22 : OkD P w K mg base 6 "law" p_law g_law := ok_law B D10 D6 D3 D19 D21 D20 (standsT X G c 22)
  exact D22
end K07
open PySem PySem.W PySem.Calls PyProof.Rows
theorem K07.holds (hlaw : ∀ ns : List Int, ns.length ≤ 63 → ∃ ss', K07.g_law [.scr ns] = some (.v (.bl true), ss')) : PySem.Challenge.rw_onionpost_k07_whole_parts_of_closed_sums.Holds := by
  w_on; o_law
  refine HandSHeadRun.head_any (r := OpenLaw.row PySem.Challenge.rw_onionpost_k07_whole_parts_of_closed_sums) (q := view (OpenLaw.row PySem.Challenge.rw_onionpost_k07_whole_parts_of_closed_sums).prog [25]) (H := K07.hk) (ob := K07.ob) (M := 4000) (loose := K07.looseH) (d := HandSHeadRun.topDef (OpenLaw.row PySem.Challenge.rw_onionpost_k07_whole_parts_of_closed_sums).prog 25) (kwd := []) K07.ob_eq
    (by kernel_rfl) (fun s => by kernel_rfl) K07.run (by kernel_rfl) (by kernel_rfl) (by kernel_rfl) (by rfl) (by first | assumption | decide +kernel) (by decide +kernel) ⟨rfl, rfl, rfl, rfl, rfl, by decide +kernel⟩ ?hw ?hc
  case hw => w_witness2
  case hc =>
    refine TL.walk_ofG (l := PySem.Challenge.rw_onionpost_k07_whole_parts_of_closed_sums) (n := 63) (k := 6) (x := "script") (gl := K07.g_law) rfl (by decide) (by kernel_rfl) ⟨rfl, by decide, by decide⟩ ?F hlaw
    intro w mg fa h Y G hmg0
    obtain ⟨K, KX, c⟩ := Y
    have e : (HandSHeadRun.topDef (OpenLaw.row PySem.Challenge.rw_onionpost_k07_whole_parts_of_closed_sums).prog 25).name = ("law" : PySem.Str) := by kernel_rfl
    refine ⟨K, KX, fun base _ _ => ?_⟩
    rw [e]
    exact K07.facts KX G c base
set_option Elab.async false
set_option linter.all false
set_option maxRecDepth 100000
/-! K07a: the hand. -/
namespace K07
open PySem PySem.Spec PyProof.Rows L2 TL
structure Hd where
  cs : List Nat
  i : Nat
  n : Nat
  s : Nat
  k : Nat
@[reducible] def nat (n : Nat) : D := .int (n : Int)
def Hd.c (h : Hd) : C := .lst [.lst (h.cs.map nat), .int (h.i : Int), .int (h.n : Int), .int (h.s : Int), .int (h.k : Int)]
structure Hd.ok (h : Hd) (N : Nat) : Prop where
  cs : ∀ c ∈ h.cs, c < 10 ^ 36
  n : h.n < 10 ^ 36
  s : h.s < 2147483629
  k : h.k ≤ N
theorem Hd.ok.mono {h : Hd} {N M : Nat} (o : h.ok N) (l : N ≤ M) : h.ok M := ⟨o.cs, o.n, o.s, Nat.le_trans o.k l⟩
/-- what stands ahead of the draw's digit: a cell is taken in -/
def drawA : GS := gIfS (gAnd (gTB (gBin dEq (gIxC 0 (gC (.int 2))) (gC (.int 0)))) (gTB (gBin dLt (gIxC 0 (gC (.int 1))) (gOpN fLen (gCons (gIxC 0 (gC (.int 0))) gNil))))) (gSeq (gSet 2 (gR (gBin dIx (gIxC 0 (gC (.int 0))) (gIxC 0 (gC (.int 1))))))
    (gSeq (gSetC 0 (gC (.int 1)) (gD (gBinR dAddR (gIxC 0 (gC (.int 1))) (gC (.int 1)))))
    (gSeq (gSetC 0 (gC (.int 3)) (gBin dMod (gOpN fInt (gCons (gD (gBinR dAddR (gD (gBinR dAddR (gD (gBinR dMulR (gIxC 0 (gC (.int 3))) (gC (.int 69621)))) (gFrz 2))) (gC (.int 103)))) gNil)) (gC (.int 2147483629))))
    (gIfS (gTB (gBin dGe (gFrz 2) (gBin dPow (gC (.int 10)) (gC (.int 18))))) (gSetC 0 (gC (.int 2)) (gFrz 2)) gSkip)))) gSkip
theorem drawA_eq (h : Hd) (N : Nat) (o : h.ok N) (m : D) : ∃ h' : Hd, ∃ t : S, h'.ok N ∧ drawA [.par h.c, .sh m, .un, .un, .un] = some (.nx [.par h'.c, .sh m, t, .un, .un]) ∧ t.free = true := by
  unfold drawA
  by_cases h1 : h.n = 0 ∧ h.i < h.cs.length
  · obtain ⟨e, l⟩ := h1
    obtain ⟨c, ec⟩ : ∃ c, h.cs[h.i]? = some c := ⟨_, List.getElem?_eq_getElem l⟩
    have hc := o.cs c (List.mem_of_getElem? ec)
    have os := o.s
    have e2 : (((h.s : Int) * 69621 + c + 103) % 2147483629) = (((h.s * 69621 + c + 103) % 2147483629 : Nat) : Int) := by omega
    have l2 : (h.s * 69621 + c + 103) % 2147483629 < 2147483629 := Nat.mod_lt _ (by decide)
    have p18 : ((10 : Int) ^ (18 : Int).toNat) = ((10 ^ 18 : Nat) : Int) := by decide
    have m1 : dMulR (.int (h.s : Int)) (.int 69621) = some (.v (.int ((h.s : Int) * 69621))) := dMulR_ii (.inr (.inl (by decide)))
    have p1 : dPow (.int 10) (.int 18) = some (.int (10 ^ 18)) := rfl
    have a1 : atI (List.map nat h.cs) (h.i : Int) = some (.int (c : Int)) := by rw [TL.atI_nat, List.getElem?_map, ec]; rfl
    have a2 : ixN 5 1 = some 1 := rfl
    have a3 : ixN 5 2 = some 2 := rfl
    have a4 : ixN 5 3 = some 3 := rfl
    have md : dMod (.int ((h.s : Int) * 69621 + c + 103)) (.int 2147483629) = some (.int (((h.s * 69621 + c + 103) % 2147483629 : Nat) : Int)) := by
      rw [dMod_ii (by decide), e2]
    have l3 : (h.i : Int) < (h.cs.length : Int) := by omega
    by_cases hb : (10 ^ 18 : Nat) ≤ c
    · refine ⟨⟨h.cs, h.i + 1, c, (h.s * 69621 + c + 103) % 2147483629, h.k⟩, .sh (nat c), ⟨o.cs, hc, l2, o.k⟩, ?_, rfl⟩
      have hb' : decide ((1000000000000000000 : Int) ≤ (c : Int)) = true := decide_eq_true (by omega)
      simp only [gIfS_ap, gAnd_ap, gTB_ap, gBin_ap, gIxC_ap, gC_ap, cellAt_par, Hd.c, e, atI_2, atI_1, atI_0, List.getElem?_cons_succ, List.getElem?_cons_zero, dEq_ii, decide_true, gOpN_ap, gCons_ap, gNil_ap, fLen_l, dLt_ii, List.length_map, decide_eq_true l3, Int.natCast_zero]
      simp [a1, a2, a3, a4, m1, md, p1, setS, putC, S.cell, S.put, S.free, nat, hb', dPow]
    · refine ⟨⟨h.cs, h.i + 1, h.n, (h.s * 69621 + c + 103) % 2147483629, h.k⟩, .sh (nat c), ⟨o.cs, o.n, l2, o.k⟩, ?_, rfl⟩
      have hb' : decide ((1000000000000000000 : Int) ≤ (c : Int)) = false := decide_eq_false (by omega)
      simp only [gIfS_ap, gAnd_ap, gTB_ap, gBin_ap, gIxC_ap, gC_ap, cellAt_par, Hd.c, e, atI_2, atI_1, atI_0, List.getElem?_cons_succ, List.getElem?_cons_zero, dEq_ii, decide_true, gOpN_ap, gCons_ap, gNil_ap, fLen_l, dLt_ii, List.length_map, decide_eq_true l3, Int.natCast_zero]
      simp [a1, a2, a3, a4, m1, md, p1, setS, putC, S.cell, S.put, S.free, nat, hb', dPow]
  · refine ⟨h, .un, o, ?_, rfl⟩
    by_cases hn : h.n = 0
    · have l3 : decide ((h.i : Int) < (h.cs.length : Int)) = false := decide_eq_false (by omega)
      simp only [gIfS_ap, gAnd_ap, gTB_ap, gBin_ap, gIxC_ap, gC_ap, cellAt_par, Hd.c, hn, atI_2, atI_1, atI_0, List.getElem?_cons_succ, List.getElem?_cons_zero, dEq_ii, decide_true, gOpN_ap, gCons_ap, gNil_ap, fLen_l, dLt_ii, List.length_map, l3, Int.natCast_zero, gSkip_ap]
    · have l3 : decide ((h.n : Int) = 0) = false := decide_eq_false (by omega)
      simp only [gIfS_ap, gAnd_ap, gTB_ap, gBin_ap, gIxC_ap, gC_ap, cellAt_par, Hd.c, atI_2, atI_1, atI_0, List.getElem?_cons_succ, List.getElem?_cons_zero, dEq_ii, l3, gSkip_ap]

def drawB : GS := gSeq (gIfS (gTB (gBin dGt (gIxC 0 (gC (.int 2))) (gC (.int 0)))) (gSeq (gSet 3 (gR (gBin dMod (gOpN fInt (gCons (gIxC 0 (gC (.int 2))) gNil)) (gFrz 1))))
    (gSeq (gSetC 0 (gC (.int 2)) (gBin dDiv (gIxC 0 (gC (.int 2))) (gFrz 1)))
    (gRet (gR (gFrz 3))))) gSkip)
    (gSeq (gSetC 0 (gC (.int 4)) (gD (gBinR dAddR (gIxC 0 (gC (.int 4))) (gC (.int 1)))))
    (gSeq (gSet 4 (gR (gBin dMod (gOpN fInt (gCons (gD (gBinR dMulR (gOpN fInt (gCons (gD (gBinR dAddR (gIxC 0 (gC (.int 3))) (gD (gBinR dMulR (gC (.int 7919)) (gIxC 0 (gC (.int 4))))))) gNil)) (gC (.int 48271)))) gNil)) (gC (.int 2147483647)))))
    (gSeq (gSet 4 (gR (gBin dMod (gOpN fInt (gCons (gD (gBinR dMulR (gFrz 4) (gD (gBinR dAddR (gBin dDiv (gFrz 4) (gC (.int 1009))) (gC (.int 69621)))))) gNil)) (gC (.int 2147483647)))))
    (gSeq (gSet 4 (gR (gBin dMod (gOpN fInt (gCons (gD (gBinR dMulR (gFrz 4) (gD (gBinR dAddR (gBin dDiv (gFrz 4) (gC (.int 2003))) (gC (.int 40692)))))) gNil)) (gC (.int 2147483399)))))
    (gRet (gR (gBin dMod (gOpN fInt (gCons (gBin dDiv (gFrz 4) (gC (.int 16))) gNil)) (gFrz 1))))))))
theorem draw_split : g_law_draw = gDef 2 3 (gSeq drawA drawB) := rfl
theorem drawB_eq (h : Hd) (N m : Nat) (o : h.ok N) (hm : 0 < m) (hm2 : m.log2 < 9000) (t : S) : ∃ (h' : Hd) (x : Nat) (t' : S) (ss : List S), h'.ok (N + 1) ∧ x < m ∧ drawB [.par h.c, .sh (.int m), t, .un, .un] = some (.rt (.v (.int x)) (.par h'.c :: t' :: ss)) := by
  unfold drawB
  have a3 : ixN 5 2 = some 2 := rfl
  have a5 : ixN 5 4 = some 4 := rfl
  by_cases h0 : h.n = 0
  · have l3 : decide ((0 : Int) < (h.n : Int)) = false := decide_eq_false (by omega)
    have k1 : (h.k : Int) + 1 = ((h.k + 1 : Nat) : Int) := by omega
    have m1 : dMulR (.int 7919) (.int ((h.k + 1 : Nat) : Int)) = some (.v (.int ((7919 * (h.k + 1) : Nat) : Int))) := dMulR_nn (a := 7919) (.inl (by decide))
    have q1 : dAddR (.int (h.s : Int)) (.int ((7919 * (h.k + 1) : Nat) : Int)) = some (.v (.int ((h.s + 7919 * (h.k + 1) : Nat) : Int))) := dAddR_nn
    have m2 : dMulR (.int ((h.s + 7919 * (h.k + 1) : Nat) : Int)) (.int 48271) = some (.v (.int (((h.s + 7919 * (h.k + 1)) * 48271 : Nat) : Int))) := dMulR_nn (b := 48271) (.inr (.inl (by decide)))
    have q2 : dMod (.int (((h.s + 7919 * (h.k + 1)) * 48271 : Nat) : Int)) (.int 2147483647) = some (.int (((h.s + 7919 * (h.k + 1)) * 48271 % 2147483647 : Nat) : Int)) := dMod_nn (b := 2147483647) (by decide)
    have lu : (h.s + 7919 * (h.k + 1)) * 48271 % 2147483647 < 2147483647 := Nat.mod_lt _ (by decide)
    generalize (h.s + 7919 * (h.k + 1)) * 48271 % 2147483647 = u at q2 lu
    have q3 : dDiv (.int (u : Int)) (.int 1009) = some (.int ((u / 1009 : Nat) : Int)) := dDiv_nn (b := 1009) (by decide) (by decide +kernel)
    have q4 : dAddR (.int ((u / 1009 : Nat) : Int)) (.int 69621) = some (.v (.int ((u / 1009 + 69621 : Nat) : Int))) := dAddR_nn (b := 69621)
    have m3 : dMulR (.int (u : Int)) (.int ((u / 1009 + 69621 : Nat) : Int)) = some (.v (.int ((u * (u / 1009 + 69621) : Nat) : Int))) := dMulR_nn (.inl (by omega))
    have q5 : dMod (.int ((u * (u / 1009 + 69621) : Nat) : Int)) (.int 2147483647) = some (.int ((u * (u / 1009 + 69621) % 2147483647 : Nat) : Int)) := dMod_nn (b := 2147483647) (by decide)
    have lv : u * (u / 1009 + 69621) % 2147483647 < 2147483647 := Nat.mod_lt _ (by decide)
    generalize u * (u / 1009 + 69621) % 2147483647 = v at q5 lv
    have q6 : dDiv (.int (v : Int)) (.int 2003) = some (.int ((v / 2003 : Nat) : Int)) := dDiv_nn (b := 2003) (by decide) (by decide +kernel)
    have q7 : dAddR (.int ((v / 2003 : Nat) : Int)) (.int 40692) = some (.v (.int ((v / 2003 + 40692 : Nat) : Int))) := dAddR_nn (b := 40692)
    have m4 : dMulR (.int (v : Int)) (.int ((v / 2003 + 40692 : Nat) : Int)) = some (.v (.int ((v * (v / 2003 + 40692) : Nat) : Int))) := dMulR_nn (.inl (by omega))
    have q8 : dMod (.int ((v * (v / 2003 + 40692) : Nat) : Int)) (.int 2147483399) = some (.int ((v * (v / 2003 + 40692) % 2147483399 : Nat) : Int)) := dMod_nn (b := 2147483399) (by decide)
    generalize v * (v / 2003 + 40692) % 2147483399 = z at q8
    have q9 : dDiv (.int (z : Int)) (.int 16) = some (.int ((z / 16 : Nat) : Int)) := dDiv_nn (b := 16) (by decide) (by decide +kernel)
    have q10 : dMod (.int ((z / 16 : Nat) : Int)) (.int (m : Int)) = some (.int ((z / 16 % m : Nat) : Int)) := dMod_nn hm
    have q0 : dAddR (.int (h.k : Int)) (.int 1) = some (.v (.int ((h.k + 1 : Nat) : Int))) := dAddR_nn (b := 1)
    have lz : z / 16 % m < m := Nat.mod_lt _ hm
    generalize z / 16 % m = y at q10 lz
    refine ⟨⟨h.cs, h.i, h.n, h.s, h.k + 1⟩, y, .sh (.int m), [t, .un, .sh (.int z)], ⟨o.cs, o.n, o.s, Nat.succ_le_succ o.k⟩, lz, ?_⟩
    have z1 : dGt (.int (h.n : Int)) (.int 0) = some (.bl false) := by rw [dGt_ii, l3]
    unfold Hd.c
    repeat' (first | with_reducible assumption | with_reducible exact r_c | with_reducible exact get_z | with_reducible exact free_un | with_reducible exact free_sh | with_reducible exact free_own | with_reducible exact slot_rv | with_reducible exact slot_rf | with_reducible exact put_own | with_reducible exact put_par | with_reducible exact cell_own | with_reducible exact cell_par | with_reducible exact frz_sh | with_reducible exact r_nil | with_reducible exact rd_v | with_reducible exact rd_f | with_reducible exact tru_bl | with_reducible exact not_t | with_reducible exact not_f | with_reducible exact cand_f | with_reducible exact cor_t | with_reducible exact candV_f | with_reducible exact corV_t | with_reducible exact flat_int | with_reducible exact flat_bl | with_reducible exact r_skip | with_reducible exact cseq_rt | with_reducible exact rt_nil | with_reducible exact r_rnil | with_reducible exact sa_nil | with_reducible exact r_ganil | with_reducible exact ls_own | with_reducible exact ls_par | with_reducible exact ls_scr | with_reducible exact le_nil | with_reducible exact ln_nil | with_reducible exact so_nil | with_reducible exact sl_own | with_reducible exact sl_par | with_reducible exact sl_scr | with_reducible exact bk_nil | with_reducible exact it_l | with_reducible exact it_t | with_reducible exact ls_z | with_reducible exact kp_un | with_reducible exact kp_sh | with_reducible exact kp_own | with_reducible exact re_z | with_reducible exact fLst_0 | with_reducible exact fLst_1 | with_reducible exact fLst_2 | with_reducible exact fLst_3 | with_reducible exact fLst_4 | with_reducible exact fLst_5 | with_reducible exact dIsNot_tt | with_reducible exact r_nopart | with_reducible exact fInt_i | with_reducible exact fLen_l | with_reducible exact fLen_t | with_reducible exact fTupOf_l | with_reducible exact fTupOf_t | with_reducible exact fLstOf_l | with_reducible exact fLstOf_t | with_reducible exact fTup_1 | with_reducible exact fTup_2 | with_reducible exact fTup_3 | with_reducible exact dAddR_nn | with_reducible exact at5_0 | with_reducible exact ix5_0 | with_reducible exact st5_0 | with_reducible exact at5_1 | with_reducible exact ix5_1 | with_reducible exact st5_1 | with_reducible exact at5_2 | with_reducible exact ix5_2 | with_reducible exact st5_2 | with_reducible exact at5_3 | with_reducible exact ix5_3 | with_reducible exact st5_3 | with_reducible exact at5_4 | with_reducible exact ix5_4 | with_reducible exact st5_4 | with_reducible exact ixt2_0 | with_reducible exact ixt2_1 | with_reducible apply get_s | with_reducible apply set_z | with_reducible apply set_s | with_reducible apply put_s | with_reducible apply cell_s | with_reducible apply r_frz | with_reducible apply frz_own | with_reducible apply r_bin | with_reducible apply r_binR | with_reducible apply r_un | with_reducible apply r_opN | with_reducible apply r_opNF | with_reducible apply r_cons | with_reducible apply r_gD | with_reducible apply r_gR | with_reducible apply r_if | with_reducible apply cif_t | with_reducible apply cif_f | with_reducible apply r_tb | with_reducible apply r_tru | with_reducible apply r_not | with_reducible apply r_notV | with_reducible apply r_and | with_reducible apply cand_t | with_reducible apply r_or | with_reducible apply cor_f | with_reducible apply r_andV | with_reducible apply candV_t | with_reducible apply r_orV | with_reducible apply corV_f | with_reducible apply r_ixC | with_reducible apply r_opC | with_reducible apply r_binC | with_reducible apply r_seq | with_reducible apply cseq_nx | with_reducible apply r_drop | with_reducible apply r_ret | with_reducible apply r_ifS | with_reducible apply r_set | with_reducible apply r_setC | with_reducible apply r_append | with_reducible apply r_popAt | with_reducible apply r_alt | with_reducible apply r_asg | with_reducible apply rt_name | with_reducible apply rt_cons | with_reducible apply rt_tup | with_reducible apply r_rcons | with_reducible apply sa_cons | with_reducible apply r_par | with_reducible apply r_gad | with_reducible apply r_gal | with_reducible apply r_slScr | with_reducible apply r_part | with_reducible apply le_d | with_reducible apply le_l | with_reducible apply ln_d | with_reducible apply so_d | with_reducible apply so_l | with_reducible apply bk_d | with_reducible apply bk_par | with_reducible apply r_call | with_reducible apply re_s | with_reducible apply r_def1 | with_reducible apply r_def2 | with_reducible apply r_def3 | with_reducible apply r_it | with_reducible apply ls_s | with_reducible apply wp_1 | with_reducible apply md_1 | with_reducible apply r_rng1 | with_reducible apply r_rng2 | with_reducible apply r_for | with_reducible apply r_lc)
  · have l3 : decide ((0 : Int) < (h.n : Int)) = true := decide_eq_true (by omega)
    have q1 : dMod (.int (h.n : Int)) (.int (m : Int)) = some (.int ((h.n % m : Nat) : Int)) := dMod_nn hm
    have q2 : dDiv (.int (h.n : Int)) (.int (m : Int)) = some (.int ((h.n / m : Nat) : Int)) := dDiv_nn hm hm2
    refine ⟨⟨h.cs, h.i, h.n / m, h.s, h.k⟩, h.n % m, .sh (.int m), [t, .sh (.int ((h.n % m : Nat) : Int)), .un], ⟨o.cs, Nat.lt_of_le_of_lt (Nat.div_le_self _ _) o.n, o.s, Nat.le_succ_of_le o.k⟩, Nat.mod_lt _ hm, ?_⟩
    simp only [gSeq_ap, gIfS_ap, gTB_ap, gBin_ap, gIxC_ap, gC_ap, cellAt_par, Hd.c, atI_2, List.getElem?_cons_succ, List.getElem?_cons_zero, dGt_ii, l3]
    simp only [gSeq_ap, gSet_ap, gR_ap, gSetC_ap, gBin_ap, gOpN_ap, gCons_ap, gNil_ap, gIxC_ap, gC_ap, cellAt_par, atI_2, List.getElem?_cons_succ, List.getElem?_cons_zero, fInt_i, gFrz_ap, q1, q2, slot_v, setS, S.free, a3, putC, S.cell, S.put, List.set_cons_zero, List.set_cons_succ, gRet_ap, List.length_cons, List.length_nil, Nat.reduceAdd, if_true]
theorem draw_eq (h : Hd) (N m : Nat) (o : h.ok N) (hm : 0 < m) (hm2 : m.log2 < 9000) : ∃ (h' : Hd) (x : Nat) (t : S), h'.ok (N + 1) ∧ x < m ∧ g_law_draw [.par h.c, .sh (.int m)] = some (.v (.int x), [.par h'.c, t]) := by
  obtain ⟨h1, t1, o1, e1, _⟩ := drawA_eq h N o (.int m)
  obtain ⟨h2, x, t2, ss, o2, l2, e2⟩ := drawB_eq h1 N m o1 hm hm2 t1
  refine ⟨h2, x, t2, o2, l2, ?_⟩
  rw [draw_split]
  exact def_rt (τ := .par h2.c :: t2 :: ss) rfl (seq_nx e1 e2)
end K07
set_option Elab.async false
set_option linter.all false
set_option maxRecDepth 100000
set_option exponentiation.threshold 20000
/-! K07b: ratios. -/
namespace K07
open PySem PySem.Spec PyProof.Rows L2 TL
theorem half_mod {p q : Nat} (h : 0 < p % q) : 2 * (q % (p % q)) < q ∨ q = 0 := by
  by_cases q0 : q = 0
  · exact .inr q0
  · left
    have h1 : p % q < q := Nat.mod_lt _ (by omega)
    have h2 : q % (p % q) < p % q := Nat.mod_lt _ h
    have h3 := Nat.div_add_mod q (p % q)
    have h4 : 1 ≤ q / (p % q) := (Nat.le_div_iff_mul_le h).mpr (by omega)
    have h5 : (p % q) * 1 ≤ (p % q) * (q / (p % q)) := Nat.mul_le_mul_left _ h4
    omega
theorem gcd_step (p q : Nat) : Nat.gcd q (p % q) = Nat.gcd p q := by
  rw [Nat.gcd_comm p q, Nat.gcd_rec q p, Nat.gcd_comm]
theorem common_loop (c : GB) (gb : GS) (hc : ∀ p q : Nat, c [.sh (.int p), .sh (.int q)] = some (!decide (q = 0), [.sh (.int p), .sh (.int q)]))
    (hb : ∀ p q : Nat, 0 < q → gb [.sh (.int p), .sh (.int q)] = some (.nx [.sh (.int q), .sh (.int ((p % q : Nat) : Int))])) :
    ∀ (k n p q : Nat), q < 2 ^ k → 2 * k + 1 ≤ n → whLoop c gb n [.sh (.int p), .sh (.int q)] = some (.nx [.sh (.int (Nat.gcd p q)), .sh (.int ((0 : Nat) : Int))]) := by
  intro k
  induction k with
  | zero =>
    intro n p q h1 h2
    obtain ⟨n, rfl⟩ : ∃ m, n = m + 1 := ⟨n - 1, by omega⟩
    have : q = 0 := by omega
    subst this
    rw [whLoop_succ, hc]
    simp
  | succ k ih =>
    intro n p q h1 h2
    obtain ⟨n, rfl⟩ : ∃ m, n = m + 1 + 1 := ⟨n - 2, by omega⟩
    rw [whLoop_succ, hc]
    by_cases q0 : q = 0
    · subst q0
      simp
    · simp only [decide_eq_false q0, Bool.not_false, hb p q (by omega)]
      rw [whLoop_succ, hc]
      by_cases r0 : p % q = 0
      · simp only [r0, decide_true, Bool.not_true]
        rw [← gcd_step p q, r0, Nat.gcd_zero_right]
      · simp only [decide_eq_false r0, Bool.not_false, hb q (p % q) (by omega)]
        rw [ih n (p % q) (q % (p % q)) (by
          have := half_mod (p := p) (q := q) (by omega)
          rw [Nat.pow_succ] at h1
          omega) (by omega), gcd_step, gcd_step]
theorem common_eq (p q : Nat) (h : q < 2 ^ 9900) : ∃ t u, g_common [.sh (.int p), .sh (.int q)] = some (.v (.int (Nat.gcd p q)), [t, u]) := by
  refine ⟨_, _, def_rt rfl (seq_nx (common_loop _ _ (fun p q => ?_) (fun p q hq => ?_) 9900 20000 p q h (by decide)) (ret_of (τ1 := [_, _]) rfl))⟩
  · have : decide ((q : Int) = 0) = decide (q = 0) := by simp
    simp [this]
  · simp [dMod_nn hq, setS, S.free]
theorem law_loop (gt : GT) (gb : GS) (hg : ∀ (d : D) (p q : Nat) (t : S), t.free = true → gt d [.sh (.int p), .sh (.int q), t] = some [.sh (.int p), .sh (.int q), .sh d])
    (h0 : ∀ (p : Nat) (d : D), gb [.sh (.int p), .sh (.int (0 : Nat)), .sh d] = some (.rt (.v (.int p)) [.sh (.int p), .sh (.int (0 : Nat)), .sh d]))
    (hb : ∀ (p q : Nat) (d : D), 0 < q → gb [.sh (.int p), .sh (.int q), .sh d] = some (.nx [.sh (.int q), .sh (.int ((p % q : Nat) : Int)), .sh d])) :
    ∀ (k : Nat) (ds : List D) (p q : Nat) (t : S), t.free = true → q < 2 ^ k → 2 * k + 1 ≤ ds.length → ∃ a b c, forLoop gt gb ds [.sh (.int p), .sh (.int q), t] = some (.rt (.v (.int (Nat.gcd p q))) [a, b, c]) := by
  intro k
  induction k with
  | zero =>
    intro ds p q t ht h1 h2
    cases ds with
    | nil => simp at h2
    | cons d ds =>
      have : q = 0 := by omega
      subst this
      rw [forLoop_cons, hg d p 0 t ht]
      simp only [h0]
      rw [Nat.gcd_zero_right]
      exact ⟨_, _, _, rfl⟩
  | succ k ih =>
    intro ds p q t ht h1 h2
    cases ds with
    | nil => simp at h2
    | cons d ds =>
    cases ds with
    | nil =>
      simp only [List.length_cons, List.length_nil] at h2
      omega
    | cons d2 ds =>
      rw [forLoop_cons, hg d p q t ht]
      by_cases q0 : q = 0
      · subst q0
        simp only [h0]
        rw [Nat.gcd_zero_right]
        exact ⟨_, _, _, rfl⟩
      · simp only [hb p q d (by omega)]
        rw [forLoop_cons, hg d2 q (p % q) _ rfl]
        by_cases r0 : p % q = 0
        · simp only [r0, h0]
          rw [← gcd_step p q, r0, Nat.gcd_zero_right]
          exact ⟨_, _, _, rfl⟩
        · simp only [hb q (p % q) d2 (by omega)]
          obtain ⟨a, b, c, e⟩ := ih ds (p % q) (q % (p % q)) (.sh d2) rfl (by
            have := half_mod (p := p) (q := q) (by omega)
            rw [Nat.pow_succ] at h1
            omega) (by simp at h2; omega)
          rw [e, gcd_step, gcd_step]
          exact ⟨_, _, _, rfl⟩
theorem rngD_len (lo hi : Int) : (rngD lo hi).length = (hi - lo).toNat := by
  unfold rngD
  rw [List.length_map, List.length_range]
theorem eq_nat (a b : Nat) : dEq (.int (a : Int)) (.int (b : Int)) = some (.bl (decide (a = b))) := by
  rw [dEq_ii]
  exact congrArg (fun b => some (D.bl b)) (decide_eq_decide.mpr Int.ofNat_inj)
theorem eq_t {a b : Int} (h : a = b) : dEq (.int a) (.int b) = some (.bl true) := by rw [dEq_ii, decide_eq_true h]
theorem eq_f {a b : Int} (h : a ≠ b) : dEq (.int a) (.int b) = some (.bl false) := by rw [dEq_ii, decide_eq_false h]
theorem law_common_eq (p q : Nat) (h : q < 2 ^ 1900) : ∃ t u, g_law_common [.sh (.int p), .sh (.int q)] = some (.v (.int (Nat.gcd p q)), [t, u]) := by
  unfold g_law_common
  obtain ⟨a, b, c, e⟩ := law_loop (gtName 2) (gSeq (gIfS (gTB (gBin dEq (gFrz 1) (gC (.int 0)))) (gRet (gR (gFrz 0))) gSkip)
    (gPar [0, 1] (gRCons (gR (gFrz 1)) (gRCons (gR (gBin dMod (gOpN fInt (gCons (gFrz 0) gNil)) (gFrz 1))) gRNil)))) (fun d p q t ht => by repeat' (first | with_reducible assumption | with_reducible exact r_c | with_reducible exact get_z | with_reducible exact free_un | with_reducible exact free_sh | with_reducible exact free_own | with_reducible exact slot_rv | with_reducible exact slot_rf | with_reducible exact put_own | with_reducible exact put_par | with_reducible exact cell_own | with_reducible exact cell_par | with_reducible exact frz_sh | with_reducible exact r_nil | with_reducible exact rd_v | with_reducible exact rd_f | with_reducible exact tru_bl | with_reducible exact not_t | with_reducible exact not_f | with_reducible exact cand_f | with_reducible exact cor_t | with_reducible exact candV_f | with_reducible exact corV_t | with_reducible exact flat_int | with_reducible exact flat_bl | with_reducible exact r_skip | with_reducible exact cseq_rt | with_reducible exact rt_nil | with_reducible exact r_rnil | with_reducible exact sa_nil | with_reducible exact r_ganil | with_reducible exact ls_own | with_reducible exact ls_par | with_reducible exact ls_scr | with_reducible exact le_nil | with_reducible exact ln_nil | with_reducible exact so_nil | with_reducible exact sl_own | with_reducible exact sl_par | with_reducible exact sl_scr | with_reducible exact bk_nil | with_reducible exact it_l | with_reducible exact it_t | with_reducible exact ls_z | with_reducible exact kp_un | with_reducible exact kp_sh | with_reducible exact kp_own | with_reducible exact re_z | with_reducible exact fLst_0 | with_reducible exact fLst_1 | with_reducible exact fLst_2 | with_reducible exact fLst_3 | with_reducible exact fLst_4 | with_reducible exact fLst_5 | with_reducible exact dIsNot_tt | with_reducible exact r_nopart | with_reducible exact fInt_i | with_reducible exact fLen_l | with_reducible exact fLen_t | with_reducible exact fTupOf_l | with_reducible exact fTupOf_t | with_reducible exact fLstOf_l | with_reducible exact fLstOf_t | with_reducible exact fTup_1 | with_reducible exact fTup_2 | with_reducible exact fTup_3 | with_reducible exact dAddR_nn | with_reducible exact at5_0 | with_reducible exact ix5_0 | with_reducible exact st5_0 | with_reducible exact at5_1 | with_reducible exact ix5_1 | with_reducible exact st5_1 | with_reducible exact at5_2 | with_reducible exact ix5_2 | with_reducible exact st5_2 | with_reducible exact at5_3 | with_reducible exact ix5_3 | with_reducible exact st5_3 | with_reducible exact at5_4 | with_reducible exact ix5_4 | with_reducible exact st5_4 | with_reducible exact ixt2_0 | with_reducible exact ixt2_1 | with_reducible apply get_s | with_reducible apply set_z | with_reducible apply set_s | with_reducible apply put_s | with_reducible apply cell_s | with_reducible apply r_frz | with_reducible apply frz_own | with_reducible apply r_bin | with_reducible apply r_binR | with_reducible apply r_un | with_reducible apply r_opN | with_reducible apply r_opNF | with_reducible apply r_cons | with_reducible apply r_gD | with_reducible apply r_gR | with_reducible apply r_if | with_reducible apply cif_t | with_reducible apply cif_f | with_reducible apply r_tb | with_reducible apply r_tru | with_reducible apply r_not | with_reducible apply r_notV | with_reducible apply r_and | with_reducible apply cand_t | with_reducible apply r_or | with_reducible apply cor_f | with_reducible apply r_andV | with_reducible apply candV_t | with_reducible apply r_orV | with_reducible apply corV_f | with_reducible apply r_ixC | with_reducible apply r_opC | with_reducible apply r_binC | with_reducible apply r_seq | with_reducible apply cseq_nx | with_reducible apply r_drop | with_reducible apply r_ret | with_reducible apply r_ifS | with_reducible apply r_set | with_reducible apply r_setC | with_reducible apply r_append | with_reducible apply r_popAt | with_reducible apply r_alt | with_reducible apply r_asg | with_reducible apply rt_name | with_reducible apply rt_cons | with_reducible apply rt_tup | with_reducible apply r_rcons | with_reducible apply sa_cons | with_reducible apply r_par | with_reducible apply r_gad | with_reducible apply r_gal | with_reducible apply r_slScr | with_reducible apply r_part | with_reducible apply le_d | with_reducible apply le_l | with_reducible apply ln_d | with_reducible apply so_d | with_reducible apply so_l | with_reducible apply bk_d | with_reducible apply bk_par | with_reducible apply r_call | with_reducible apply re_s | with_reducible apply r_def1 | with_reducible apply r_def2 | with_reducible apply r_def3 | with_reducible apply r_it | with_reducible apply ls_s | with_reducible apply wp_1 | with_reducible apply md_1 | with_reducible apply r_rng1 | with_reducible apply r_rng2 | with_reducible apply r_for | with_reducible apply r_lc)) (fun p d => by
      have z : dEq (.int ((0 : Nat) : Int)) (.int 0) = some (.bl true) := rfl
      repeat' (first | with_reducible assumption | with_reducible exact r_c | with_reducible exact get_z | with_reducible exact free_un | with_reducible exact free_sh | with_reducible exact free_own | with_reducible exact slot_rv | with_reducible exact slot_rf | with_reducible exact put_own | with_reducible exact put_par | with_reducible exact cell_own | with_reducible exact cell_par | with_reducible exact frz_sh | with_reducible exact r_nil | with_reducible exact rd_v | with_reducible exact rd_f | with_reducible exact tru_bl | with_reducible exact not_t | with_reducible exact not_f | with_reducible exact cand_f | with_reducible exact cor_t | with_reducible exact candV_f | with_reducible exact corV_t | with_reducible exact flat_int | with_reducible exact flat_bl | with_reducible exact r_skip | with_reducible exact cseq_rt | with_reducible exact rt_nil | with_reducible exact r_rnil | with_reducible exact sa_nil | with_reducible exact r_ganil | with_reducible exact ls_own | with_reducible exact ls_par | with_reducible exact ls_scr | with_reducible exact le_nil | with_reducible exact ln_nil | with_reducible exact so_nil | with_reducible exact sl_own | with_reducible exact sl_par | with_reducible exact sl_scr | with_reducible exact bk_nil | with_reducible exact it_l | with_reducible exact it_t | with_reducible exact ls_z | with_reducible exact kp_un | with_reducible exact kp_sh | with_reducible exact kp_own | with_reducible exact re_z | with_reducible exact fLst_0 | with_reducible exact fLst_1 | with_reducible exact fLst_2 | with_reducible exact fLst_3 | with_reducible exact fLst_4 | with_reducible exact fLst_5 | with_reducible exact dIsNot_tt | with_reducible exact r_nopart | with_reducible exact fInt_i | with_reducible exact fLen_l | with_reducible exact fLen_t | with_reducible exact fTupOf_l | with_reducible exact fTupOf_t | with_reducible exact fLstOf_l | with_reducible exact fLstOf_t | with_reducible exact fTup_1 | with_reducible exact fTup_2 | with_reducible exact fTup_3 | with_reducible exact dAddR_nn | with_reducible exact at5_0 | with_reducible exact ix5_0 | with_reducible exact st5_0 | with_reducible exact at5_1 | with_reducible exact ix5_1 | with_reducible exact st5_1 | with_reducible exact at5_2 | with_reducible exact ix5_2 | with_reducible exact st5_2 | with_reducible exact at5_3 | with_reducible exact ix5_3 | with_reducible exact st5_3 | with_reducible exact at5_4 | with_reducible exact ix5_4 | with_reducible exact st5_4 | with_reducible exact ixt2_0 | with_reducible exact ixt2_1 | with_reducible apply get_s | with_reducible apply set_z | with_reducible apply set_s | with_reducible apply put_s | with_reducible apply cell_s | with_reducible apply r_frz | with_reducible apply frz_own | with_reducible apply r_bin | with_reducible apply r_binR | with_reducible apply r_un | with_reducible apply r_opN | with_reducible apply r_opNF | with_reducible apply r_cons | with_reducible apply r_gD | with_reducible apply r_gR | with_reducible apply r_if | with_reducible apply cif_t | with_reducible apply cif_f | with_reducible apply r_tb | with_reducible apply r_tru | with_reducible apply r_not | with_reducible apply r_notV | with_reducible apply r_and | with_reducible apply cand_t | with_reducible apply r_or | with_reducible apply cor_f | with_reducible apply r_andV | with_reducible apply candV_t | with_reducible apply r_orV | with_reducible apply corV_f | with_reducible apply r_ixC | with_reducible apply r_opC | with_reducible apply r_binC | with_reducible apply r_seq | with_reducible apply cseq_nx | with_reducible apply r_drop | with_reducible apply r_ret | with_reducible apply r_ifS | with_reducible apply r_set | with_reducible apply r_setC | with_reducible apply r_append | with_reducible apply r_popAt | with_reducible apply r_alt | with_reducible apply r_asg | with_reducible apply rt_name | with_reducible apply rt_cons | with_reducible apply rt_tup | with_reducible apply r_rcons | with_reducible apply sa_cons | with_reducible apply r_par | with_reducible apply r_gad | with_reducible apply r_gal | with_reducible apply r_slScr | with_reducible apply r_part | with_reducible apply le_d | with_reducible apply le_l | with_reducible apply ln_d | with_reducible apply so_d | with_reducible apply so_l | with_reducible apply bk_d | with_reducible apply bk_par | with_reducible apply r_call | with_reducible apply re_s | with_reducible apply r_def1 | with_reducible apply r_def2 | with_reducible apply r_def3 | with_reducible apply r_it | with_reducible apply ls_s | with_reducible apply wp_1 | with_reducible apply md_1 | with_reducible apply r_rng1 | with_reducible apply r_rng2 | with_reducible apply r_for | with_reducible apply r_lc)) (fun p q d hq => by
      have z : dEq (.int (q : Int)) (.int 0) = some (.bl false) := eq_f (by omega)
      have m := dMod_nn (a := p) hq
      repeat' (first | with_reducible assumption | with_reducible exact r_c | with_reducible exact get_z | with_reducible exact free_un | with_reducible exact free_sh | with_reducible exact free_own | with_reducible exact slot_rv | with_reducible exact slot_rf | with_reducible exact put_own | with_reducible exact put_par | with_reducible exact cell_own | with_reducible exact cell_par | with_reducible exact frz_sh | with_reducible exact r_nil | with_reducible exact rd_v | with_reducible exact rd_f | with_reducible exact tru_bl | with_reducible exact not_t | with_reducible exact not_f | with_reducible exact cand_f | with_reducible exact cor_t | with_reducible exact candV_f | with_reducible exact corV_t | with_reducible exact flat_int | with_reducible exact flat_bl | with_reducible exact r_skip | with_reducible exact cseq_rt | with_reducible exact rt_nil | with_reducible exact r_rnil | with_reducible exact sa_nil | with_reducible exact r_ganil | with_reducible exact ls_own | with_reducible exact ls_par | with_reducible exact ls_scr | with_reducible exact le_nil | with_reducible exact ln_nil | with_reducible exact so_nil | with_reducible exact sl_own | with_reducible exact sl_par | with_reducible exact sl_scr | with_reducible exact bk_nil | with_reducible exact it_l | with_reducible exact it_t | with_reducible exact ls_z | with_reducible exact kp_un | with_reducible exact kp_sh | with_reducible exact kp_own | with_reducible exact re_z | with_reducible exact fLst_0 | with_reducible exact fLst_1 | with_reducible exact fLst_2 | with_reducible exact fLst_3 | with_reducible exact fLst_4 | with_reducible exact fLst_5 | with_reducible exact dIsNot_tt | with_reducible exact r_nopart | with_reducible exact fInt_i | with_reducible exact fLen_l | with_reducible exact fLen_t | with_reducible exact fTupOf_l | with_reducible exact fTupOf_t | with_reducible exact fLstOf_l | with_reducible exact fLstOf_t | with_reducible exact fTup_1 | with_reducible exact fTup_2 | with_reducible exact fTup_3 | with_reducible exact dAddR_nn | with_reducible exact at5_0 | with_reducible exact ix5_0 | with_reducible exact st5_0 | with_reducible exact at5_1 | with_reducible exact ix5_1 | with_reducible exact st5_1 | with_reducible exact at5_2 | with_reducible exact ix5_2 | with_reducible exact st5_2 | with_reducible exact at5_3 | with_reducible exact ix5_3 | with_reducible exact st5_3 | with_reducible exact at5_4 | with_reducible exact ix5_4 | with_reducible exact st5_4 | with_reducible exact ixt2_0 | with_reducible exact ixt2_1 | with_reducible apply get_s | with_reducible apply set_z | with_reducible apply set_s | with_reducible apply put_s | with_reducible apply cell_s | with_reducible apply r_frz | with_reducible apply frz_own | with_reducible apply r_bin | with_reducible apply r_binR | with_reducible apply r_un | with_reducible apply r_opN | with_reducible apply r_opNF | with_reducible apply r_cons | with_reducible apply r_gD | with_reducible apply r_gR | with_reducible apply r_if | with_reducible apply cif_t | with_reducible apply cif_f | with_reducible apply r_tb | with_reducible apply r_tru | with_reducible apply r_not | with_reducible apply r_notV | with_reducible apply r_and | with_reducible apply cand_t | with_reducible apply r_or | with_reducible apply cor_f | with_reducible apply r_andV | with_reducible apply candV_t | with_reducible apply r_orV | with_reducible apply corV_f | with_reducible apply r_ixC | with_reducible apply r_opC | with_reducible apply r_binC | with_reducible apply r_seq | with_reducible apply cseq_nx | with_reducible apply r_drop | with_reducible apply r_ret | with_reducible apply r_ifS | with_reducible apply r_set | with_reducible apply r_setC | with_reducible apply r_append | with_reducible apply r_popAt | with_reducible apply r_alt | with_reducible apply r_asg | with_reducible apply rt_name | with_reducible apply rt_cons | with_reducible apply rt_tup | with_reducible apply r_rcons | with_reducible apply sa_cons | with_reducible apply r_par | with_reducible apply r_gad | with_reducible apply r_gal | with_reducible apply r_slScr | with_reducible apply r_part | with_reducible apply le_d | with_reducible apply le_l | with_reducible apply ln_d | with_reducible apply so_d | with_reducible apply so_l | with_reducible apply bk_d | with_reducible apply bk_par | with_reducible apply r_call | with_reducible apply re_s | with_reducible apply r_def1 | with_reducible apply r_def2 | with_reducible apply r_def3 | with_reducible apply r_it | with_reducible apply ls_s | with_reducible apply wp_1 | with_reducible apply md_1 | with_reducible apply r_rng1 | with_reducible apply r_rng2 | with_reducible apply r_for | with_reducible apply r_lc)) 1900 (rngD 0 4000) p q .un rfl h (by rw [rngD_len]; decide)
  have w : -(2 ^ 62) ≤ (4000 : Int) ∧ (4000 : Int) < 2 ^ 62 := by decide
  apply Exists.intro
  apply Exists.intro
  repeat' (first | with_reducible assumption | with_reducible exact r_c | with_reducible exact get_z | with_reducible exact free_un | with_reducible exact free_sh | with_reducible exact free_own | with_reducible exact slot_rv | with_reducible exact slot_rf | with_reducible exact put_own | with_reducible exact put_par | with_reducible exact cell_own | with_reducible exact cell_par | with_reducible exact frz_sh | with_reducible exact r_nil | with_reducible exact rd_v | with_reducible exact rd_f | with_reducible exact tru_bl | with_reducible exact not_t | with_reducible exact not_f | with_reducible exact cand_f | with_reducible exact cor_t | with_reducible exact candV_f | with_reducible exact corV_t | with_reducible exact flat_int | with_reducible exact flat_bl | with_reducible exact r_skip | with_reducible exact cseq_rt | with_reducible exact rt_nil | with_reducible exact r_rnil | with_reducible exact sa_nil | with_reducible exact r_ganil | with_reducible exact ls_own | with_reducible exact ls_par | with_reducible exact ls_scr | with_reducible exact le_nil | with_reducible exact ln_nil | with_reducible exact so_nil | with_reducible exact sl_own | with_reducible exact sl_par | with_reducible exact sl_scr | with_reducible exact bk_nil | with_reducible exact it_l | with_reducible exact it_t | with_reducible exact ls_z | with_reducible exact kp_un | with_reducible exact kp_sh | with_reducible exact kp_own | with_reducible exact re_z | with_reducible exact fLst_0 | with_reducible exact fLst_1 | with_reducible exact fLst_2 | with_reducible exact fLst_3 | with_reducible exact fLst_4 | with_reducible exact fLst_5 | with_reducible exact dIsNot_tt | with_reducible exact r_nopart | with_reducible exact fInt_i | with_reducible exact fLen_l | with_reducible exact fLen_t | with_reducible exact fTupOf_l | with_reducible exact fTupOf_t | with_reducible exact fLstOf_l | with_reducible exact fLstOf_t | with_reducible exact fTup_1 | with_reducible exact fTup_2 | with_reducible exact fTup_3 | with_reducible exact dAddR_nn | with_reducible exact at5_0 | with_reducible exact ix5_0 | with_reducible exact st5_0 | with_reducible exact at5_1 | with_reducible exact ix5_1 | with_reducible exact st5_1 | with_reducible exact at5_2 | with_reducible exact ix5_2 | with_reducible exact st5_2 | with_reducible exact at5_3 | with_reducible exact ix5_3 | with_reducible exact st5_3 | with_reducible exact at5_4 | with_reducible exact ix5_4 | with_reducible exact st5_4 | with_reducible exact ixt2_0 | with_reducible exact ixt2_1 | with_reducible apply get_s | with_reducible apply set_z | with_reducible apply set_s | with_reducible apply put_s | with_reducible apply cell_s | with_reducible apply r_frz | with_reducible apply frz_own | with_reducible apply r_bin | with_reducible apply r_binR | with_reducible apply r_un | with_reducible apply r_opN | with_reducible apply r_opNF | with_reducible apply r_cons | with_reducible apply r_gD | with_reducible apply r_gR | with_reducible apply r_if | with_reducible apply cif_t | with_reducible apply cif_f | with_reducible apply r_tb | with_reducible apply r_tru | with_reducible apply r_not | with_reducible apply r_notV | with_reducible apply r_and | with_reducible apply cand_t | with_reducible apply r_or | with_reducible apply cor_f | with_reducible apply r_andV | with_reducible apply candV_t | with_reducible apply r_orV | with_reducible apply corV_f | with_reducible apply r_ixC | with_reducible apply r_opC | with_reducible apply r_binC | with_reducible apply r_seq | with_reducible apply cseq_nx | with_reducible apply r_drop | with_reducible apply r_ret | with_reducible apply r_ifS | with_reducible apply r_set | with_reducible apply r_setC | with_reducible apply r_append | with_reducible apply r_popAt | with_reducible apply r_alt | with_reducible apply r_asg | with_reducible apply rt_name | with_reducible apply rt_cons | with_reducible apply rt_tup | with_reducible apply r_rcons | with_reducible apply sa_cons | with_reducible apply r_par | with_reducible apply r_gad | with_reducible apply r_gal | with_reducible apply r_slScr | with_reducible apply r_part | with_reducible apply le_d | with_reducible apply le_l | with_reducible apply ln_d | with_reducible apply so_d | with_reducible apply so_l | with_reducible apply bk_d | with_reducible apply bk_par | with_reducible apply r_call | with_reducible apply re_s | with_reducible apply r_def1 | with_reducible apply r_def2 | with_reducible apply r_def3 | with_reducible apply r_it | with_reducible apply ls_s | with_reducible apply wp_1 | with_reducible apply md_1 | with_reducible apply r_rng1 | with_reducible apply r_rng2 | with_reducible apply r_for | with_reducible apply r_lc)
def low (p q : Nat) : Nat × Nat := (p / Nat.gcd p q, q / Nat.gcd p q)
@[reducible] def fr (x : Nat × Nat) : D := .tup [.int x.1, .int x.2]
theorem ratio_eq (p q : Nat) (h : q < 2 ^ 8990) (hq : 0 < q) : ∃ t u, g_ratio [.sh (.int p), .sh (.int q)] = some (.v (fr (low p q)), [t, u]) := by
  obtain ⟨t, u, e⟩ := common_eq p q (Nat.lt_of_lt_of_le h (Nat.pow_le_pow_right (by decide) (by decide)))
  have g0 : 0 < Nat.gcd p q := Nat.gcd_pos_of_pos_right _ hq
  have g1 : (Nat.gcd p q).log2 < 9000 := log2_lt (Nat.lt_of_le_of_lt (Nat.gcd_le_right p hq) (Nat.lt_of_lt_of_le h (Nat.pow_le_pow_right (by decide) (by decide)))) (by decide)
  have d1 := dDiv_nn (a := p) g0 g1
  have d2 := dDiv_nn (a := q) g0 g1
  unfold g_ratio fr low
  apply Exists.intro
  apply Exists.intro
  repeat' (first | with_reducible assumption | with_reducible exact r_c | with_reducible exact get_z | with_reducible exact free_un | with_reducible exact free_sh | with_reducible exact free_own | with_reducible exact slot_rv | with_reducible exact slot_rf | with_reducible exact put_own | with_reducible exact put_par | with_reducible exact cell_own | with_reducible exact cell_par | with_reducible exact frz_sh | with_reducible exact r_nil | with_reducible exact rd_v | with_reducible exact rd_f | with_reducible exact tru_bl | with_reducible exact not_t | with_reducible exact not_f | with_reducible exact cand_f | with_reducible exact cor_t | with_reducible exact candV_f | with_reducible exact corV_t | with_reducible exact flat_int | with_reducible exact flat_bl | with_reducible exact r_skip | with_reducible exact cseq_rt | with_reducible exact rt_nil | with_reducible exact r_rnil | with_reducible exact sa_nil | with_reducible exact r_ganil | with_reducible exact ls_own | with_reducible exact ls_par | with_reducible exact ls_scr | with_reducible exact le_nil | with_reducible exact ln_nil | with_reducible exact so_nil | with_reducible exact sl_own | with_reducible exact sl_par | with_reducible exact sl_scr | with_reducible exact bk_nil | with_reducible exact it_l | with_reducible exact it_t | with_reducible exact ls_z | with_reducible exact kp_un | with_reducible exact kp_sh | with_reducible exact kp_own | with_reducible exact re_z | with_reducible exact fLst_0 | with_reducible exact fLst_1 | with_reducible exact fLst_2 | with_reducible exact fLst_3 | with_reducible exact fLst_4 | with_reducible exact fLst_5 | with_reducible exact dIsNot_tt | with_reducible exact r_nopart | with_reducible exact fInt_i | with_reducible exact fLen_l | with_reducible exact fLen_t | with_reducible exact fTupOf_l | with_reducible exact fTupOf_t | with_reducible exact fLstOf_l | with_reducible exact fLstOf_t | with_reducible exact fTup_1 | with_reducible exact fTup_2 | with_reducible exact fTup_3 | with_reducible exact dAddR_nn | with_reducible exact at5_0 | with_reducible exact ix5_0 | with_reducible exact st5_0 | with_reducible exact at5_1 | with_reducible exact ix5_1 | with_reducible exact st5_1 | with_reducible exact at5_2 | with_reducible exact ix5_2 | with_reducible exact st5_2 | with_reducible exact at5_3 | with_reducible exact ix5_3 | with_reducible exact st5_3 | with_reducible exact at5_4 | with_reducible exact ix5_4 | with_reducible exact st5_4 | with_reducible exact ixt2_0 | with_reducible exact ixt2_1 | with_reducible apply get_s | with_reducible apply set_z | with_reducible apply set_s | with_reducible apply put_s | with_reducible apply cell_s | with_reducible apply r_frz | with_reducible apply frz_own | with_reducible apply r_bin | with_reducible apply r_binR | with_reducible apply r_un | with_reducible apply r_opN | with_reducible apply r_opNF | with_reducible apply r_cons | with_reducible apply r_gD | with_reducible apply r_gR | with_reducible apply r_if | with_reducible apply cif_t | with_reducible apply cif_f | with_reducible apply r_tb | with_reducible apply r_tru | with_reducible apply r_not | with_reducible apply r_notV | with_reducible apply r_and | with_reducible apply cand_t | with_reducible apply r_or | with_reducible apply cor_f | with_reducible apply r_andV | with_reducible apply candV_t | with_reducible apply r_orV | with_reducible apply corV_f | with_reducible apply r_ixC | with_reducible apply r_opC | with_reducible apply r_binC | with_reducible apply r_seq | with_reducible apply cseq_nx | with_reducible apply r_drop | with_reducible apply r_ret | with_reducible apply r_ifS | with_reducible apply r_set | with_reducible apply r_setC | with_reducible apply r_append | with_reducible apply r_popAt | with_reducible apply r_alt | with_reducible apply r_asg | with_reducible apply rt_name | with_reducible apply rt_cons | with_reducible apply rt_tup | with_reducible apply r_rcons | with_reducible apply sa_cons | with_reducible apply r_par | with_reducible apply r_gad | with_reducible apply r_gal | with_reducible apply r_slScr | with_reducible apply r_part | with_reducible apply le_d | with_reducible apply le_l | with_reducible apply ln_d | with_reducible apply so_d | with_reducible apply so_l | with_reducible apply bk_d | with_reducible apply bk_par | with_reducible apply r_call | with_reducible apply re_s | with_reducible apply r_def1 | with_reducible apply r_def2 | with_reducible apply r_def3 | with_reducible apply r_it | with_reducible apply ls_s | with_reducible apply wp_1 | with_reducible apply md_1 | with_reducible apply r_rng1 | with_reducible apply r_rng2 | with_reducible apply r_for | with_reducible apply r_lc)
theorem law_low_eq (p q : Nat) (h : q < 2 ^ 1900) (hq : 0 < q) : ∃ t u, g_law_low [.sh (.int p), .sh (.int q)] = some (.v (fr (low p q)), [t, u]) := by
  obtain ⟨t, u, e⟩ := law_common_eq p q h
  have g0 : 0 < Nat.gcd p q := Nat.gcd_pos_of_pos_right _ hq
  have g1 : (Nat.gcd p q).log2 < 9000 := log2_lt (Nat.lt_of_le_of_lt (Nat.gcd_le_right p hq) (Nat.lt_of_lt_of_le h (Nat.pow_le_pow_right (by decide) (by decide)))) (by decide)
  have d1 := dDiv_nn (a := p) g0 g1
  have d2 := dDiv_nn (a := q) g0 g1
  unfold g_law_low fr low
  apply Exists.intro
  apply Exists.intro
  repeat' (first | with_reducible assumption | with_reducible exact r_c | with_reducible exact get_z | with_reducible exact free_un | with_reducible exact free_sh | with_reducible exact free_own | with_reducible exact slot_rv | with_reducible exact slot_rf | with_reducible exact put_own | with_reducible exact put_par | with_reducible exact cell_own | with_reducible exact cell_par | with_reducible exact frz_sh | with_reducible exact r_nil | with_reducible exact rd_v | with_reducible exact rd_f | with_reducible exact tru_bl | with_reducible exact not_t | with_reducible exact not_f | with_reducible exact cand_f | with_reducible exact cor_t | with_reducible exact candV_f | with_reducible exact corV_t | with_reducible exact flat_int | with_reducible exact flat_bl | with_reducible exact r_skip | with_reducible exact cseq_rt | with_reducible exact rt_nil | with_reducible exact r_rnil | with_reducible exact sa_nil | with_reducible exact r_ganil | with_reducible exact ls_own | with_reducible exact ls_par | with_reducible exact ls_scr | with_reducible exact le_nil | with_reducible exact ln_nil | with_reducible exact so_nil | with_reducible exact sl_own | with_reducible exact sl_par | with_reducible exact sl_scr | with_reducible exact bk_nil | with_reducible exact it_l | with_reducible exact it_t | with_reducible exact ls_z | with_reducible exact kp_un | with_reducible exact kp_sh | with_reducible exact kp_own | with_reducible exact re_z | with_reducible exact fLst_0 | with_reducible exact fLst_1 | with_reducible exact fLst_2 | with_reducible exact fLst_3 | with_reducible exact fLst_4 | with_reducible exact fLst_5 | with_reducible exact dIsNot_tt | with_reducible exact r_nopart | with_reducible exact fInt_i | with_reducible exact fLen_l | with_reducible exact fLen_t | with_reducible exact fTupOf_l | with_reducible exact fTupOf_t | with_reducible exact fLstOf_l | with_reducible exact fLstOf_t | with_reducible exact fTup_1 | with_reducible exact fTup_2 | with_reducible exact fTup_3 | with_reducible exact dAddR_nn | with_reducible exact at5_0 | with_reducible exact ix5_0 | with_reducible exact st5_0 | with_reducible exact at5_1 | with_reducible exact ix5_1 | with_reducible exact st5_1 | with_reducible exact at5_2 | with_reducible exact ix5_2 | with_reducible exact st5_2 | with_reducible exact at5_3 | with_reducible exact ix5_3 | with_reducible exact st5_3 | with_reducible exact at5_4 | with_reducible exact ix5_4 | with_reducible exact st5_4 | with_reducible exact ixt2_0 | with_reducible exact ixt2_1 | with_reducible apply get_s | with_reducible apply set_z | with_reducible apply set_s | with_reducible apply put_s | with_reducible apply cell_s | with_reducible apply r_frz | with_reducible apply frz_own | with_reducible apply r_bin | with_reducible apply r_binR | with_reducible apply r_un | with_reducible apply r_opN | with_reducible apply r_opNF | with_reducible apply r_cons | with_reducible apply r_gD | with_reducible apply r_gR | with_reducible apply r_if | with_reducible apply cif_t | with_reducible apply cif_f | with_reducible apply r_tb | with_reducible apply r_tru | with_reducible apply r_not | with_reducible apply r_notV | with_reducible apply r_and | with_reducible apply cand_t | with_reducible apply r_or | with_reducible apply cor_f | with_reducible apply r_andV | with_reducible apply candV_t | with_reducible apply r_orV | with_reducible apply corV_f | with_reducible apply r_ixC | with_reducible apply r_opC | with_reducible apply r_binC | with_reducible apply r_seq | with_reducible apply cseq_nx | with_reducible apply r_drop | with_reducible apply r_ret | with_reducible apply r_ifS | with_reducible apply r_set | with_reducible apply r_setC | with_reducible apply r_append | with_reducible apply r_popAt | with_reducible apply r_alt | with_reducible apply r_asg | with_reducible apply rt_name | with_reducible apply rt_cons | with_reducible apply rt_tup | with_reducible apply r_rcons | with_reducible apply sa_cons | with_reducible apply r_par | with_reducible apply r_gad | with_reducible apply r_gal | with_reducible apply r_slScr | with_reducible apply r_part | with_reducible apply le_d | with_reducible apply le_l | with_reducible apply ln_d | with_reducible apply so_d | with_reducible apply so_l | with_reducible apply bk_d | with_reducible apply bk_par | with_reducible apply r_call | with_reducible apply re_s | with_reducible apply r_def1 | with_reducible apply r_def2 | with_reducible apply r_def3 | with_reducible apply r_it | with_reducible apply ls_s | with_reducible apply wp_1 | with_reducible apply md_1 | with_reducible apply r_rng1 | with_reducible apply r_rng2 | with_reducible apply r_for | with_reducible apply r_lc)
def plusN (x y : Nat × Nat) : Nat × Nat := low (x.1 * y.2 + y.1 * x.2) (x.2 * y.2)
/-- a product that is not too great for the reckoning -/
def Sm (a b : Nat) : Prop := a < 2 ^ 64 ∨ b < 2 ^ 64 ∨ a.log2 + b.log2 < 1000000
theorem Sm.of {a b : Nat} (h1 : a < 2 ^ 400000) (h2 : b < 2 ^ 400000) : Sm a b := by
  have := log2_lt h1 (by decide)
  have := log2_lt h2 (by decide)
  exact .inr (.inr (by omega))
theorem plus_eq (x y : Nat × Nat) (h1 : Sm x.1 y.2) (h2 : Sm y.1 x.2) (h3 : Sm x.2 y.2) (h : x.2 * y.2 < 2 ^ 8990) (hx : 0 < x.2) (hy : 0 < y.2) : ∃ t u, g_plus [.sh (fr x), .sh (fr y)] = some (.v (fr (plusN x y)), [t, u]) := by
  obtain ⟨t, u, e⟩ := ratio_eq (x.1 * y.2 + y.1 * x.2) (x.2 * y.2) h (Nat.mul_pos hx hy)
  have m1 := dMulR_nn h1
  have m2 := dMulR_nn h2
  have m3 := dMulR_nn h3
  unfold g_plus plusN
  apply Exists.intro
  apply Exists.intro
  repeat' (first | with_reducible assumption | with_reducible exact r_c | with_reducible exact get_z | with_reducible exact free_un | with_reducible exact free_sh | with_reducible exact free_own | with_reducible exact slot_rv | with_reducible exact slot_rf | with_reducible exact put_own | with_reducible exact put_par | with_reducible exact cell_own | with_reducible exact cell_par | with_reducible exact frz_sh | with_reducible exact r_nil | with_reducible exact rd_v | with_reducible exact rd_f | with_reducible exact tru_bl | with_reducible exact not_t | with_reducible exact not_f | with_reducible exact cand_f | with_reducible exact cor_t | with_reducible exact candV_f | with_reducible exact corV_t | with_reducible exact flat_int | with_reducible exact flat_bl | with_reducible exact r_skip | with_reducible exact cseq_rt | with_reducible exact rt_nil | with_reducible exact r_rnil | with_reducible exact sa_nil | with_reducible exact r_ganil | with_reducible exact ls_own | with_reducible exact ls_par | with_reducible exact ls_scr | with_reducible exact le_nil | with_reducible exact ln_nil | with_reducible exact so_nil | with_reducible exact sl_own | with_reducible exact sl_par | with_reducible exact sl_scr | with_reducible exact bk_nil | with_reducible exact it_l | with_reducible exact it_t | with_reducible exact ls_z | with_reducible exact kp_un | with_reducible exact kp_sh | with_reducible exact kp_own | with_reducible exact re_z | with_reducible exact fLst_0 | with_reducible exact fLst_1 | with_reducible exact fLst_2 | with_reducible exact fLst_3 | with_reducible exact fLst_4 | with_reducible exact fLst_5 | with_reducible exact dIsNot_tt | with_reducible exact r_nopart | with_reducible exact fInt_i | with_reducible exact fLen_l | with_reducible exact fLen_t | with_reducible exact fTupOf_l | with_reducible exact fTupOf_t | with_reducible exact fLstOf_l | with_reducible exact fLstOf_t | with_reducible exact fTup_1 | with_reducible exact fTup_2 | with_reducible exact fTup_3 | with_reducible exact dAddR_nn | with_reducible exact at5_0 | with_reducible exact ix5_0 | with_reducible exact st5_0 | with_reducible exact at5_1 | with_reducible exact ix5_1 | with_reducible exact st5_1 | with_reducible exact at5_2 | with_reducible exact ix5_2 | with_reducible exact st5_2 | with_reducible exact at5_3 | with_reducible exact ix5_3 | with_reducible exact st5_3 | with_reducible exact at5_4 | with_reducible exact ix5_4 | with_reducible exact st5_4 | with_reducible exact ixt2_0 | with_reducible exact ixt2_1 | with_reducible apply get_s | with_reducible apply set_z | with_reducible apply set_s | with_reducible apply put_s | with_reducible apply cell_s | with_reducible apply r_frz | with_reducible apply frz_own | with_reducible apply r_bin | with_reducible apply r_binR | with_reducible apply r_un | with_reducible apply r_opN | with_reducible apply r_opNF | with_reducible apply r_cons | with_reducible apply r_gD | with_reducible apply r_gR | with_reducible apply r_if | with_reducible apply cif_t | with_reducible apply cif_f | with_reducible apply r_tb | with_reducible apply r_tru | with_reducible apply r_not | with_reducible apply r_notV | with_reducible apply r_and | with_reducible apply cand_t | with_reducible apply r_or | with_reducible apply cor_f | with_reducible apply r_andV | with_reducible apply candV_t | with_reducible apply r_orV | with_reducible apply corV_f | with_reducible apply r_ixC | with_reducible apply r_opC | with_reducible apply r_binC | with_reducible apply r_seq | with_reducible apply cseq_nx | with_reducible apply r_drop | with_reducible apply r_ret | with_reducible apply r_ifS | with_reducible apply r_set | with_reducible apply r_setC | with_reducible apply r_append | with_reducible apply r_popAt | with_reducible apply r_alt | with_reducible apply r_asg | with_reducible apply rt_name | with_reducible apply rt_cons | with_reducible apply rt_tup | with_reducible apply r_rcons | with_reducible apply sa_cons | with_reducible apply r_par | with_reducible apply r_gad | with_reducible apply r_gal | with_reducible apply r_slScr | with_reducible apply r_part | with_reducible apply le_d | with_reducible apply le_l | with_reducible apply ln_d | with_reducible apply so_d | with_reducible apply so_l | with_reducible apply bk_d | with_reducible apply bk_par | with_reducible apply r_call | with_reducible apply re_s | with_reducible apply r_def1 | with_reducible apply r_def2 | with_reducible apply r_def3 | with_reducible apply r_it | with_reducible apply ls_s | with_reducible apply wp_1 | with_reducible apply md_1 | with_reducible apply r_rng1 | with_reducible apply r_rng2 | with_reducible apply r_for | with_reducible apply r_lc)
theorem times_eq (x y : Nat × Nat) (h1 : Sm x.1 y.1) (h3 : Sm x.2 y.2) (h : x.2 * y.2 < 2 ^ 8990) (hx : 0 < x.2) (hy : 0 < y.2) : ∃ t u, g_times [.sh (fr x), .sh (fr y)] = some (.v (fr (low (x.1 * y.1) (x.2 * y.2))), [t, u]) := by
  obtain ⟨t, u, e⟩ := ratio_eq (x.1 * y.1) (x.2 * y.2) h (Nat.mul_pos hx hy)
  have m1 := dMulR_nn h1
  have m3 := dMulR_nn h3
  unfold g_times
  apply Exists.intro
  apply Exists.intro
  repeat' (first | with_reducible assumption | with_reducible exact r_c | with_reducible exact get_z | with_reducible exact free_un | with_reducible exact free_sh | with_reducible exact free_own | with_reducible exact slot_rv | with_reducible exact slot_rf | with_reducible exact put_own | with_reducible exact put_par | with_reducible exact cell_own | with_reducible exact cell_par | with_reducible exact frz_sh | with_reducible exact r_nil | with_reducible exact rd_v | with_reducible exact rd_f | with_reducible exact tru_bl | with_reducible exact not_t | with_reducible exact not_f | with_reducible exact cand_f | with_reducible exact cor_t | with_reducible exact candV_f | with_reducible exact corV_t | with_reducible exact flat_int | with_reducible exact flat_bl | with_reducible exact r_skip | with_reducible exact cseq_rt | with_reducible exact rt_nil | with_reducible exact r_rnil | with_reducible exact sa_nil | with_reducible exact r_ganil | with_reducible exact ls_own | with_reducible exact ls_par | with_reducible exact ls_scr | with_reducible exact le_nil | with_reducible exact ln_nil | with_reducible exact so_nil | with_reducible exact sl_own | with_reducible exact sl_par | with_reducible exact sl_scr | with_reducible exact bk_nil | with_reducible exact it_l | with_reducible exact it_t | with_reducible exact ls_z | with_reducible exact kp_un | with_reducible exact kp_sh | with_reducible exact kp_own | with_reducible exact re_z | with_reducible exact fLst_0 | with_reducible exact fLst_1 | with_reducible exact fLst_2 | with_reducible exact fLst_3 | with_reducible exact fLst_4 | with_reducible exact fLst_5 | with_reducible exact dIsNot_tt | with_reducible exact r_nopart | with_reducible exact fInt_i | with_reducible exact fLen_l | with_reducible exact fLen_t | with_reducible exact fTupOf_l | with_reducible exact fTupOf_t | with_reducible exact fLstOf_l | with_reducible exact fLstOf_t | with_reducible exact fTup_1 | with_reducible exact fTup_2 | with_reducible exact fTup_3 | with_reducible exact dAddR_nn | with_reducible exact at5_0 | with_reducible exact ix5_0 | with_reducible exact st5_0 | with_reducible exact at5_1 | with_reducible exact ix5_1 | with_reducible exact st5_1 | with_reducible exact at5_2 | with_reducible exact ix5_2 | with_reducible exact st5_2 | with_reducible exact at5_3 | with_reducible exact ix5_3 | with_reducible exact st5_3 | with_reducible exact at5_4 | with_reducible exact ix5_4 | with_reducible exact st5_4 | with_reducible exact ixt2_0 | with_reducible exact ixt2_1 | with_reducible apply get_s | with_reducible apply set_z | with_reducible apply set_s | with_reducible apply put_s | with_reducible apply cell_s | with_reducible apply r_frz | with_reducible apply frz_own | with_reducible apply r_bin | with_reducible apply r_binR | with_reducible apply r_un | with_reducible apply r_opN | with_reducible apply r_opNF | with_reducible apply r_cons | with_reducible apply r_gD | with_reducible apply r_gR | with_reducible apply r_if | with_reducible apply cif_t | with_reducible apply cif_f | with_reducible apply r_tb | with_reducible apply r_tru | with_reducible apply r_not | with_reducible apply r_notV | with_reducible apply r_and | with_reducible apply cand_t | with_reducible apply r_or | with_reducible apply cor_f | with_reducible apply r_andV | with_reducible apply candV_t | with_reducible apply r_orV | with_reducible apply corV_f | with_reducible apply r_ixC | with_reducible apply r_opC | with_reducible apply r_binC | with_reducible apply r_seq | with_reducible apply cseq_nx | with_reducible apply r_drop | with_reducible apply r_ret | with_reducible apply r_ifS | with_reducible apply r_set | with_reducible apply r_setC | with_reducible apply r_append | with_reducible apply r_popAt | with_reducible apply r_alt | with_reducible apply r_asg | with_reducible apply rt_name | with_reducible apply rt_cons | with_reducible apply rt_tup | with_reducible apply r_rcons | with_reducible apply sa_cons | with_reducible apply r_par | with_reducible apply r_gad | with_reducible apply r_gal | with_reducible apply r_slScr | with_reducible apply r_part | with_reducible apply le_d | with_reducible apply le_l | with_reducible apply ln_d | with_reducible apply so_d | with_reducible apply so_l | with_reducible apply bk_d | with_reducible apply bk_par | with_reducible apply r_call | with_reducible apply re_s | with_reducible apply r_def1 | with_reducible apply r_def2 | with_reducible apply r_def3 | with_reducible apply r_it | with_reducible apply ls_s | with_reducible apply wp_1 | with_reducible apply md_1 | with_reducible apply r_rng1 | with_reducible apply r_rng2 | with_reducible apply r_for | with_reducible apply r_lc)
theorem more_eq (x y : Nat × Nat) (h1 : Sm x.1 y.2) (h2 : Sm y.1 x.2) : ∃ t u, g_is_more [.sh (fr x), .sh (fr y)] = some (.v (.bl (decide (y.1 * x.2 < x.1 * y.2))), [t, u]) := by
  have m1 := dMulR_nn h1
  have m2 := dMulR_nn h2
  have z : dGt (.int ((x.1 * y.2 : Nat) : Int)) (.int ((y.1 * x.2 : Nat) : Int)) = some (.bl (decide (y.1 * x.2 < x.1 * y.2))) := by
    rw [dGt_ii]
    exact congrArg (fun b => some (D.bl b)) (decide_eq_decide.mpr Int.ofNat_lt)
  unfold g_is_more
  apply Exists.intro
  apply Exists.intro
  repeat' (first | with_reducible assumption | with_reducible exact r_c | with_reducible exact get_z | with_reducible exact free_un | with_reducible exact free_sh | with_reducible exact free_own | with_reducible exact slot_rv | with_reducible exact slot_rf | with_reducible exact put_own | with_reducible exact put_par | with_reducible exact cell_own | with_reducible exact cell_par | with_reducible exact frz_sh | with_reducible exact r_nil | with_reducible exact rd_v | with_reducible exact rd_f | with_reducible exact tru_bl | with_reducible exact not_t | with_reducible exact not_f | with_reducible exact cand_f | with_reducible exact cor_t | with_reducible exact candV_f | with_reducible exact corV_t | with_reducible exact flat_int | with_reducible exact flat_bl | with_reducible exact r_skip | with_reducible exact cseq_rt | with_reducible exact rt_nil | with_reducible exact r_rnil | with_reducible exact sa_nil | with_reducible exact r_ganil | with_reducible exact ls_own | with_reducible exact ls_par | with_reducible exact ls_scr | with_reducible exact le_nil | with_reducible exact ln_nil | with_reducible exact so_nil | with_reducible exact sl_own | with_reducible exact sl_par | with_reducible exact sl_scr | with_reducible exact bk_nil | with_reducible exact it_l | with_reducible exact it_t | with_reducible exact ls_z | with_reducible exact kp_un | with_reducible exact kp_sh | with_reducible exact kp_own | with_reducible exact re_z | with_reducible exact fLst_0 | with_reducible exact fLst_1 | with_reducible exact fLst_2 | with_reducible exact fLst_3 | with_reducible exact fLst_4 | with_reducible exact fLst_5 | with_reducible exact dIsNot_tt | with_reducible exact r_nopart | with_reducible exact fInt_i | with_reducible exact fLen_l | with_reducible exact fLen_t | with_reducible exact fTupOf_l | with_reducible exact fTupOf_t | with_reducible exact fLstOf_l | with_reducible exact fLstOf_t | with_reducible exact fTup_1 | with_reducible exact fTup_2 | with_reducible exact fTup_3 | with_reducible exact dAddR_nn | with_reducible exact at5_0 | with_reducible exact ix5_0 | with_reducible exact st5_0 | with_reducible exact at5_1 | with_reducible exact ix5_1 | with_reducible exact st5_1 | with_reducible exact at5_2 | with_reducible exact ix5_2 | with_reducible exact st5_2 | with_reducible exact at5_3 | with_reducible exact ix5_3 | with_reducible exact st5_3 | with_reducible exact at5_4 | with_reducible exact ix5_4 | with_reducible exact st5_4 | with_reducible exact ixt2_0 | with_reducible exact ixt2_1 | with_reducible apply get_s | with_reducible apply set_z | with_reducible apply set_s | with_reducible apply put_s | with_reducible apply cell_s | with_reducible apply r_frz | with_reducible apply frz_own | with_reducible apply r_bin | with_reducible apply r_binR | with_reducible apply r_un | with_reducible apply r_opN | with_reducible apply r_opNF | with_reducible apply r_cons | with_reducible apply r_gD | with_reducible apply r_gR | with_reducible apply r_if | with_reducible apply cif_t | with_reducible apply cif_f | with_reducible apply r_tb | with_reducible apply r_tru | with_reducible apply r_not | with_reducible apply r_notV | with_reducible apply r_and | with_reducible apply cand_t | with_reducible apply r_or | with_reducible apply cor_f | with_reducible apply r_andV | with_reducible apply candV_t | with_reducible apply r_orV | with_reducible apply corV_f | with_reducible apply r_ixC | with_reducible apply r_opC | with_reducible apply r_binC | with_reducible apply r_seq | with_reducible apply cseq_nx | with_reducible apply r_drop | with_reducible apply r_ret | with_reducible apply r_ifS | with_reducible apply r_set | with_reducible apply r_setC | with_reducible apply r_append | with_reducible apply r_popAt | with_reducible apply r_alt | with_reducible apply r_asg | with_reducible apply rt_name | with_reducible apply rt_cons | with_reducible apply rt_tup | with_reducible apply r_rcons | with_reducible apply sa_cons | with_reducible apply r_par | with_reducible apply r_gad | with_reducible apply r_gal | with_reducible apply r_slScr | with_reducible apply r_part | with_reducible apply le_d | with_reducible apply le_l | with_reducible apply ln_d | with_reducible apply so_d | with_reducible apply so_l | with_reducible apply bk_d | with_reducible apply bk_par | with_reducible apply r_call | with_reducible apply re_s | with_reducible apply r_def1 | with_reducible apply r_def2 | with_reducible apply r_def3 | with_reducible apply r_it | with_reducible apply ls_s | with_reducible apply wp_1 | with_reducible apply md_1 | with_reducible apply r_rng1 | with_reducible apply r_rng2 | with_reducible apply r_for | with_reducible apply r_lc)
end K07
set_option Elab.async false
set_option linter.all false
set_option maxRecDepth 100000
set_option exponentiation.threshold 20000
/-! K07c: totals, shares, same. -/
namespace K07
open PySem PySem.Spec PyProof.Rows L2 TL
theorem same_eq (d : D) (h : d.okR = true) (hb : d.bk ≤ 20000) (hd : d.dep ≤ 100) : ∃ t u, g_law_same [.sh d, .sh d] = some (.v (.bl true), [t, u]) := by
  obtain ⟨x, e⟩ := repr_ok h hb hd
  have q := TL.eq_str (x := x)
  unfold g_law_same
  apply Exists.intro
  apply Exists.intro
  repeat' (first | with_reducible assumption | with_reducible exact r_c | with_reducible exact get_z | with_reducible exact free_un | with_reducible exact free_sh | with_reducible exact free_own | with_reducible exact slot_rv | with_reducible exact slot_rf | with_reducible exact put_own | with_reducible exact put_par | with_reducible exact cell_own | with_reducible exact cell_par | with_reducible exact frz_sh | with_reducible exact r_nil | with_reducible exact rd_v | with_reducible exact rd_f | with_reducible exact tru_bl | with_reducible exact not_t | with_reducible exact not_f | with_reducible exact cand_f | with_reducible exact cor_t | with_reducible exact candV_f | with_reducible exact corV_t | with_reducible exact flat_int | with_reducible exact flat_bl | with_reducible exact r_skip | with_reducible exact cseq_rt | with_reducible exact rt_nil | with_reducible exact r_rnil | with_reducible exact sa_nil | with_reducible exact r_ganil | with_reducible exact ls_own | with_reducible exact ls_par | with_reducible exact ls_scr | with_reducible exact le_nil | with_reducible exact ln_nil | with_reducible exact so_nil | with_reducible exact sl_own | with_reducible exact sl_par | with_reducible exact sl_scr | with_reducible exact bk_nil | with_reducible exact it_l | with_reducible exact it_t | with_reducible exact ls_z | with_reducible exact kp_un | with_reducible exact kp_sh | with_reducible exact kp_own | with_reducible exact re_z | with_reducible exact fLst_0 | with_reducible exact fLst_1 | with_reducible exact fLst_2 | with_reducible exact fLst_3 | with_reducible exact fLst_4 | with_reducible exact fLst_5 | with_reducible exact dIsNot_tt | with_reducible exact r_nopart | with_reducible exact fInt_i | with_reducible exact fLen_l | with_reducible exact fLen_t | with_reducible exact fTupOf_l | with_reducible exact fTupOf_t | with_reducible exact fLstOf_l | with_reducible exact fLstOf_t | with_reducible exact fTup_1 | with_reducible exact fTup_2 | with_reducible exact fTup_3 | with_reducible exact dAddR_nn | with_reducible exact at5_0 | with_reducible exact ix5_0 | with_reducible exact st5_0 | with_reducible exact at5_1 | with_reducible exact ix5_1 | with_reducible exact st5_1 | with_reducible exact at5_2 | with_reducible exact ix5_2 | with_reducible exact st5_2 | with_reducible exact at5_3 | with_reducible exact ix5_3 | with_reducible exact st5_3 | with_reducible exact at5_4 | with_reducible exact ix5_4 | with_reducible exact st5_4 | with_reducible exact ixt2_0 | with_reducible exact ixt2_1 | with_reducible apply get_s | with_reducible apply set_z | with_reducible apply set_s | with_reducible apply put_s | with_reducible apply cell_s | with_reducible apply r_frz | with_reducible apply frz_own | with_reducible apply r_bin | with_reducible apply r_binR | with_reducible apply r_un | with_reducible apply r_opN | with_reducible apply r_opNF | with_reducible apply r_cons | with_reducible apply r_gD | with_reducible apply r_gR | with_reducible apply r_if | with_reducible apply cif_t | with_reducible apply cif_f | with_reducible apply r_tb | with_reducible apply r_tru | with_reducible apply r_not | with_reducible apply r_notV | with_reducible apply r_and | with_reducible apply cand_t | with_reducible apply r_or | with_reducible apply cor_f | with_reducible apply r_andV | with_reducible apply candV_t | with_reducible apply r_orV | with_reducible apply corV_f | with_reducible apply r_ixC | with_reducible apply r_opC | with_reducible apply r_binC | with_reducible apply r_seq | with_reducible apply cseq_nx | with_reducible apply r_drop | with_reducible apply r_ret | with_reducible apply r_ifS | with_reducible apply r_set | with_reducible apply r_setC | with_reducible apply r_append | with_reducible apply r_popAt | with_reducible apply r_alt | with_reducible apply r_asg | with_reducible apply rt_name | with_reducible apply rt_cons | with_reducible apply rt_tup | with_reducible apply r_rcons | with_reducible apply sa_cons | with_reducible apply r_par | with_reducible apply r_gad | with_reducible apply r_gal | with_reducible apply r_slScr | with_reducible apply r_part | with_reducible apply le_d | with_reducible apply le_l | with_reducible apply ln_d | with_reducible apply so_d | with_reducible apply so_l | with_reducible apply bk_d | with_reducible apply bk_par | with_reducible apply r_call | with_reducible apply re_s | with_reducible apply r_def1 | with_reducible apply r_def2 | with_reducible apply r_def3 | with_reducible apply r_it | with_reducible apply ls_s | with_reducible apply wp_1 | with_reducible apply md_1 | with_reducible apply r_rng1 | with_reducible apply r_rng2 | with_reducible apply r_for | with_reducible apply r_lc)
theorem low_mul {p q c : Nat} (hc : 0 < c) : low (p * c) (q * c) = low p q := by
  unfold low
  rw [Nat.gcd_mul_right, Nat.mul_div_mul_right _ _ hc, Nat.mul_div_mul_right _ _ hc]
theorem low_ext {p q p' q' : Nat} (h : 0 < q) (h' : 0 < q') (e : p * q' = p' * q) : low p q = low p' q' := by
  rw [← low_mul (p := p) (q := q) h', ← low_mul (p := p') (q := q') h, e, Nat.mul_comm q' q]
theorem low_pos {p q : Nat} (h : 0 < q) : 0 < (low p q).2 :=
  Nat.div_pos (Nat.gcd_le_right p h) (Nat.gcd_pos_of_pos_right _ h)
theorem low_cross {p q : Nat} : p * (low p q).2 = (low p q).1 * q := by
  unfold low
  rw [← Nat.mul_div_assoc _ (Nat.gcd_dvd_right p q), Nat.mul_comm p q, Nat.mul_div_assoc _ (Nat.gcd_dvd_left p q), Nat.mul_comm]
theorem low_le1 {p q : Nat} : (low p q).1 ≤ p := Nat.div_le_self _ _
theorem low_le2 {p q : Nat} : (low p q).2 ≤ q := Nat.div_le_self _ _
theorem low_dvd {p q : Nat} : (low p q).2 ∣ q := Nat.div_dvd_of_dvd (Nat.gcd_dvd_right p q)
theorem low_idem {p q : Nat} (h : 0 < q) : low (low p q).1 (low p q).2 = low p q := low_ext (low_pos h) h (by rw [← low_cross])
theorem low_cop {p q : Nat} (h : Nat.gcd p q = 1) : low p q = (p, q) := by
  unfold low
  rw [h, Nat.div_one, Nat.div_one]
def sumM (M : Nat) (xs : List (Nat × Nat)) : Nat := (xs.map fun x => x.1 * (M / x.2)).sum
theorem plus_low {S M : Nat} {x : Nat × Nat} (hM : 0 < M) (hx : 0 < x.2) (hd : x.2 ∣ M) : plusN (low S M) x = low (S + x.1 * (M / x.2)) M := by
  obtain ⟨k, rfl⟩ := hd
  have hp := low_pos (p := S) hM
  have hc := low_cross (p := S) (q := x.2 * k)
  rw [Nat.mul_div_cancel_left _ hx]
  generalize low S (x.2 * k) = f at hp hc
  refine low_ext (Nat.mul_pos hp hx) hM ?_
  have e : (f.1 * x.2 + x.1 * f.2) * (x.2 * k) = f.1 * (x.2 * k) * x.2 + x.1 * f.2 * (x.2 * k) := by
    rw [Nat.add_mul, Nat.mul_right_comm]
  rw [e, ← hc, Nat.add_mul]
  congr 1
  · rw [Nat.mul_assoc]
  · rw [Nat.mul_assoc, Nat.mul_assoc, Nat.mul_comm x.2 k, ← Nat.mul_assoc f.2, ← Nat.mul_assoc k, Nat.mul_comm f.2 k]
theorem plus_loop (M : Nat) (hM : 0 < M) (hM2 : M < 2 ^ 4490) (gt : GT) (gb : GS) (all : D)
    (hg : ∀ (d f : D) (t : S), t.free = true → gt d [.sh all, .sh f, t] = some [.sh all, .sh f, .sh d])
    (hb : ∀ (x f : Nat × Nat) (t u : S), g_plus [.sh (fr f), .sh (fr x)] = some (.v (fr (plusN f x)), [t, u]) → gb [.sh all, .sh (fr f), .sh (fr x)] = some (.nx [.sh all, .sh (fr (plusN f x)), .sh (fr x)])) :
    ∀ (xs : List (Nat × Nat)) (S0 : Nat) (t : S), t.free = true → (∀ x ∈ xs, 0 < x.2 ∧ x.2 ∣ M) → S0 + sumM M xs < 2 ^ 300000 → ∃ u, u.free = true ∧ forLoop gt gb (xs.map fr) [.sh all, .sh (fr (low S0 M)), t] = some (.nx [.sh all, .sh (fr (low (S0 + sumM M xs) M)), u]) := by
  intro xs
  induction xs with
  | nil =>
    intro S0 t ht _ _
    exact ⟨t, ht, rfl⟩
  | cons x xs ih =>
    intro S0 t ht hx hs
    have hx0 := hx x List.mem_cons_self
    have es : sumM M (x :: xs) = x.1 * (M / x.2) + sumM M xs := rfl
    rw [es] at hs ⊢
    have hk : 0 < M / x.2 := Nat.div_pos (Nat.le_of_dvd hM hx0.2) hx0.1
    have hle : x.1 ≤ x.1 * (M / x.2) := Nat.le_mul_of_pos_right _ hk
    have b300 : (2 : Nat) ^ 300000 ≤ 2 ^ 400000 := Nat.pow_le_pow_right (by decide) (by decide)
    have b449 : (2 : Nat) ^ 4490 ≤ 2 ^ 400000 := Nat.pow_le_pow_right (by decide) (by decide)
    have q1 : (low S0 M).1 < 2 ^ 400000 := Nat.lt_of_le_of_lt low_le1 (by omega)
    have q2 : (low S0 M).2 < 2 ^ 4490 := Nat.lt_of_le_of_lt low_le2 hM2
    have q3 : x.2 < 2 ^ 4490 := Nat.lt_of_le_of_lt (Nat.le_of_dvd hM hx0.2) hM2
    have q4 : x.1 < 2 ^ 400000 := by omega
    have q5 : (low S0 M).2 * x.2 < 2 ^ 8990 := by
      refine Nat.lt_of_lt_of_le (Nat.mul_lt_mul'' q2 q3) ?_
      rw [← Nat.pow_add]
      exact Nat.pow_le_pow_right (by decide) (by decide)
    obtain ⟨a, b, e⟩ := plus_eq (low S0 M) x (.of q1 (Nat.lt_of_lt_of_le q3 b449)) (.of q4 (Nat.lt_of_lt_of_le q2 b449)) (.of (Nat.lt_of_lt_of_le q2 b449) (Nat.lt_of_lt_of_le q3 b449)) q5 (low_pos hM) hx0.1
    have e2 := hb x (low S0 M) a b e
    rw [plus_low hM hx0.1 hx0.2] at e2
    obtain ⟨u, hu, e3⟩ := ih (S0 + x.1 * (M / x.2)) (.sh (fr x)) rfl (fun y hy => hx y (List.mem_cons_of_mem _ hy)) (by omega)
    refine ⟨u, hu, ?_⟩
    rw [List.map_cons, forLoop_cons, hg _ _ t ht]
    simp only [e2]
    rw [e3, Nat.add_assoc]
theorem low_zero {M : Nat} (h : 0 < M) : low 0 M = (0, 1) := by
  unfold low
  rw [Nat.gcd_zero_left, Nat.zero_div, Nat.div_self h]
theorem total_eq (xs : List (Nat × Nat)) (M : Nat) (hM : 0 < M) (hM2 : M < 2 ^ 4490) (hx : ∀ x ∈ xs, 0 < x.2 ∧ x.2 ∣ M) (hs : sumM M xs < 2 ^ 300000) : ∃ t, g_total [.sh (.lst (xs.map fr))] = some (.v (fr (low (sumM M xs) M)), [t]) := by
  obtain ⟨u, hu, e⟩ := plus_loop M hM hM2 (gtName 2) (gSet 1 (gCall g_plus (gaD (gFrz 1) (gaD (gFrz 2) gaNil)))) (.lst (xs.map fr)) (fun d f t ht => by repeat' (first | with_reducible assumption | with_reducible exact r_c | with_reducible exact get_z | with_reducible exact free_un | with_reducible exact free_sh | with_reducible exact free_own | with_reducible exact slot_rv | with_reducible exact slot_rf | with_reducible exact put_own | with_reducible exact put_par | with_reducible exact cell_own | with_reducible exact cell_par | with_reducible exact frz_sh | with_reducible exact r_nil | with_reducible exact rd_v | with_reducible exact rd_f | with_reducible exact tru_bl | with_reducible exact not_t | with_reducible exact not_f | with_reducible exact cand_f | with_reducible exact cor_t | with_reducible exact candV_f | with_reducible exact corV_t | with_reducible exact flat_int | with_reducible exact flat_bl | with_reducible exact r_skip | with_reducible exact cseq_rt | with_reducible exact rt_nil | with_reducible exact r_rnil | with_reducible exact sa_nil | with_reducible exact r_ganil | with_reducible exact ls_own | with_reducible exact ls_par | with_reducible exact ls_scr | with_reducible exact le_nil | with_reducible exact ln_nil | with_reducible exact so_nil | with_reducible exact sl_own | with_reducible exact sl_par | with_reducible exact sl_scr | with_reducible exact bk_nil | with_reducible exact it_l | with_reducible exact it_t | with_reducible exact ls_z | with_reducible exact kp_un | with_reducible exact kp_sh | with_reducible exact kp_own | with_reducible exact re_z | with_reducible exact fLst_0 | with_reducible exact fLst_1 | with_reducible exact fLst_2 | with_reducible exact fLst_3 | with_reducible exact fLst_4 | with_reducible exact fLst_5 | with_reducible exact dIsNot_tt | with_reducible exact r_nopart | with_reducible exact fInt_i | with_reducible exact fLen_l | with_reducible exact fLen_t | with_reducible exact fTupOf_l | with_reducible exact fTupOf_t | with_reducible exact fLstOf_l | with_reducible exact fLstOf_t | with_reducible exact fTup_1 | with_reducible exact fTup_2 | with_reducible exact fTup_3 | with_reducible exact dAddR_nn | with_reducible exact at5_0 | with_reducible exact ix5_0 | with_reducible exact st5_0 | with_reducible exact at5_1 | with_reducible exact ix5_1 | with_reducible exact st5_1 | with_reducible exact at5_2 | with_reducible exact ix5_2 | with_reducible exact st5_2 | with_reducible exact at5_3 | with_reducible exact ix5_3 | with_reducible exact st5_3 | with_reducible exact at5_4 | with_reducible exact ix5_4 | with_reducible exact st5_4 | with_reducible exact ixt2_0 | with_reducible exact ixt2_1 | with_reducible apply get_s | with_reducible apply set_z | with_reducible apply set_s | with_reducible apply put_s | with_reducible apply cell_s | with_reducible apply r_frz | with_reducible apply frz_own | with_reducible apply r_bin | with_reducible apply r_binR | with_reducible apply r_un | with_reducible apply r_opN | with_reducible apply r_opNF | with_reducible apply r_cons | with_reducible apply r_gD | with_reducible apply r_gR | with_reducible apply r_if | with_reducible apply cif_t | with_reducible apply cif_f | with_reducible apply r_tb | with_reducible apply r_tru | with_reducible apply r_not | with_reducible apply r_notV | with_reducible apply r_and | with_reducible apply cand_t | with_reducible apply r_or | with_reducible apply cor_f | with_reducible apply r_andV | with_reducible apply candV_t | with_reducible apply r_orV | with_reducible apply corV_f | with_reducible apply r_ixC | with_reducible apply r_opC | with_reducible apply r_binC | with_reducible apply r_seq | with_reducible apply cseq_nx | with_reducible apply r_drop | with_reducible apply r_ret | with_reducible apply r_ifS | with_reducible apply r_set | with_reducible apply r_setC | with_reducible apply r_append | with_reducible apply r_popAt | with_reducible apply r_alt | with_reducible apply r_asg | with_reducible apply rt_name | with_reducible apply rt_cons | with_reducible apply rt_tup | with_reducible apply r_rcons | with_reducible apply sa_cons | with_reducible apply r_par | with_reducible apply r_gad | with_reducible apply r_gal | with_reducible apply r_slScr | with_reducible apply r_part | with_reducible apply le_d | with_reducible apply le_l | with_reducible apply ln_d | with_reducible apply so_d | with_reducible apply so_l | with_reducible apply bk_d | with_reducible apply bk_par | with_reducible apply r_call | with_reducible apply re_s | with_reducible apply r_def1 | with_reducible apply r_def2 | with_reducible apply r_def3 | with_reducible apply r_it | with_reducible apply ls_s | with_reducible apply wp_1 | with_reducible apply md_1 | with_reducible apply r_rng1 | with_reducible apply r_rng2 | with_reducible apply r_for | with_reducible apply r_lc)) (fun x f t u e => by repeat' (first | with_reducible assumption | with_reducible exact r_c | with_reducible exact get_z | with_reducible exact free_un | with_reducible exact free_sh | with_reducible exact free_own | with_reducible exact slot_rv | with_reducible exact slot_rf | with_reducible exact put_own | with_reducible exact put_par | with_reducible exact cell_own | with_reducible exact cell_par | with_reducible exact frz_sh | with_reducible exact r_nil | with_reducible exact rd_v | with_reducible exact rd_f | with_reducible exact tru_bl | with_reducible exact not_t | with_reducible exact not_f | with_reducible exact cand_f | with_reducible exact cor_t | with_reducible exact candV_f | with_reducible exact corV_t | with_reducible exact flat_int | with_reducible exact flat_bl | with_reducible exact r_skip | with_reducible exact cseq_rt | with_reducible exact rt_nil | with_reducible exact r_rnil | with_reducible exact sa_nil | with_reducible exact r_ganil | with_reducible exact ls_own | with_reducible exact ls_par | with_reducible exact ls_scr | with_reducible exact le_nil | with_reducible exact ln_nil | with_reducible exact so_nil | with_reducible exact sl_own | with_reducible exact sl_par | with_reducible exact sl_scr | with_reducible exact bk_nil | with_reducible exact it_l | with_reducible exact it_t | with_reducible exact ls_z | with_reducible exact kp_un | with_reducible exact kp_sh | with_reducible exact kp_own | with_reducible exact re_z | with_reducible exact fLst_0 | with_reducible exact fLst_1 | with_reducible exact fLst_2 | with_reducible exact fLst_3 | with_reducible exact fLst_4 | with_reducible exact fLst_5 | with_reducible exact dIsNot_tt | with_reducible exact r_nopart | with_reducible exact fInt_i | with_reducible exact fLen_l | with_reducible exact fLen_t | with_reducible exact fTupOf_l | with_reducible exact fTupOf_t | with_reducible exact fLstOf_l | with_reducible exact fLstOf_t | with_reducible exact fTup_1 | with_reducible exact fTup_2 | with_reducible exact fTup_3 | with_reducible exact dAddR_nn | with_reducible exact at5_0 | with_reducible exact ix5_0 | with_reducible exact st5_0 | with_reducible exact at5_1 | with_reducible exact ix5_1 | with_reducible exact st5_1 | with_reducible exact at5_2 | with_reducible exact ix5_2 | with_reducible exact st5_2 | with_reducible exact at5_3 | with_reducible exact ix5_3 | with_reducible exact st5_3 | with_reducible exact at5_4 | with_reducible exact ix5_4 | with_reducible exact st5_4 | with_reducible exact ixt2_0 | with_reducible exact ixt2_1 | with_reducible apply get_s | with_reducible apply set_z | with_reducible apply set_s | with_reducible apply put_s | with_reducible apply cell_s | with_reducible apply r_frz | with_reducible apply frz_own | with_reducible apply r_bin | with_reducible apply r_binR | with_reducible apply r_un | with_reducible apply r_opN | with_reducible apply r_opNF | with_reducible apply r_cons | with_reducible apply r_gD | with_reducible apply r_gR | with_reducible apply r_if | with_reducible apply cif_t | with_reducible apply cif_f | with_reducible apply r_tb | with_reducible apply r_tru | with_reducible apply r_not | with_reducible apply r_notV | with_reducible apply r_and | with_reducible apply cand_t | with_reducible apply r_or | with_reducible apply cor_f | with_reducible apply r_andV | with_reducible apply candV_t | with_reducible apply r_orV | with_reducible apply corV_f | with_reducible apply r_ixC | with_reducible apply r_opC | with_reducible apply r_binC | with_reducible apply r_seq | with_reducible apply cseq_nx | with_reducible apply r_drop | with_reducible apply r_ret | with_reducible apply r_ifS | with_reducible apply r_set | with_reducible apply r_setC | with_reducible apply r_append | with_reducible apply r_popAt | with_reducible apply r_alt | with_reducible apply r_asg | with_reducible apply rt_name | with_reducible apply rt_cons | with_reducible apply rt_tup | with_reducible apply r_rcons | with_reducible apply sa_cons | with_reducible apply r_par | with_reducible apply r_gad | with_reducible apply r_gal | with_reducible apply r_slScr | with_reducible apply r_part | with_reducible apply le_d | with_reducible apply le_l | with_reducible apply ln_d | with_reducible apply so_d | with_reducible apply so_l | with_reducible apply bk_d | with_reducible apply bk_par | with_reducible apply r_call | with_reducible apply re_s | with_reducible apply r_def1 | with_reducible apply r_def2 | with_reducible apply r_def3 | with_reducible apply r_it | with_reducible apply ls_s | with_reducible apply wp_1 | with_reducible apply md_1 | with_reducible apply r_rng1 | with_reducible apply r_rng2 | with_reducible apply r_for | with_reducible apply r_lc)) xs 0 .un rfl hx (by omega)
  rw [Nat.zero_add, low_zero hM] at e
  have e0 : forLoop (gtName 2) (gSet 1 (gCall g_plus (gaD (gFrz 1) (gaD (gFrz 2) gaNil)))) (xs.map fr) [.sh (.lst (xs.map fr)), .sh (.tup [.int 0, .int 1]), .un] = some (.nx [.sh (.lst (xs.map fr)), .sh (fr (low (sumM M xs) M)), u]) := e
  unfold g_total
  apply Exists.intro
  repeat' (first | with_reducible assumption | with_reducible exact r_c | with_reducible exact get_z | with_reducible exact free_un | with_reducible exact free_sh | with_reducible exact free_own | with_reducible exact slot_rv | with_reducible exact slot_rf | with_reducible exact put_own | with_reducible exact put_par | with_reducible exact cell_own | with_reducible exact cell_par | with_reducible exact frz_sh | with_reducible exact r_nil | with_reducible exact rd_v | with_reducible exact rd_f | with_reducible exact tru_bl | with_reducible exact not_t | with_reducible exact not_f | with_reducible exact cand_f | with_reducible exact cor_t | with_reducible exact candV_f | with_reducible exact corV_t | with_reducible exact flat_int | with_reducible exact flat_bl | with_reducible exact r_skip | with_reducible exact cseq_rt | with_reducible exact rt_nil | with_reducible exact r_rnil | with_reducible exact sa_nil | with_reducible exact r_ganil | with_reducible exact ls_own | with_reducible exact ls_par | with_reducible exact ls_scr | with_reducible exact le_nil | with_reducible exact ln_nil | with_reducible exact so_nil | with_reducible exact sl_own | with_reducible exact sl_par | with_reducible exact sl_scr | with_reducible exact bk_nil | with_reducible exact it_l | with_reducible exact it_t | with_reducible exact ls_z | with_reducible exact kp_un | with_reducible exact kp_sh | with_reducible exact kp_own | with_reducible exact re_z | with_reducible exact fLst_0 | with_reducible exact fLst_1 | with_reducible exact fLst_2 | with_reducible exact fLst_3 | with_reducible exact fLst_4 | with_reducible exact fLst_5 | with_reducible exact dIsNot_tt | with_reducible exact r_nopart | with_reducible exact fInt_i | with_reducible exact fLen_l | with_reducible exact fLen_t | with_reducible exact fTupOf_l | with_reducible exact fTupOf_t | with_reducible exact fLstOf_l | with_reducible exact fLstOf_t | with_reducible exact fTup_1 | with_reducible exact fTup_2 | with_reducible exact fTup_3 | with_reducible exact dAddR_nn | with_reducible exact at5_0 | with_reducible exact ix5_0 | with_reducible exact st5_0 | with_reducible exact at5_1 | with_reducible exact ix5_1 | with_reducible exact st5_1 | with_reducible exact at5_2 | with_reducible exact ix5_2 | with_reducible exact st5_2 | with_reducible exact at5_3 | with_reducible exact ix5_3 | with_reducible exact st5_3 | with_reducible exact at5_4 | with_reducible exact ix5_4 | with_reducible exact st5_4 | with_reducible exact ixt2_0 | with_reducible exact ixt2_1 | with_reducible apply get_s | with_reducible apply set_z | with_reducible apply set_s | with_reducible apply put_s | with_reducible apply cell_s | with_reducible apply r_frz | with_reducible apply frz_own | with_reducible apply r_bin | with_reducible apply r_binR | with_reducible apply r_un | with_reducible apply r_opN | with_reducible apply r_opNF | with_reducible apply r_cons | with_reducible apply r_gD | with_reducible apply r_gR | with_reducible apply r_if | with_reducible apply cif_t | with_reducible apply cif_f | with_reducible apply r_tb | with_reducible apply r_tru | with_reducible apply r_not | with_reducible apply r_notV | with_reducible apply r_and | with_reducible apply cand_t | with_reducible apply r_or | with_reducible apply cor_f | with_reducible apply r_andV | with_reducible apply candV_t | with_reducible apply r_orV | with_reducible apply corV_f | with_reducible apply r_ixC | with_reducible apply r_opC | with_reducible apply r_binC | with_reducible apply r_seq | with_reducible apply cseq_nx | with_reducible apply r_drop | with_reducible apply r_ret | with_reducible apply r_ifS | with_reducible apply r_set | with_reducible apply r_setC | with_reducible apply r_append | with_reducible apply r_popAt | with_reducible apply r_alt | with_reducible apply r_asg | with_reducible apply rt_name | with_reducible apply rt_cons | with_reducible apply rt_tup | with_reducible apply r_rcons | with_reducible apply sa_cons | with_reducible apply r_par | with_reducible apply r_gad | with_reducible apply r_gal | with_reducible apply r_slScr | with_reducible apply r_part | with_reducible apply le_d | with_reducible apply le_l | with_reducible apply ln_d | with_reducible apply so_d | with_reducible apply so_l | with_reducible apply bk_d | with_reducible apply bk_par | with_reducible apply r_call | with_reducible apply re_s | with_reducible apply r_def1 | with_reducible apply r_def2 | with_reducible apply r_def3 | with_reducible apply r_it | with_reducible apply ls_s | with_reducible apply wp_1 | with_reducible apply md_1 | with_reducible apply r_rng1 | with_reducible apply r_rng2 | with_reducible apply r_for | with_reducible apply r_lc)
theorem lc_map {β : Type} (vs : List Nat) (gt : GT) (ge : GE) (τ : List S) (e f : β → D) (P : β → Prop) (h : ∀ x, P x → ∃ τ1 τ2, gt (e x) τ = some τ1 ∧ ge τ1 = some (f x, τ2) ∧ wipeT τ2 vs = τ) :
    ∀ xs : List β, (∀ x ∈ xs, P x) → lcLoop vs gt gYes ge (xs.map e) τ = some (xs.map f, τ) := by
  intro xs
  induction xs with
  | nil => exact fun _ => rfl
  | cons x xs ih =>
    intro hp
    obtain ⟨τ1, τ2, h1, h2, h3⟩ := h x (hp x List.mem_cons_self)
    rw [List.map_cons, lcLoop_cons, h1]
    simp only [gYes_ap, h2, h3]
    rw [ih fun y hy => hp y (List.mem_cons_of_mem _ hy)]
    rfl
theorem ints_nat (ws : List Nat) : intsOf (ws.map nat) = some (ws.map fun w : Nat => (w : Int)) := by
  induction ws with
  | nil => rfl
  | cons w ws ih =>
    show (match nat w, intsOf (ws.map nat) with
    | .int i, some l => some (i :: l)
    | _, _ => none) = _
    rw [ih]
    rfl
theorem sum_nat (ws : List Nat) : (ws.map fun w : Nat => (w : Int)).sum = ((ws.sum : Nat) : Int) := by
  induction ws with
  | nil => rfl
  | cons w ws ih => rw [List.map_cons, List.sum_cons, ih, List.sum_cons, Int.natCast_add]
theorem fSum_nat (ws : List Nat) : fSum [.tup (ws.map nat)] = some (.int ((ws.sum : Nat) : Int)) := by
  show (match intsOf (ws.map nat) with
    | some l => some (D.int l.sum)
    | none => none) = _
  rw [ints_nat]
  show some (D.int (ws.map fun w : Nat => (w : Int)).sum) = _
  rw [sum_nat]
theorem shared_eq (ws : List Nat) (h : 0 < ws.sum) (h2 : ws.sum < 2 ^ 8990) (hl : ws.length ≤ line) : ∃ t, g_shared [.sh (.tup (ws.map nat))] = some (.v (.tup (ws.map fun w => fr (low w ws.sum))), [t]) := by
  have e1 := fSum_nat ws
  have e2 := lc_map [2] (gtName 2) (gD (gCall g_ratio (gaD (gFrz 2) (gaD (gFrz 1) gaNil)))) [.sh (.tup (ws.map nat)), .sh (.int ((ws.sum : Nat) : Int)), .un] nat (fun w => fr (low w ws.sum)) (fun _ => True) (fun w _ => by
    obtain ⟨t, u, e⟩ := ratio_eq w ws.sum h2 h
    apply Exists.intro
    apply Exists.intro
    refine And.intro ?_ (And.intro ?_ ?_)
    · repeat' (first | with_reducible assumption | with_reducible exact r_c | with_reducible exact get_z | with_reducible exact free_un | with_reducible exact free_sh | with_reducible exact free_own | with_reducible exact slot_rv | with_reducible exact slot_rf | with_reducible exact put_own | with_reducible exact put_par | with_reducible exact cell_own | with_reducible exact cell_par | with_reducible exact frz_sh | with_reducible exact r_nil | with_reducible exact rd_v | with_reducible exact rd_f | with_reducible exact tru_bl | with_reducible exact not_t | with_reducible exact not_f | with_reducible exact cand_f | with_reducible exact cor_t | with_reducible exact candV_f | with_reducible exact corV_t | with_reducible exact flat_int | with_reducible exact flat_bl | with_reducible exact r_skip | with_reducible exact cseq_rt | with_reducible exact rt_nil | with_reducible exact r_rnil | with_reducible exact sa_nil | with_reducible exact r_ganil | with_reducible exact ls_own | with_reducible exact ls_par | with_reducible exact ls_scr | with_reducible exact le_nil | with_reducible exact ln_nil | with_reducible exact so_nil | with_reducible exact sl_own | with_reducible exact sl_par | with_reducible exact sl_scr | with_reducible exact bk_nil | with_reducible exact it_l | with_reducible exact it_t | with_reducible exact ls_z | with_reducible exact kp_un | with_reducible exact kp_sh | with_reducible exact kp_own | with_reducible exact re_z | with_reducible exact fLst_0 | with_reducible exact fLst_1 | with_reducible exact fLst_2 | with_reducible exact fLst_3 | with_reducible exact fLst_4 | with_reducible exact fLst_5 | with_reducible exact dIsNot_tt | with_reducible exact r_nopart | with_reducible exact fInt_i | with_reducible exact fLen_l | with_reducible exact fLen_t | with_reducible exact fTupOf_l | with_reducible exact fTupOf_t | with_reducible exact fLstOf_l | with_reducible exact fLstOf_t | with_reducible exact fTup_1 | with_reducible exact fTup_2 | with_reducible exact fTup_3 | with_reducible exact dAddR_nn | with_reducible exact at5_0 | with_reducible exact ix5_0 | with_reducible exact st5_0 | with_reducible exact at5_1 | with_reducible exact ix5_1 | with_reducible exact st5_1 | with_reducible exact at5_2 | with_reducible exact ix5_2 | with_reducible exact st5_2 | with_reducible exact at5_3 | with_reducible exact ix5_3 | with_reducible exact st5_3 | with_reducible exact at5_4 | with_reducible exact ix5_4 | with_reducible exact st5_4 | with_reducible exact ixt2_0 | with_reducible exact ixt2_1 | with_reducible apply get_s | with_reducible apply set_z | with_reducible apply set_s | with_reducible apply put_s | with_reducible apply cell_s | with_reducible apply r_frz | with_reducible apply frz_own | with_reducible apply r_bin | with_reducible apply r_binR | with_reducible apply r_un | with_reducible apply r_opN | with_reducible apply r_opNF | with_reducible apply r_cons | with_reducible apply r_gD | with_reducible apply r_gR | with_reducible apply r_if | with_reducible apply cif_t | with_reducible apply cif_f | with_reducible apply r_tb | with_reducible apply r_tru | with_reducible apply r_not | with_reducible apply r_notV | with_reducible apply r_and | with_reducible apply cand_t | with_reducible apply r_or | with_reducible apply cor_f | with_reducible apply r_andV | with_reducible apply candV_t | with_reducible apply r_orV | with_reducible apply corV_f | with_reducible apply r_ixC | with_reducible apply r_opC | with_reducible apply r_binC | with_reducible apply r_seq | with_reducible apply cseq_nx | with_reducible apply r_drop | with_reducible apply r_ret | with_reducible apply r_ifS | with_reducible apply r_set | with_reducible apply r_setC | with_reducible apply r_append | with_reducible apply r_popAt | with_reducible apply r_alt | with_reducible apply r_asg | with_reducible apply rt_name | with_reducible apply rt_cons | with_reducible apply rt_tup | with_reducible apply r_rcons | with_reducible apply sa_cons | with_reducible apply r_par | with_reducible apply r_gad | with_reducible apply r_gal | with_reducible apply r_slScr | with_reducible apply r_part | with_reducible apply le_d | with_reducible apply le_l | with_reducible apply ln_d | with_reducible apply so_d | with_reducible apply so_l | with_reducible apply bk_d | with_reducible apply bk_par | with_reducible apply r_call | with_reducible apply re_s | with_reducible apply r_def1 | with_reducible apply r_def2 | with_reducible apply r_def3 | with_reducible apply r_it | with_reducible apply ls_s | with_reducible apply wp_1 | with_reducible apply md_1 | with_reducible apply r_rng1 | with_reducible apply r_rng2 | with_reducible apply r_for | with_reducible apply r_lc)
    · repeat' (first | with_reducible assumption | with_reducible exact r_c | with_reducible exact get_z | with_reducible exact free_un | with_reducible exact free_sh | with_reducible exact free_own | with_reducible exact slot_rv | with_reducible exact slot_rf | with_reducible exact put_own | with_reducible exact put_par | with_reducible exact cell_own | with_reducible exact cell_par | with_reducible exact frz_sh | with_reducible exact r_nil | with_reducible exact rd_v | with_reducible exact rd_f | with_reducible exact tru_bl | with_reducible exact not_t | with_reducible exact not_f | with_reducible exact cand_f | with_reducible exact cor_t | with_reducible exact candV_f | with_reducible exact corV_t | with_reducible exact flat_int | with_reducible exact flat_bl | with_reducible exact r_skip | with_reducible exact cseq_rt | with_reducible exact rt_nil | with_reducible exact r_rnil | with_reducible exact sa_nil | with_reducible exact r_ganil | with_reducible exact ls_own | with_reducible exact ls_par | with_reducible exact ls_scr | with_reducible exact le_nil | with_reducible exact ln_nil | with_reducible exact so_nil | with_reducible exact sl_own | with_reducible exact sl_par | with_reducible exact sl_scr | with_reducible exact bk_nil | with_reducible exact it_l | with_reducible exact it_t | with_reducible exact ls_z | with_reducible exact kp_un | with_reducible exact kp_sh | with_reducible exact kp_own | with_reducible exact re_z | with_reducible exact fLst_0 | with_reducible exact fLst_1 | with_reducible exact fLst_2 | with_reducible exact fLst_3 | with_reducible exact fLst_4 | with_reducible exact fLst_5 | with_reducible exact dIsNot_tt | with_reducible exact r_nopart | with_reducible exact fInt_i | with_reducible exact fLen_l | with_reducible exact fLen_t | with_reducible exact fTupOf_l | with_reducible exact fTupOf_t | with_reducible exact fLstOf_l | with_reducible exact fLstOf_t | with_reducible exact fTup_1 | with_reducible exact fTup_2 | with_reducible exact fTup_3 | with_reducible exact dAddR_nn | with_reducible exact at5_0 | with_reducible exact ix5_0 | with_reducible exact st5_0 | with_reducible exact at5_1 | with_reducible exact ix5_1 | with_reducible exact st5_1 | with_reducible exact at5_2 | with_reducible exact ix5_2 | with_reducible exact st5_2 | with_reducible exact at5_3 | with_reducible exact ix5_3 | with_reducible exact st5_3 | with_reducible exact at5_4 | with_reducible exact ix5_4 | with_reducible exact st5_4 | with_reducible exact ixt2_0 | with_reducible exact ixt2_1 | with_reducible apply get_s | with_reducible apply set_z | with_reducible apply set_s | with_reducible apply put_s | with_reducible apply cell_s | with_reducible apply r_frz | with_reducible apply frz_own | with_reducible apply r_bin | with_reducible apply r_binR | with_reducible apply r_un | with_reducible apply r_opN | with_reducible apply r_opNF | with_reducible apply r_cons | with_reducible apply r_gD | with_reducible apply r_gR | with_reducible apply r_if | with_reducible apply cif_t | with_reducible apply cif_f | with_reducible apply r_tb | with_reducible apply r_tru | with_reducible apply r_not | with_reducible apply r_notV | with_reducible apply r_and | with_reducible apply cand_t | with_reducible apply r_or | with_reducible apply cor_f | with_reducible apply r_andV | with_reducible apply candV_t | with_reducible apply r_orV | with_reducible apply corV_f | with_reducible apply r_ixC | with_reducible apply r_opC | with_reducible apply r_binC | with_reducible apply r_seq | with_reducible apply cseq_nx | with_reducible apply r_drop | with_reducible apply r_ret | with_reducible apply r_ifS | with_reducible apply r_set | with_reducible apply r_setC | with_reducible apply r_append | with_reducible apply r_popAt | with_reducible apply r_alt | with_reducible apply r_asg | with_reducible apply rt_name | with_reducible apply rt_cons | with_reducible apply rt_tup | with_reducible apply r_rcons | with_reducible apply sa_cons | with_reducible apply r_par | with_reducible apply r_gad | with_reducible apply r_gal | with_reducible apply r_slScr | with_reducible apply r_part | with_reducible apply le_d | with_reducible apply le_l | with_reducible apply ln_d | with_reducible apply so_d | with_reducible apply so_l | with_reducible apply bk_d | with_reducible apply bk_par | with_reducible apply r_call | with_reducible apply re_s | with_reducible apply r_def1 | with_reducible apply r_def2 | with_reducible apply r_def3 | with_reducible apply r_it | with_reducible apply ls_s | with_reducible apply wp_1 | with_reducible apply md_1 | with_reducible apply r_rng1 | with_reducible apply r_rng2 | with_reducible apply r_for | with_reducible apply r_lc)
    · rfl) ws (fun _ _ => trivial)
  have l1 : (ws.map nat).length ≤ line := by rw [List.length_map]; exact hl
  unfold g_shared
  apply Exists.intro
  repeat' (first | with_reducible assumption | with_reducible exact r_c | with_reducible exact get_z | with_reducible exact free_un | with_reducible exact free_sh | with_reducible exact free_own | with_reducible exact slot_rv | with_reducible exact slot_rf | with_reducible exact put_own | with_reducible exact put_par | with_reducible exact cell_own | with_reducible exact cell_par | with_reducible exact frz_sh | with_reducible exact r_nil | with_reducible exact rd_v | with_reducible exact rd_f | with_reducible exact tru_bl | with_reducible exact not_t | with_reducible exact not_f | with_reducible exact cand_f | with_reducible exact cor_t | with_reducible exact candV_f | with_reducible exact corV_t | with_reducible exact flat_int | with_reducible exact flat_bl | with_reducible exact r_skip | with_reducible exact cseq_rt | with_reducible exact rt_nil | with_reducible exact r_rnil | with_reducible exact sa_nil | with_reducible exact r_ganil | with_reducible exact ls_own | with_reducible exact ls_par | with_reducible exact ls_scr | with_reducible exact le_nil | with_reducible exact ln_nil | with_reducible exact so_nil | with_reducible exact sl_own | with_reducible exact sl_par | with_reducible exact sl_scr | with_reducible exact bk_nil | with_reducible exact it_l | with_reducible exact it_t | with_reducible exact ls_z | with_reducible exact kp_un | with_reducible exact kp_sh | with_reducible exact kp_own | with_reducible exact re_z | with_reducible exact fLst_0 | with_reducible exact fLst_1 | with_reducible exact fLst_2 | with_reducible exact fLst_3 | with_reducible exact fLst_4 | with_reducible exact fLst_5 | with_reducible exact dIsNot_tt | with_reducible exact r_nopart | with_reducible exact fInt_i | with_reducible exact fLen_l | with_reducible exact fLen_t | with_reducible exact fTupOf_l | with_reducible exact fTupOf_t | with_reducible exact fLstOf_l | with_reducible exact fLstOf_t | with_reducible exact fTup_1 | with_reducible exact fTup_2 | with_reducible exact fTup_3 | with_reducible exact dAddR_nn | with_reducible exact at5_0 | with_reducible exact ix5_0 | with_reducible exact st5_0 | with_reducible exact at5_1 | with_reducible exact ix5_1 | with_reducible exact st5_1 | with_reducible exact at5_2 | with_reducible exact ix5_2 | with_reducible exact st5_2 | with_reducible exact at5_3 | with_reducible exact ix5_3 | with_reducible exact st5_3 | with_reducible exact at5_4 | with_reducible exact ix5_4 | with_reducible exact st5_4 | with_reducible exact ixt2_0 | with_reducible exact ixt2_1 | with_reducible apply get_s | with_reducible apply set_z | with_reducible apply set_s | with_reducible apply put_s | with_reducible apply cell_s | with_reducible apply r_frz | with_reducible apply frz_own | with_reducible apply r_bin | with_reducible apply r_binR | with_reducible apply r_un | with_reducible apply r_opN | with_reducible apply r_opNF | with_reducible apply r_cons | with_reducible apply r_gD | with_reducible apply r_gR | with_reducible apply r_if | with_reducible apply cif_t | with_reducible apply cif_f | with_reducible apply r_tb | with_reducible apply r_tru | with_reducible apply r_not | with_reducible apply r_notV | with_reducible apply r_and | with_reducible apply cand_t | with_reducible apply r_or | with_reducible apply cor_f | with_reducible apply r_andV | with_reducible apply candV_t | with_reducible apply r_orV | with_reducible apply corV_f | with_reducible apply r_ixC | with_reducible apply r_opC | with_reducible apply r_binC | with_reducible apply r_seq | with_reducible apply cseq_nx | with_reducible apply r_drop | with_reducible apply r_ret | with_reducible apply r_ifS | with_reducible apply r_set | with_reducible apply r_setC | with_reducible apply r_append | with_reducible apply r_popAt | with_reducible apply r_alt | with_reducible apply r_asg | with_reducible apply rt_name | with_reducible apply rt_cons | with_reducible apply rt_tup | with_reducible apply r_rcons | with_reducible apply sa_cons | with_reducible apply r_par | with_reducible apply r_gad | with_reducible apply r_gal | with_reducible apply r_slScr | with_reducible apply r_part | with_reducible apply le_d | with_reducible apply le_l | with_reducible apply ln_d | with_reducible apply so_d | with_reducible apply so_l | with_reducible apply bk_d | with_reducible apply bk_par | with_reducible apply r_call | with_reducible apply re_s | with_reducible apply r_def1 | with_reducible apply r_def2 | with_reducible apply r_def3 | with_reducible apply r_it | with_reducible apply ls_s | with_reducible apply wp_1 | with_reducible apply md_1 | with_reducible apply r_rng1 | with_reducible apply r_rng2 | with_reducible apply r_for | with_reducible apply r_lc)
end K07
set_option Elab.async false
set_option linter.all false
set_option maxRecDepth 100000
set_option exponentiation.threshold 20000
/-! K07d: what is drawn. -/
namespace K07
open PySem PySem.Spec PyProof.Rows L2 TL
theorem small_log {m k : Nat} (h : m < 2 ^ k) (hk : 0 < k) (h9 : k ≤ 9000) : m.log2 < 9000 := Nat.lt_of_lt_of_le (log2_lt h hk) h9
theorem some_eq (h : Hd) (N : Nat) (o : h.ok N) (ds : List D) (h0 : 0 < ds.length) (h1 : ds.length < 2 ^ 30) : ∃ (h' : Hd) (d : D) (t : S), h'.ok (N + 1) ∧ d ∈ ds ∧ g_law_some [.par h.c, .sh (.lst ds)] = some (.v d, [.par h'.c, t]) := by
  obtain ⟨h', x, t, o', l, e⟩ := draw_eq h N ds.length o h0 (small_log h1 (by decide) (by decide))
  have a1 : atI ds (x : Int) = some ds[x] := by rw [TL.atI_nat]; exact List.getElem?_eq_getElem l
  have a2 : dIx (.lst ds) (.int (x : Int)) = some ds[x] := a1
  refine ⟨h', ds[x], .sh (.lst ds), o', List.getElem_mem l, ?_⟩
  unfold g_law_some
  repeat' (first | with_reducible assumption | with_reducible exact r_c | with_reducible exact get_z | with_reducible exact free_un | with_reducible exact free_sh | with_reducible exact free_own | with_reducible exact slot_rv | with_reducible exact slot_rf | with_reducible exact put_own | with_reducible exact put_par | with_reducible exact cell_own | with_reducible exact cell_par | with_reducible exact frz_sh | with_reducible exact r_nil | with_reducible exact rd_v | with_reducible exact rd_f | with_reducible exact tru_bl | with_reducible exact not_t | with_reducible exact not_f | with_reducible exact cand_f | with_reducible exact cor_t | with_reducible exact candV_f | with_reducible exact corV_t | with_reducible exact flat_int | with_reducible exact flat_bl | with_reducible exact r_skip | with_reducible exact cseq_rt | with_reducible exact rt_nil | with_reducible exact r_rnil | with_reducible exact sa_nil | with_reducible exact r_ganil | with_reducible exact ls_own | with_reducible exact ls_par | with_reducible exact ls_scr | with_reducible exact le_nil | with_reducible exact ln_nil | with_reducible exact so_nil | with_reducible exact sl_own | with_reducible exact sl_par | with_reducible exact sl_scr | with_reducible exact bk_nil | with_reducible exact it_l | with_reducible exact it_t | with_reducible exact ls_z | with_reducible exact kp_un | with_reducible exact kp_sh | with_reducible exact kp_own | with_reducible exact re_z | with_reducible exact fLst_0 | with_reducible exact fLst_1 | with_reducible exact fLst_2 | with_reducible exact fLst_3 | with_reducible exact fLst_4 | with_reducible exact fLst_5 | with_reducible exact dIsNot_tt | with_reducible exact r_nopart | with_reducible exact fInt_i | with_reducible exact fLen_l | with_reducible exact fLen_t | with_reducible exact fTupOf_l | with_reducible exact fTupOf_t | with_reducible exact fLstOf_l | with_reducible exact fLstOf_t | with_reducible exact fTup_1 | with_reducible exact fTup_2 | with_reducible exact fTup_3 | with_reducible exact dAddR_nn | with_reducible exact at5_0 | with_reducible exact ix5_0 | with_reducible exact st5_0 | with_reducible exact at5_1 | with_reducible exact ix5_1 | with_reducible exact st5_1 | with_reducible exact at5_2 | with_reducible exact ix5_2 | with_reducible exact st5_2 | with_reducible exact at5_3 | with_reducible exact ix5_3 | with_reducible exact st5_3 | with_reducible exact at5_4 | with_reducible exact ix5_4 | with_reducible exact st5_4 | with_reducible exact ixt2_0 | with_reducible exact ixt2_1 | with_reducible apply get_s | with_reducible apply set_z | with_reducible apply set_s | with_reducible apply put_s | with_reducible apply cell_s | with_reducible apply r_frz | with_reducible apply frz_own | with_reducible apply r_bin | with_reducible apply r_binR | with_reducible apply r_un | with_reducible apply r_opN | with_reducible apply r_opNF | with_reducible apply r_cons | with_reducible apply r_gD | with_reducible apply r_gR | with_reducible apply r_if | with_reducible apply cif_t | with_reducible apply cif_f | with_reducible apply r_tb | with_reducible apply r_tru | with_reducible apply r_not | with_reducible apply r_notV | with_reducible apply r_and | with_reducible apply cand_t | with_reducible apply r_or | with_reducible apply cor_f | with_reducible apply r_andV | with_reducible apply candV_t | with_reducible apply r_orV | with_reducible apply corV_f | with_reducible apply r_ixC | with_reducible apply r_opC | with_reducible apply r_binC | with_reducible apply r_seq | with_reducible apply cseq_nx | with_reducible apply r_drop | with_reducible apply r_ret | with_reducible apply r_ifS | with_reducible apply r_set | with_reducible apply r_setC | with_reducible apply r_append | with_reducible apply r_popAt | with_reducible apply r_alt | with_reducible apply r_asg | with_reducible apply rt_name | with_reducible apply rt_cons | with_reducible apply rt_tup | with_reducible apply r_rcons | with_reducible apply sa_cons | with_reducible apply r_par | with_reducible apply r_gad | with_reducible apply r_gal | with_reducible apply r_slScr | with_reducible apply r_part | with_reducible apply le_d | with_reducible apply le_l | with_reducible apply ln_d | with_reducible apply so_d | with_reducible apply so_l | with_reducible apply bk_d | with_reducible apply bk_par | with_reducible apply r_call | with_reducible apply re_s | with_reducible apply r_def1 | with_reducible apply r_def2 | with_reducible apply r_def3 | with_reducible apply r_it | with_reducible apply ls_s | with_reducible apply wp_1 | with_reducible apply md_1 | with_reducible apply r_rng1 | with_reducible apply r_rng2 | with_reducible apply r_for | with_reducible apply r_lc)
theorem num_loop (gt : GT) (gb : GS) (hg : ∀ (d : D) (a b c t : S), t.free = true → gt d [a, b, c, t] = some [a, b, c, .sh d])
    (hb : ∀ (h : Hd) (N f : Nat) (a d : D), h.ok N → f < 2 ^ 200 → ∃ (h' : Hd) (y : Nat), h'.ok (N + 1) ∧ y ≤ 11 ∧ 0 < y ∧ gb [.par h.c, .sh a, .sh (.int f), .sh d] = some (.nx [.par h'.c, .sh a, .sh (.int ((f * y : Nat) : Int)), .sh d])) :
    ∀ (ds : List D) (h : Hd) (N f : Nat) (a : D) (t : S), t.free = true → h.ok N → f * 11 ^ ds.length < 2 ^ 200 → 0 < f → ∃ (h' : Hd) (g : Nat) (u : S), h'.ok (N + ds.length) ∧ g ≤ f * 11 ^ ds.length ∧ forLoop gt gb ds [.par h.c, .sh a, .sh (.int f), t] = some (.nx [.par h'.c, .sh a, .sh (.int g), u]) := by
  intro ds
  induction ds with
  | nil =>
    intro h N f a t ht o hf h0
    exact ⟨h, f, t, o, by simp, rfl⟩
  | cons d ds ih =>
    intro h N f a t ht o hf h0
    rw [List.length_cons, Nat.pow_succ] at hf
    have hp : 0 < 11 ^ ds.length := Nat.pow_pos (by decide)
    have hf1 : f * (11 ^ ds.length * 11) = f * 11 * 11 ^ ds.length := by rw [Nat.mul_comm (11 ^ ds.length), Nat.mul_assoc]
    have hf2 : f ≤ f * (11 ^ ds.length * 11) := Nat.le_mul_of_pos_right _ (by omega)
    obtain ⟨h1, y, o1, l1, l2, e1⟩ := hb h N f a d o (by omega)
    have hf3 : f * y * 11 ^ ds.length ≤ f * 11 * 11 ^ ds.length := Nat.mul_le_mul_right _ (Nat.mul_le_mul_left _ l1)
    obtain ⟨h2, g, u, o2, l3, e2⟩ := ih h1 (N + 1) (f * y) a (.sh d) rfl o1 (by omega) (Nat.mul_pos h0 l2)
    refine ⟨h2, g, u, o2.mono (by rw [List.length_cons]; omega), ?_, ?_⟩
    · rw [List.length_cons, Nat.pow_succ, hf1]
      omega
    · rw [forLoop_cons, hg _ _ _ _ t ht]
      simp only [e1]
      rw [e2]
theorem number_eq (h : Hd) (N : Nat) (o : h.ok N) : ∃ (h' : Hd) (n : Nat), h'.ok (N + 27) ∧ n < 10 ^ 33 ∧ g_law_number [.par h.c] = some (.v (.int n), [.par h'.c]) := by
  have p12 : dPow (.int 10) (.int 12) = some (.int ((10 ^ 12 : Nat) : Int)) := rfl
  have p20 : dPow (.int 10) (.int 20) = some (.int ((10 ^ 20 : Nat) : Int)) := rfl
  obtain ⟨h1, x, t, o1, l, e⟩ := draw_eq h N 4 o (by decide) (by decide +kernel)
  have e : g_law_draw [.par h.c, .sh (.int 4)] = some (.v (.int (x : Int)), [.par h1.c, t]) := e
  by_cases x0 : x = 0
  · subst x0
    obtain ⟨h2, y, t2, o2, l2, e2⟩ := draw_eq h1 (N + 1) 7 o1 (by decide) (by decide +kernel)
    have e2 : g_law_draw [.par h1.c, .sh (.int 7)] = some (.v (.int (y : Int)), [.par h2.c, t2]) := e2
    have z1 : dEq (.int ((0 : Nat) : Int)) (.int 0) = some (.bl true) := rfl
    refine ⟨h2, y, o2.mono (by omega), by omega, ?_⟩
    unfold g_law_number
    repeat' (first | with_reducible assumption | with_reducible exact r_c | with_reducible exact get_z | with_reducible exact free_un | with_reducible exact free_sh | with_reducible exact free_own | with_reducible exact slot_rv | with_reducible exact slot_rf | with_reducible exact put_own | with_reducible exact put_par | with_reducible exact cell_own | with_reducible exact cell_par | with_reducible exact frz_sh | with_reducible exact r_nil | with_reducible exact rd_v | with_reducible exact rd_f | with_reducible exact tru_bl | with_reducible exact not_t | with_reducible exact not_f | with_reducible exact cand_f | with_reducible exact cor_t | with_reducible exact candV_f | with_reducible exact corV_t | with_reducible exact flat_int | with_reducible exact flat_bl | with_reducible exact r_skip | with_reducible exact cseq_rt | with_reducible exact rt_nil | with_reducible exact r_rnil | with_reducible exact sa_nil | with_reducible exact r_ganil | with_reducible exact ls_own | with_reducible exact ls_par | with_reducible exact ls_scr | with_reducible exact le_nil | with_reducible exact ln_nil | with_reducible exact so_nil | with_reducible exact sl_own | with_reducible exact sl_par | with_reducible exact sl_scr | with_reducible exact bk_nil | with_reducible exact it_l | with_reducible exact it_t | with_reducible exact ls_z | with_reducible exact kp_un | with_reducible exact kp_sh | with_reducible exact kp_own | with_reducible exact re_z | with_reducible exact fLst_0 | with_reducible exact fLst_1 | with_reducible exact fLst_2 | with_reducible exact fLst_3 | with_reducible exact fLst_4 | with_reducible exact fLst_5 | with_reducible exact dIsNot_tt | with_reducible exact r_nopart | with_reducible exact fInt_i | with_reducible exact fLen_l | with_reducible exact fLen_t | with_reducible exact fTupOf_l | with_reducible exact fTupOf_t | with_reducible exact fLstOf_l | with_reducible exact fLstOf_t | with_reducible exact fTup_1 | with_reducible exact fTup_2 | with_reducible exact fTup_3 | with_reducible exact dAddR_nn | with_reducible exact at5_0 | with_reducible exact ix5_0 | with_reducible exact st5_0 | with_reducible exact at5_1 | with_reducible exact ix5_1 | with_reducible exact st5_1 | with_reducible exact at5_2 | with_reducible exact ix5_2 | with_reducible exact st5_2 | with_reducible exact at5_3 | with_reducible exact ix5_3 | with_reducible exact st5_3 | with_reducible exact at5_4 | with_reducible exact ix5_4 | with_reducible exact st5_4 | with_reducible exact ixt2_0 | with_reducible exact ixt2_1 | with_reducible apply get_s | with_reducible apply set_z | with_reducible apply set_s | with_reducible apply put_s | with_reducible apply cell_s | with_reducible apply r_frz | with_reducible apply frz_own | with_reducible apply r_bin | with_reducible apply r_binR | with_reducible apply r_un | with_reducible apply r_opN | with_reducible apply r_opNF | with_reducible apply r_cons | with_reducible apply r_gD | with_reducible apply r_gR | with_reducible apply r_if | with_reducible apply cif_t | with_reducible apply cif_f | with_reducible apply r_tb | with_reducible apply r_tru | with_reducible apply r_not | with_reducible apply r_notV | with_reducible apply r_and | with_reducible apply cand_t | with_reducible apply r_or | with_reducible apply cor_f | with_reducible apply r_andV | with_reducible apply candV_t | with_reducible apply r_orV | with_reducible apply corV_f | with_reducible apply r_ixC | with_reducible apply r_opC | with_reducible apply r_binC | with_reducible apply r_seq | with_reducible apply cseq_nx | with_reducible apply r_drop | with_reducible apply r_ret | with_reducible apply r_ifS | with_reducible apply r_set | with_reducible apply r_setC | with_reducible apply r_append | with_reducible apply r_popAt | with_reducible apply r_alt | with_reducible apply r_asg | with_reducible apply rt_name | with_reducible apply rt_cons | with_reducible apply rt_tup | with_reducible apply r_rcons | with_reducible apply sa_cons | with_reducible apply r_par | with_reducible apply r_gad | with_reducible apply r_gal | with_reducible apply r_slScr | with_reducible apply r_part | with_reducible apply le_d | with_reducible apply le_l | with_reducible apply ln_d | with_reducible apply so_d | with_reducible apply so_l | with_reducible apply bk_d | with_reducible apply bk_par | with_reducible apply r_call | with_reducible apply re_s | with_reducible apply r_def1 | with_reducible apply r_def2 | with_reducible apply r_def3 | with_reducible apply r_it | with_reducible apply ls_s | with_reducible apply wp_1 | with_reducible apply md_1 | with_reducible apply r_rng1 | with_reducible apply r_rng2 | with_reducible apply r_for | with_reducible apply r_lc)
  have z1 : dEq (.int (x : Int)) (.int 0) = some (.bl false) := eq_f (by omega)
  by_cases x1 : x = 1
  · subst x1
    obtain ⟨h2, y, t2, o2, l2, e2⟩ := draw_eq h1 (N + 1) (10 ^ 12) o1 (by decide) (by decide +kernel)
    obtain ⟨h3, w, t3, o3, l3, e3⟩ := draw_eq h2 (N + 1 + 1) (10 ^ 12) o2 (by decide) (by decide +kernel)
    have z2 : dEq (.int ((1 : Nat) : Int)) (.int 1) = some (.bl true) := rfl
    have m1 := dMulR_nn (a := y) (b := 10 ^ 20) (.inl (by omega))
    have q1 := dAddR_nn (a := y * 10 ^ 20) (b := w)
    refine ⟨h3, y * 10 ^ 20 + w, o3.mono (by omega), by omega, ?_⟩
    unfold g_law_number
    repeat' (first | with_reducible assumption | with_reducible exact r_c | with_reducible exact get_z | with_reducible exact free_un | with_reducible exact free_sh | with_reducible exact free_own | with_reducible exact slot_rv | with_reducible exact slot_rf | with_reducible exact put_own | with_reducible exact put_par | with_reducible exact cell_own | with_reducible exact cell_par | with_reducible exact frz_sh | with_reducible exact r_nil | with_reducible exact rd_v | with_reducible exact rd_f | with_reducible exact tru_bl | with_reducible exact not_t | with_reducible exact not_f | with_reducible exact cand_f | with_reducible exact cor_t | with_reducible exact candV_f | with_reducible exact corV_t | with_reducible exact flat_int | with_reducible exact flat_bl | with_reducible exact r_skip | with_reducible exact cseq_rt | with_reducible exact rt_nil | with_reducible exact r_rnil | with_reducible exact sa_nil | with_reducible exact r_ganil | with_reducible exact ls_own | with_reducible exact ls_par | with_reducible exact ls_scr | with_reducible exact le_nil | with_reducible exact ln_nil | with_reducible exact so_nil | with_reducible exact sl_own | with_reducible exact sl_par | with_reducible exact sl_scr | with_reducible exact bk_nil | with_reducible exact it_l | with_reducible exact it_t | with_reducible exact ls_z | with_reducible exact kp_un | with_reducible exact kp_sh | with_reducible exact kp_own | with_reducible exact re_z | with_reducible exact fLst_0 | with_reducible exact fLst_1 | with_reducible exact fLst_2 | with_reducible exact fLst_3 | with_reducible exact fLst_4 | with_reducible exact fLst_5 | with_reducible exact dIsNot_tt | with_reducible exact r_nopart | with_reducible exact fInt_i | with_reducible exact fLen_l | with_reducible exact fLen_t | with_reducible exact fTupOf_l | with_reducible exact fTupOf_t | with_reducible exact fLstOf_l | with_reducible exact fLstOf_t | with_reducible exact fTup_1 | with_reducible exact fTup_2 | with_reducible exact fTup_3 | with_reducible exact dAddR_nn | with_reducible exact at5_0 | with_reducible exact ix5_0 | with_reducible exact st5_0 | with_reducible exact at5_1 | with_reducible exact ix5_1 | with_reducible exact st5_1 | with_reducible exact at5_2 | with_reducible exact ix5_2 | with_reducible exact st5_2 | with_reducible exact at5_3 | with_reducible exact ix5_3 | with_reducible exact st5_3 | with_reducible exact at5_4 | with_reducible exact ix5_4 | with_reducible exact st5_4 | with_reducible exact ixt2_0 | with_reducible exact ixt2_1 | with_reducible apply get_s | with_reducible apply set_z | with_reducible apply set_s | with_reducible apply put_s | with_reducible apply cell_s | with_reducible apply r_frz | with_reducible apply frz_own | with_reducible apply r_bin | with_reducible apply r_binR | with_reducible apply r_un | with_reducible apply r_opN | with_reducible apply r_opNF | with_reducible apply r_cons | with_reducible apply r_gD | with_reducible apply r_gR | with_reducible apply r_if | with_reducible apply cif_t | with_reducible apply cif_f | with_reducible apply r_tb | with_reducible apply r_tru | with_reducible apply r_not | with_reducible apply r_notV | with_reducible apply r_and | with_reducible apply cand_t | with_reducible apply r_or | with_reducible apply cor_f | with_reducible apply r_andV | with_reducible apply candV_t | with_reducible apply r_orV | with_reducible apply corV_f | with_reducible apply r_ixC | with_reducible apply r_opC | with_reducible apply r_binC | with_reducible apply r_seq | with_reducible apply cseq_nx | with_reducible apply r_drop | with_reducible apply r_ret | with_reducible apply r_ifS | with_reducible apply r_set | with_reducible apply r_setC | with_reducible apply r_append | with_reducible apply r_popAt | with_reducible apply r_alt | with_reducible apply r_asg | with_reducible apply rt_name | with_reducible apply rt_cons | with_reducible apply rt_tup | with_reducible apply r_rcons | with_reducible apply sa_cons | with_reducible apply r_par | with_reducible apply r_gad | with_reducible apply r_gal | with_reducible apply r_slScr | with_reducible apply r_part | with_reducible apply le_d | with_reducible apply le_l | with_reducible apply ln_d | with_reducible apply so_d | with_reducible apply so_l | with_reducible apply bk_d | with_reducible apply bk_par | with_reducible apply r_call | with_reducible apply re_s | with_reducible apply r_def1 | with_reducible apply r_def2 | with_reducible apply r_def3 | with_reducible apply r_it | with_reducible apply ls_s | with_reducible apply wp_1 | with_reducible apply md_1 | with_reducible apply r_rng1 | with_reducible apply r_rng2 | with_reducible apply r_for | with_reducible apply r_lc)
  have z2 : dEq (.int (x : Int)) (.int 1) = some (.bl false) := eq_f (by omega)
  obtain ⟨h2, y, t2, o2, l2, e2⟩ := draw_eq h1 (N + 1) 24 o1 (by decide) (by decide +kernel)
  have e2 : g_law_draw [.par h1.c, .sh (.int 24)] = some (.v (.int (y : Int)), [.par h2.c, t2]) := e2
  have w1 : -(2 ^ 62) ≤ (y : Int) ∧ (y : Int) < 2 ^ 62 := by omega
  have ly : (rngD 0 (y : Int)).length = y := by rw [rngD_len]; omega
  have b24 : 11 ^ y ≤ 11 ^ 24 := Nat.pow_le_pow_right (by decide) (by omega)
  have b25 : (11 : Nat) ^ 24 < 10 ^ 33 := by decide
  have b26 : (10 : Nat) ^ 33 < 2 ^ 200 := by decide
  obtain ⟨h3, g, u, o3, l3, e3⟩ := num_loop (gtName 3) (gSet 2 (gBinR dMulR (gFrz 2) (gD (gCall g_law_some (gaL 0 (gaD (gD (gOpNF fLst (gCons (gC (.int 2)) (gCons (gC (.int 2)) (gCons (gC (.int 3)) (gCons (gC (.int 3)) (gCons (gC (.int 5)) (gCons (gC (.int 7)) (gCons (gC (.int 11)) gNil))))))))) gaNil))))))
    (fun d a b c t ht => by repeat' (first | with_reducible assumption | with_reducible exact r_c | with_reducible exact get_z | with_reducible exact free_un | with_reducible exact free_sh | with_reducible exact free_own | with_reducible exact slot_rv | with_reducible exact slot_rf | with_reducible exact put_own | with_reducible exact put_par | with_reducible exact cell_own | with_reducible exact cell_par | with_reducible exact frz_sh | with_reducible exact r_nil | with_reducible exact rd_v | with_reducible exact rd_f | with_reducible exact tru_bl | with_reducible exact not_t | with_reducible exact not_f | with_reducible exact cand_f | with_reducible exact cor_t | with_reducible exact candV_f | with_reducible exact corV_t | with_reducible exact flat_int | with_reducible exact flat_bl | with_reducible exact r_skip | with_reducible exact cseq_rt | with_reducible exact rt_nil | with_reducible exact r_rnil | with_reducible exact sa_nil | with_reducible exact r_ganil | with_reducible exact ls_own | with_reducible exact ls_par | with_reducible exact ls_scr | with_reducible exact le_nil | with_reducible exact ln_nil | with_reducible exact so_nil | with_reducible exact sl_own | with_reducible exact sl_par | with_reducible exact sl_scr | with_reducible exact bk_nil | with_reducible exact it_l | with_reducible exact it_t | with_reducible exact ls_z | with_reducible exact kp_un | with_reducible exact kp_sh | with_reducible exact kp_own | with_reducible exact re_z | with_reducible exact fLst_0 | with_reducible exact fLst_1 | with_reducible exact fLst_2 | with_reducible exact fLst_3 | with_reducible exact fLst_4 | with_reducible exact fLst_5 | with_reducible exact dIsNot_tt | with_reducible exact r_nopart | with_reducible exact fInt_i | with_reducible exact fLen_l | with_reducible exact fLen_t | with_reducible exact fTupOf_l | with_reducible exact fTupOf_t | with_reducible exact fLstOf_l | with_reducible exact fLstOf_t | with_reducible exact fTup_1 | with_reducible exact fTup_2 | with_reducible exact fTup_3 | with_reducible exact dAddR_nn | with_reducible exact at5_0 | with_reducible exact ix5_0 | with_reducible exact st5_0 | with_reducible exact at5_1 | with_reducible exact ix5_1 | with_reducible exact st5_1 | with_reducible exact at5_2 | with_reducible exact ix5_2 | with_reducible exact st5_2 | with_reducible exact at5_3 | with_reducible exact ix5_3 | with_reducible exact st5_3 | with_reducible exact at5_4 | with_reducible exact ix5_4 | with_reducible exact st5_4 | with_reducible exact ixt2_0 | with_reducible exact ixt2_1 | with_reducible apply get_s | with_reducible apply set_z | with_reducible apply set_s | with_reducible apply put_s | with_reducible apply cell_s | with_reducible apply r_frz | with_reducible apply frz_own | with_reducible apply r_bin | with_reducible apply r_binR | with_reducible apply r_un | with_reducible apply r_opN | with_reducible apply r_opNF | with_reducible apply r_cons | with_reducible apply r_gD | with_reducible apply r_gR | with_reducible apply r_if | with_reducible apply cif_t | with_reducible apply cif_f | with_reducible apply r_tb | with_reducible apply r_tru | with_reducible apply r_not | with_reducible apply r_notV | with_reducible apply r_and | with_reducible apply cand_t | with_reducible apply r_or | with_reducible apply cor_f | with_reducible apply r_andV | with_reducible apply candV_t | with_reducible apply r_orV | with_reducible apply corV_f | with_reducible apply r_ixC | with_reducible apply r_opC | with_reducible apply r_binC | with_reducible apply r_seq | with_reducible apply cseq_nx | with_reducible apply r_drop | with_reducible apply r_ret | with_reducible apply r_ifS | with_reducible apply r_set | with_reducible apply r_setC | with_reducible apply r_append | with_reducible apply r_popAt | with_reducible apply r_alt | with_reducible apply r_asg | with_reducible apply rt_name | with_reducible apply rt_cons | with_reducible apply rt_tup | with_reducible apply r_rcons | with_reducible apply sa_cons | with_reducible apply r_par | with_reducible apply r_gad | with_reducible apply r_gal | with_reducible apply r_slScr | with_reducible apply r_part | with_reducible apply le_d | with_reducible apply le_l | with_reducible apply ln_d | with_reducible apply so_d | with_reducible apply so_l | with_reducible apply bk_d | with_reducible apply bk_par | with_reducible apply r_call | with_reducible apply re_s | with_reducible apply r_def1 | with_reducible apply r_def2 | with_reducible apply r_def3 | with_reducible apply r_it | with_reducible apply ls_s | with_reducible apply wp_1 | with_reducible apply md_1 | with_reducible apply r_rng1 | with_reducible apply r_rng2 | with_reducible apply r_for | with_reducible apply r_lc)) (fun h N f a d o hf => by
      obtain ⟨h', e, t, o', hm, e1⟩ := some_eq h N o [.int 2, .int 2, .int 3, .int 3, .int 5, .int 7, .int 11] (by decide) (by decide)
      obtain ⟨y, rfl, ly1, ly2⟩ : ∃ y : Nat, e = .int (y : Int) ∧ y ≤ 11 ∧ 0 < y := by
        simp only [List.mem_cons, List.not_mem_nil, or_false] at hm
        rcases hm with rfl | rfl | rfl | rfl | rfl | rfl | rfl
        · exact ⟨2, rfl, by decide, by decide⟩
        · exact ⟨2, rfl, by decide, by decide⟩
        · exact ⟨3, rfl, by decide, by decide⟩
        · exact ⟨3, rfl, by decide, by decide⟩
        · exact ⟨5, rfl, by decide, by decide⟩
        · exact ⟨7, rfl, by decide, by decide⟩
        · exact ⟨11, rfl, by decide, by decide⟩
      have m1 := dMulR_nn (a := f) (b := y) (.inr (.inl (by omega)))
      have fl : fLst [.int 2, .int 2, .int 3, .int 3, .int 5, .int 7, .int 11] = some [.int 2, .int 2, .int 3, .int 3, .int 5, .int 7, .int 11] := fLst_of (by decide)
      refine ⟨h', y, o', ly1, ly2, ?_⟩
      repeat' (first | with_reducible assumption | with_reducible exact r_c | with_reducible exact get_z | with_reducible exact free_un | with_reducible exact free_sh | with_reducible exact free_own | with_reducible exact slot_rv | with_reducible exact slot_rf | with_reducible exact put_own | with_reducible exact put_par | with_reducible exact cell_own | with_reducible exact cell_par | with_reducible exact frz_sh | with_reducible exact r_nil | with_reducible exact rd_v | with_reducible exact rd_f | with_reducible exact tru_bl | with_reducible exact not_t | with_reducible exact not_f | with_reducible exact cand_f | with_reducible exact cor_t | with_reducible exact candV_f | with_reducible exact corV_t | with_reducible exact flat_int | with_reducible exact flat_bl | with_reducible exact r_skip | with_reducible exact cseq_rt | with_reducible exact rt_nil | with_reducible exact r_rnil | with_reducible exact sa_nil | with_reducible exact r_ganil | with_reducible exact ls_own | with_reducible exact ls_par | with_reducible exact ls_scr | with_reducible exact le_nil | with_reducible exact ln_nil | with_reducible exact so_nil | with_reducible exact sl_own | with_reducible exact sl_par | with_reducible exact sl_scr | with_reducible exact bk_nil | with_reducible exact it_l | with_reducible exact it_t | with_reducible exact ls_z | with_reducible exact kp_un | with_reducible exact kp_sh | with_reducible exact kp_own | with_reducible exact re_z | with_reducible exact fLst_0 | with_reducible exact fLst_1 | with_reducible exact fLst_2 | with_reducible exact fLst_3 | with_reducible exact fLst_4 | with_reducible exact fLst_5 | with_reducible exact dIsNot_tt | with_reducible exact r_nopart | with_reducible exact fInt_i | with_reducible exact fLen_l | with_reducible exact fLen_t | with_reducible exact fTupOf_l | with_reducible exact fTupOf_t | with_reducible exact fLstOf_l | with_reducible exact fLstOf_t | with_reducible exact fTup_1 | with_reducible exact fTup_2 | with_reducible exact fTup_3 | with_reducible exact dAddR_nn | with_reducible exact at5_0 | with_reducible exact ix5_0 | with_reducible exact st5_0 | with_reducible exact at5_1 | with_reducible exact ix5_1 | with_reducible exact st5_1 | with_reducible exact at5_2 | with_reducible exact ix5_2 | with_reducible exact st5_2 | with_reducible exact at5_3 | with_reducible exact ix5_3 | with_reducible exact st5_3 | with_reducible exact at5_4 | with_reducible exact ix5_4 | with_reducible exact st5_4 | with_reducible exact ixt2_0 | with_reducible exact ixt2_1 | with_reducible apply get_s | with_reducible apply set_z | with_reducible apply set_s | with_reducible apply put_s | with_reducible apply cell_s | with_reducible apply r_frz | with_reducible apply frz_own | with_reducible apply r_bin | with_reducible apply r_binR | with_reducible apply r_un | with_reducible apply r_opN | with_reducible apply r_opNF | with_reducible apply r_cons | with_reducible apply r_gD | with_reducible apply r_gR | with_reducible apply r_if | with_reducible apply cif_t | with_reducible apply cif_f | with_reducible apply r_tb | with_reducible apply r_tru | with_reducible apply r_not | with_reducible apply r_notV | with_reducible apply r_and | with_reducible apply cand_t | with_reducible apply r_or | with_reducible apply cor_f | with_reducible apply r_andV | with_reducible apply candV_t | with_reducible apply r_orV | with_reducible apply corV_f | with_reducible apply r_ixC | with_reducible apply r_opC | with_reducible apply r_binC | with_reducible apply r_seq | with_reducible apply cseq_nx | with_reducible apply r_drop | with_reducible apply r_ret | with_reducible apply r_ifS | with_reducible apply r_set | with_reducible apply r_setC | with_reducible apply r_append | with_reducible apply r_popAt | with_reducible apply r_alt | with_reducible apply r_asg | with_reducible apply rt_name | with_reducible apply rt_cons | with_reducible apply rt_tup | with_reducible apply r_rcons | with_reducible apply sa_cons | with_reducible apply r_par | with_reducible apply r_gad | with_reducible apply r_gal | with_reducible apply r_slScr | with_reducible apply r_part | with_reducible apply le_d | with_reducible apply le_l | with_reducible apply ln_d | with_reducible apply so_d | with_reducible apply so_l | with_reducible apply bk_d | with_reducible apply bk_par | with_reducible apply r_call | with_reducible apply re_s | with_reducible apply r_def1 | with_reducible apply r_def2 | with_reducible apply r_def3 | with_reducible apply r_it | with_reducible apply ls_s | with_reducible apply wp_1 | with_reducible apply md_1 | with_reducible apply r_rng1 | with_reducible apply r_rng2 | with_reducible apply r_for | with_reducible apply r_lc)) (rngD 0 (y : Int)) h2 (N + 1 + 1) 1 (.int (x : Int)) .un rfl o2 (by rw [ly]; omega) (by decide)
  rw [ly] at o3 l3
  have e3 : forLoop (gtName 3) (gSet 2 (gBinR dMulR (gFrz 2) (gD (gCall g_law_some (gaL 0 (gaD (gD (gOpNF fLst (gCons (gC (.int 2)) (gCons (gC (.int 2)) (gCons (gC (.int 3)) (gCons (gC (.int 3)) (gCons (gC (.int 5)) (gCons (gC (.int 7)) (gCons (gC (.int 11)) gNil))))))))) gaNil)))))) (rngD 0 (y : Int)) [.par h2.c, .sh (.int (x : Int)), .sh (.int 1), .un] = some (.nx [.par h3.c, .sh (.int (x : Int)), .sh (.int g), u]) := e3
  refine ⟨h3, g, o3.mono (by omega), by omega, ?_⟩
  unfold g_law_number
  repeat' (first | with_reducible assumption | with_reducible exact r_c | with_reducible exact get_z | with_reducible exact free_un | with_reducible exact free_sh | with_reducible exact free_own | with_reducible exact slot_rv | with_reducible exact slot_rf | with_reducible exact put_own | with_reducible exact put_par | with_reducible exact cell_own | with_reducible exact cell_par | with_reducible exact frz_sh | with_reducible exact r_nil | with_reducible exact rd_v | with_reducible exact rd_f | with_reducible exact tru_bl | with_reducible exact not_t | with_reducible exact not_f | with_reducible exact cand_f | with_reducible exact cor_t | with_reducible exact candV_f | with_reducible exact corV_t | with_reducible exact flat_int | with_reducible exact flat_bl | with_reducible exact r_skip | with_reducible exact cseq_rt | with_reducible exact rt_nil | with_reducible exact r_rnil | with_reducible exact sa_nil | with_reducible exact r_ganil | with_reducible exact ls_own | with_reducible exact ls_par | with_reducible exact ls_scr | with_reducible exact le_nil | with_reducible exact ln_nil | with_reducible exact so_nil | with_reducible exact sl_own | with_reducible exact sl_par | with_reducible exact sl_scr | with_reducible exact bk_nil | with_reducible exact it_l | with_reducible exact it_t | with_reducible exact ls_z | with_reducible exact kp_un | with_reducible exact kp_sh | with_reducible exact kp_own | with_reducible exact re_z | with_reducible exact fLst_0 | with_reducible exact fLst_1 | with_reducible exact fLst_2 | with_reducible exact fLst_3 | with_reducible exact fLst_4 | with_reducible exact fLst_5 | with_reducible exact dIsNot_tt | with_reducible exact r_nopart | with_reducible exact fInt_i | with_reducible exact fLen_l | with_reducible exact fLen_t | with_reducible exact fTupOf_l | with_reducible exact fTupOf_t | with_reducible exact fLstOf_l | with_reducible exact fLstOf_t | with_reducible exact fTup_1 | with_reducible exact fTup_2 | with_reducible exact fTup_3 | with_reducible exact dAddR_nn | with_reducible exact at5_0 | with_reducible exact ix5_0 | with_reducible exact st5_0 | with_reducible exact at5_1 | with_reducible exact ix5_1 | with_reducible exact st5_1 | with_reducible exact at5_2 | with_reducible exact ix5_2 | with_reducible exact st5_2 | with_reducible exact at5_3 | with_reducible exact ix5_3 | with_reducible exact st5_3 | with_reducible exact at5_4 | with_reducible exact ix5_4 | with_reducible exact st5_4 | with_reducible exact ixt2_0 | with_reducible exact ixt2_1 | with_reducible apply get_s | with_reducible apply set_z | with_reducible apply set_s | with_reducible apply put_s | with_reducible apply cell_s | with_reducible apply r_frz | with_reducible apply frz_own | with_reducible apply r_bin | with_reducible apply r_binR | with_reducible apply r_un | with_reducible apply r_opN | with_reducible apply r_opNF | with_reducible apply r_cons | with_reducible apply r_gD | with_reducible apply r_gR | with_reducible apply r_if | with_reducible apply cif_t | with_reducible apply cif_f | with_reducible apply r_tb | with_reducible apply r_tru | with_reducible apply r_not | with_reducible apply r_notV | with_reducible apply r_and | with_reducible apply cand_t | with_reducible apply r_or | with_reducible apply cor_f | with_reducible apply r_andV | with_reducible apply candV_t | with_reducible apply r_orV | with_reducible apply corV_f | with_reducible apply r_ixC | with_reducible apply r_opC | with_reducible apply r_binC | with_reducible apply r_seq | with_reducible apply cseq_nx | with_reducible apply r_drop | with_reducible apply r_ret | with_reducible apply r_ifS | with_reducible apply r_set | with_reducible apply r_setC | with_reducible apply r_append | with_reducible apply r_popAt | with_reducible apply r_alt | with_reducible apply r_asg | with_reducible apply rt_name | with_reducible apply rt_cons | with_reducible apply rt_tup | with_reducible apply r_rcons | with_reducible apply sa_cons | with_reducible apply r_par | with_reducible apply r_gad | with_reducible apply r_gal | with_reducible apply r_slScr | with_reducible apply r_part | with_reducible apply le_d | with_reducible apply le_l | with_reducible apply ln_d | with_reducible apply so_d | with_reducible apply so_l | with_reducible apply bk_d | with_reducible apply bk_par | with_reducible apply r_call | with_reducible apply re_s | with_reducible apply r_def1 | with_reducible apply r_def2 | with_reducible apply r_def3 | with_reducible apply r_it | with_reducible apply ls_s | with_reducible apply wp_1 | with_reducible apply md_1 | with_reducible apply r_rng1 | with_reducible apply r_rng2 | with_reducible apply r_for | with_reducible apply r_lc)
theorem era_perm {β : Type} : ∀ (l : List β) (n : Nat) (h : n < l.length), (l[n] :: l.eraseIdx n).Perm l
  | x :: l, 0, _ => .refl _
  | x :: l, n + 1, h => (List.Perm.swap _ _ _).trans ((era_perm l n (Nat.lt_of_succ_lt_succ h)).cons x)
/-- a drawn ratio -/
structure Part (x : Nat × Nat) : Prop where
  p : 0 < x.2
  l1 : x.1 < 10 ^ 33
  l2 : x.2 ≤ 10 ^ 33
  c : low x.1 x.2 = x
theorem low_part {p q : Nat} (h : 0 < q) (h1 : p < 10 ^ 33) (h2 : q ≤ 10 ^ 33) : Part (low p q) := ⟨low_pos h, Nat.lt_of_le_of_lt low_le1 h1, Nat.le_trans low_le2 h2, low_idem h⟩
theorem part_eq (h : Hd) (N : Nat) (o : h.ok N) : ∃ (h' : Hd) (x : Nat × Nat), h'.ok (N + 54) ∧ Part x ∧ g_law_part [.par h.c] = some (.v (fr x), [.par h'.c]) := by
  obtain ⟨h1, n, o1, l1, e1⟩ := number_eq h N o
  obtain ⟨h2, m, o2, l2, e2⟩ := number_eq h1 (N + 27) o1
  have b : (10 : Nat) ^ 33 + 1 < 2 ^ 1900 := by decide
  obtain ⟨t, u, e3⟩ := law_low_eq n (1 + m) (by omega) (by omega)
  have q : dAddR (.int 1) (.int (m : Int)) = some (.v (.int ((1 + m : Nat) : Int))) := dAddR_nn (a := 1)
  refine ⟨h2, low n (1 + m), o2, low_part (by omega) l1 (by omega), ?_⟩
  unfold g_law_part
  repeat' (first | with_reducible assumption | with_reducible exact r_c | with_reducible exact get_z | with_reducible exact free_un | with_reducible exact free_sh | with_reducible exact free_own | with_reducible exact slot_rv | with_reducible exact slot_rf | with_reducible exact put_own | with_reducible exact put_par | with_reducible exact cell_own | with_reducible exact cell_par | with_reducible exact frz_sh | with_reducible exact r_nil | with_reducible exact rd_v | with_reducible exact rd_f | with_reducible exact tru_bl | with_reducible exact not_t | with_reducible exact not_f | with_reducible exact cand_f | with_reducible exact cor_t | with_reducible exact candV_f | with_reducible exact corV_t | with_reducible exact flat_int | with_reducible exact flat_bl | with_reducible exact r_skip | with_reducible exact cseq_rt | with_reducible exact rt_nil | with_reducible exact r_rnil | with_reducible exact sa_nil | with_reducible exact r_ganil | with_reducible exact ls_own | with_reducible exact ls_par | with_reducible exact ls_scr | with_reducible exact le_nil | with_reducible exact ln_nil | with_reducible exact so_nil | with_reducible exact sl_own | with_reducible exact sl_par | with_reducible exact sl_scr | with_reducible exact bk_nil | with_reducible exact it_l | with_reducible exact it_t | with_reducible exact ls_z | with_reducible exact kp_un | with_reducible exact kp_sh | with_reducible exact kp_own | with_reducible exact re_z | with_reducible exact fLst_0 | with_reducible exact fLst_1 | with_reducible exact fLst_2 | with_reducible exact fLst_3 | with_reducible exact fLst_4 | with_reducible exact fLst_5 | with_reducible exact dIsNot_tt | with_reducible exact r_nopart | with_reducible exact fInt_i | with_reducible exact fLen_l | with_reducible exact fLen_t | with_reducible exact fTupOf_l | with_reducible exact fTupOf_t | with_reducible exact fLstOf_l | with_reducible exact fLstOf_t | with_reducible exact fTup_1 | with_reducible exact fTup_2 | with_reducible exact fTup_3 | with_reducible exact dAddR_nn | with_reducible exact at5_0 | with_reducible exact ix5_0 | with_reducible exact st5_0 | with_reducible exact at5_1 | with_reducible exact ix5_1 | with_reducible exact st5_1 | with_reducible exact at5_2 | with_reducible exact ix5_2 | with_reducible exact st5_2 | with_reducible exact at5_3 | with_reducible exact ix5_3 | with_reducible exact st5_3 | with_reducible exact at5_4 | with_reducible exact ix5_4 | with_reducible exact st5_4 | with_reducible exact ixt2_0 | with_reducible exact ixt2_1 | with_reducible apply get_s | with_reducible apply set_z | with_reducible apply set_s | with_reducible apply put_s | with_reducible apply cell_s | with_reducible apply r_frz | with_reducible apply frz_own | with_reducible apply r_bin | with_reducible apply r_binR | with_reducible apply r_un | with_reducible apply r_opN | with_reducible apply r_opNF | with_reducible apply r_cons | with_reducible apply r_gD | with_reducible apply r_gR | with_reducible apply r_if | with_reducible apply cif_t | with_reducible apply cif_f | with_reducible apply r_tb | with_reducible apply r_tru | with_reducible apply r_not | with_reducible apply r_notV | with_reducible apply r_and | with_reducible apply cand_t | with_reducible apply r_or | with_reducible apply cor_f | with_reducible apply r_andV | with_reducible apply candV_t | with_reducible apply r_orV | with_reducible apply corV_f | with_reducible apply r_ixC | with_reducible apply r_opC | with_reducible apply r_binC | with_reducible apply r_seq | with_reducible apply cseq_nx | with_reducible apply r_drop | with_reducible apply r_ret | with_reducible apply r_ifS | with_reducible apply r_set | with_reducible apply r_setC | with_reducible apply r_append | with_reducible apply r_popAt | with_reducible apply r_alt | with_reducible apply r_asg | with_reducible apply rt_name | with_reducible apply rt_cons | with_reducible apply rt_tup | with_reducible apply r_rcons | with_reducible apply sa_cons | with_reducible apply r_par | with_reducible apply r_gad | with_reducible apply r_gal | with_reducible apply r_slScr | with_reducible apply r_part | with_reducible apply le_d | with_reducible apply le_l | with_reducible apply ln_d | with_reducible apply so_d | with_reducible apply so_l | with_reducible apply bk_d | with_reducible apply bk_par | with_reducible apply r_call | with_reducible apply re_s | with_reducible apply r_def1 | with_reducible apply r_def2 | with_reducible apply r_def3 | with_reducible apply r_it | with_reducible apply ls_s | with_reducible apply wp_1 | with_reducible apply md_1 | with_reducible apply r_rng1 | with_reducible apply r_rng2 | with_reducible apply r_for | with_reducible apply r_lc)
theorem mixed_loop (c : GB) (gb : GS) (hc : ∀ (a : S) (all : D) (left found : List D), D.okRs left = true → D.deps left ≤ 63 → c [a, .sh all, .own (.lst left), .own (.lst found)] = some (!left.isEmpty, [a, .sh all, .own (.lst left), .own (.lst found)]))
    (hb : ∀ (h : Hd) (N : Nat) (all : D) (left found : List D), h.ok N → 0 < left.length → left.length < 2 ^ 20 → found.length < 2 ^ 20 → ∃ (h' : Hd) (x : Nat) (d : D), h'.ok (N + 1) ∧ left[x]? = some d ∧ gb [.par h.c, .sh all, .own (.lst left), .own (.lst found)] = some (.nx [.par h'.c, .sh all, .own (.lst (left.eraseIdx x)), .own (.lst (found ++ [d]))])) :
    ∀ (n m : Nat) (left found : List D) (h : Hd) (N : Nat) (all : D), left.length = n → n < m → (∀ d ∈ left, d.okR = true ∧ d.dep ≤ 63) → h.ok N → left.length + found.length < 2 ^ 20 → ∃ (h' : Hd) (fs : List D), h'.ok (N + n) ∧ fs.Perm (found ++ left) ∧ whLoop c gb m [.par h.c, .sh all, .own (.lst left), .own (.lst found)] = some (.nx [.par h'.c, .sh all, .own (.lst []), .own (.lst fs)]) := by
  intro n
  induction n with
  | zero =>
    intro m left found h N all hl hm hk o hz
    obtain ⟨m, rfl⟩ : ∃ k, m = k + 1 := ⟨m - 1, by omega⟩
    have : left = [] := List.eq_nil_of_length_eq_zero hl
    subst this
    refine ⟨h, found, o, by rw [List.append_nil], ?_⟩
    rw [whLoop_succ, hc _ _ _ _ rfl (by decide)]
    rfl
  | succ n ih =>
    intro m left found h N all hl hm hk o hz
    obtain ⟨m, rfl⟩ : ∃ k, m = k + 1 := ⟨m - 1, by omega⟩
    obtain ⟨h1, x, d, o1, ex, e1⟩ := hb h N all left found o (by omega) (by omega) (by omega)
    have lx : x < left.length := by
      by_cases q : x < left.length
      · exact q
      · rw [List.getElem?_eq_none (by omega)] at ex
        cases ex
    obtain ⟨h2, fs, o2, pm, e2⟩ := ih m (left.eraseIdx x) (found ++ [d]) h1 (N + 1) all (by rw [List.length_eraseIdx, if_pos lx]; omega) (by omega) (fun y hy => hk y (List.mem_of_mem_eraseIdx hy)) o1 (by
      rw [List.length_eraseIdx, if_pos lx, List.length_append, List.length_singleton]; omega)
    refine ⟨h2, fs, o2.mono (by omega), pm.trans ?_, ?_⟩
    · rw [List.append_assoc]
      refine List.Perm.append_left _ ?_
      have : d = left[x] := by
        rw [List.getElem?_eq_getElem lx] at ex
        exact (Option.some.inj ex).symm
      rw [this]
      exact era_perm left x lx
    · have ne : left.isEmpty = false := by
        cases left with
        | nil => cases hl
        | cons _ _ => rfl
      rw [whLoop_succ, hc _ _ _ _ (okRs_all fun d hd => (hk d hd).1) (deps_le fun d hd => (hk d hd).2), ne]
      simp only [Bool.not_false, e1]
      exact e2
theorem mixed_eq (h : Hd) (N : Nat) (o : h.ok N) (ds : List D) (hd : ∀ d ∈ ds, d.okR = true ∧ d.dep ≤ 63) (hl : ds.length < 900) : ∃ (h' : Hd) (fs : List D) (t : S), h'.ok (N + ds.length) ∧ fs.Perm ds ∧ g_law_mixed [.par h.c, .sh (.lst ds)] = some (.v (.lst fs), [.par h'.c, t]) := by
  obtain ⟨h1, fs, o1, pm, e1⟩ := mixed_loop (gAlt (gTB (gBinC dNe 2 (gD (gOpNF fLst gNil)))) (gTB (gBin dNe (gFrz 2) (gD (gOpNF fLst gNil))))) (gDrop (gAppend 3 (gPopAt 2 (gD (gCall g_law_draw (gaL 0 (gaD (gAlt (gOpC fLen 2) (gOpN fLen (gCons (gFrz 2) gNil))) gaNil)))))))
    (fun a all left found hk hp => by
      have z := ne_nil hk hp
      have fl : fLst [] = some [] := rfl
      repeat' (first | with_reducible assumption | with_reducible exact r_c | with_reducible exact get_z | with_reducible exact free_un | with_reducible exact free_sh | with_reducible exact free_own | with_reducible exact slot_rv | with_reducible exact slot_rf | with_reducible exact put_own | with_reducible exact put_par | with_reducible exact cell_own | with_reducible exact cell_par | with_reducible exact frz_sh | with_reducible exact r_nil | with_reducible exact rd_v | with_reducible exact rd_f | with_reducible exact tru_bl | with_reducible exact not_t | with_reducible exact not_f | with_reducible exact cand_f | with_reducible exact cor_t | with_reducible exact candV_f | with_reducible exact corV_t | with_reducible exact flat_int | with_reducible exact flat_bl | with_reducible exact r_skip | with_reducible exact cseq_rt | with_reducible exact rt_nil | with_reducible exact r_rnil | with_reducible exact sa_nil | with_reducible exact r_ganil | with_reducible exact ls_own | with_reducible exact ls_par | with_reducible exact ls_scr | with_reducible exact le_nil | with_reducible exact ln_nil | with_reducible exact so_nil | with_reducible exact sl_own | with_reducible exact sl_par | with_reducible exact sl_scr | with_reducible exact bk_nil | with_reducible exact it_l | with_reducible exact it_t | with_reducible exact ls_z | with_reducible exact kp_un | with_reducible exact kp_sh | with_reducible exact kp_own | with_reducible exact re_z | with_reducible exact fLst_0 | with_reducible exact fLst_1 | with_reducible exact fLst_2 | with_reducible exact fLst_3 | with_reducible exact fLst_4 | with_reducible exact fLst_5 | with_reducible exact dIsNot_tt | with_reducible exact r_nopart | with_reducible exact fInt_i | with_reducible exact fLen_l | with_reducible exact fLen_t | with_reducible exact fTupOf_l | with_reducible exact fTupOf_t | with_reducible exact fLstOf_l | with_reducible exact fLstOf_t | with_reducible exact fTup_1 | with_reducible exact fTup_2 | with_reducible exact fTup_3 | with_reducible exact dAddR_nn | with_reducible exact at5_0 | with_reducible exact ix5_0 | with_reducible exact st5_0 | with_reducible exact at5_1 | with_reducible exact ix5_1 | with_reducible exact st5_1 | with_reducible exact at5_2 | with_reducible exact ix5_2 | with_reducible exact st5_2 | with_reducible exact at5_3 | with_reducible exact ix5_3 | with_reducible exact st5_3 | with_reducible exact at5_4 | with_reducible exact ix5_4 | with_reducible exact st5_4 | with_reducible exact ixt2_0 | with_reducible exact ixt2_1 | with_reducible apply get_s | with_reducible apply set_z | with_reducible apply set_s | with_reducible apply put_s | with_reducible apply cell_s | with_reducible apply r_frz | with_reducible apply frz_own | with_reducible apply r_bin | with_reducible apply r_binR | with_reducible apply r_un | with_reducible apply r_opN | with_reducible apply r_opNF | with_reducible apply r_cons | with_reducible apply r_gD | with_reducible apply r_gR | with_reducible apply r_if | with_reducible apply cif_t | with_reducible apply cif_f | with_reducible apply r_tb | with_reducible apply r_tru | with_reducible apply r_not | with_reducible apply r_notV | with_reducible apply r_and | with_reducible apply cand_t | with_reducible apply r_or | with_reducible apply cor_f | with_reducible apply r_andV | with_reducible apply candV_t | with_reducible apply r_orV | with_reducible apply corV_f | with_reducible apply r_ixC | with_reducible apply r_opC | with_reducible apply r_binC | with_reducible apply r_seq | with_reducible apply cseq_nx | with_reducible apply r_drop | with_reducible apply r_ret | with_reducible apply r_ifS | with_reducible apply r_set | with_reducible apply r_setC | with_reducible apply r_append | with_reducible apply r_popAt | with_reducible apply r_alt | with_reducible apply r_asg | with_reducible apply rt_name | with_reducible apply rt_cons | with_reducible apply rt_tup | with_reducible apply r_rcons | with_reducible apply sa_cons | with_reducible apply r_par | with_reducible apply r_gad | with_reducible apply r_gal | with_reducible apply r_slScr | with_reducible apply r_part | with_reducible apply le_d | with_reducible apply le_l | with_reducible apply ln_d | with_reducible apply so_d | with_reducible apply so_l | with_reducible apply bk_d | with_reducible apply bk_par | with_reducible apply r_call | with_reducible apply re_s | with_reducible apply r_def1 | with_reducible apply r_def2 | with_reducible apply r_def3 | with_reducible apply r_it | with_reducible apply ls_s | with_reducible apply wp_1 | with_reducible apply md_1 | with_reducible apply r_rng1 | with_reducible apply r_rng2 | with_reducible apply r_for | with_reducible apply r_lc)) (fun h N all left found o hp h1 h2 => by
      obtain ⟨h', x, t, o', lx, e⟩ := draw_eq h N left.length o hp (small_log h1 (by decide) (by decide))
      have q1 : -(2 ^ 63) ≤ (x : Int) ∧ (x : Int) < 2 ^ 63 := by omega
      have q2 : seqIndex? (x : Int) left.length = some x := (ixN_seq (ixN_nat lx)).1
      have q3 : left[x]? = some left[x] := List.getElem?_eq_getElem lx
      have q4 : found.length < line := by show _ < 16777216; omega
      refine ⟨h', x, left[x], o', q3, ?_⟩
      repeat' (first | with_reducible assumption | with_reducible exact r_c | with_reducible exact get_z | with_reducible exact free_un | with_reducible exact free_sh | with_reducible exact free_own | with_reducible exact slot_rv | with_reducible exact slot_rf | with_reducible exact put_own | with_reducible exact put_par | with_reducible exact cell_own | with_reducible exact cell_par | with_reducible exact frz_sh | with_reducible exact r_nil | with_reducible exact rd_v | with_reducible exact rd_f | with_reducible exact tru_bl | with_reducible exact not_t | with_reducible exact not_f | with_reducible exact cand_f | with_reducible exact cor_t | with_reducible exact candV_f | with_reducible exact corV_t | with_reducible exact flat_int | with_reducible exact flat_bl | with_reducible exact r_skip | with_reducible exact cseq_rt | with_reducible exact rt_nil | with_reducible exact r_rnil | with_reducible exact sa_nil | with_reducible exact r_ganil | with_reducible exact ls_own | with_reducible exact ls_par | with_reducible exact ls_scr | with_reducible exact le_nil | with_reducible exact ln_nil | with_reducible exact so_nil | with_reducible exact sl_own | with_reducible exact sl_par | with_reducible exact sl_scr | with_reducible exact bk_nil | with_reducible exact it_l | with_reducible exact it_t | with_reducible exact ls_z | with_reducible exact kp_un | with_reducible exact kp_sh | with_reducible exact kp_own | with_reducible exact re_z | with_reducible exact fLst_0 | with_reducible exact fLst_1 | with_reducible exact fLst_2 | with_reducible exact fLst_3 | with_reducible exact fLst_4 | with_reducible exact fLst_5 | with_reducible exact dIsNot_tt | with_reducible exact r_nopart | with_reducible exact fInt_i | with_reducible exact fLen_l | with_reducible exact fLen_t | with_reducible exact fTupOf_l | with_reducible exact fTupOf_t | with_reducible exact fLstOf_l | with_reducible exact fLstOf_t | with_reducible exact fTup_1 | with_reducible exact fTup_2 | with_reducible exact fTup_3 | with_reducible exact dAddR_nn | with_reducible exact at5_0 | with_reducible exact ix5_0 | with_reducible exact st5_0 | with_reducible exact at5_1 | with_reducible exact ix5_1 | with_reducible exact st5_1 | with_reducible exact at5_2 | with_reducible exact ix5_2 | with_reducible exact st5_2 | with_reducible exact at5_3 | with_reducible exact ix5_3 | with_reducible exact st5_3 | with_reducible exact at5_4 | with_reducible exact ix5_4 | with_reducible exact st5_4 | with_reducible exact ixt2_0 | with_reducible exact ixt2_1 | with_reducible apply get_s | with_reducible apply set_z | with_reducible apply set_s | with_reducible apply put_s | with_reducible apply cell_s | with_reducible apply r_frz | with_reducible apply frz_own | with_reducible apply r_bin | with_reducible apply r_binR | with_reducible apply r_un | with_reducible apply r_opN | with_reducible apply r_opNF | with_reducible apply r_cons | with_reducible apply r_gD | with_reducible apply r_gR | with_reducible apply r_if | with_reducible apply cif_t | with_reducible apply cif_f | with_reducible apply r_tb | with_reducible apply r_tru | with_reducible apply r_not | with_reducible apply r_notV | with_reducible apply r_and | with_reducible apply cand_t | with_reducible apply r_or | with_reducible apply cor_f | with_reducible apply r_andV | with_reducible apply candV_t | with_reducible apply r_orV | with_reducible apply corV_f | with_reducible apply r_ixC | with_reducible apply r_opC | with_reducible apply r_binC | with_reducible apply r_seq | with_reducible apply cseq_nx | with_reducible apply r_drop | with_reducible apply r_ret | with_reducible apply r_ifS | with_reducible apply r_set | with_reducible apply r_setC | with_reducible apply r_append | with_reducible apply r_popAt | with_reducible apply r_alt | with_reducible apply r_asg | with_reducible apply rt_name | with_reducible apply rt_cons | with_reducible apply rt_tup | with_reducible apply r_rcons | with_reducible apply sa_cons | with_reducible apply r_par | with_reducible apply r_gad | with_reducible apply r_gal | with_reducible apply r_slScr | with_reducible apply r_part | with_reducible apply le_d | with_reducible apply le_l | with_reducible apply ln_d | with_reducible apply so_d | with_reducible apply so_l | with_reducible apply bk_d | with_reducible apply bk_par | with_reducible apply r_call | with_reducible apply re_s | with_reducible apply r_def1 | with_reducible apply r_def2 | with_reducible apply r_def3 | with_reducible apply r_it | with_reducible apply ls_s | with_reducible apply wp_1 | with_reducible apply md_1 | with_reducible apply r_rng1 | with_reducible apply r_rng2 | with_reducible apply r_for | with_reducible apply r_lc)) ds.length 1000 ds [] h N (.lst ds) rfl (by omega) hd o (by simp; omega)
  have sp : setAll [2, 3] [.fl ds, .fl []] [.par h.c, .sh (.lst ds), .un, .un] = some [.par h.c, .sh (.lst ds), .own (.lst ds), .own (.lst [])] := rfl
  have fl : fLst [] = some [] := rfl
  refine ⟨h1, fs, .sh (.lst ds), o1, pm, ?_⟩
  unfold g_law_mixed
  repeat' (first | with_reducible assumption | exact r_while e1 | with_reducible exact r_c | with_reducible exact get_z | with_reducible exact free_un | with_reducible exact free_sh | with_reducible exact free_own | with_reducible exact slot_rv | with_reducible exact slot_rf | with_reducible exact put_own | with_reducible exact put_par | with_reducible exact cell_own | with_reducible exact cell_par | with_reducible exact frz_sh | with_reducible exact r_nil | with_reducible exact rd_v | with_reducible exact rd_f | with_reducible exact tru_bl | with_reducible exact not_t | with_reducible exact not_f | with_reducible exact cand_f | with_reducible exact cor_t | with_reducible exact candV_f | with_reducible exact corV_t | with_reducible exact flat_int | with_reducible exact flat_bl | with_reducible exact r_skip | with_reducible exact cseq_rt | with_reducible exact rt_nil | with_reducible exact r_rnil | with_reducible exact sa_nil | with_reducible exact r_ganil | with_reducible exact ls_own | with_reducible exact ls_par | with_reducible exact ls_scr | with_reducible exact le_nil | with_reducible exact ln_nil | with_reducible exact so_nil | with_reducible exact sl_own | with_reducible exact sl_par | with_reducible exact sl_scr | with_reducible exact bk_nil | with_reducible exact it_l | with_reducible exact it_t | with_reducible exact ls_z | with_reducible exact kp_un | with_reducible exact kp_sh | with_reducible exact kp_own | with_reducible exact re_z | with_reducible exact fLst_0 | with_reducible exact fLst_1 | with_reducible exact fLst_2 | with_reducible exact fLst_3 | with_reducible exact fLst_4 | with_reducible exact fLst_5 | with_reducible exact dIsNot_tt | with_reducible exact r_nopart | with_reducible exact fInt_i | with_reducible exact fLen_l | with_reducible exact fLen_t | with_reducible exact fTupOf_l | with_reducible exact fTupOf_t | with_reducible exact fLstOf_l | with_reducible exact fLstOf_t | with_reducible exact fTup_1 | with_reducible exact fTup_2 | with_reducible exact fTup_3 | with_reducible exact dAddR_nn | with_reducible exact at5_0 | with_reducible exact ix5_0 | with_reducible exact st5_0 | with_reducible exact at5_1 | with_reducible exact ix5_1 | with_reducible exact st5_1 | with_reducible exact at5_2 | with_reducible exact ix5_2 | with_reducible exact st5_2 | with_reducible exact at5_3 | with_reducible exact ix5_3 | with_reducible exact st5_3 | with_reducible exact at5_4 | with_reducible exact ix5_4 | with_reducible exact st5_4 | with_reducible exact ixt2_0 | with_reducible exact ixt2_1 | with_reducible apply get_s | with_reducible apply set_z | with_reducible apply set_s | with_reducible apply put_s | with_reducible apply cell_s | with_reducible apply r_frz | with_reducible apply frz_own | with_reducible apply r_bin | with_reducible apply r_binR | with_reducible apply r_un | with_reducible apply r_opN | with_reducible apply r_opNF | with_reducible apply r_cons | with_reducible apply r_gD | with_reducible apply r_gR | with_reducible apply r_if | with_reducible apply cif_t | with_reducible apply cif_f | with_reducible apply r_tb | with_reducible apply r_tru | with_reducible apply r_not | with_reducible apply r_notV | with_reducible apply r_and | with_reducible apply cand_t | with_reducible apply r_or | with_reducible apply cor_f | with_reducible apply r_andV | with_reducible apply candV_t | with_reducible apply r_orV | with_reducible apply corV_f | with_reducible apply r_ixC | with_reducible apply r_opC | with_reducible apply r_binC | with_reducible apply r_seq | with_reducible apply cseq_nx | with_reducible apply r_drop | with_reducible apply r_ret | with_reducible apply r_ifS | with_reducible apply r_set | with_reducible apply r_setC | with_reducible apply r_append | with_reducible apply r_popAt | with_reducible apply r_alt | with_reducible apply r_asg | with_reducible apply rt_name | with_reducible apply rt_cons | with_reducible apply rt_tup | with_reducible apply r_rcons | with_reducible apply sa_cons | with_reducible apply r_par | with_reducible apply r_gad | with_reducible apply r_gal | with_reducible apply r_slScr | with_reducible apply r_part | with_reducible apply le_d | with_reducible apply le_l | with_reducible apply ln_d | with_reducible apply so_d | with_reducible apply so_l | with_reducible apply bk_d | with_reducible apply bk_par | with_reducible apply r_call | with_reducible apply re_s | with_reducible apply r_def1 | with_reducible apply r_def2 | with_reducible apply r_def3 | with_reducible apply r_it | with_reducible apply ls_s | with_reducible apply wp_1 | with_reducible apply md_1 | with_reducible apply r_rng1 | with_reducible apply r_rng2 | with_reducible apply r_for | with_reducible apply r_lc)
end K07
set_option Elab.async false
set_option linter.all false
set_option maxRecDepth 100000
set_option exponentiation.threshold 20000
/-! K07e: is_ratio. -/
namespace K07
open PySem PySem.Spec PyProof.Rows L2 TL
theorem isi_ii : fIsi [.int a, .ty "int"] = some (.bl true) := rfl
theorem isi_ib : fIsi [.int a, .ty "bool"] = some (.bl false) := rfl
theorem isi_tt : fIsi [.tup ds, .ty "tuple"] = some (.bl true) := rfl
theorem ge_t {a b : Int} (h : b ≤ a) : dGe (.int a) (.int b) = some (.bl true) := by rw [dGe_ii, decide_eq_true h]
theorem ge_f {a b : Int} (h : ¬ b ≤ a) : dGe (.int a) (.int b) = some (.bl false) := by rw [dGe_ii, decide_eq_false h]
theorem gt_t {a b : Int} (h : b < a) : dGt (.int a) (.int b) = some (.bl true) := by rw [dGt_ii, decide_eq_true h]
theorem gt_f {a b : Int} (h : ¬ b < a) : dGt (.int a) (.int b) = some (.bl false) := by rw [dGt_ii, decide_eq_false h]
theorem lt_t {a b : Int} (h : a < b) : dLt (.int a) (.int b) = some (.bl true) := by rw [dLt_ii, decide_eq_true h]
theorem lt_f {a b : Int} (h : ¬ a < b) : dLt (.int a) (.int b) = some (.bl false) := by rw [dLt_ii, decide_eq_false h]
theorem is_int (a : Int) : g_is_integer [.sh (.int a)] = some (.v (.bl true), [.sh (.int a)]) := by
  unfold g_is_integer
  repeat' (first | with_reducible assumption | exact isi_ii | exact isi_ib | with_reducible exact r_c | with_reducible exact get_z | with_reducible exact free_un | with_reducible exact free_sh | with_reducible exact free_own | with_reducible exact slot_rv | with_reducible exact slot_rf | with_reducible exact put_own | with_reducible exact put_par | with_reducible exact cell_own | with_reducible exact cell_par | with_reducible exact frz_sh | with_reducible exact r_nil | with_reducible exact rd_v | with_reducible exact rd_f | with_reducible exact tru_bl | with_reducible exact not_t | with_reducible exact not_f | with_reducible exact cand_f | with_reducible exact cor_t | with_reducible exact candV_f | with_reducible exact corV_t | with_reducible exact flat_int | with_reducible exact flat_bl | with_reducible exact r_skip | with_reducible exact cseq_rt | with_reducible exact rt_nil | with_reducible exact r_rnil | with_reducible exact sa_nil | with_reducible exact r_ganil | with_reducible exact ls_own | with_reducible exact ls_par | with_reducible exact ls_scr | with_reducible exact le_nil | with_reducible exact ln_nil | with_reducible exact so_nil | with_reducible exact sl_own | with_reducible exact sl_par | with_reducible exact sl_scr | with_reducible exact bk_nil | with_reducible exact it_l | with_reducible exact it_t | with_reducible exact ls_z | with_reducible exact kp_un | with_reducible exact kp_sh | with_reducible exact kp_own | with_reducible exact re_z | with_reducible exact fLst_0 | with_reducible exact fLst_1 | with_reducible exact fLst_2 | with_reducible exact fLst_3 | with_reducible exact fLst_4 | with_reducible exact fLst_5 | with_reducible exact dIsNot_tt | with_reducible exact r_nopart | with_reducible exact fInt_i | with_reducible exact fLen_l | with_reducible exact fLen_t | with_reducible exact fTupOf_l | with_reducible exact fTupOf_t | with_reducible exact fLstOf_l | with_reducible exact fLstOf_t | with_reducible exact fTup_1 | with_reducible exact fTup_2 | with_reducible exact fTup_3 | with_reducible exact dAddR_nn | with_reducible exact at5_0 | with_reducible exact ix5_0 | with_reducible exact st5_0 | with_reducible exact at5_1 | with_reducible exact ix5_1 | with_reducible exact st5_1 | with_reducible exact at5_2 | with_reducible exact ix5_2 | with_reducible exact st5_2 | with_reducible exact at5_3 | with_reducible exact ix5_3 | with_reducible exact st5_3 | with_reducible exact at5_4 | with_reducible exact ix5_4 | with_reducible exact st5_4 | with_reducible exact ixt2_0 | with_reducible exact ixt2_1 | with_reducible apply get_s | with_reducible apply set_z | with_reducible apply set_s | with_reducible apply put_s | with_reducible apply cell_s | with_reducible apply r_frz | with_reducible apply frz_own | with_reducible apply r_bin | with_reducible apply r_binR | with_reducible apply r_un | with_reducible apply r_opN | with_reducible apply r_opNF | with_reducible apply r_cons | with_reducible apply r_gD | with_reducible apply r_gR | with_reducible apply r_if | with_reducible apply cif_t | with_reducible apply cif_f | with_reducible apply r_tb | with_reducible apply r_tru | with_reducible apply r_not | with_reducible apply r_notV | with_reducible apply r_and | with_reducible apply cand_t | with_reducible apply r_or | with_reducible apply cor_f | with_reducible apply r_andV | with_reducible apply candV_t | with_reducible apply r_orV | with_reducible apply corV_f | with_reducible apply r_ixC | with_reducible apply r_opC | with_reducible apply r_binC | with_reducible apply r_seq | with_reducible apply cseq_nx | with_reducible apply r_drop | with_reducible apply r_ret | with_reducible apply r_ifS | with_reducible apply r_set | with_reducible apply r_setC | with_reducible apply r_append | with_reducible apply r_popAt | with_reducible apply r_alt | with_reducible apply r_asg | with_reducible apply rt_name | with_reducible apply rt_cons | with_reducible apply rt_tup | with_reducible apply r_rcons | with_reducible apply sa_cons | with_reducible apply r_par | with_reducible apply r_gad | with_reducible apply r_gal | with_reducible apply r_slScr | with_reducible apply r_part | with_reducible apply le_d | with_reducible apply le_l | with_reducible apply ln_d | with_reducible apply so_d | with_reducible apply so_l | with_reducible apply bk_d | with_reducible apply bk_par | with_reducible apply r_call | with_reducible apply re_s | with_reducible apply r_def1 | with_reducible apply r_def2 | with_reducible apply r_def3 | with_reducible apply r_it | with_reducible apply ls_s | with_reducible apply wp_1 | with_reducible apply md_1 | with_reducible apply r_rng1 | with_reducible apply r_rng2 | with_reducible apply r_for | with_reducible apply r_lc)
theorem is_two (a b : D) : g_is_tuple_of [.sh (.tup [a, b]), .sh (.int 2)] = some (.v (.bl true), [.sh (.tup [a, b]), .sh (.int 2)]) := by
  have e : dEq (.int ([a, b].length : Int)) (.int 2) = some (.bl true) := rfl
  unfold g_is_tuple_of
  repeat' (first | with_reducible assumption | exact isi_tt | with_reducible exact r_c | with_reducible exact get_z | with_reducible exact free_un | with_reducible exact free_sh | with_reducible exact free_own | with_reducible exact slot_rv | with_reducible exact slot_rf | with_reducible exact put_own | with_reducible exact put_par | with_reducible exact cell_own | with_reducible exact cell_par | with_reducible exact frz_sh | with_reducible exact r_nil | with_reducible exact rd_v | with_reducible exact rd_f | with_reducible exact tru_bl | with_reducible exact not_t | with_reducible exact not_f | with_reducible exact cand_f | with_reducible exact cor_t | with_reducible exact candV_f | with_reducible exact corV_t | with_reducible exact flat_int | with_reducible exact flat_bl | with_reducible exact r_skip | with_reducible exact cseq_rt | with_reducible exact rt_nil | with_reducible exact r_rnil | with_reducible exact sa_nil | with_reducible exact r_ganil | with_reducible exact ls_own | with_reducible exact ls_par | with_reducible exact ls_scr | with_reducible exact le_nil | with_reducible exact ln_nil | with_reducible exact so_nil | with_reducible exact sl_own | with_reducible exact sl_par | with_reducible exact sl_scr | with_reducible exact bk_nil | with_reducible exact it_l | with_reducible exact it_t | with_reducible exact ls_z | with_reducible exact kp_un | with_reducible exact kp_sh | with_reducible exact kp_own | with_reducible exact re_z | with_reducible exact fLst_0 | with_reducible exact fLst_1 | with_reducible exact fLst_2 | with_reducible exact fLst_3 | with_reducible exact fLst_4 | with_reducible exact fLst_5 | with_reducible exact dIsNot_tt | with_reducible exact r_nopart | with_reducible exact fInt_i | with_reducible exact fLen_l | with_reducible exact fLen_t | with_reducible exact fTupOf_l | with_reducible exact fTupOf_t | with_reducible exact fLstOf_l | with_reducible exact fLstOf_t | with_reducible exact fTup_1 | with_reducible exact fTup_2 | with_reducible exact fTup_3 | with_reducible exact dAddR_nn | with_reducible exact at5_0 | with_reducible exact ix5_0 | with_reducible exact st5_0 | with_reducible exact at5_1 | with_reducible exact ix5_1 | with_reducible exact st5_1 | with_reducible exact at5_2 | with_reducible exact ix5_2 | with_reducible exact st5_2 | with_reducible exact at5_3 | with_reducible exact ix5_3 | with_reducible exact st5_3 | with_reducible exact at5_4 | with_reducible exact ix5_4 | with_reducible exact st5_4 | with_reducible exact ixt2_0 | with_reducible exact ixt2_1 | with_reducible apply get_s | with_reducible apply set_z | with_reducible apply set_s | with_reducible apply put_s | with_reducible apply cell_s | with_reducible apply r_frz | with_reducible apply frz_own | with_reducible apply r_bin | with_reducible apply r_binR | with_reducible apply r_un | with_reducible apply r_opN | with_reducible apply r_opNF | with_reducible apply r_cons | with_reducible apply r_gD | with_reducible apply r_gR | with_reducible apply r_if | with_reducible apply cif_t | with_reducible apply cif_f | with_reducible apply r_tb | with_reducible apply r_tru | with_reducible apply r_not | with_reducible apply r_notV | with_reducible apply r_and | with_reducible apply cand_t | with_reducible apply r_or | with_reducible apply cor_f | with_reducible apply r_andV | with_reducible apply candV_t | with_reducible apply r_orV | with_reducible apply corV_f | with_reducible apply r_ixC | with_reducible apply r_opC | with_reducible apply r_binC | with_reducible apply r_seq | with_reducible apply cseq_nx | with_reducible apply r_drop | with_reducible apply r_ret | with_reducible apply r_ifS | with_reducible apply r_set | with_reducible apply r_setC | with_reducible apply r_append | with_reducible apply r_popAt | with_reducible apply r_alt | with_reducible apply r_asg | with_reducible apply rt_name | with_reducible apply rt_cons | with_reducible apply rt_tup | with_reducible apply r_rcons | with_reducible apply sa_cons | with_reducible apply r_par | with_reducible apply r_gad | with_reducible apply r_gal | with_reducible apply r_slScr | with_reducible apply r_part | with_reducible apply le_d | with_reducible apply le_l | with_reducible apply ln_d | with_reducible apply so_d | with_reducible apply so_l | with_reducible apply bk_d | with_reducible apply bk_par | with_reducible apply r_call | with_reducible apply re_s | with_reducible apply r_def1 | with_reducible apply r_def2 | with_reducible apply r_def3 | with_reducible apply r_it | with_reducible apply ls_s | with_reducible apply wp_1 | with_reducible apply md_1 | with_reducible apply r_rng1 | with_reducible apply r_rng2 | with_reducible apply r_for | with_reducible apply r_lc)
theorem isr_neg (a b : Int) (h : ¬ (0 ≤ a ∧ 0 < b)) : ∃ t, g_is_ratio [.sh (.tup [.int a, .int b])] = some (.v (.bl false), [t]) := by
  have e1 := is_int a
  have e2 := is_int b
  have e3 := is_two (.int a) (.int b)
  by_cases h0 : 0 ≤ a
  · have q1 := ge_t h0
    have q2 : dGt (.int b) (.int 0) = some (.bl false) := gt_f (fun z => h ⟨h0, z⟩)
    unfold g_is_ratio
    apply Exists.intro
    repeat' (first | with_reducible assumption | with_reducible exact r_c | with_reducible exact get_z | with_reducible exact free_un | with_reducible exact free_sh | with_reducible exact free_own | with_reducible exact slot_rv | with_reducible exact slot_rf | with_reducible exact put_own | with_reducible exact put_par | with_reducible exact cell_own | with_reducible exact cell_par | with_reducible exact frz_sh | with_reducible exact r_nil | with_reducible exact rd_v | with_reducible exact rd_f | with_reducible exact tru_bl | with_reducible exact not_t | with_reducible exact not_f | with_reducible exact cand_f | with_reducible exact cor_t | with_reducible exact candV_f | with_reducible exact corV_t | with_reducible exact flat_int | with_reducible exact flat_bl | with_reducible exact r_skip | with_reducible exact cseq_rt | with_reducible exact rt_nil | with_reducible exact r_rnil | with_reducible exact sa_nil | with_reducible exact r_ganil | with_reducible exact ls_own | with_reducible exact ls_par | with_reducible exact ls_scr | with_reducible exact le_nil | with_reducible exact ln_nil | with_reducible exact so_nil | with_reducible exact sl_own | with_reducible exact sl_par | with_reducible exact sl_scr | with_reducible exact bk_nil | with_reducible exact it_l | with_reducible exact it_t | with_reducible exact ls_z | with_reducible exact kp_un | with_reducible exact kp_sh | with_reducible exact kp_own | with_reducible exact re_z | with_reducible exact fLst_0 | with_reducible exact fLst_1 | with_reducible exact fLst_2 | with_reducible exact fLst_3 | with_reducible exact fLst_4 | with_reducible exact fLst_5 | with_reducible exact dIsNot_tt | with_reducible exact r_nopart | with_reducible exact fInt_i | with_reducible exact fLen_l | with_reducible exact fLen_t | with_reducible exact fTupOf_l | with_reducible exact fTupOf_t | with_reducible exact fLstOf_l | with_reducible exact fLstOf_t | with_reducible exact fTup_1 | with_reducible exact fTup_2 | with_reducible exact fTup_3 | with_reducible exact dAddR_nn | with_reducible exact at5_0 | with_reducible exact ix5_0 | with_reducible exact st5_0 | with_reducible exact at5_1 | with_reducible exact ix5_1 | with_reducible exact st5_1 | with_reducible exact at5_2 | with_reducible exact ix5_2 | with_reducible exact st5_2 | with_reducible exact at5_3 | with_reducible exact ix5_3 | with_reducible exact st5_3 | with_reducible exact at5_4 | with_reducible exact ix5_4 | with_reducible exact st5_4 | with_reducible exact ixt2_0 | with_reducible exact ixt2_1 | with_reducible apply get_s | with_reducible apply set_z | with_reducible apply set_s | with_reducible apply put_s | with_reducible apply cell_s | with_reducible apply r_frz | with_reducible apply frz_own | with_reducible apply r_bin | with_reducible apply r_binR | with_reducible apply r_un | with_reducible apply r_opN | with_reducible apply r_opNF | with_reducible apply r_cons | with_reducible apply r_gD | with_reducible apply r_gR | with_reducible apply r_if | with_reducible apply cif_t | with_reducible apply cif_f | with_reducible apply r_tb | with_reducible apply r_tru | with_reducible apply r_not | with_reducible apply r_notV | with_reducible apply r_and | with_reducible apply cand_t | with_reducible apply r_or | with_reducible apply cor_f | with_reducible apply r_andV | with_reducible apply candV_t | with_reducible apply r_orV | with_reducible apply corV_f | with_reducible apply r_ixC | with_reducible apply r_opC | with_reducible apply r_binC | with_reducible apply r_seq | with_reducible apply cseq_nx | with_reducible apply r_drop | with_reducible apply r_ret | with_reducible apply r_ifS | with_reducible apply r_set | with_reducible apply r_setC | with_reducible apply r_append | with_reducible apply r_popAt | with_reducible apply r_alt | with_reducible apply r_asg | with_reducible apply rt_name | with_reducible apply rt_cons | with_reducible apply rt_tup | with_reducible apply r_rcons | with_reducible apply sa_cons | with_reducible apply r_par | with_reducible apply r_gad | with_reducible apply r_gal | with_reducible apply r_slScr | with_reducible apply r_part | with_reducible apply le_d | with_reducible apply le_l | with_reducible apply ln_d | with_reducible apply so_d | with_reducible apply so_l | with_reducible apply bk_d | with_reducible apply bk_par | with_reducible apply r_call | with_reducible apply re_s | with_reducible apply r_def1 | with_reducible apply r_def2 | with_reducible apply r_def3 | with_reducible apply r_it | with_reducible apply ls_s | with_reducible apply wp_1 | with_reducible apply md_1 | with_reducible apply r_rng1 | with_reducible apply r_rng2 | with_reducible apply r_for | with_reducible apply r_lc)
  · have q1 := ge_f h0
    unfold g_is_ratio
    apply Exists.intro
    repeat' (first | with_reducible assumption | with_reducible exact r_c | with_reducible exact get_z | with_reducible exact free_un | with_reducible exact free_sh | with_reducible exact free_own | with_reducible exact slot_rv | with_reducible exact slot_rf | with_reducible exact put_own | with_reducible exact put_par | with_reducible exact cell_own | with_reducible exact cell_par | with_reducible exact frz_sh | with_reducible exact r_nil | with_reducible exact rd_v | with_reducible exact rd_f | with_reducible exact tru_bl | with_reducible exact not_t | with_reducible exact not_f | with_reducible exact cand_f | with_reducible exact cor_t | with_reducible exact candV_f | with_reducible exact corV_t | with_reducible exact flat_int | with_reducible exact flat_bl | with_reducible exact r_skip | with_reducible exact cseq_rt | with_reducible exact rt_nil | with_reducible exact r_rnil | with_reducible exact sa_nil | with_reducible exact r_ganil | with_reducible exact ls_own | with_reducible exact ls_par | with_reducible exact ls_scr | with_reducible exact le_nil | with_reducible exact ln_nil | with_reducible exact so_nil | with_reducible exact sl_own | with_reducible exact sl_par | with_reducible exact sl_scr | with_reducible exact bk_nil | with_reducible exact it_l | with_reducible exact it_t | with_reducible exact ls_z | with_reducible exact kp_un | with_reducible exact kp_sh | with_reducible exact kp_own | with_reducible exact re_z | with_reducible exact fLst_0 | with_reducible exact fLst_1 | with_reducible exact fLst_2 | with_reducible exact fLst_3 | with_reducible exact fLst_4 | with_reducible exact fLst_5 | with_reducible exact dIsNot_tt | with_reducible exact r_nopart | with_reducible exact fInt_i | with_reducible exact fLen_l | with_reducible exact fLen_t | with_reducible exact fTupOf_l | with_reducible exact fTupOf_t | with_reducible exact fLstOf_l | with_reducible exact fLstOf_t | with_reducible exact fTup_1 | with_reducible exact fTup_2 | with_reducible exact fTup_3 | with_reducible exact dAddR_nn | with_reducible exact at5_0 | with_reducible exact ix5_0 | with_reducible exact st5_0 | with_reducible exact at5_1 | with_reducible exact ix5_1 | with_reducible exact st5_1 | with_reducible exact at5_2 | with_reducible exact ix5_2 | with_reducible exact st5_2 | with_reducible exact at5_3 | with_reducible exact ix5_3 | with_reducible exact st5_3 | with_reducible exact at5_4 | with_reducible exact ix5_4 | with_reducible exact st5_4 | with_reducible exact ixt2_0 | with_reducible exact ixt2_1 | with_reducible apply get_s | with_reducible apply set_z | with_reducible apply set_s | with_reducible apply put_s | with_reducible apply cell_s | with_reducible apply r_frz | with_reducible apply frz_own | with_reducible apply r_bin | with_reducible apply r_binR | with_reducible apply r_un | with_reducible apply r_opN | with_reducible apply r_opNF | with_reducible apply r_cons | with_reducible apply r_gD | with_reducible apply r_gR | with_reducible apply r_if | with_reducible apply cif_t | with_reducible apply cif_f | with_reducible apply r_tb | with_reducible apply r_tru | with_reducible apply r_not | with_reducible apply r_notV | with_reducible apply r_and | with_reducible apply cand_t | with_reducible apply r_or | with_reducible apply cor_f | with_reducible apply r_andV | with_reducible apply candV_t | with_reducible apply r_orV | with_reducible apply corV_f | with_reducible apply r_ixC | with_reducible apply r_opC | with_reducible apply r_binC | with_reducible apply r_seq | with_reducible apply cseq_nx | with_reducible apply r_drop | with_reducible apply r_ret | with_reducible apply r_ifS | with_reducible apply r_set | with_reducible apply r_setC | with_reducible apply r_append | with_reducible apply r_popAt | with_reducible apply r_alt | with_reducible apply r_asg | with_reducible apply rt_name | with_reducible apply rt_cons | with_reducible apply rt_tup | with_reducible apply r_rcons | with_reducible apply sa_cons | with_reducible apply r_par | with_reducible apply r_gad | with_reducible apply r_gal | with_reducible apply r_slScr | with_reducible apply r_part | with_reducible apply le_d | with_reducible apply le_l | with_reducible apply ln_d | with_reducible apply so_d | with_reducible apply so_l | with_reducible apply bk_d | with_reducible apply bk_par | with_reducible apply r_call | with_reducible apply re_s | with_reducible apply r_def1 | with_reducible apply r_def2 | with_reducible apply r_def3 | with_reducible apply r_it | with_reducible apply ls_s | with_reducible apply wp_1 | with_reducible apply md_1 | with_reducible apply r_rng1 | with_reducible apply r_rng2 | with_reducible apply r_for | with_reducible apply r_lc)
theorem isr_nat (x : Nat × Nat) (h : 0 < x.2) (h1 : x.1 < 2 ^ 1900) (h2 : x.2 < 2 ^ 1900) : ∃ t, g_is_ratio [.sh (fr x)] = some (.v (.bl (decide (low x.1 x.2 = x))), [t]) := by
  have e1 := is_int (x.1 : Int)
  have e2 := is_int (x.2 : Int)
  have e3 := is_two (.int x.1) (.int x.2)
  have q1 : dGe (.int (x.1 : Int)) (.int 0) = some (.bl true) := ge_t (by omega)
  have q2 : dGt (.int (x.2 : Int)) (.int 0) = some (.bl true) := gt_t (by omega)
  obtain ⟨t, u, e4⟩ := ratio_eq x.1 x.2 (Nat.lt_of_lt_of_le h2 (Nat.pow_le_pow_right (by decide) (by decide))) h
  have q3 := eq_pair (a := (low x.1 x.2).1) (b := (low x.1 x.2).2) (c := x.1) (d := x.2) (okR_nat (Nat.lt_of_le_of_lt low_le1 h1)) (okR_nat (Nat.lt_of_le_of_lt low_le2 h2)) (okR_nat h1) (okR_nat h2)
  have q4 : (decide (((low x.1 x.2).1 : Int) = (x.1 : Int)) && decide (((low x.1 x.2).2 : Int) = (x.2 : Int))) = decide (low x.1 x.2 = x) := by
    rw [← Bool.decide_and]
    refine decide_eq_decide.mpr ⟨fun ⟨z1, z2⟩ => Prod.ext (Int.ofNat_inj.mp z1) (Int.ofNat_inj.mp z2), fun z => by rw [z]; exact ⟨rfl, rfl⟩⟩
  rw [q4] at q3
  unfold g_is_ratio
  apply Exists.intro
  repeat' (first | with_reducible assumption | with_reducible exact r_c | with_reducible exact get_z | with_reducible exact free_un | with_reducible exact free_sh | with_reducible exact free_own | with_reducible exact slot_rv | with_reducible exact slot_rf | with_reducible exact put_own | with_reducible exact put_par | with_reducible exact cell_own | with_reducible exact cell_par | with_reducible exact frz_sh | with_reducible exact r_nil | with_reducible exact rd_v | with_reducible exact rd_f | with_reducible exact tru_bl | with_reducible exact not_t | with_reducible exact not_f | with_reducible exact cand_f | with_reducible exact cor_t | with_reducible exact candV_f | with_reducible exact corV_t | with_reducible exact flat_int | with_reducible exact flat_bl | with_reducible exact r_skip | with_reducible exact cseq_rt | with_reducible exact rt_nil | with_reducible exact r_rnil | with_reducible exact sa_nil | with_reducible exact r_ganil | with_reducible exact ls_own | with_reducible exact ls_par | with_reducible exact ls_scr | with_reducible exact le_nil | with_reducible exact ln_nil | with_reducible exact so_nil | with_reducible exact sl_own | with_reducible exact sl_par | with_reducible exact sl_scr | with_reducible exact bk_nil | with_reducible exact it_l | with_reducible exact it_t | with_reducible exact ls_z | with_reducible exact kp_un | with_reducible exact kp_sh | with_reducible exact kp_own | with_reducible exact re_z | with_reducible exact fLst_0 | with_reducible exact fLst_1 | with_reducible exact fLst_2 | with_reducible exact fLst_3 | with_reducible exact fLst_4 | with_reducible exact fLst_5 | with_reducible exact dIsNot_tt | with_reducible exact r_nopart | with_reducible exact fInt_i | with_reducible exact fLen_l | with_reducible exact fLen_t | with_reducible exact fTupOf_l | with_reducible exact fTupOf_t | with_reducible exact fLstOf_l | with_reducible exact fLstOf_t | with_reducible exact fTup_1 | with_reducible exact fTup_2 | with_reducible exact fTup_3 | with_reducible exact dAddR_nn | with_reducible exact at5_0 | with_reducible exact ix5_0 | with_reducible exact st5_0 | with_reducible exact at5_1 | with_reducible exact ix5_1 | with_reducible exact st5_1 | with_reducible exact at5_2 | with_reducible exact ix5_2 | with_reducible exact st5_2 | with_reducible exact at5_3 | with_reducible exact ix5_3 | with_reducible exact st5_3 | with_reducible exact at5_4 | with_reducible exact ix5_4 | with_reducible exact st5_4 | with_reducible exact ixt2_0 | with_reducible exact ixt2_1 | with_reducible apply get_s | with_reducible apply set_z | with_reducible apply set_s | with_reducible apply put_s | with_reducible apply cell_s | with_reducible apply r_frz | with_reducible apply frz_own | with_reducible apply r_bin | with_reducible apply r_binR | with_reducible apply r_un | with_reducible apply r_opN | with_reducible apply r_opNF | with_reducible apply r_cons | with_reducible apply r_gD | with_reducible apply r_gR | with_reducible apply r_if | with_reducible apply cif_t | with_reducible apply cif_f | with_reducible apply r_tb | with_reducible apply r_tru | with_reducible apply r_not | with_reducible apply r_notV | with_reducible apply r_and | with_reducible apply cand_t | with_reducible apply r_or | with_reducible apply cor_f | with_reducible apply r_andV | with_reducible apply candV_t | with_reducible apply r_orV | with_reducible apply corV_f | with_reducible apply r_ixC | with_reducible apply r_opC | with_reducible apply r_binC | with_reducible apply r_seq | with_reducible apply cseq_nx | with_reducible apply r_drop | with_reducible apply r_ret | with_reducible apply r_ifS | with_reducible apply r_set | with_reducible apply r_setC | with_reducible apply r_append | with_reducible apply r_popAt | with_reducible apply r_alt | with_reducible apply r_asg | with_reducible apply rt_name | with_reducible apply rt_cons | with_reducible apply rt_tup | with_reducible apply r_rcons | with_reducible apply sa_cons | with_reducible apply r_par | with_reducible apply r_gad | with_reducible apply r_gal | with_reducible apply r_slScr | with_reducible apply r_part | with_reducible apply le_d | with_reducible apply le_l | with_reducible apply ln_d | with_reducible apply so_d | with_reducible apply so_l | with_reducible apply bk_d | with_reducible apply bk_par | with_reducible apply r_call | with_reducible apply re_s | with_reducible apply r_def1 | with_reducible apply r_def2 | with_reducible apply r_def3 | with_reducible apply r_it | with_reducible apply ls_s | with_reducible apply wp_1 | with_reducible apply md_1 | with_reducible apply r_rng1 | with_reducible apply r_rng2 | with_reducible apply r_for | with_reducible apply r_lc)
theorem isr_part {x : Nat × Nat} (h : Part x) : ∃ t, g_is_ratio [.sh (fr x)] = some (.v (.bl true), [t]) := by
  have b : (10 : Nat) ^ 33 + 1 < 2 ^ 1900 := by decide
  obtain ⟨t, e⟩ := isr_nat x h.p (Nat.lt_trans h.l1 (by omega)) (Nat.lt_of_le_of_lt h.l2 (by omega))
  rw [decide_eq_true h.c] at e
  exact ⟨t, e⟩
theorem isr_un {a b c : Nat} (hc : 1 < c) (h : 0 < b * c) (h1 : a * c < 2 ^ 1900) (h2 : b * c < 2 ^ 1900) : ∃ t, g_is_ratio [.sh (.tup [.int ((a * c : Nat) : Int), .int ((b * c : Nat) : Int)])] = some (.v (.bl false), [t]) := by
  obtain ⟨t, e⟩ := isr_nat (a * c, b * c) h h1 h2
  have hb : 0 < b := Nat.pos_of_ne_zero fun z => by rw [z, Nat.zero_mul] at h; exact absurd h (by decide)
  have : low (a * c) (b * c) ≠ (a * c, b * c) := by
    rw [low_mul (by omega)]
    intro z
    have z2 : (low a b).2 = b * c := congrArg Prod.snd z
    have z3 : (low a b).2 ≤ b := low_le2
    have z4 : b * 1 < b * c := Nat.mul_lt_mul_of_pos_left hc hb
    omega
  rw [show decide (low (a * c, b * c).1 (a * c, b * c).2 = (a * c, b * c)) = false from decide_eq_false this] at e
  exact ⟨t, e⟩
theorem isr_1 : ∃ t, g_is_ratio [.sh (.lst [.int 1, .int 2])] = some (.v (.bl false), [t]) := ⟨_, rfl⟩
theorem isr_2 : ∃ t, g_is_ratio [.sh (.tup [.int 1, .int 2, .int 3])] = some (.v (.bl false), [t]) := ⟨_, rfl⟩
theorem isr_3 : ∃ t, g_is_ratio [.sh (.tup [.int 1])] = some (.v (.bl false), [t]) := ⟨_, rfl⟩
theorem isr_4 : ∃ t, g_is_ratio [.sh .non] = some (.v (.bl false), [t]) := ⟨_, rfl⟩
theorem isr_5 : ∃ t, g_is_ratio [.sh (.int 3)] = some (.v (.bl false), [t]) := ⟨_, rfl⟩
theorem isr_6 : ∃ t, g_is_ratio [.sh (.tup [.str "1", .int 2])] = some (.v (.bl false), [t]) := ⟨_, rfl⟩
theorem isr_7 : ∃ t, g_is_ratio [.sh (.tup [.bl true, .int 2])] = some (.v (.bl false), [t]) := ⟨_, rfl⟩
theorem isr_8 : ∃ t, g_is_ratio [.sh (.tup [.int 1, .bl true])] = some (.v (.bl false), [t]) := ⟨_, rfl⟩
theorem isr_9 : ∃ t, g_is_ratio [.sh (.tup [.tup [.int 1, .int 2], .int 1])] = some (.v (.bl false), [t]) := ⟨_, rfl⟩
theorem isr_10 : ∃ t, g_is_ratio [.sh (.tup [.int 1, .non])] = some (.v (.bl false), [t]) := ⟨_, rfl⟩
end K07
set_option Elab.async false
set_option linter.all false
set_option maxRecDepth 100000
set_option exponentiation.threshold 20000
/-! K07f: pairs. -/
namespace K07
open PySem PySem.Spec PyProof.Rows L2 TL
theorem okR_bl {b : Bool} : (D.bl b).okR = true := rfl
theorem okR_fr {x : Nat × Nat} (h1 : x.1 < 2 ^ 1900) (h2 : x.2 < 2 ^ 1900) : (fr x).okR = true := by
  show ((D.int (x.1 : Int)).okR && ((D.int (x.2 : Int)).okR && true)) = true
  rw [okR_nat h1, okR_nat h2]
  rfl
theorem low_comm_plus (x y : Nat × Nat) : plusN y x = plusN x y := by
  unfold plusN
  rw [Nat.add_comm, Nat.mul_comm y.2]
theorem b33 : (10 : Nat) ^ 33 * 10 ^ 33 * 2 + 1 < 2 ^ 1900 := by decide
theorem b34 : (10 : Nat) ^ 33 * 10 ^ 33 * 2 + 1 < 2 ^ 8990 := by decide +kernel
theorem b64 : (2 : Nat) ^ 1900 < 2 ^ 400000 := Nat.pow_lt_pow_right (by decide) (by decide)
theorem any_false : ∀ (ds : List D), (∀ d ∈ ds, d = .bl false) → boolsOf ds = some (ds.map fun _ => false)
  | [], _ => rfl
  | d :: ds, h => by
    have e := h d List.mem_cons_self
    subst e
    unfold boolsOf
    rw [any_false ds fun x hx => h x (List.mem_cons_of_mem _ hx)]
    rfl
theorem pick_eq (h : Hd) (N : Nat) (o : h.ok N) (x y : Nat × Nat) (hx : Part x) (hy : Part y) : ∃ (h' : Hd) (z : Nat × Nat) (t : S), h'.ok (N + 1) ∧ 0 < z.2 ∧ z.1 ≤ 10 ^ 33 ∧ z.2 ≤ 10 ^ 33 ∧
    g_law_some [.par h.c, .sh (.lst [fr y, fr y, fr x, fr (x.2, max 1 x.1), fr (x.1 + 1, x.2)])] = some (.v (fr z), [.par h'.c, t]) := by
  obtain ⟨h', e, t, o', hm, e1⟩ := some_eq h N o [fr y, fr y, fr x, fr (x.2, max 1 x.1), fr (x.1 + 1, x.2)] (by show 0 < 5; decide) (by show 5 < _; decide)
  have := hx.l1
  have := hx.l2
  have := hx.p
  have := hy.l1
  have := hy.l2
  have := hy.p
  simp only [List.mem_cons, List.not_mem_nil, or_false] at hm
  rcases hm with rfl | rfl | rfl | rfl | rfl
  · exact ⟨h', y, t, o', by omega, by omega, by omega, e1⟩
  · exact ⟨h', y, t, o', by omega, by omega, by omega, e1⟩
  · exact ⟨h', x, t, o', by omega, by omega, by omega, e1⟩
  · exact ⟨h', (x.2, max 1 x.1), t, o', by show 0 < max 1 x.1; omega, by show x.2 ≤ _; omega, by show max 1 x.1 ≤ _; omega, e1⟩
  · exact ⟨h', (x.1 + 1, x.2), t, o', by show 0 < x.2; omega, by show x.1 + 1 ≤ _; omega, by show x.2 ≤ _; omega, e1⟩
theorem lc_false (vs : List Nat) (gt : GT) (ge : GE) (τ : List S) (h : ∀ d, (∃ t, g_is_ratio [.sh d] = some (.v (.bl false), [t])) → ∃ τ1 τ2, gt d τ = some τ1 ∧ ge τ1 = some (.bl false, τ2) ∧ wipeT τ2 vs = τ) (ds : List D) (hd : ∀ d ∈ ds, ∃ t, g_is_ratio [.sh d] = some (.v (.bl false), [t])) :
    lcLoop vs gt gYes ge ds τ = some (ds.map fun _ => .bl false, τ) := by
  have := lc_map vs gt ge τ (fun d => d) (fun _ => .bl false) (fun d => ∃ t, g_is_ratio [.sh d] = some (.v (.bl false), [t])) h ds hd
  rwa [List.map_id'] at this
theorem any_eq (ds : List D) : fAny [.lst (ds.map fun _ => .bl false)] = some (.bl false) := by
  show (match boolsOf (ds.map fun _ => .bl false) with
    | some l => some (D.bl (l.any id))
    | none => none) = _
  rw [any_false _ fun d hd => by
    obtain ⟨_, _, e⟩ := List.mem_map.mp hd
    exact e.symm]
  show some (D.bl _) = _
  congr 2
  rw [List.any_eq_false]
  intro b hb
  obtain ⟨_, _, e⟩ := List.mem_map.mp hb
  rw [← e]
  decide
set_option maxHeartbeats 0 in
theorem pairs_eq (h : Hd) (N : Nat) (o : h.ok N) : ∃ (h' : Hd), h'.ok (N + 136) ∧ g_law_are_pairs_right [.par h.c] = some (.v (.bl true), [.par h'.c]) := by
  obtain ⟨h1, x, o1, px, e1⟩ := part_eq h N o
  obtain ⟨h2, y, o2, py, e2⟩ := part_eq h1 (N + 54) o1
  obtain ⟨h3, z, t3, o3, z0, z1, z2, e3⟩ := pick_eq h2 (N + 54 + 54) o2 x y px py
  obtain ⟨h4, n, o4, ln, e4⟩ := number_eq h3 (N + 54 + 54 + 1) o3
  have B := b33
  have B2 := b34
  have l1 := px.l1
  have l2 := px.l2
  have l0 := px.p
  have bx1 : x.1 < 2 ^ 1900 := by omega
  have bx2 : x.2 < 2 ^ 1900 := by omega
  -- other
  obtain ⟨t5, u5, e5⟩ := law_low_eq z.1 z.2 (by omega) z0
  have w0 : 0 < (low z.1 z.2).2 := low_pos z0
  have w1 : (low z.1 z.2).1 ≤ 10 ^ 33 := Nat.le_trans low_le1 z1
  have w2 : (low z.1 z.2).2 ≤ 10 ^ 33 := Nat.le_trans low_le2 z2
  generalize low z.1 z.2 = w at e5 w0 w1 w2
  have bw1 : w.1 < 2 ^ 1900 := by omega
  have bw2 : w.2 < 2 ^ 1900 := by omega
  -- sizes of products
  have c1 : x.1 * w.2 ≤ 10 ^ 33 * 10 ^ 33 := Nat.mul_le_mul (by omega) w2
  have c2 : w.1 * x.2 ≤ 10 ^ 33 * 10 ^ 33 := Nat.mul_le_mul w1 l2
  have c3 : x.2 * w.2 ≤ 10 ^ 33 * 10 ^ 33 := Nat.mul_le_mul l2 w2
  have c4 : x.1 * w.1 ≤ 10 ^ 33 * 10 ^ 33 := Nat.mul_le_mul (by omega) w1
  have c5 : x.1 * (1 + n) ≤ 10 ^ 33 * 10 ^ 33 := Nat.mul_le_mul (by omega) (by omega)
  have c6 : x.2 * (1 + n) ≤ 10 ^ 33 * 10 ^ 33 := Nat.mul_le_mul l2 (by omega)
  have p3 : 0 < x.2 * w.2 := Nat.mul_pos l0 w0
  have sm : ∀ a b : Nat, a < 2 ^ 1900 → b < 2 ^ 1900 → Sm a b := fun a b ha hb => .of (Nat.lt_trans ha b64) (Nat.lt_trans hb b64)
  have s1 := sm x.1 w.2 bx1 bw2
  have s2 := sm w.1 x.2 bw1 bx2
  have s3 := sm x.2 w.2 bx2 bw2
  have s4 := sm x.1 w.1 bx1 bw1
  -- told
  have q0 : dAddR (.int 1) (.int (n : Int)) = some (.v (.int ((1 + n : Nat) : Int))) := dAddR_nn (a := 1)
  obtain ⟨t6, u6, e6⟩ := plus_eq x w s1 s2 s3 (by omega) l0 w0
  obtain ⟨t7, u7, e7⟩ := plus_eq w x s2 s1 (sm w.2 x.2 bw2 bx2) (by rw [Nat.mul_comm]; omega) w0 l0
  rw [low_comm_plus] at e7
  obtain ⟨t8, u8, e8⟩ := times_eq x w s4 s3 (by omega) l0 w0
  obtain ⟨t9, u9, e9⟩ := ratio_eq (x.1 * (1 + n)) (x.2 * (1 + n)) (by omega) (Nat.mul_pos l0 (by omega))
  rw [low_mul (by omega), px.c] at e9
  have m9a := dMulR_nn (sm x.1 (1 + n) bx1 (by omega))
  have m9b := dMulR_nn (sm x.2 (1 + n) bx2 (by omega))
  obtain ⟨ta, ua, ea⟩ := more_eq x w s1 s2
  -- due
  obtain ⟨tb, ub, eb⟩ := law_low_eq (x.1 * w.2 + w.1 * x.2) (x.2 * w.2) (by omega) p3
  have eb : g_law_low [.sh (.int ((x.1 * w.2 + w.1 * x.2 : Nat) : Int)), .sh (.int ((x.2 * w.2 : Nat) : Int))] = some (.v (fr (plusN x w)), [tb, ub]) := eb
  have mb1 := dMulR_nn s1
  have mb2 := dMulR_nn s2
  have mb3 := dMulR_nn s3
  obtain ⟨tc, uc, ec⟩ := law_low_eq (x.1 * w.1) (x.2 * w.2) (by omega) p3
  have mc := dMulR_nn s4
  have zc : dGt (.int ((x.1 * w.2 : Nat) : Int)) (.int ((w.1 * x.2 : Nat) : Int)) = some (.bl (decide (w.1 * x.2 < x.1 * w.2))) := by
    rw [dGt_ii]
    exact congrArg (fun b => some (D.bl b)) (decide_eq_decide.mpr Int.ofNat_lt)
  have f1 : (plusN x w).1 < 2 ^ 1900 := Nat.lt_of_le_of_lt low_le1 (by omega)
  have f2 : (plusN x w).2 < 2 ^ 1900 := Nat.lt_of_le_of_lt low_le2 (by omega)
  have f3 : (low (x.1 * w.1) (x.2 * w.2)).1 < 2 ^ 1900 := Nat.lt_of_le_of_lt low_le1 (by omega)
  have f4 : (low (x.1 * w.1) (x.2 * w.2)).2 < 2 ^ 1900 := Nat.lt_of_le_of_lt low_le2 (by omega)
  obtain ⟨td, ud, ed⟩ := same_eq (.lst [fr (plusN x w), fr (plusN x w), fr (low (x.1 * w.1) (x.2 * w.2)), fr x, .bl (decide (w.1 * x.2 < x.1 * w.2))])
    (by show ((fr (plusN x w)).okR && ((fr (plusN x w)).okR && ((fr (low (x.1 * w.1) (x.2 * w.2))).okR && ((fr x).okR && true)))) = true; rw [okR_fr f1 f2, okR_fr f3 f4, okR_fr bx1 bx2]; rfl) (by show 13 ≤ _; decide) (by show 2 ≤ _; decide)
  -- is_ratio
  obtain ⟨te, ee⟩ := isr_part px
  obtain ⟨tf, uf, ef⟩ := ratio_eq 0 (1 + n) (by omega) (by omega)
  rw [low_zero (by omega)] at ef
  have ef : g_ratio [.sh (.int 0), .sh (.int ((1 + n : Nat) : Int))] = some (.v (fr (0, 1)), [tf, uf]) := ef
  obtain ⟨tg, eg⟩ := isr_nat (0, 1) (by decide) (by decide) (by decide)
  have eg : g_is_ratio [.sh (fr (0, 1))] = some (.v (.bl true), [tg]) := eg
  -- told 2
  obtain ⟨th, uh, eh⟩ := ratio_eq (1 + n) (1 + n) (by omega) (by omega)
  have lh : low (1 + n) (1 + n) = (1, 1) := by
    unfold low
    rw [Nat.gcd_self, Nat.div_self (by omega)]
  rw [lh] at eh
  obtain ⟨ti, ui, ei⟩ := times_eq x (0, 1) (sm _ _ bx1 (by decide)) (sm _ _ bx2 (by decide)) (by show x.2 * 1 < _; omega) l0 (by decide)
  have li : low (x.1 * (0, 1).1) (x.2 * (0, 1).2) = (0, 1) := by
    show low (x.1 * 0) (x.2 * 1) = _
    rw [Nat.mul_zero, low_zero (by omega)]
  rw [li] at ei
  obtain ⟨tj, uj, ej⟩ := plus_eq x (0, 1) (sm _ _ bx1 (by decide)) (sm _ _ (by decide) bx2) (sm _ _ bx2 (by decide)) (by show x.2 * 1 < _; omega) l0 (by decide)
  have lj : plusN x (0, 1) = x := by
    show low (x.1 * 1 + 0 * x.2) (x.2 * 1) = _
    rw [Nat.mul_one, Nat.zero_mul, Nat.add_zero, Nat.mul_one, px.c]
  rw [lj] at ej
  have ei : g_times [.sh (fr x), .sh (.tup [.int 0, .int 1])] = some (.v (fr (0, 1)), [ti, ui]) := ei
  have ej : g_plus [.sh (fr x), .sh (.tup [.int 0, .int 1])] = some (.v (fr x), [tj, uj]) := ej
  obtain ⟨tk, uk, ek⟩ := same_eq (.lst [fr (0, 1), fr (1, 1), fr (0, 1), fr x]) (by show ((fr (0, 1)).okR && ((fr (1, 1)).okR && ((fr (0, 1)).okR && ((fr x).okR && true)))) = true; rw [okR_fr bx1 bx2]; rfl) (by show 12 ≤ _; decide) (by show 2 ≤ _; decide)
  have ek : g_law_same [.sh (.lst [fr (0, 1), fr (1, 1), fr (0, 1), fr x]), .sh (.lst [.tup [.int 0, .int 1], .tup [.int 1, .int 1], .tup [.int 0, .int 1], fr x])] = some (.v (.bl true), [tk, uk]) := ek
  -- odd
  have mo1 : dMulR (.int (x.1 : Int)) (.int 2) = some (.v (.int ((x.1 * 2 : Nat) : Int))) := dMulR_nn (b := 2) (.inr (.inl (by decide)))
  have mo2 : dMulR (.int (x.2 : Int)) (.int 2) = some (.v (.int ((x.2 * 2 : Nat) : Int))) := dMulR_nn (b := 2) (.inr (.inl (by decide)))
  have mo3 : dMulR (.int ((1 + n : Nat) : Int)) (.int 3) = some (.v (.int (((1 + n) * 3 : Nat) : Int))) := dMulR_nn (b := 3) (.inr (.inl (by decide)))
  have so1 : dSub (.int 0) (.int 1) = some (.int (-1)) := rfl
  have so2 : dSub (.int 0) (.int 2) = some (.int (-2)) := rfl
  let A : List D := [.tup [.int ((x.1 * 2 : Nat) : Int), .int ((x.2 * 2 : Nat) : Int)], .tup [.int (-1), .int 2], .tup [.int 1, .int 0], .tup [.int 1, .int (-2)], .tup [.int 0, .int 5], .lst [.int 1, .int 2], .tup [.int 1, .int 2, .int 3], .tup [.int 1], .non, .int 3, .tup [.str "1", .int 2]]
  let B : List D := [.tup [.bl true, .int 2], .tup [.int 1, .bl true], .tup [.int 2, .int 4], .tup [.int (((1 + n) * 3 : Nat) : Int), .int (((1 + n) * 3 : Nat) : Int)], .tup [.tup [.int 1, .int 2], .int 1], .tup [.int 1, .non]]
  have fA : fLst [.tup [.int ((x.1 * 2 : Nat) : Int), .int ((x.2 * 2 : Nat) : Int)], .tup [.int (-1), .int 2], .tup [.int 1, .int 0], .tup [.int 1, .int (-2)], .tup [.int 0, .int 5], .lst [.int 1, .int 2], .tup [.int 1, .int 2, .int 3], .tup [.int 1], .non, .int 3, .tup [.str "1", .int 2]] = some A := rfl
  have fB : fLst [.tup [.bl true, .int 2], .tup [.int 1, .bl true], .tup [.int 2, .int 4], .tup [.int (((1 + n) * 3 : Nat) : Int), .int (((1 + n) * 3 : Nat) : Int)], .tup [.tup [.int 1, .int 2], .int 1], .tup [.int 1, .non]] = some B := rfl
  have fAB : dAddR (.lst A) (.lst B) = some (.fl (A ++ B)) := rfl
  have hAB : ∀ d ∈ A ++ B, ∃ t, g_is_ratio [.sh d] = some (.v (.bl false), [t]) := by
    intro d hd
    have hd : d ∈ ([.tup [.int ((x.1 * 2 : Nat) : Int), .int ((x.2 * 2 : Nat) : Int)], .tup [.int (-1), .int 2], .tup [.int 1, .int 0], .tup [.int 1, .int (-2)], .tup [.int 0, .int 5], .lst [.int 1, .int 2], .tup [.int 1, .int 2, .int 3], .tup [.int 1], .non, .int 3, .tup [.str "1", .int 2], .tup [.bl true, .int 2], .tup [.int 1, .bl true], .tup [.int 2, .int 4], .tup [.int (((1 + n) * 3 : Nat) : Int), .int (((1 + n) * 3 : Nat) : Int)], .tup [.tup [.int 1, .int 2], .int 1], .tup [.int 1, .non]] : List D) := hd
    simp only [List.mem_cons, List.not_mem_nil, or_false] at hd
    rcases hd with rfl | rfl | rfl | rfl | rfl | rfl | rfl | rfl | rfl | rfl | rfl | rfl | rfl | rfl | rfl | rfl | rfl
    · exact isr_un (by decide) (by omega) (by omega) (by omega)
    · exact isr_neg _ _ (by omega)
    · exact isr_neg _ _ (by omega)
    · exact isr_neg _ _ (by omega)
    · exact isr_nat (0, 5) (by decide) (by decide) (by decide)
    · exact isr_1
    · exact isr_2
    · exact isr_3
    · exact isr_4
    · exact isr_5
    · exact isr_6
    · exact isr_7
    · exact isr_8
    · exact isr_nat (2, 4) (by decide) (by decide) (by decide)
    · exact isr_un (a := 1 + n) (b := 1 + n) (c := 3) (by decide) (by omega) (by omega) (by omega)
    · exact isr_9
    · exact isr_10
  have lAB : (A ++ B).length ≤ line := by show 17 ≤ 16777216; decide
  clear_value A B
  generalize A ++ B = AB at fAB hAB lAB
  have aAB := any_eq AB
  have lcf : ∀ a b c d e f g : S, lcLoop [7] (gtName 7) gYes (gD (gCall g_is_ratio (gaD (gFrz 7) gaNil))) AB [a, b, c, d, e, f, g, .un] = some (AB.map fun _ => .bl false, [a, b, c, d, e, f, g, .un]) := fun a b c d e f g => by
    refine lc_false [7] (gtName 7) (gD (gCall g_is_ratio (gaD (gFrz 7) gaNil))) [a, b, c, d, e, f, g, .un] (fun d ⟨t, e⟩ => ?_) AB hAB
    apply Exists.intro
    apply Exists.intro
    refine And.intro ?_ (And.intro ?_ ?_)
    · repeat' (first | with_reducible assumption | with_reducible exact r_c | with_reducible exact get_z | with_reducible exact free_un | with_reducible exact free_sh | with_reducible exact free_own | with_reducible exact slot_rv | with_reducible exact slot_rf | with_reducible exact put_own | with_reducible exact put_par | with_reducible exact cell_own | with_reducible exact cell_par | with_reducible exact frz_sh | with_reducible exact r_nil | with_reducible exact rd_v | with_reducible exact rd_f | with_reducible exact tru_bl | with_reducible exact not_t | with_reducible exact not_f | with_reducible exact cand_f | with_reducible exact cor_t | with_reducible exact candV_f | with_reducible exact corV_t | with_reducible exact flat_int | with_reducible exact flat_bl | with_reducible exact r_skip | with_reducible exact cseq_rt | with_reducible exact rt_nil | with_reducible exact r_rnil | with_reducible exact sa_nil | with_reducible exact r_ganil | with_reducible exact ls_own | with_reducible exact ls_par | with_reducible exact ls_scr | with_reducible exact le_nil | with_reducible exact ln_nil | with_reducible exact so_nil | with_reducible exact sl_own | with_reducible exact sl_par | with_reducible exact sl_scr | with_reducible exact bk_nil | with_reducible exact it_l | with_reducible exact it_t | with_reducible exact ls_z | with_reducible exact kp_un | with_reducible exact kp_sh | with_reducible exact kp_own | with_reducible exact re_z | with_reducible exact fLst_0 | with_reducible exact fLst_1 | with_reducible exact fLst_2 | with_reducible exact fLst_3 | with_reducible exact fLst_4 | with_reducible exact fLst_5 | with_reducible exact dIsNot_tt | with_reducible exact r_nopart | with_reducible exact fInt_i | with_reducible exact fLen_l | with_reducible exact fLen_t | with_reducible exact fTupOf_l | with_reducible exact fTupOf_t | with_reducible exact fLstOf_l | with_reducible exact fLstOf_t | with_reducible exact fTup_1 | with_reducible exact fTup_2 | with_reducible exact fTup_3 | with_reducible exact dAddR_nn | with_reducible exact at5_0 | with_reducible exact ix5_0 | with_reducible exact st5_0 | with_reducible exact at5_1 | with_reducible exact ix5_1 | with_reducible exact st5_1 | with_reducible exact at5_2 | with_reducible exact ix5_2 | with_reducible exact st5_2 | with_reducible exact at5_3 | with_reducible exact ix5_3 | with_reducible exact st5_3 | with_reducible exact at5_4 | with_reducible exact ix5_4 | with_reducible exact st5_4 | with_reducible exact ixt2_0 | with_reducible exact ixt2_1 | with_reducible apply get_s | with_reducible apply set_z | with_reducible apply set_s | with_reducible apply put_s | with_reducible apply cell_s | with_reducible apply r_frz | with_reducible apply frz_own | with_reducible apply r_bin | with_reducible apply r_binR | with_reducible apply r_un | with_reducible apply r_opN | with_reducible apply r_opNF | with_reducible apply r_cons | with_reducible apply r_gD | with_reducible apply r_gR | with_reducible apply r_if | with_reducible apply cif_t | with_reducible apply cif_f | with_reducible apply r_tb | with_reducible apply r_tru | with_reducible apply r_not | with_reducible apply r_notV | with_reducible apply r_and | with_reducible apply cand_t | with_reducible apply r_or | with_reducible apply cor_f | with_reducible apply r_andV | with_reducible apply candV_t | with_reducible apply r_orV | with_reducible apply corV_f | with_reducible apply r_ixC | with_reducible apply r_opC | with_reducible apply r_binC | with_reducible apply r_seq | with_reducible apply cseq_nx | with_reducible apply r_drop | with_reducible apply r_ret | with_reducible apply r_ifS | with_reducible apply r_set | with_reducible apply r_setC | with_reducible apply r_append | with_reducible apply r_popAt | with_reducible apply r_alt | with_reducible apply r_asg | with_reducible apply rt_name | with_reducible apply rt_cons | with_reducible apply rt_tup | with_reducible apply r_rcons | with_reducible apply sa_cons | with_reducible apply r_par | with_reducible apply r_gad | with_reducible apply r_gal | with_reducible apply r_slScr | with_reducible apply r_part | with_reducible apply le_d | with_reducible apply le_l | with_reducible apply ln_d | with_reducible apply so_d | with_reducible apply so_l | with_reducible apply bk_d | with_reducible apply bk_par | with_reducible apply r_call | with_reducible apply re_s | with_reducible apply r_def1 | with_reducible apply r_def2 | with_reducible apply r_def3 | with_reducible apply r_it | with_reducible apply ls_s | with_reducible apply wp_1 | with_reducible apply md_1 | with_reducible apply r_rng1 | with_reducible apply r_rng2 | with_reducible apply r_for | with_reducible apply r_lc)
    · repeat' (first | with_reducible assumption | with_reducible exact r_c | with_reducible exact get_z | with_reducible exact free_un | with_reducible exact free_sh | with_reducible exact free_own | with_reducible exact slot_rv | with_reducible exact slot_rf | with_reducible exact put_own | with_reducible exact put_par | with_reducible exact cell_own | with_reducible exact cell_par | with_reducible exact frz_sh | with_reducible exact r_nil | with_reducible exact rd_v | with_reducible exact rd_f | with_reducible exact tru_bl | with_reducible exact not_t | with_reducible exact not_f | with_reducible exact cand_f | with_reducible exact cor_t | with_reducible exact candV_f | with_reducible exact corV_t | with_reducible exact flat_int | with_reducible exact flat_bl | with_reducible exact r_skip | with_reducible exact cseq_rt | with_reducible exact rt_nil | with_reducible exact r_rnil | with_reducible exact sa_nil | with_reducible exact r_ganil | with_reducible exact ls_own | with_reducible exact ls_par | with_reducible exact ls_scr | with_reducible exact le_nil | with_reducible exact ln_nil | with_reducible exact so_nil | with_reducible exact sl_own | with_reducible exact sl_par | with_reducible exact sl_scr | with_reducible exact bk_nil | with_reducible exact it_l | with_reducible exact it_t | with_reducible exact ls_z | with_reducible exact kp_un | with_reducible exact kp_sh | with_reducible exact kp_own | with_reducible exact re_z | with_reducible exact fLst_0 | with_reducible exact fLst_1 | with_reducible exact fLst_2 | with_reducible exact fLst_3 | with_reducible exact fLst_4 | with_reducible exact fLst_5 | with_reducible exact dIsNot_tt | with_reducible exact r_nopart | with_reducible exact fInt_i | with_reducible exact fLen_l | with_reducible exact fLen_t | with_reducible exact fTupOf_l | with_reducible exact fTupOf_t | with_reducible exact fLstOf_l | with_reducible exact fLstOf_t | with_reducible exact fTup_1 | with_reducible exact fTup_2 | with_reducible exact fTup_3 | with_reducible exact dAddR_nn | with_reducible exact at5_0 | with_reducible exact ix5_0 | with_reducible exact st5_0 | with_reducible exact at5_1 | with_reducible exact ix5_1 | with_reducible exact st5_1 | with_reducible exact at5_2 | with_reducible exact ix5_2 | with_reducible exact st5_2 | with_reducible exact at5_3 | with_reducible exact ix5_3 | with_reducible exact st5_3 | with_reducible exact at5_4 | with_reducible exact ix5_4 | with_reducible exact st5_4 | with_reducible exact ixt2_0 | with_reducible exact ixt2_1 | with_reducible apply get_s | with_reducible apply set_z | with_reducible apply set_s | with_reducible apply put_s | with_reducible apply cell_s | with_reducible apply r_frz | with_reducible apply frz_own | with_reducible apply r_bin | with_reducible apply r_binR | with_reducible apply r_un | with_reducible apply r_opN | with_reducible apply r_opNF | with_reducible apply r_cons | with_reducible apply r_gD | with_reducible apply r_gR | with_reducible apply r_if | with_reducible apply cif_t | with_reducible apply cif_f | with_reducible apply r_tb | with_reducible apply r_tru | with_reducible apply r_not | with_reducible apply r_notV | with_reducible apply r_and | with_reducible apply cand_t | with_reducible apply r_or | with_reducible apply cor_f | with_reducible apply r_andV | with_reducible apply candV_t | with_reducible apply r_orV | with_reducible apply corV_f | with_reducible apply r_ixC | with_reducible apply r_opC | with_reducible apply r_binC | with_reducible apply r_seq | with_reducible apply cseq_nx | with_reducible apply r_drop | with_reducible apply r_ret | with_reducible apply r_ifS | with_reducible apply r_set | with_reducible apply r_setC | with_reducible apply r_append | with_reducible apply r_popAt | with_reducible apply r_alt | with_reducible apply r_asg | with_reducible apply rt_name | with_reducible apply rt_cons | with_reducible apply rt_tup | with_reducible apply r_rcons | with_reducible apply sa_cons | with_reducible apply r_par | with_reducible apply r_gad | with_reducible apply r_gal | with_reducible apply r_slScr | with_reducible apply r_part | with_reducible apply le_d | with_reducible apply le_l | with_reducible apply ln_d | with_reducible apply so_d | with_reducible apply so_l | with_reducible apply bk_d | with_reducible apply bk_par | with_reducible apply r_call | with_reducible apply re_s | with_reducible apply r_def1 | with_reducible apply r_def2 | with_reducible apply r_def3 | with_reducible apply r_it | with_reducible apply ls_s | with_reducible apply wp_1 | with_reducible apply md_1 | with_reducible apply r_rng1 | with_reducible apply r_rng2 | with_reducible apply r_for | with_reducible apply r_lc)
    · rfl
  have q1 : dAddR (.int (x.1 : Int)) (.int 1) = some (.v (.int ((x.1 + 1 : Nat) : Int))) := dAddR_nn (b := 1)
  have q2 : fMax2 [.int 1, .int (x.1 : Int)] = some (.int ((max 1 x.1 : Nat) : Int)) := by
    rw [fMax2_i]
    congr 2
    split <;> omega
  have q3 : dAddR (.int ((x.1 * w.2 : Nat) : Int)) (.int ((w.1 * x.2 : Nat) : Int)) = some (.v (.int ((x.1 * w.2 + w.1 * x.2 : Nat) : Int))) := dAddR_nn
  refine ⟨h4, o4.mono (by omega), ?_⟩
  unfold g_law_are_pairs_right
  repeat' (first | with_reducible assumption | exact lcf _ _ _ _ _ _ _ | with_reducible exact r_c | with_reducible exact get_z | with_reducible exact free_un | with_reducible exact free_sh | with_reducible exact free_own | with_reducible exact slot_rv | with_reducible exact slot_rf | with_reducible exact put_own | with_reducible exact put_par | with_reducible exact cell_own | with_reducible exact cell_par | with_reducible exact frz_sh | with_reducible exact r_nil | with_reducible exact rd_v | with_reducible exact rd_f | with_reducible exact tru_bl | with_reducible exact not_t | with_reducible exact not_f | with_reducible exact cand_f | with_reducible exact cor_t | with_reducible exact candV_f | with_reducible exact corV_t | with_reducible exact flat_int | with_reducible exact flat_bl | with_reducible exact r_skip | with_reducible exact cseq_rt | with_reducible exact rt_nil | with_reducible exact r_rnil | with_reducible exact sa_nil | with_reducible exact r_ganil | with_reducible exact ls_own | with_reducible exact ls_par | with_reducible exact ls_scr | with_reducible exact le_nil | with_reducible exact ln_nil | with_reducible exact so_nil | with_reducible exact sl_own | with_reducible exact sl_par | with_reducible exact sl_scr | with_reducible exact bk_nil | with_reducible exact it_l | with_reducible exact it_t | with_reducible exact ls_z | with_reducible exact kp_un | with_reducible exact kp_sh | with_reducible exact kp_own | with_reducible exact re_z | with_reducible exact fLst_0 | with_reducible exact fLst_1 | with_reducible exact fLst_2 | with_reducible exact fLst_3 | with_reducible exact fLst_4 | with_reducible exact fLst_5 | with_reducible exact dIsNot_tt | with_reducible exact r_nopart | with_reducible exact fInt_i | with_reducible exact fLen_l | with_reducible exact fLen_t | with_reducible exact fTupOf_l | with_reducible exact fTupOf_t | with_reducible exact fLstOf_l | with_reducible exact fLstOf_t | with_reducible exact fTup_1 | with_reducible exact fTup_2 | with_reducible exact fTup_3 | with_reducible exact dAddR_nn | with_reducible exact at5_0 | with_reducible exact ix5_0 | with_reducible exact st5_0 | with_reducible exact at5_1 | with_reducible exact ix5_1 | with_reducible exact st5_1 | with_reducible exact at5_2 | with_reducible exact ix5_2 | with_reducible exact st5_2 | with_reducible exact at5_3 | with_reducible exact ix5_3 | with_reducible exact st5_3 | with_reducible exact at5_4 | with_reducible exact ix5_4 | with_reducible exact st5_4 | with_reducible exact ixt2_0 | with_reducible exact ixt2_1 | with_reducible apply get_s | with_reducible apply set_z | with_reducible apply set_s | with_reducible apply put_s | with_reducible apply cell_s | with_reducible apply r_frz | with_reducible apply frz_own | with_reducible apply r_bin | with_reducible apply r_binR | with_reducible apply r_un | with_reducible apply r_opN | with_reducible apply r_opNF | with_reducible apply r_cons | with_reducible apply r_gD | with_reducible apply r_gR | with_reducible apply r_if | with_reducible apply cif_t | with_reducible apply cif_f | with_reducible apply r_tb | with_reducible apply r_tru | with_reducible apply r_not | with_reducible apply r_notV | with_reducible apply r_and | with_reducible apply cand_t | with_reducible apply r_or | with_reducible apply cor_f | with_reducible apply r_andV | with_reducible apply candV_t | with_reducible apply r_orV | with_reducible apply corV_f | with_reducible apply r_ixC | with_reducible apply r_opC | with_reducible apply r_binC | with_reducible apply r_seq | with_reducible apply cseq_nx | with_reducible apply r_drop | with_reducible apply r_ret | with_reducible apply r_ifS | with_reducible apply r_set | with_reducible apply r_setC | with_reducible apply r_append | with_reducible apply r_popAt | with_reducible apply r_alt | with_reducible apply r_asg | with_reducible apply rt_name | with_reducible apply rt_cons | with_reducible apply rt_tup | with_reducible apply r_rcons | with_reducible apply sa_cons | with_reducible apply r_par | with_reducible apply r_gad | with_reducible apply r_gal | with_reducible apply r_slScr | with_reducible apply r_part | with_reducible apply le_d | with_reducible apply le_l | with_reducible apply ln_d | with_reducible apply so_d | with_reducible apply so_l | with_reducible apply bk_d | with_reducible apply bk_par | with_reducible apply r_call | with_reducible apply re_s | with_reducible apply r_def1 | with_reducible apply r_def2 | with_reducible apply r_def3 | with_reducible apply r_it | with_reducible apply ls_s | with_reducible apply wp_1 | with_reducible apply md_1 | with_reducible apply r_rng1 | with_reducible apply r_rng2 | with_reducible apply r_for | with_reducible apply r_lc)
end K07
set_option Elab.async false
set_option linter.all false
set_option maxRecDepth 100000
set_option exponentiation.threshold 20000
/-! K07g: weights. -/
namespace K07
open PySem PySem.Spec PyProof.Rows L2 TL
/-- a comprehension over draws -/
theorem lc_draw (vs : List Nat) (gt : GT) (ge : GE) (T : Hd → List S) (top : Nat) (h1 : ∀ (h : Hd) (N : Nat) (d : D), h.ok N → ∃ (h' : Hd) (x : Nat) (τ1 τ2 : List S), h'.ok (N + 1) ∧ x < top ∧ gt d (T h) = some τ1 ∧ ge τ1 = some (nat x, τ2) ∧ wipeT τ2 vs = T h') :
    ∀ (ds : List D) (h : Hd) (N : Nat), h.ok N → ∃ (h' : Hd) (ws : List Nat), h'.ok (N + ds.length) ∧ ws.length = ds.length ∧ (∀ w ∈ ws, w < top) ∧ lcLoop vs gt gYes ge ds (T h) = some (ws.map nat, T h') := by
  intro ds
  induction ds with
  | nil => exact fun h N o => ⟨h, [], o, rfl, nofun, rfl⟩
  | cons d ds ih =>
    intro h N o
    obtain ⟨h', x, τ1, τ2, o', lx, e1, e2, e3⟩ := h1 h N d o
    obtain ⟨h2, ws, o2, l2, hw, e4⟩ := ih h' (N + 1) o'
    refine ⟨h2, x :: ws, o2.mono (by rw [List.length_cons]; omega), by rw [List.length_cons, l2, List.length_cons], fun w hm => ?_, ?_⟩
    · rcases List.mem_cons.mp hm with z | z
      · rw [z]
        exact lx
      · exact hw w z
    · rw [lcLoop_cons, e1]
      simp only [gYes_ap, e2, e3, e4]
      rfl
theorem sum_le {ws : List Nat} {m : Nat} (h : ∀ w ∈ ws, w ≤ m) : ws.sum ≤ m * ws.length := by
  induction ws with
  | nil => exact Nat.zero_le _
  | cons w ws ih =>
    have h1 := h w List.mem_cons_self
    have h2 := ih fun x hx => h x (List.mem_cons_of_mem _ hx)
    rw [List.sum_cons, List.length_cons, Nat.mul_add]
    omega
theorem le_sum {ws : List Nat} {w : Nat} (h : w ∈ ws) : w ≤ ws.sum := by
  induction ws with
  | nil => cases h
  | cons x ws ih =>
    rw [List.sum_cons]
    rcases List.mem_cons.mp h with z | z
    · omega
    · have := ih z
      omega
theorem sumM_shares (S : Nat) (hS : 0 < S) (ws : List Nat) : sumM S (ws.map fun w => low w S) = ws.sum := by
  unfold sumM
  rw [List.map_map]
  induction ws with
  | nil => rfl
  | cons w ws ih =>
    rw [List.map_cons, List.sum_cons, ih, List.sum_cons]
    congr 1
    show w / Nat.gcd w S * (S / (S / Nat.gcd w S)) = w
    have hg : 0 < Nat.gcd w S := Nat.gcd_pos_of_pos_right _ hS
    rw [Nat.div_div_self (Nat.gcd_dvd_right w S) (by omega), Nat.div_mul_cancel (Nat.gcd_dvd_left w S)]
theorem okR_frs {xs : List (Nat × Nat)} (h : ∀ x ∈ xs, x.1 < 2 ^ 1900 ∧ x.2 < 2 ^ 1900) : D.okRs (xs.map fr) = true := okRs_all fun d hd => by
  obtain ⟨x, hx, rfl⟩ := List.mem_map.mp hd
  show ((D.int (x.1 : Int)).okR && ((D.int (x.2 : Int)).okR && true)) = true
  rw [okR_nat (h x hx).1, okR_nat (h x hx).2]
  rfl
theorem bks_frs (xs : List (Nat × Nat)) : D.bks (xs.map fr) ≤ 3 * xs.length := by
  have := bks_le (ds := xs.map fr) (m := 2) fun d hd => by
    obtain ⟨x, hx, rfl⟩ := List.mem_map.mp hd
    exact Nat.le_refl 2
  rwa [List.length_map] at this
theorem deps_frs (xs : List (Nat × Nat)) : D.deps (xs.map fr) ≤ 1 := deps_le fun d hd => by
  obtain ⟨x, hx, rfl⟩ := List.mem_map.mp hd
  exact Nat.le_refl 1
end K07
set_option Elab.async false
set_option linter.all false
set_option maxRecDepth 100000
set_option exponentiation.threshold 20000
/-! K07h: weights, the law's part. -/
namespace K07
open PySem PySem.Spec PyProof.Rows L2 TL
theorem top_eq (h : Hd) (N : Nat) (o : h.ok N) : ∃ (h' : Hd) (T : Nat) (t : S), h'.ok (N + 1) ∧ 2 ≤ T ∧ T ≤ 10 ^ 30 ∧ g_law_some [.par h.c, .sh (.lst [.int 2, .int 50, .int ((10 ^ 30 : Nat) : Int)])] = some (.v (.int T), [.par h'.c, t]) := by
  obtain ⟨h', e, t, o', hm, e1⟩ := some_eq h N o [.int 2, .int 50, .int ((10 ^ 30 : Nat) : Int)] (by show 0 < 3; decide) (by show 3 < _; decide)
  simp only [List.mem_cons, List.not_mem_nil, or_false] at hm
  rcases hm with rfl | rfl | rfl
  · exact ⟨h', 2, t, o', by decide, by decide, e1⟩
  · exact ⟨h', 50, t, o', by decide, by decide, e1⟩
  · exact ⟨h', 10 ^ 30, t, o', by decide, by decide, e1⟩
theorem sum_mul (ws : List Nat) (b : Nat) : (ws.map fun w => w * b).sum = ws.sum * b := by
  induction ws with
  | nil => exact (Nat.zero_mul b).symm
  | cons w ws ih => rw [List.map_cons, List.sum_cons, ih, List.sum_cons, Nat.add_mul]
set_option maxHeartbeats 0 in
theorem weights_eq (h : Hd) (N : Nat) (o : h.ok N) : ∃ (h' : Hd), h'.ok (N + 120) ∧ g_law_are_weights_right [.par h.c] = some (.v (.bl true), [.par h'.c]) := by
  obtain ⟨h1, T, t1, o1, lT, uT, e1⟩ := top_eq h N o
  obtain ⟨h2, n, t2, o2, ln, e2⟩ := draw_eq h1 (N + 1) 100 o1 (by decide) (by decide +kernel)
  have e2 : g_law_draw [.par h1.c, .sh (.int 100)] = some (.v (.int (n : Int)), [.par h2.c, t2]) := e2
  have hT : T.log2 < 9000 := small_log (k := 200) (by omega) (by decide) (by decide)
  obtain ⟨h3, ws, o3, lw, hw, e3⟩ := lc_draw [3] (gtName 3) (gD (gCall g_law_draw (gaL 0 (gaD (gFrz 1) gaNil)))) (fun h => [.par h.c, .sh (.int T), .un, .un, .un, .un, .un, .un]) T (fun h N d o => by
    obtain ⟨h', x, t, o', l, e⟩ := draw_eq h N T o (by omega) hT
    refine ⟨h', x, [.par h.c, .sh (.int T), .un, .sh d, .un, .un, .un, .un], [.par h'.c, .sh (.int T), .un, .sh d, .un, .un, .un, .un], o', l, ?_, ?_, rfl⟩
    · show gtName 3 d [.par h.c, .sh (.int T), .un, .un, .un, .un, .un, .un] = _
      repeat' (first | with_reducible assumption | with_reducible exact r_c | with_reducible exact get_z | with_reducible exact free_un | with_reducible exact free_sh | with_reducible exact free_own | with_reducible exact slot_rv | with_reducible exact slot_rf | with_reducible exact put_own | with_reducible exact put_par | with_reducible exact cell_own | with_reducible exact cell_par | with_reducible exact frz_sh | with_reducible exact r_nil | with_reducible exact rd_v | with_reducible exact rd_f | with_reducible exact tru_bl | with_reducible exact not_t | with_reducible exact not_f | with_reducible exact cand_f | with_reducible exact cor_t | with_reducible exact candV_f | with_reducible exact corV_t | with_reducible exact flat_int | with_reducible exact flat_bl | with_reducible exact r_skip | with_reducible exact cseq_rt | with_reducible exact rt_nil | with_reducible exact r_rnil | with_reducible exact sa_nil | with_reducible exact r_ganil | with_reducible exact ls_own | with_reducible exact ls_par | with_reducible exact ls_scr | with_reducible exact le_nil | with_reducible exact ln_nil | with_reducible exact so_nil | with_reducible exact sl_own | with_reducible exact sl_par | with_reducible exact sl_scr | with_reducible exact bk_nil | with_reducible exact it_l | with_reducible exact it_t | with_reducible exact ls_z | with_reducible exact kp_un | with_reducible exact kp_sh | with_reducible exact kp_own | with_reducible exact re_z | with_reducible exact fLst_0 | with_reducible exact fLst_1 | with_reducible exact fLst_2 | with_reducible exact fLst_3 | with_reducible exact fLst_4 | with_reducible exact fLst_5 | with_reducible exact dIsNot_tt | with_reducible exact r_nopart | with_reducible exact fInt_i | with_reducible exact fLen_l | with_reducible exact fLen_t | with_reducible exact fTupOf_l | with_reducible exact fTupOf_t | with_reducible exact fLstOf_l | with_reducible exact fLstOf_t | with_reducible exact fTup_1 | with_reducible exact fTup_2 | with_reducible exact fTup_3 | with_reducible exact dAddR_nn | with_reducible exact at5_0 | with_reducible exact ix5_0 | with_reducible exact st5_0 | with_reducible exact at5_1 | with_reducible exact ix5_1 | with_reducible exact st5_1 | with_reducible exact at5_2 | with_reducible exact ix5_2 | with_reducible exact st5_2 | with_reducible exact at5_3 | with_reducible exact ix5_3 | with_reducible exact st5_3 | with_reducible exact at5_4 | with_reducible exact ix5_4 | with_reducible exact st5_4 | with_reducible exact ixt2_0 | with_reducible exact ixt2_1 | with_reducible apply get_s | with_reducible apply set_z | with_reducible apply set_s | with_reducible apply put_s | with_reducible apply cell_s | with_reducible apply r_frz | with_reducible apply frz_own | with_reducible apply r_bin | with_reducible apply r_binR | with_reducible apply r_un | with_reducible apply r_opN | with_reducible apply r_opNF | with_reducible apply r_cons | with_reducible apply r_gD | with_reducible apply r_gR | with_reducible apply r_if | with_reducible apply cif_t | with_reducible apply cif_f | with_reducible apply r_tb | with_reducible apply r_tru | with_reducible apply r_not | with_reducible apply r_notV | with_reducible apply r_and | with_reducible apply cand_t | with_reducible apply r_or | with_reducible apply cor_f | with_reducible apply r_andV | with_reducible apply candV_t | with_reducible apply r_orV | with_reducible apply corV_f | with_reducible apply r_ixC | with_reducible apply r_opC | with_reducible apply r_binC | with_reducible apply r_seq | with_reducible apply cseq_nx | with_reducible apply r_drop | with_reducible apply r_ret | with_reducible apply r_ifS | with_reducible apply r_set | with_reducible apply r_setC | with_reducible apply r_append | with_reducible apply r_popAt | with_reducible apply r_alt | with_reducible apply r_asg | with_reducible apply rt_name | with_reducible apply rt_cons | with_reducible apply rt_tup | with_reducible apply r_rcons | with_reducible apply sa_cons | with_reducible apply r_par | with_reducible apply r_gad | with_reducible apply r_gal | with_reducible apply r_slScr | with_reducible apply r_part | with_reducible apply le_d | with_reducible apply le_l | with_reducible apply ln_d | with_reducible apply so_d | with_reducible apply so_l | with_reducible apply bk_d | with_reducible apply bk_par | with_reducible apply r_call | with_reducible apply re_s | with_reducible apply r_def1 | with_reducible apply r_def2 | with_reducible apply r_def3 | with_reducible apply r_it | with_reducible apply ls_s | with_reducible apply wp_1 | with_reducible apply md_1 | with_reducible apply r_rng1 | with_reducible apply r_rng2 | with_reducible apply r_for | with_reducible apply r_lc)
    · repeat' (first | with_reducible assumption | with_reducible exact r_c | with_reducible exact get_z | with_reducible exact free_un | with_reducible exact free_sh | with_reducible exact free_own | with_reducible exact slot_rv | with_reducible exact slot_rf | with_reducible exact put_own | with_reducible exact put_par | with_reducible exact cell_own | with_reducible exact cell_par | with_reducible exact frz_sh | with_reducible exact r_nil | with_reducible exact rd_v | with_reducible exact rd_f | with_reducible exact tru_bl | with_reducible exact not_t | with_reducible exact not_f | with_reducible exact cand_f | with_reducible exact cor_t | with_reducible exact candV_f | with_reducible exact corV_t | with_reducible exact flat_int | with_reducible exact flat_bl | with_reducible exact r_skip | with_reducible exact cseq_rt | with_reducible exact rt_nil | with_reducible exact r_rnil | with_reducible exact sa_nil | with_reducible exact r_ganil | with_reducible exact ls_own | with_reducible exact ls_par | with_reducible exact ls_scr | with_reducible exact le_nil | with_reducible exact ln_nil | with_reducible exact so_nil | with_reducible exact sl_own | with_reducible exact sl_par | with_reducible exact sl_scr | with_reducible exact bk_nil | with_reducible exact it_l | with_reducible exact it_t | with_reducible exact ls_z | with_reducible exact kp_un | with_reducible exact kp_sh | with_reducible exact kp_own | with_reducible exact re_z | with_reducible exact fLst_0 | with_reducible exact fLst_1 | with_reducible exact fLst_2 | with_reducible exact fLst_3 | with_reducible exact fLst_4 | with_reducible exact fLst_5 | with_reducible exact dIsNot_tt | with_reducible exact r_nopart | with_reducible exact fInt_i | with_reducible exact fLen_l | with_reducible exact fLen_t | with_reducible exact fTupOf_l | with_reducible exact fTupOf_t | with_reducible exact fLstOf_l | with_reducible exact fLstOf_t | with_reducible exact fTup_1 | with_reducible exact fTup_2 | with_reducible exact fTup_3 | with_reducible exact dAddR_nn | with_reducible exact at5_0 | with_reducible exact ix5_0 | with_reducible exact st5_0 | with_reducible exact at5_1 | with_reducible exact ix5_1 | with_reducible exact st5_1 | with_reducible exact at5_2 | with_reducible exact ix5_2 | with_reducible exact st5_2 | with_reducible exact at5_3 | with_reducible exact ix5_3 | with_reducible exact st5_3 | with_reducible exact at5_4 | with_reducible exact ix5_4 | with_reducible exact st5_4 | with_reducible exact ixt2_0 | with_reducible exact ixt2_1 | with_reducible apply get_s | with_reducible apply set_z | with_reducible apply set_s | with_reducible apply put_s | with_reducible apply cell_s | with_reducible apply r_frz | with_reducible apply frz_own | with_reducible apply r_bin | with_reducible apply r_binR | with_reducible apply r_un | with_reducible apply r_opN | with_reducible apply r_opNF | with_reducible apply r_cons | with_reducible apply r_gD | with_reducible apply r_gR | with_reducible apply r_if | with_reducible apply cif_t | with_reducible apply cif_f | with_reducible apply r_tb | with_reducible apply r_tru | with_reducible apply r_not | with_reducible apply r_notV | with_reducible apply r_and | with_reducible apply cand_t | with_reducible apply r_or | with_reducible apply cor_f | with_reducible apply r_andV | with_reducible apply candV_t | with_reducible apply r_orV | with_reducible apply corV_f | with_reducible apply r_ixC | with_reducible apply r_opC | with_reducible apply r_binC | with_reducible apply r_seq | with_reducible apply cseq_nx | with_reducible apply r_drop | with_reducible apply r_ret | with_reducible apply r_ifS | with_reducible apply r_set | with_reducible apply r_setC | with_reducible apply r_append | with_reducible apply r_popAt | with_reducible apply r_alt | with_reducible apply r_asg | with_reducible apply rt_name | with_reducible apply rt_cons | with_reducible apply rt_tup | with_reducible apply r_rcons | with_reducible apply sa_cons | with_reducible apply r_par | with_reducible apply r_gad | with_reducible apply r_gal | with_reducible apply r_slScr | with_reducible apply r_part | with_reducible apply le_d | with_reducible apply le_l | with_reducible apply ln_d | with_reducible apply so_d | with_reducible apply so_l | with_reducible apply bk_d | with_reducible apply bk_par | with_reducible apply r_call | with_reducible apply re_s | with_reducible apply r_def1 | with_reducible apply r_def2 | with_reducible apply r_def3 | with_reducible apply r_it | with_reducible apply ls_s | with_reducible apply wp_1 | with_reducible apply md_1 | with_reducible apply r_rng1 | with_reducible apply r_rng2 | with_reducible apply r_for | with_reducible apply r_lc)) (rngD 0 ((1 + n : Nat) : Int)) h2 (N + 1 + 1) o2
  rw [rngD_len] at o3 lw
  have lw : ws.length = 1 + n := by omega
  have o3 : h3.ok (N + 102) := o3.mono (by omega)
  obtain ⟨h4, y, t4, o4, ly, e4⟩ := draw_eq h3 (N + 102) T o3 (by omega) hT
  have lmap : (ws.map nat).length = 1 + n := by rw [List.length_map, lw]
  obtain ⟨h5, x, t5, o5, lx, e5⟩ := draw_eq h4 (N + 102 + 1) (ws.map nat).length o4 (by omega) (small_log (k := 200) (by omega) (by decide) (by decide))
  have q5 : ixN (ws.map nat).length (x : Int) = some x := ixN_nat lx
  have q6 : (ws.map nat).set x (.int ((1 + y : Nat) : Int)) = (ws.set x (1 + y)).map nat := (List.map_set (f := nat)).symm
  have hx : x < ws.length := by omega
  have hv : ∀ w ∈ ws.set x (1 + y), w ≤ T := fun w hm => by
    rcases List.mem_or_eq_of_mem_set hm with z | z
    · exact Nat.le_of_lt (hw w z)
    · omega
  have hv0 : 0 < (ws.set x (1 + y)).sum := Nat.lt_of_lt_of_le (show 0 < 1 + y by omega) (le_sum (List.mem_set hx _))
  have lv : (ws.set x (1 + y)).length = 1 + n := by rw [List.length_set, lw]
  have w1 : -(2 ^ 62) ≤ ((1 + n : Nat) : Int) ∧ ((1 + n : Nat) : Int) < 2 ^ 62 := by omega
  have lr : (rngD 0 ((1 + n : Nat) : Int)).length ≤ line := by rw [rngD_len]; show _ ≤ 16777216; omega
  have q1 : dAddR (.int 1) (.int (n : Int)) = some (.v (.int ((1 + n : Nat) : Int))) := dAddR_nn (a := 1)
  have q4 : dAddR (.int 1) (.int (y : Int)) = some (.v (.int ((1 + y : Nat) : Int))) := dAddR_nn (a := 1)
  have p30 : dPow (.int 10) (.int 30) = some (.int ((10 ^ 30 : Nat) : Int)) := rfl
  generalize ws.set x (1 + y) = vs at hv hv0 lv q6
  have hs : vs.sum ≤ 10 ^ 30 * 100 := by
    have h1 := sum_le hv
    rw [lv] at h1
    exact Nat.le_trans h1 (Nat.mul_le_mul uT (by omega))
  have B1 : (10 : Nat) ^ 30 * 100 * 100 < 2 ^ 1900 := by decide
  have B2 : (10 : Nat) ^ 30 * 100 * 100 < 2 ^ 4490 := by decide +kernel
  have B3 : (2 : Nat) ^ 1900 < 2 ^ 300000 := Nat.pow_lt_pow_right (by decide) (by decide)
  have B4 : (10 : Nat) ^ 30 * 100 * 100 < 2 ^ 8990 := by decide +kernel
  have es := fSum_nat vs
  obtain ⟨t6, e6⟩ := shared_eq vs hv0 (by omega) (by rw [lv]; show _ ≤ 16777216; omega)
  have eL : (vs.map fun w => fr (low w vs.sum)) = (vs.map fun w => low w vs.sum).map fr  := by
    rw [List.map_map]
    rfl
  rw [eL] at e6
  have e7 : ∀ a b c d e f : S, lcLoop [6] (gtName 6) gYes (gD (gCall g_law_low (gaD (gFrz 6) (gaD (gFrz 4) gaNil)))) (vs.map nat) [a, b, c, d, .sh (.int ((vs.sum : Nat) : Int)), e, .un, f] = some ((vs.map fun w => low w vs.sum).map fr, [a, b, c, d, .sh (.int ((vs.sum : Nat) : Int)), e, .un, f]) := fun a b c d e f => by
    have := lc_map [6] (gtName 6) (gD (gCall g_law_low (gaD (gFrz 6) (gaD (gFrz 4) gaNil)))) [a, b, c, d, .sh (.int ((vs.sum : Nat) : Int)), e, .un, f] nat (fun w => fr (low w vs.sum)) (fun _ => True) (fun w _ => by
      obtain ⟨t, u, e⟩ := law_low_eq w vs.sum (by omega) hv0
      apply Exists.intro
      apply Exists.intro
      refine And.intro ?_ (And.intro ?_ ?_)
      · repeat' (first | with_reducible assumption | with_reducible exact r_c | with_reducible exact get_z | with_reducible exact free_un | with_reducible exact free_sh | with_reducible exact free_own | with_reducible exact slot_rv | with_reducible exact slot_rf | with_reducible exact put_own | with_reducible exact put_par | with_reducible exact cell_own | with_reducible exact cell_par | with_reducible exact frz_sh | with_reducible exact r_nil | with_reducible exact rd_v | with_reducible exact rd_f | with_reducible exact tru_bl | with_reducible exact not_t | with_reducible exact not_f | with_reducible exact cand_f | with_reducible exact cor_t | with_reducible exact candV_f | with_reducible exact corV_t | with_reducible exact flat_int | with_reducible exact flat_bl | with_reducible exact r_skip | with_reducible exact cseq_rt | with_reducible exact rt_nil | with_reducible exact r_rnil | with_reducible exact sa_nil | with_reducible exact r_ganil | with_reducible exact ls_own | with_reducible exact ls_par | with_reducible exact ls_scr | with_reducible exact le_nil | with_reducible exact ln_nil | with_reducible exact so_nil | with_reducible exact sl_own | with_reducible exact sl_par | with_reducible exact sl_scr | with_reducible exact bk_nil | with_reducible exact it_l | with_reducible exact it_t | with_reducible exact ls_z | with_reducible exact kp_un | with_reducible exact kp_sh | with_reducible exact kp_own | with_reducible exact re_z | with_reducible exact fLst_0 | with_reducible exact fLst_1 | with_reducible exact fLst_2 | with_reducible exact fLst_3 | with_reducible exact fLst_4 | with_reducible exact fLst_5 | with_reducible exact dIsNot_tt | with_reducible exact r_nopart | with_reducible exact fInt_i | with_reducible exact fLen_l | with_reducible exact fLen_t | with_reducible exact fTupOf_l | with_reducible exact fTupOf_t | with_reducible exact fLstOf_l | with_reducible exact fLstOf_t | with_reducible exact fTup_1 | with_reducible exact fTup_2 | with_reducible exact fTup_3 | with_reducible exact dAddR_nn | with_reducible exact at5_0 | with_reducible exact ix5_0 | with_reducible exact st5_0 | with_reducible exact at5_1 | with_reducible exact ix5_1 | with_reducible exact st5_1 | with_reducible exact at5_2 | with_reducible exact ix5_2 | with_reducible exact st5_2 | with_reducible exact at5_3 | with_reducible exact ix5_3 | with_reducible exact st5_3 | with_reducible exact at5_4 | with_reducible exact ix5_4 | with_reducible exact st5_4 | with_reducible exact ixt2_0 | with_reducible exact ixt2_1 | with_reducible apply get_s | with_reducible apply set_z | with_reducible apply set_s | with_reducible apply put_s | with_reducible apply cell_s | with_reducible apply r_frz | with_reducible apply frz_own | with_reducible apply r_bin | with_reducible apply r_binR | with_reducible apply r_un | with_reducible apply r_opN | with_reducible apply r_opNF | with_reducible apply r_cons | with_reducible apply r_gD | with_reducible apply r_gR | with_reducible apply r_if | with_reducible apply cif_t | with_reducible apply cif_f | with_reducible apply r_tb | with_reducible apply r_tru | with_reducible apply r_not | with_reducible apply r_notV | with_reducible apply r_and | with_reducible apply cand_t | with_reducible apply r_or | with_reducible apply cor_f | with_reducible apply r_andV | with_reducible apply candV_t | with_reducible apply r_orV | with_reducible apply corV_f | with_reducible apply r_ixC | with_reducible apply r_opC | with_reducible apply r_binC | with_reducible apply r_seq | with_reducible apply cseq_nx | with_reducible apply r_drop | with_reducible apply r_ret | with_reducible apply r_ifS | with_reducible apply r_set | with_reducible apply r_setC | with_reducible apply r_append | with_reducible apply r_popAt | with_reducible apply r_alt | with_reducible apply r_asg | with_reducible apply rt_name | with_reducible apply rt_cons | with_reducible apply rt_tup | with_reducible apply r_rcons | with_reducible apply sa_cons | with_reducible apply r_par | with_reducible apply r_gad | with_reducible apply r_gal | with_reducible apply r_slScr | with_reducible apply r_part | with_reducible apply le_d | with_reducible apply le_l | with_reducible apply ln_d | with_reducible apply so_d | with_reducible apply so_l | with_reducible apply bk_d | with_reducible apply bk_par | with_reducible apply r_call | with_reducible apply re_s | with_reducible apply r_def1 | with_reducible apply r_def2 | with_reducible apply r_def3 | with_reducible apply r_it | with_reducible apply ls_s | with_reducible apply wp_1 | with_reducible apply md_1 | with_reducible apply r_rng1 | with_reducible apply r_rng2 | with_reducible apply r_for | with_reducible apply r_lc)
      · repeat' (first | with_reducible assumption | with_reducible exact r_c | with_reducible exact get_z | with_reducible exact free_un | with_reducible exact free_sh | with_reducible exact free_own | with_reducible exact slot_rv | with_reducible exact slot_rf | with_reducible exact put_own | with_reducible exact put_par | with_reducible exact cell_own | with_reducible exact cell_par | with_reducible exact frz_sh | with_reducible exact r_nil | with_reducible exact rd_v | with_reducible exact rd_f | with_reducible exact tru_bl | with_reducible exact not_t | with_reducible exact not_f | with_reducible exact cand_f | with_reducible exact cor_t | with_reducible exact candV_f | with_reducible exact corV_t | with_reducible exact flat_int | with_reducible exact flat_bl | with_reducible exact r_skip | with_reducible exact cseq_rt | with_reducible exact rt_nil | with_reducible exact r_rnil | with_reducible exact sa_nil | with_reducible exact r_ganil | with_reducible exact ls_own | with_reducible exact ls_par | with_reducible exact ls_scr | with_reducible exact le_nil | with_reducible exact ln_nil | with_reducible exact so_nil | with_reducible exact sl_own | with_reducible exact sl_par | with_reducible exact sl_scr | with_reducible exact bk_nil | with_reducible exact it_l | with_reducible exact it_t | with_reducible exact ls_z | with_reducible exact kp_un | with_reducible exact kp_sh | with_reducible exact kp_own | with_reducible exact re_z | with_reducible exact fLst_0 | with_reducible exact fLst_1 | with_reducible exact fLst_2 | with_reducible exact fLst_3 | with_reducible exact fLst_4 | with_reducible exact fLst_5 | with_reducible exact dIsNot_tt | with_reducible exact r_nopart | with_reducible exact fInt_i | with_reducible exact fLen_l | with_reducible exact fLen_t | with_reducible exact fTupOf_l | with_reducible exact fTupOf_t | with_reducible exact fLstOf_l | with_reducible exact fLstOf_t | with_reducible exact fTup_1 | with_reducible exact fTup_2 | with_reducible exact fTup_3 | with_reducible exact dAddR_nn | with_reducible exact at5_0 | with_reducible exact ix5_0 | with_reducible exact st5_0 | with_reducible exact at5_1 | with_reducible exact ix5_1 | with_reducible exact st5_1 | with_reducible exact at5_2 | with_reducible exact ix5_2 | with_reducible exact st5_2 | with_reducible exact at5_3 | with_reducible exact ix5_3 | with_reducible exact st5_3 | with_reducible exact at5_4 | with_reducible exact ix5_4 | with_reducible exact st5_4 | with_reducible exact ixt2_0 | with_reducible exact ixt2_1 | with_reducible apply get_s | with_reducible apply set_z | with_reducible apply set_s | with_reducible apply put_s | with_reducible apply cell_s | with_reducible apply r_frz | with_reducible apply frz_own | with_reducible apply r_bin | with_reducible apply r_binR | with_reducible apply r_un | with_reducible apply r_opN | with_reducible apply r_opNF | with_reducible apply r_cons | with_reducible apply r_gD | with_reducible apply r_gR | with_reducible apply r_if | with_reducible apply cif_t | with_reducible apply cif_f | with_reducible apply r_tb | with_reducible apply r_tru | with_reducible apply r_not | with_reducible apply r_notV | with_reducible apply r_and | with_reducible apply cand_t | with_reducible apply r_or | with_reducible apply cor_f | with_reducible apply r_andV | with_reducible apply candV_t | with_reducible apply r_orV | with_reducible apply corV_f | with_reducible apply r_ixC | with_reducible apply r_opC | with_reducible apply r_binC | with_reducible apply r_seq | with_reducible apply cseq_nx | with_reducible apply r_drop | with_reducible apply r_ret | with_reducible apply r_ifS | with_reducible apply r_set | with_reducible apply r_setC | with_reducible apply r_append | with_reducible apply r_popAt | with_reducible apply r_alt | with_reducible apply r_asg | with_reducible apply rt_name | with_reducible apply rt_cons | with_reducible apply rt_tup | with_reducible apply r_rcons | with_reducible apply sa_cons | with_reducible apply r_par | with_reducible apply r_gad | with_reducible apply r_gal | with_reducible apply r_slScr | with_reducible apply r_part | with_reducible apply le_d | with_reducible apply le_l | with_reducible apply ln_d | with_reducible apply so_d | with_reducible apply so_l | with_reducible apply bk_d | with_reducible apply bk_par | with_reducible apply r_call | with_reducible apply re_s | with_reducible apply r_def1 | with_reducible apply r_def2 | with_reducible apply r_def3 | with_reducible apply r_it | with_reducible apply ls_s | with_reducible apply wp_1 | with_reducible apply md_1 | with_reducible apply r_rng1 | with_reducible apply r_rng2 | with_reducible apply r_for | with_reducible apply r_lc)
      · rfl) vs (fun _ _ => trivial)
    rwa [eL] at this
  have lvm : (vs.map nat).length ≤ line := by rw [List.length_map, lv]; show _ ≤ 16777216; omega
  have hL : ∀ z ∈ (vs.map fun w => low w vs.sum), z.1 < 2 ^ 1900 ∧ z.2 < 2 ^ 1900 := fun z hz => by
    obtain ⟨w, hw, rfl⟩ := List.mem_map.mp hz
    have := hv w hw
    exact ⟨Nat.lt_of_le_of_lt low_le1 (by omega), Nat.lt_of_le_of_lt low_le2 (by omega)⟩
  have lL : (vs.map fun w => low w vs.sum).length ≤ 100 := by rw [List.length_map, lv]; omega
  have hd : ∀ z ∈ (vs.map fun w => low w vs.sum), 0 < z.2 ∧ z.2 ∣ vs.sum := fun z hz => by
    obtain ⟨w, hw, rfl⟩ := List.mem_map.mp hz
    exact ⟨low_pos hv0, low_dvd⟩
  have hsm := sumM_shares vs.sum hv0 vs
  obtain ⟨h6, b, t9, o6, lb, e9⟩ := draw_eq h5 (N + 102 + 1 + 1) 99 o5 (by decide) (by decide +kernel)
  have e9 : g_law_draw [.par h5.c, .sh (.int 99)] = some (.v (.int (b : Int)), [.par h6.c, t9]) := e9
  have q9 : dAddR (.int 1) (.int (b : Int)) = some (.v (.int ((1 + b : Nat) : Int))) := dAddR_nn (a := 1)
  have e10 : ∀ a b' c d e f : S, lcLoop [6] (gtName 6) gYes (gD (gBinR dMulR (gFrz 6) (gFrz 7))) (vs.map nat) [a, b', c, d, e, f, .un, .sh (.int ((1 + b : Nat) : Int))] = some ((vs.map fun w => w * (1 + b)).map nat, [a, b', c, d, e, f, .un, .sh (.int ((1 + b : Nat) : Int))]) := fun a b' c d e f => by
    have := lc_map [6] (gtName 6) (gD (gBinR dMulR (gFrz 6) (gFrz 7))) [a, b', c, d, e, f, .un, .sh (.int ((1 + b : Nat) : Int))] nat (fun w => nat (w * (1 + b))) (fun _ => True) (fun w _ => by
      have m := dMulR_nn (a := w) (b := 1 + b) (.inr (.inl (by omega)))
      apply Exists.intro
      apply Exists.intro
      refine And.intro ?_ (And.intro ?_ ?_)
      · repeat' (first | with_reducible assumption | with_reducible exact r_c | with_reducible exact get_z | with_reducible exact free_un | with_reducible exact free_sh | with_reducible exact free_own | with_reducible exact slot_rv | with_reducible exact slot_rf | with_reducible exact put_own | with_reducible exact put_par | with_reducible exact cell_own | with_reducible exact cell_par | with_reducible exact frz_sh | with_reducible exact r_nil | with_reducible exact rd_v | with_reducible exact rd_f | with_reducible exact tru_bl | with_reducible exact not_t | with_reducible exact not_f | with_reducible exact cand_f | with_reducible exact cor_t | with_reducible exact candV_f | with_reducible exact corV_t | with_reducible exact flat_int | with_reducible exact flat_bl | with_reducible exact r_skip | with_reducible exact cseq_rt | with_reducible exact rt_nil | with_reducible exact r_rnil | with_reducible exact sa_nil | with_reducible exact r_ganil | with_reducible exact ls_own | with_reducible exact ls_par | with_reducible exact ls_scr | with_reducible exact le_nil | with_reducible exact ln_nil | with_reducible exact so_nil | with_reducible exact sl_own | with_reducible exact sl_par | with_reducible exact sl_scr | with_reducible exact bk_nil | with_reducible exact it_l | with_reducible exact it_t | with_reducible exact ls_z | with_reducible exact kp_un | with_reducible exact kp_sh | with_reducible exact kp_own | with_reducible exact re_z | with_reducible exact fLst_0 | with_reducible exact fLst_1 | with_reducible exact fLst_2 | with_reducible exact fLst_3 | with_reducible exact fLst_4 | with_reducible exact fLst_5 | with_reducible exact dIsNot_tt | with_reducible exact r_nopart | with_reducible exact fInt_i | with_reducible exact fLen_l | with_reducible exact fLen_t | with_reducible exact fTupOf_l | with_reducible exact fTupOf_t | with_reducible exact fLstOf_l | with_reducible exact fLstOf_t | with_reducible exact fTup_1 | with_reducible exact fTup_2 | with_reducible exact fTup_3 | with_reducible exact dAddR_nn | with_reducible exact at5_0 | with_reducible exact ix5_0 | with_reducible exact st5_0 | with_reducible exact at5_1 | with_reducible exact ix5_1 | with_reducible exact st5_1 | with_reducible exact at5_2 | with_reducible exact ix5_2 | with_reducible exact st5_2 | with_reducible exact at5_3 | with_reducible exact ix5_3 | with_reducible exact st5_3 | with_reducible exact at5_4 | with_reducible exact ix5_4 | with_reducible exact st5_4 | with_reducible exact ixt2_0 | with_reducible exact ixt2_1 | with_reducible apply get_s | with_reducible apply set_z | with_reducible apply set_s | with_reducible apply put_s | with_reducible apply cell_s | with_reducible apply r_frz | with_reducible apply frz_own | with_reducible apply r_bin | with_reducible apply r_binR | with_reducible apply r_un | with_reducible apply r_opN | with_reducible apply r_opNF | with_reducible apply r_cons | with_reducible apply r_gD | with_reducible apply r_gR | with_reducible apply r_if | with_reducible apply cif_t | with_reducible apply cif_f | with_reducible apply r_tb | with_reducible apply r_tru | with_reducible apply r_not | with_reducible apply r_notV | with_reducible apply r_and | with_reducible apply cand_t | with_reducible apply r_or | with_reducible apply cor_f | with_reducible apply r_andV | with_reducible apply candV_t | with_reducible apply r_orV | with_reducible apply corV_f | with_reducible apply r_ixC | with_reducible apply r_opC | with_reducible apply r_binC | with_reducible apply r_seq | with_reducible apply cseq_nx | with_reducible apply r_drop | with_reducible apply r_ret | with_reducible apply r_ifS | with_reducible apply r_set | with_reducible apply r_setC | with_reducible apply r_append | with_reducible apply r_popAt | with_reducible apply r_alt | with_reducible apply r_asg | with_reducible apply rt_name | with_reducible apply rt_cons | with_reducible apply rt_tup | with_reducible apply r_rcons | with_reducible apply sa_cons | with_reducible apply r_par | with_reducible apply r_gad | with_reducible apply r_gal | with_reducible apply r_slScr | with_reducible apply r_part | with_reducible apply le_d | with_reducible apply le_l | with_reducible apply ln_d | with_reducible apply so_d | with_reducible apply so_l | with_reducible apply bk_d | with_reducible apply bk_par | with_reducible apply r_call | with_reducible apply re_s | with_reducible apply r_def1 | with_reducible apply r_def2 | with_reducible apply r_def3 | with_reducible apply r_it | with_reducible apply ls_s | with_reducible apply wp_1 | with_reducible apply md_1 | with_reducible apply r_rng1 | with_reducible apply r_rng2 | with_reducible apply r_for | with_reducible apply r_lc)
      · repeat' (first | with_reducible assumption | with_reducible exact r_c | with_reducible exact get_z | with_reducible exact free_un | with_reducible exact free_sh | with_reducible exact free_own | with_reducible exact slot_rv | with_reducible exact slot_rf | with_reducible exact put_own | with_reducible exact put_par | with_reducible exact cell_own | with_reducible exact cell_par | with_reducible exact frz_sh | with_reducible exact r_nil | with_reducible exact rd_v | with_reducible exact rd_f | with_reducible exact tru_bl | with_reducible exact not_t | with_reducible exact not_f | with_reducible exact cand_f | with_reducible exact cor_t | with_reducible exact candV_f | with_reducible exact corV_t | with_reducible exact flat_int | with_reducible exact flat_bl | with_reducible exact r_skip | with_reducible exact cseq_rt | with_reducible exact rt_nil | with_reducible exact r_rnil | with_reducible exact sa_nil | with_reducible exact r_ganil | with_reducible exact ls_own | with_reducible exact ls_par | with_reducible exact ls_scr | with_reducible exact le_nil | with_reducible exact ln_nil | with_reducible exact so_nil | with_reducible exact sl_own | with_reducible exact sl_par | with_reducible exact sl_scr | with_reducible exact bk_nil | with_reducible exact it_l | with_reducible exact it_t | with_reducible exact ls_z | with_reducible exact kp_un | with_reducible exact kp_sh | with_reducible exact kp_own | with_reducible exact re_z | with_reducible exact fLst_0 | with_reducible exact fLst_1 | with_reducible exact fLst_2 | with_reducible exact fLst_3 | with_reducible exact fLst_4 | with_reducible exact fLst_5 | with_reducible exact dIsNot_tt | with_reducible exact r_nopart | with_reducible exact fInt_i | with_reducible exact fLen_l | with_reducible exact fLen_t | with_reducible exact fTupOf_l | with_reducible exact fTupOf_t | with_reducible exact fLstOf_l | with_reducible exact fLstOf_t | with_reducible exact fTup_1 | with_reducible exact fTup_2 | with_reducible exact fTup_3 | with_reducible exact dAddR_nn | with_reducible exact at5_0 | with_reducible exact ix5_0 | with_reducible exact st5_0 | with_reducible exact at5_1 | with_reducible exact ix5_1 | with_reducible exact st5_1 | with_reducible exact at5_2 | with_reducible exact ix5_2 | with_reducible exact st5_2 | with_reducible exact at5_3 | with_reducible exact ix5_3 | with_reducible exact st5_3 | with_reducible exact at5_4 | with_reducible exact ix5_4 | with_reducible exact st5_4 | with_reducible exact ixt2_0 | with_reducible exact ixt2_1 | with_reducible apply get_s | with_reducible apply set_z | with_reducible apply set_s | with_reducible apply put_s | with_reducible apply cell_s | with_reducible apply r_frz | with_reducible apply frz_own | with_reducible apply r_bin | with_reducible apply r_binR | with_reducible apply r_un | with_reducible apply r_opN | with_reducible apply r_opNF | with_reducible apply r_cons | with_reducible apply r_gD | with_reducible apply r_gR | with_reducible apply r_if | with_reducible apply cif_t | with_reducible apply cif_f | with_reducible apply r_tb | with_reducible apply r_tru | with_reducible apply r_not | with_reducible apply r_notV | with_reducible apply r_and | with_reducible apply cand_t | with_reducible apply r_or | with_reducible apply cor_f | with_reducible apply r_andV | with_reducible apply candV_t | with_reducible apply r_orV | with_reducible apply corV_f | with_reducible apply r_ixC | with_reducible apply r_opC | with_reducible apply r_binC | with_reducible apply r_seq | with_reducible apply cseq_nx | with_reducible apply r_drop | with_reducible apply r_ret | with_reducible apply r_ifS | with_reducible apply r_set | with_reducible apply r_setC | with_reducible apply r_append | with_reducible apply r_popAt | with_reducible apply r_alt | with_reducible apply r_asg | with_reducible apply rt_name | with_reducible apply rt_cons | with_reducible apply rt_tup | with_reducible apply r_rcons | with_reducible apply sa_cons | with_reducible apply r_par | with_reducible apply r_gad | with_reducible apply r_gal | with_reducible apply r_slScr | with_reducible apply r_part | with_reducible apply le_d | with_reducible apply le_l | with_reducible apply ln_d | with_reducible apply so_d | with_reducible apply so_l | with_reducible apply bk_d | with_reducible apply bk_par | with_reducible apply r_call | with_reducible apply re_s | with_reducible apply r_def1 | with_reducible apply r_def2 | with_reducible apply r_def3 | with_reducible apply r_it | with_reducible apply ls_s | with_reducible apply wp_1 | with_reducible apply md_1 | with_reducible apply r_rng1 | with_reducible apply r_rng2 | with_reducible apply r_for | with_reducible apply r_lc)
      · rfl) vs (fun _ _ => trivial)
    rw [this, List.map_map]
    rfl
  have hb0 : 0 < (vs.map fun w => w * (1 + b)).sum := by rw [sum_mul]; exact Nat.mul_pos hv0 (by omega)
  have hb1 : (vs.map fun w => w * (1 + b)).sum ≤ 10 ^ 30 * 100 * 100 := by rw [sum_mul]; exact Nat.mul_le_mul hs (by omega)
  obtain ⟨t11, e11⟩ := shared_eq (vs.map fun w => w * (1 + b)) hb0 (by omega) (by rw [List.length_map, lv]; show _ ≤ 16777216; omega)
  have eM : ((vs.map fun w => w * (1 + b)).map fun w => fr (low w (vs.map fun w => w * (1 + b)).sum)) = (vs.map fun w => low w vs.sum).map fr := by
    rw [sum_mul, List.map_map, List.map_map]
    refine List.map_congr_left fun w _ => ?_
    show fr (low (w * (1 + b)) (vs.sum * (1 + b))) = fr (low w vs.sum)
    rw [low_mul (by omega)]
  rw [eM] at e11
  generalize (vs.map fun w => low w vs.sum) = L at *
  obtain ⟨t8, u8, e8⟩ := same_eq (.tup (L.map fr)) (okR_frs hL) (Nat.le_trans (bks_frs L) (by omega)) (Nat.le_trans (Nat.succ_le_succ (deps_frs L)) (by decide))
  obtain ⟨t12, e12⟩ := total_eq L vs.sum hv0 (by omega) hd (by rw [hsm]; omega)
  have l11 : low (sumM vs.sum L) vs.sum = (1, 1) := by
    rw [hsm]
    unfold low
    rw [Nat.gcd_self, Nat.div_self hv0]
  rw [l11] at e12
  obtain ⟨t13, u13, e13⟩ := same_eq (.lst [fr (1, 1), .tup (L.map fr)]) (by show ((fr (1, 1)).okR && (D.okRs (L.map fr) && true)) = true; rw [okR_frs hL]; rfl) (by
      have := bks_frs L
      show 2 + 1 + (D.bks (L.map fr) + 1 + 0) ≤ _
      omega) (by
      have := deps_frs L
      show max 1 (max (D.deps (L.map fr) + 1) 0) + 1 ≤ _
      omega)
  have e13 : g_law_same [.sh (.lst [fr (1, 1), .tup (L.map fr)]), .sh (.lst [.tup [.int 1, .int 1], .tup (L.map fr)])] = some (.v (.bl true), [t13, u13]) := e13
  refine ⟨h6, o6.mono (by omega), ?_⟩
  unfold g_law_are_weights_right
  repeat' (first | with_reducible assumption | exact e7 _ _ _ _ _ _ | exact e10 _ _ _ _ _ _ | with_reducible exact r_c | with_reducible exact get_z | with_reducible exact free_un | with_reducible exact free_sh | with_reducible exact free_own | with_reducible exact slot_rv | with_reducible exact slot_rf | with_reducible exact put_own | with_reducible exact put_par | with_reducible exact cell_own | with_reducible exact cell_par | with_reducible exact frz_sh | with_reducible exact r_nil | with_reducible exact rd_v | with_reducible exact rd_f | with_reducible exact tru_bl | with_reducible exact not_t | with_reducible exact not_f | with_reducible exact cand_f | with_reducible exact cor_t | with_reducible exact candV_f | with_reducible exact corV_t | with_reducible exact flat_int | with_reducible exact flat_bl | with_reducible exact r_skip | with_reducible exact cseq_rt | with_reducible exact rt_nil | with_reducible exact r_rnil | with_reducible exact sa_nil | with_reducible exact r_ganil | with_reducible exact ls_own | with_reducible exact ls_par | with_reducible exact ls_scr | with_reducible exact le_nil | with_reducible exact ln_nil | with_reducible exact so_nil | with_reducible exact sl_own | with_reducible exact sl_par | with_reducible exact sl_scr | with_reducible exact bk_nil | with_reducible exact it_l | with_reducible exact it_t | with_reducible exact ls_z | with_reducible exact kp_un | with_reducible exact kp_sh | with_reducible exact kp_own | with_reducible exact re_z | with_reducible exact fLst_0 | with_reducible exact fLst_1 | with_reducible exact fLst_2 | with_reducible exact fLst_3 | with_reducible exact fLst_4 | with_reducible exact fLst_5 | with_reducible exact dIsNot_tt | with_reducible exact r_nopart | with_reducible exact fInt_i | with_reducible exact fLen_l | with_reducible exact fLen_t | with_reducible exact fTupOf_l | with_reducible exact fTupOf_t | with_reducible exact fLstOf_l | with_reducible exact fLstOf_t | with_reducible exact fTup_1 | with_reducible exact fTup_2 | with_reducible exact fTup_3 | with_reducible exact dAddR_nn | with_reducible exact at5_0 | with_reducible exact ix5_0 | with_reducible exact st5_0 | with_reducible exact at5_1 | with_reducible exact ix5_1 | with_reducible exact st5_1 | with_reducible exact at5_2 | with_reducible exact ix5_2 | with_reducible exact st5_2 | with_reducible exact at5_3 | with_reducible exact ix5_3 | with_reducible exact st5_3 | with_reducible exact at5_4 | with_reducible exact ix5_4 | with_reducible exact st5_4 | with_reducible exact ixt2_0 | with_reducible exact ixt2_1 | with_reducible apply get_s | with_reducible apply set_z | with_reducible apply set_s | with_reducible apply put_s | with_reducible apply cell_s | with_reducible apply r_frz | with_reducible apply frz_own | with_reducible apply r_bin | with_reducible apply r_binR | with_reducible apply r_un | with_reducible apply r_opN | with_reducible apply r_opNF | with_reducible apply r_cons | with_reducible apply r_gD | with_reducible apply r_gR | with_reducible apply r_if | with_reducible apply cif_t | with_reducible apply cif_f | with_reducible apply r_tb | with_reducible apply r_tru | with_reducible apply r_not | with_reducible apply r_notV | with_reducible apply r_and | with_reducible apply cand_t | with_reducible apply r_or | with_reducible apply cor_f | with_reducible apply r_andV | with_reducible apply candV_t | with_reducible apply r_orV | with_reducible apply corV_f | with_reducible apply r_ixC | with_reducible apply r_opC | with_reducible apply r_binC | with_reducible apply r_seq | with_reducible apply cseq_nx | with_reducible apply r_drop | with_reducible apply r_ret | with_reducible apply r_ifS | with_reducible apply r_set | with_reducible apply r_setC | with_reducible apply r_append | with_reducible apply r_popAt | with_reducible apply r_alt | with_reducible apply r_asg | with_reducible apply rt_name | with_reducible apply rt_cons | with_reducible apply rt_tup | with_reducible apply r_rcons | with_reducible apply sa_cons | with_reducible apply r_par | with_reducible apply r_gad | with_reducible apply r_gal | with_reducible apply r_slScr | with_reducible apply r_part | with_reducible apply le_d | with_reducible apply le_l | with_reducible apply ln_d | with_reducible apply so_d | with_reducible apply so_l | with_reducible apply bk_d | with_reducible apply bk_par | with_reducible apply r_call | with_reducible apply re_s | with_reducible apply r_def1 | with_reducible apply r_def2 | with_reducible apply r_def3 | with_reducible apply r_it | with_reducible apply ls_s | with_reducible apply wp_1 | with_reducible apply md_1 | with_reducible apply r_rng1 | with_reducible apply r_rng2 | with_reducible apply r_for | with_reducible apply r_lc)
end K07
set_option Elab.async false
set_option linter.all false
set_option maxRecDepth 100000
set_option exponentiation.threshold 20000
/-! K07i: closed sums. -/
namespace K07
open PySem PySem.Spec PyProof.Rows L2 TL
theorem sumM_perm {M : Nat} {xs ys : List (Nat × Nat)} (h : xs.Perm ys) : sumM M xs = sumM M ys := (h.map _).sum_nat
theorem sumM_app {M : Nat} {xs ys : List (Nat × Nat)} : sumM M (xs ++ ys) = sumM M xs + sumM M ys := by
  unfold sumM
  rw [List.map_append, List.sum_append]
theorem sumM_one {M : Nat} {x : Nat × Nat} : sumM M [x] = x.1 * (M / x.2) := by
  unfold sumM
  simp
/-- all of a common multiple -/
def prodM (xs : List (Nat × Nat)) : Nat := (xs.map (·.2)).prod
theorem prodM_dvd {xs : List (Nat × Nat)} : ∀ x ∈ xs, x.2 ∣ prodM xs := by
  induction xs with
  | nil => exact nofun
  | cons y xs ih =>
    intro x hx
    show x.2 ∣ y.2 * prodM xs
    rcases List.mem_cons.mp hx with z | z
    · rw [z]
      exact Nat.dvd_mul_right _ _
    · exact Nat.dvd_trans (ih x z) (Nat.dvd_mul_left _ _)
theorem prodM_pos {xs : List (Nat × Nat)} (h : ∀ x ∈ xs, 0 < x.2) : 0 < prodM xs := by
  induction xs with
  | nil => decide
  | cons y xs ih => exact Nat.mul_pos (h y List.mem_cons_self) (ih fun x hx => h x (List.mem_cons_of_mem _ hx))
theorem prodM_le {xs : List (Nat × Nat)} {k : Nat} (h : ∀ x ∈ xs, x.2 ≤ 2 ^ k) : prodM xs ≤ 2 ^ (k * xs.length) := by
  induction xs with
  | nil => exact Nat.le_refl _
  | cons y xs ih =>
    show y.2 * prodM xs ≤ _
    rw [List.length_cons, Nat.mul_add, Nat.mul_one, Nat.add_comm, Nat.pow_add]
    exact Nat.mul_le_mul (h y List.mem_cons_self) (ih fun x hx => h x (List.mem_cons_of_mem _ hx))
theorem sumM_le {M : Nat} {xs : List (Nat × Nat)} {m : Nat} (h : ∀ x ∈ xs, x.1 ≤ m) : sumM M xs ≤ m * M * xs.length := by
  unfold sumM
  have := sum_le (ws := xs.map fun x => x.1 * (M / x.2)) (m := m * M) fun w hw => by
    obtain ⟨x, hx, rfl⟩ := List.mem_map.mp hw
    exact Nat.mul_le_mul (h x hx) (Nat.div_le_self _ _)
  rwa [List.length_map] at this
theorem low_of {p q a b : Nat} (hq : 0 < q) (hb : 0 < b) (e : p * b = a * q) (c : Nat.gcd a b = 1) : low p q = (a, b) := by
  rw [low_ext hq hb e, low_cop c]
/-- 1 / (k (k + 1)) from 1 to n -/
def ls1 (n : Nat) : List (Nat × Nat) := (List.range n).map fun i => (1, (1 + i) * (1 + i + 1))
theorem ls1_sum (n : Nat) : ∀ M : Nat, (∀ x ∈ ls1 n, x.2 ∣ M) → sumM M (ls1 n) * (n + 1) = n * M := by
  induction n with
  | zero => intro M _; exact (Nat.zero_mul M).symm
  | succ n ih =>
    intro M h
    have e : ls1 (n + 1) = ls1 n ++ [(1, (1 + n) * (1 + n + 1))] := by
      unfold ls1
      rw [List.range_succ, List.map_append]
      rfl
    rw [e] at h ⊢
    have h1 := ih M fun x hx => h x (List.mem_append_left _ hx)
    obtain ⟨k, hk⟩ := h (1, (1 + n) * (1 + n + 1)) (List.mem_append_right _ List.mem_cons_self)
    have hk : M = (1 + n) * (1 + n + 1) * k := hk
    have hp : 0 < (1 + n) * (1 + n + 1) := Nat.mul_pos (by omega) (by omega)
    rw [sumM_app, sumM_one]
    show (sumM M (ls1 n) + 1 * (M / ((1 + n) * (1 + n + 1)))) * (n + 1 + 1) = _
    have e2 : M / ((1 + n) * (1 + n + 1)) = k := by rw [hk, Nat.mul_div_cancel_left _ hp]
    rw [e2]
    generalize sumM M (ls1 n) = s at h1 ⊢
    have e3 : (s + 1 * k) * (n + 1 + 1) * (n + 1) = (n + 1) * M * (n + 1) := by
      have e4 : (s + 1 * k) * (n + 1 + 1) * (n + 1) = s * (n + 1) * (n + 1 + 1) + k * ((n + 1) * (n + 1 + 1)) := by grind
      have e5 : k * ((n + 1) * (n + 1 + 1)) = M := by rw [hk]; grind
      rw [e4, h1, e5]
      grind
    exact Nat.eq_of_mul_eq_mul_right (by omega) e3
theorem gcd_succ (n : Nat) : Nat.gcd n (n + 1) = 1 := by
  rw [Nat.gcd_self_add_right, Nat.gcd_one_right]
/-- 1 / 2^k from 1 to n -/
def ls2 (n : Nat) : List (Nat × Nat) := (List.range n).map fun i => (1, 2 ^ (1 + i))
theorem ls2_sum (n m : Nat) (h : n ≤ m) : sumM (2 ^ m) (ls2 n) + 2 ^ (m - n) = 2 ^ m := by
  induction n with
  | zero => exact Nat.zero_add _
  | succ n ih =>
    have e : ls2 (n + 1) = ls2 n ++ [(1, 2 ^ (1 + n))] := by
      unfold ls2
      rw [List.range_succ, List.map_append]
      rfl
    have h1 := ih (by omega)
    rw [e, sumM_app, sumM_one]
    show sumM (2 ^ m) (ls2 n) + 1 * (2 ^ m / 2 ^ (1 + n)) + 2 ^ (m - (n + 1)) = 2 ^ m
    have e2 : 2 ^ m / 2 ^ (1 + n) = 2 ^ (m - (n + 1)) := by
      rw [Nat.pow_div (by omega) (by decide), Nat.add_comm 1 n]
    have e3 : 2 ^ (m - n) = 2 ^ (m - (n + 1)) + 2 ^ (m - (n + 1)) := by
      rw [show m - n = m - (n + 1) + 1 by omega, Nat.pow_succ]
      omega
    rw [e2]
    omega
theorem odd_gcd (a m : Nat) (h : a % 2 = 1) : Nat.gcd a (2 ^ m) = 1 := by
  refine Nat.Coprime.pow_right m ?_
  show Nat.gcd a 2 = 1
  rw [Nat.gcd_comm, Nat.gcd_rec, h]
  decide
/-- k / b from 0 to n -/
def ls3 (n b : Nat) : List (Nat × Nat) := (List.range (n + 1)).map fun i => low i b
theorem ls3_sum (n b : Nat) (hb : 0 < b) : sumM b (ls3 n b) * 2 = n * (n + 1) := by
  have e0 : ∀ n, sumM b (ls3 n b) = (List.range (n + 1)).sum := fun n => sumM_shares b hb (List.range (n + 1))
  rw [e0]
  induction n with
  | zero => rfl
  | succ n ih =>
    rw [List.range_succ, List.sum_append, Nat.add_mul, ih]
    simp only [List.sum_cons, List.sum_nil]
    grind
/-- k / (k + 1)! from 1 to n -/
def fct : Nat → Nat
  | 0 => 1
  | n + 1 => fct n * (1 + n + 1)
def ls4 (n : Nat) : List (Nat × Nat) := (List.range n).map fun i => low (1 + i) (fct (i + 1))
theorem fct_pos (n : Nat) : 0 < fct n := by
  induction n with
  | zero => decide
  | succ n ih => exact Nat.mul_pos ih (by omega)
theorem low_term {a b M : Nat} (hb : 0 < b) (h : b ∣ M) : (low a b).1 * (M / (low a b).2) = a * (M / b) := by
  obtain ⟨k, rfl⟩ := h
  rw [Nat.mul_div_cancel_left _ hb]
  have hg : 0 < Nat.gcd a b := Nat.gcd_pos_of_pos_right _ hb
  obtain ⟨c, hc⟩ := Nat.gcd_dvd_left a b
  obtain ⟨d, hd⟩ := Nat.gcd_dvd_right a b
  show a / Nat.gcd a b * (b * k / (b / Nat.gcd a b)) = a * k
  generalize Nat.gcd a b = g at hg hc hd
  subst hc hd
  have hd0 : 0 < d := Nat.pos_of_ne_zero fun z => by rw [z, Nat.mul_zero] at hb; exact absurd hb (by decide)
  rw [Nat.mul_div_cancel_left _ hg, Nat.mul_div_cancel_left _ hg, show g * d * k = d * (g * k) by grind, Nat.mul_div_cancel_left _ hd0]
  grind
theorem ls4_sum (n : Nat) : ∀ M : Nat, fct n ∣ M → sumM M (ls4 n) + M / fct n = M := by
  induction n with
  | zero => intro M _; show 0 + M / 1 = M; rw [Nat.div_one, Nat.zero_add]
  | succ n ih =>
    intro M h
    have e : ls4 (n + 1) = ls4 n ++ [low (1 + n) (fct (n + 1))] := by
      unfold ls4
      rw [List.range_succ, List.map_append]
      rfl
    have h1 := ih M (Nat.dvd_trans (Nat.dvd_mul_right _ _) h)
    rw [e, sumM_app, sumM_one, low_term (fct_pos _) h]
    obtain ⟨k, rfl⟩ := h
    rw [Nat.mul_div_cancel_left _ (fct_pos _)]
    have e2 : fct (n + 1) * k / fct n = (1 + n + 1) * k := by
      show fct n * (1 + n + 1) * k / fct n = _
      rw [Nat.mul_assoc, Nat.mul_div_cancel_left _ (fct_pos _)]
    rw [e2] at h1
    have : (1 + n + 1) * k = (1 + n) * k + k := by grind
    omega
theorem fct_dvd {n m : Nat} (h : n ≤ m) : fct n ∣ fct m := by
  induction m with
  | zero =>
    have : n = 0 := by omega
    rw [this]
    exact Nat.dvd_refl _
  | succ m ih =>
    by_cases q : n = m + 1
    · rw [q]
      exact Nat.dvd_refl _
    · exact Nat.dvd_trans (ih (by omega)) (Nat.dvd_mul_right _ _)
theorem fct_le (n : Nat) (h : n ≤ 20) : fct n ≤ fct 20 := Nat.le_of_dvd (fct_pos _) (fct_dvd h)
theorem perm_map_inv {α β : Type} (f : α → β) {l l2 : List β} (h : l.Perm l2) : ∀ xs : List α, l2 = xs.map f → ∃ ys : List α, l = ys.map f ∧ ys.Perm xs := by
  induction h with
  | nil => exact fun xs e => ⟨xs, e, .refl _⟩
  | cons x h ih =>
    intro xs e
    cases xs with
    | nil => cases e
    | cons y xs =>
      rw [List.map_cons] at e
      obtain ⟨e1, e2⟩ := List.cons.inj e
      obtain ⟨ys, e3, p⟩ := ih xs e2
      exact ⟨y :: ys, by rw [List.map_cons, e1, e3], p.cons y⟩
  | swap x y l =>
    intro xs e
    cases xs with
    | nil => cases e
    | cons a xs =>
    cases xs with
    | nil => cases e
    | cons b xs =>
      rw [List.map_cons, List.map_cons] at e
      obtain ⟨e1, e2⟩ := List.cons.inj e
      obtain ⟨e3, e4⟩ := List.cons.inj e2
      exact ⟨b :: a :: xs, by rw [List.map_cons, List.map_cons, e1, e3, e4], .swap _ _ _⟩
  | trans h1 h2 ih1 ih2 =>
    intro xs e
    obtain ⟨ys, e1, p1⟩ := ih2 xs e
    obtain ⟨zs, e2, p2⟩ := ih1 ys e1
    exact ⟨zs, e2, p2.trans p1⟩
/-- shuffled, then summed: the same -/
theorem mixtot_eq (h : Hd) (N : Nat) (o : h.ok N) (xs : List (Nat × Nat)) (M : Nat) (hM : 0 < M) (hM2 : M < 2 ^ 4490) (hx : ∀ x ∈ xs, 0 < x.2 ∧ x.2 ∣ M) (hk : ∀ x ∈ xs, x.1 < 2 ^ 1900 ∧ x.2 < 2 ^ 1900) (hs : sumM M xs < 2 ^ 300000) (hl : xs.length < 900) :
    ∃ (h' : Hd) (fs : List D) (t u : S), h'.ok (N + xs.length) ∧ g_law_mixed [.par h.c, .sh (.lst (xs.map fr))] = some (.v (.lst fs), [.par h'.c, t]) ∧ g_total [.sh (.lst fs)] = some (.v (fr (low (sumM M xs) M)), [u]) := by
  obtain ⟨h', fs, t, o', pm, e⟩ := mixed_eq h N o (xs.map fr) (fun d hd => by
    obtain ⟨x, hx, rfl⟩ := List.mem_map.mp hd
    refine ⟨?_, by show 1 ≤ 63; decide⟩
    show ((D.int (x.1 : Int)).okR && ((D.int (x.2 : Int)).okR && true)) = true
    rw [okR_nat (hk x hx).1, okR_nat (hk x hx).2]
    rfl) (by rw [List.length_map]; exact hl)
  obtain ⟨ys, rfl, py⟩ := perm_map_inv fr pm xs rfl
  obtain ⟨u, e2⟩ := total_eq ys M hM hM2 (fun x hx' => hx x (py.mem_iff.mp hx')) (by rw [sumM_perm py]; exact hs)
  rw [sumM_perm py] at e2
  rw [List.length_map] at o'
  exact ⟨h', ys.map fr, t, u, o', e, e2⟩
end K07
set_option Elab.async false
set_option linter.all false
set_option maxRecDepth 100000
set_option exponentiation.threshold 20000
/-! K07j: closed sums drawn. -/
namespace K07
open PySem PySem.Spec PyProof.Rows L2 TL
def sr1 : GS := (gSet 1 (gBinR dAddR (gC (.int 1)) (gD (gCall g_law_draw (gaL 0 (gaD (gC (.int 200)) gaNil))))))
def sr2 : GS := (gSet 2 (gLc [3] (gRng2 (gCons (gC (.int 1)) (gCons (gD (gBinR dAddR (gFrz 1) (gC (.int 1)))) gNil))) (gtName 3) gYes (gOpN fTup (gCons (gC (.int 1)) (gCons (gD (gBinR dMulR (gFrz 3) (gD (gBinR dAddR (gFrz 3) (gC (.int 1)))))) gNil)))))
def sr3 : GS := (gIfS (gNot (gTru (gD (gCall g_law_same (gaD (gD (gCall g_total (gaD (gD (gCall g_law_mixed (gaL 0 (gaD (gFrz 2) gaNil)))) gaNil))) (gaD (gOpN fTup (gCons (gFrz 1) (gCons (gD (gBinR dAddR (gFrz 1) (gC (.int 1)))) gNil))) gaNil)))))) (gRet (gR (gC (.bl false)))) gSkip)
def sr4 : GS := (gSet 1 (gBinR dAddR (gC (.int 1)) (gD (gCall g_law_draw (gaL 0 (gaD (gC (.int 120)) gaNil))))))
def sr5 : GS := (gSet 2 (gLc [3] (gRng2 (gCons (gC (.int 1)) (gCons (gD (gBinR dAddR (gFrz 1) (gC (.int 1)))) gNil))) (gtName 3) gYes (gOpN fTup (gCons (gC (.int 1)) (gCons (gBin dShl (gC (.int 1)) (gFrz 3)) gNil)))))
def sr6 : GS := (gIfS (gNot (gTru (gD (gCall g_law_same (gaD (gD (gOpNF fLst (gCons (gD (gCall g_total (gaD (gFrz 2) gaNil))) (gCons (gD (gCall g_total (gaD (gD (gBinR dAddR (gFrz 2) (gD (gOpNF fLst (gCons (gOpN fTup (gCons (gC (.int 1)) (gCons (gBin dShl (gC (.int 1)) (gFrz 1)) gNil))) gNil))))) gaNil))) gNil)))) (gaD (gD (gOpNF fLst (gCons (gOpN fTup (gCons (gBin dSub (gBin dShl (gC (.int 1)) (gFrz 1)) (gC (.int 1))) (gCons (gBin dShl (gC (.int 1)) (gFrz 1)) gNil))) (gCons (gOpN fTup (gCons (gC (.int 1)) (gCons (gC (.int 1)) gNil))) gNil)))) gaNil)))))) (gRet (gR (gC (.bl false)))) gSkip)
def sr7 : GS := (gAsg (gOpN fTup (gCons (gD (gBinR dAddR (gC (.int 1)) (gD (gCall g_law_draw (gaL 0 (gaD (gC (.int 90)) gaNil)))))) (gCons (gD (gBinR dAddR (gC (.int 1)) (gD (gCall g_law_draw (gaL 0 (gaD (gC (.int 90)) gaNil)))))) gNil))) (gtTup 2 (gtCons (gtName 1) (gtCons (gtName 4) gtNil))))
def sr8 : GS := (gSet 2 (gLc [3] (gRng1 (gCons (gD (gBinR dAddR (gFrz 1) (gC (.int 1)))) gNil)) (gtName 3) gYes (gD (gCall g_law_low (gaD (gFrz 3) (gaD (gFrz 4) gaNil))))))
def sr9 : GS := (gIfS (gNot (gTru (gD (gCall g_law_same (gaD (gD (gCall g_total (gaD (gD (gCall g_law_mixed (gaL 0 (gaD (gFrz 2) gaNil)))) gaNil))) (gaD (gD (gCall g_law_low (gaD (gD (gBinR dMulR (gFrz 1) (gD (gBinR dAddR (gFrz 1) (gC (.int 1)))))) (gaD (gD (gBinR dMulR (gC (.int 2)) (gFrz 4))) gaNil)))) gaNil)))))) (gRet (gR (gC (.bl false)))) gSkip)
def sr10 : GS := (gPar [1, 5, 2] (gRCons (gBinR dAddR (gC (.int 1)) (gD (gCall g_law_draw (gaL 0 (gaD (gC (.int 20)) gaNil))))) (gRCons (gR (gC (.int 1))) (gRCons (gOpNF fLst gNil) gRNil))))
def sr11 : GS := (gFor (gRng2 (gCons (gC (.int 1)) (gCons (gD (gBinR dAddR (gFrz 1) (gC (.int 1)))) gNil))) (gtName 3) (gSeq (gSet 5 (gBinR dMulR (gFrz 5) (gD (gBinR dAddR (gFrz 3) (gC (.int 1))))))
    (gDrop (gAppend 2 (gD (gCall g_law_low (gaD (gFrz 3) (gaD (gFrz 5) gaNil))))))))
def sr12 : GS := (gIfS (gNot (gTru (gD (gCall g_law_same (gaD (gD (gCall g_total (gaD (gFrz 2) gaNil))) (gaD (gOpN fTup (gCons (gBin dSub (gFrz 5) (gC (.int 1))) (gCons (gFrz 5) gNil))) gaNil)))))) (gRet (gR (gC (.bl false)))) gSkip)
def sr13 : GS := (gSet 2 (gLc [6] (gRng1 (gCons (gD (gCall g_law_draw (gaL 0 (gaD (gC (.int 9)) gaNil)))) gNil)) (gtName 6) gYes (gD (gCall g_law_part (gaL 0 gaNil)))))
def sr14 : GS := (gSet 7 (gR (gOpN fTup (gCons (gC (.int 0)) (gCons (gC (.int 1)) gNil)))))
def sr15 : GS := (gFor (gIt (gFrz 2)) (gtName 8) (gSet 7 (gCall g_law_low (gaD (gD (gBinR dAddR (gD (gBinR dMulR (gBin dIx (gFrz 7) (gC (.int 0))) (gBin dIx (gFrz 8) (gC (.int 1))))) (gD (gBinR dMulR (gBin dIx (gFrz 8) (gC (.int 0))) (gBin dIx (gFrz 7) (gC (.int 1))))))) (gaD (gD (gBinR dMulR (gBin dIx (gFrz 7) (gC (.int 1))) (gBin dIx (gFrz 8) (gC (.int 1))))) gaNil)))))
def sr16 : GS := gRet (gCall g_law_same (gaD (gD (gOpNF fLst (gCons (gD (gCall g_total (gaD (gFrz 2) gaNil))) (gCons (gD (gCall g_total (gaD (gD (gCall g_law_mixed (gaL 0 (gaD (gFrz 2) gaNil)))) gaNil))) gNil)))) (gaD (gD (gOpNF fLst (gCons (gFrz 7) (gCons (gFrz 7) gNil)))) gaNil)))
theorem sr_split : g_law_are_sums_right = gDef 1 8 (gSeq sr1 (gSeq sr2 (gSeq sr3 (gSeq sr4 (gSeq sr5 (gSeq sr6 (gSeq sr7 (gSeq sr8 (gSeq sr9 (gSeq sr10 (gSeq sr11 (gSeq sr12 (gSeq sr13 (gSeq sr14 (gSeq sr15 sr16))))))))))))))) := rfl
theorem rng_1 (m : Nat) : rngD 1 ((m + 1 : Nat) : Int) = (List.range m).map fun i => nat (1 + i) := by
  unfold rngD
  have : (((m + 1 : Nat) : Int) - 1).toNat = m := by omega
  rw [this]
  rfl
theorem rng_0 (m : Nat) : rngD 0 (m : Int) = (List.range m).map nat := by
  unfold rngD
  have : ((m : Int) - 0).toNat = m := by omega
  rw [this]
  refine List.map_congr_left fun i _ => ?_
  show D.int (0 + (i : Int)) = D.int (i : Int)
  rw [Int.zero_add]
theorem r_ok {m : Nat} (h : m < 1000) : -(2 ^ 62) ≤ (1 : Int) ∧ (1 : Int) < 2 ^ 62 ∧ -(2 ^ 62) ≤ ((m : Nat) : Int) ∧ ((m : Nat) : Int) < 2 ^ 62 := by omega
theorem lr_ok {m : Nat} (e : Nat → D) (h : m < 1000) : ((List.range m).map e).length ≤ line := by
  rw [List.length_map, List.length_range]
  show _ ≤ 16777216
  omega
theorem okR_frp {a b : Nat} (h1 : a < 2 ^ 1900) (h2 : b < 2 ^ 1900) : (D.tup [.int (a : Int), .int (b : Int)]).okR = true := by
  show ((D.int (a : Int)).okR && ((D.int (b : Int)).okR && true)) = true
  rw [okR_nat h1, okR_nat h2]
  rfl
theorem dShl_n (k : Nat) (h : k ≤ 1000000) : dShl (.int 1) (.int (k : Int)) = some (.int ((2 ^ k : Nat) : Int)) := by
  have e : dShl (.int 1) (.int (k : Int)) = some (.int (1 * 2 ^ (k : Int).toNat)) := if_pos ⟨by omega, by omega, by decide⟩
  rw [e, Int.toNat_natCast, Int.one_mul, Int.natCast_pow]
  rfl
theorem dSub_1 (k : Nat) (h : 1 ≤ k) : dSub (.int (k : Int)) (.int 1) = some (.int ((k - 1 : Nat) : Int)) := by
  rw [dSub_ii, Int.ofNat_sub h]
  rfl
theorem len2 {a b : D} : [a, b].length = 2 := rfl
theorem st1 (h : Hd) (N : Nat) (o : h.ok N) (s1 s2 s4 s5 s6 s7 s8 : S) (f1 : s1.free = true) (f2 : s2.free = true) : ∃ (h' : Hd) (t1 t2 : S), h'.ok (N + 201) ∧ t1.free = true ∧ t2.free = true ∧
    ∀ (k : GS) (z : O), k [.par h'.c, t1, t2, .un, s4, s5, s6, s7, s8] = some z → gSeq sr1 (gSeq sr2 (gSeq sr3 k)) [.par h.c, s1, s2, .un, s4, s5, s6, s7, s8] = some z := by
  obtain ⟨h1, x, t1, o1, lx, e1⟩ := draw_eq h N 200 o (by decide) (by decide +kernel)
  have e1 : g_law_draw [.par h.c, .sh (.int 200)] = some (.v (.int (x : Int)), [.par h1.c, t1]) := e1
  have q1 : dAddR (.int 1) (.int (x : Int)) = some (.v (.int ((1 + x : Nat) : Int))) := dAddR_nn (a := 1)
  have q2 : dAddR (.int ((1 + x : Nat) : Int)) (.int 1) = some (.v (.int ((1 + x + 1 : Nat) : Int))) := dAddR_nn (b := 1)
  have hm : 1 + x ≤ 200 := by omega
  generalize 1 + x = m at q1 q2 hm
  have w := r_ok (m := m + 1) (by omega)
  have lc : lcLoop [3] (gtName 3) gYes (gOpN fTup (gCons (gC (.int 1)) (gCons (gD (gBinR dMulR (gFrz 3) (gD (gBinR dAddR (gFrz 3) (gC (.int 1)))))) gNil))) (rngD 1 ((m + 1 : Nat) : Int)) [.par h1.c, .sh (.int m), s2, .un, s4, s5, s6, s7, s8] = some ((ls1 m).map fr, [.par h1.c, .sh (.int m), s2, .un, s4, s5, s6, s7, s8]) := by
    rw [rng_1]
    have := lc_map [3] (gtName 3) (gOpN fTup (gCons (gC (.int 1)) (gCons (gD (gBinR dMulR (gFrz 3) (gD (gBinR dAddR (gFrz 3) (gC (.int 1)))))) gNil))) [.par h1.c, .sh (.int m), s2, .un, s4, s5, s6, s7, s8] (fun i => nat (1 + i)) (fun i => D.tup [.int 1, .int (((1 + i) * (1 + i + 1) : Nat) : Int)]) (fun i => i < 1000) (fun i hi => by
      have a1 : dAddR (.int ((1 + i : Nat) : Int)) (.int 1) = some (.v (.int ((1 + i + 1 : Nat) : Int))) := dAddR_nn (b := 1)
      have a2 := dMulR_nn (a := 1 + i) (b := 1 + i + 1) (.inl (by omega))
      apply Exists.intro
      apply Exists.intro
      refine And.intro ?_ (And.intro ?_ ?_)
      · repeat' (first | with_reducible assumption | with_reducible exact r_c | with_reducible exact get_z | with_reducible exact free_un | with_reducible exact free_sh | with_reducible exact free_own | with_reducible exact slot_rv | with_reducible exact slot_rf | with_reducible exact put_own | with_reducible exact put_par | with_reducible exact cell_own | with_reducible exact cell_par | with_reducible exact frz_sh | with_reducible exact r_nil | with_reducible exact rd_v | with_reducible exact rd_f | with_reducible exact tru_bl | with_reducible exact not_t | with_reducible exact not_f | with_reducible exact cand_f | with_reducible exact cor_t | with_reducible exact candV_f | with_reducible exact corV_t | with_reducible exact flat_int | with_reducible exact flat_bl | with_reducible exact r_skip | with_reducible exact cseq_rt | with_reducible exact rt_nil | with_reducible exact r_rnil | with_reducible exact sa_nil | with_reducible exact r_ganil | with_reducible exact ls_own | with_reducible exact ls_par | with_reducible exact ls_scr | with_reducible exact le_nil | with_reducible exact ln_nil | with_reducible exact so_nil | with_reducible exact sl_own | with_reducible exact sl_par | with_reducible exact sl_scr | with_reducible exact bk_nil | with_reducible exact it_l | with_reducible exact it_t | with_reducible exact ls_z | with_reducible exact kp_un | with_reducible exact kp_sh | with_reducible exact kp_own | with_reducible exact re_z | with_reducible exact fLst_0 | with_reducible exact fLst_1 | with_reducible exact fLst_2 | with_reducible exact fLst_3 | with_reducible exact fLst_4 | with_reducible exact fLst_5 | with_reducible exact dIsNot_tt | with_reducible exact r_nopart | with_reducible exact fInt_i | with_reducible exact fLen_l | with_reducible exact fLen_t | with_reducible exact fTupOf_l | with_reducible exact fTupOf_t | with_reducible exact fLstOf_l | with_reducible exact fLstOf_t | with_reducible exact fTup_1 | with_reducible exact fTup_2 | with_reducible exact fTup_3 | with_reducible exact dAddR_nn | with_reducible exact at5_0 | with_reducible exact ix5_0 | with_reducible exact st5_0 | with_reducible exact at5_1 | with_reducible exact ix5_1 | with_reducible exact st5_1 | with_reducible exact at5_2 | with_reducible exact ix5_2 | with_reducible exact st5_2 | with_reducible exact at5_3 | with_reducible exact ix5_3 | with_reducible exact st5_3 | with_reducible exact at5_4 | with_reducible exact ix5_4 | with_reducible exact st5_4 | with_reducible exact ixt2_0 | with_reducible exact ixt2_1 | with_reducible apply get_s | with_reducible apply set_z | with_reducible apply set_s | with_reducible apply put_s | with_reducible apply cell_s | with_reducible apply r_frz | with_reducible apply frz_own | with_reducible apply r_bin | with_reducible apply r_binR | with_reducible apply r_un | with_reducible apply r_opN | with_reducible apply r_opNF | with_reducible apply r_cons | with_reducible apply r_gD | with_reducible apply r_gR | with_reducible apply r_if | with_reducible apply cif_t | with_reducible apply cif_f | with_reducible apply r_tb | with_reducible apply r_tru | with_reducible apply r_not | with_reducible apply r_notV | with_reducible apply r_and | with_reducible apply cand_t | with_reducible apply r_or | with_reducible apply cor_f | with_reducible apply r_andV | with_reducible apply candV_t | with_reducible apply r_orV | with_reducible apply corV_f | with_reducible apply r_ixC | with_reducible apply r_opC | with_reducible apply r_binC | with_reducible apply r_seq | with_reducible apply cseq_nx | with_reducible apply r_drop | with_reducible apply r_ret | with_reducible apply r_ifS | with_reducible apply r_set | with_reducible apply r_setC | with_reducible apply r_append | with_reducible apply r_popAt | with_reducible apply r_alt | with_reducible apply r_asg | with_reducible apply rt_name | with_reducible apply rt_cons | with_reducible apply rt_tup | with_reducible apply r_rcons | with_reducible apply sa_cons | with_reducible apply r_par | with_reducible apply r_gad | with_reducible apply r_gal | with_reducible apply r_slScr | with_reducible apply r_part | with_reducible apply le_d | with_reducible apply le_l | with_reducible apply ln_d | with_reducible apply so_d | with_reducible apply so_l | with_reducible apply bk_d | with_reducible apply bk_par | with_reducible apply r_call | with_reducible apply re_s | with_reducible apply r_def1 | with_reducible apply r_def2 | with_reducible apply r_def3 | with_reducible apply r_it | with_reducible apply ls_s | with_reducible apply wp_1 | with_reducible apply md_1 | with_reducible apply r_rng1 | with_reducible apply r_rng2 | with_reducible apply r_for | with_reducible apply r_lc)
      · repeat' (first | with_reducible assumption | with_reducible exact r_c | with_reducible exact get_z | with_reducible exact free_un | with_reducible exact free_sh | with_reducible exact free_own | with_reducible exact slot_rv | with_reducible exact slot_rf | with_reducible exact put_own | with_reducible exact put_par | with_reducible exact cell_own | with_reducible exact cell_par | with_reducible exact frz_sh | with_reducible exact r_nil | with_reducible exact rd_v | with_reducible exact rd_f | with_reducible exact tru_bl | with_reducible exact not_t | with_reducible exact not_f | with_reducible exact cand_f | with_reducible exact cor_t | with_reducible exact candV_f | with_reducible exact corV_t | with_reducible exact flat_int | with_reducible exact flat_bl | with_reducible exact r_skip | with_reducible exact cseq_rt | with_reducible exact rt_nil | with_reducible exact r_rnil | with_reducible exact sa_nil | with_reducible exact r_ganil | with_reducible exact ls_own | with_reducible exact ls_par | with_reducible exact ls_scr | with_reducible exact le_nil | with_reducible exact ln_nil | with_reducible exact so_nil | with_reducible exact sl_own | with_reducible exact sl_par | with_reducible exact sl_scr | with_reducible exact bk_nil | with_reducible exact it_l | with_reducible exact it_t | with_reducible exact ls_z | with_reducible exact kp_un | with_reducible exact kp_sh | with_reducible exact kp_own | with_reducible exact re_z | with_reducible exact fLst_0 | with_reducible exact fLst_1 | with_reducible exact fLst_2 | with_reducible exact fLst_3 | with_reducible exact fLst_4 | with_reducible exact fLst_5 | with_reducible exact dIsNot_tt | with_reducible exact r_nopart | with_reducible exact fInt_i | with_reducible exact fLen_l | with_reducible exact fLen_t | with_reducible exact fTupOf_l | with_reducible exact fTupOf_t | with_reducible exact fLstOf_l | with_reducible exact fLstOf_t | with_reducible exact fTup_1 | with_reducible exact fTup_2 | with_reducible exact fTup_3 | with_reducible exact dAddR_nn | with_reducible exact at5_0 | with_reducible exact ix5_0 | with_reducible exact st5_0 | with_reducible exact at5_1 | with_reducible exact ix5_1 | with_reducible exact st5_1 | with_reducible exact at5_2 | with_reducible exact ix5_2 | with_reducible exact st5_2 | with_reducible exact at5_3 | with_reducible exact ix5_3 | with_reducible exact st5_3 | with_reducible exact at5_4 | with_reducible exact ix5_4 | with_reducible exact st5_4 | with_reducible exact ixt2_0 | with_reducible exact ixt2_1 | with_reducible apply get_s | with_reducible apply set_z | with_reducible apply set_s | with_reducible apply put_s | with_reducible apply cell_s | with_reducible apply r_frz | with_reducible apply frz_own | with_reducible apply r_bin | with_reducible apply r_binR | with_reducible apply r_un | with_reducible apply r_opN | with_reducible apply r_opNF | with_reducible apply r_cons | with_reducible apply r_gD | with_reducible apply r_gR | with_reducible apply r_if | with_reducible apply cif_t | with_reducible apply cif_f | with_reducible apply r_tb | with_reducible apply r_tru | with_reducible apply r_not | with_reducible apply r_notV | with_reducible apply r_and | with_reducible apply cand_t | with_reducible apply r_or | with_reducible apply cor_f | with_reducible apply r_andV | with_reducible apply candV_t | with_reducible apply r_orV | with_reducible apply corV_f | with_reducible apply r_ixC | with_reducible apply r_opC | with_reducible apply r_binC | with_reducible apply r_seq | with_reducible apply cseq_nx | with_reducible apply r_drop | with_reducible apply r_ret | with_reducible apply r_ifS | with_reducible apply r_set | with_reducible apply r_setC | with_reducible apply r_append | with_reducible apply r_popAt | with_reducible apply r_alt | with_reducible apply r_asg | with_reducible apply rt_name | with_reducible apply rt_cons | with_reducible apply rt_tup | with_reducible apply r_rcons | with_reducible apply sa_cons | with_reducible apply r_par | with_reducible apply r_gad | with_reducible apply r_gal | with_reducible apply r_slScr | with_reducible apply r_part | with_reducible apply le_d | with_reducible apply le_l | with_reducible apply ln_d | with_reducible apply so_d | with_reducible apply so_l | with_reducible apply bk_d | with_reducible apply bk_par | with_reducible apply r_call | with_reducible apply re_s | with_reducible apply r_def1 | with_reducible apply r_def2 | with_reducible apply r_def3 | with_reducible apply r_it | with_reducible apply ls_s | with_reducible apply wp_1 | with_reducible apply md_1 | with_reducible apply r_rng1 | with_reducible apply r_rng2 | with_reducible apply r_for | with_reducible apply r_lc)
      · rfl) (List.range m) (fun i hi => by have := List.mem_range.mp hi; omega)
    rw [this]
    unfold ls1
    rw [List.map_map]
    rfl
  have lr : (rngD 1 ((m + 1 : Nat) : Int)).length ≤ line := by rw [rng_1]; exact lr_ok _ (by omega)
  have hb : ∀ y ∈ ls1 m, 0 < y.2 ∧ y.2 ≤ 2 ^ 16 ∧ y.1 ≤ 1 := fun y hy => by
    obtain ⟨i, hi, rfl⟩ := List.mem_map.mp hy
    have := List.mem_range.mp hi
    refine ⟨Nat.mul_pos (by omega) (by omega), ?_, Nat.le_refl _⟩
    exact Nat.le_trans (Nat.mul_le_mul (show 1 + i ≤ 200 by omega) (show 1 + i + 1 ≤ 201 by omega)) (by decide)
  have hl : (ls1 m).length = m := by unfold ls1; rw [List.length_map, List.length_range]
  have hM := prodM_pos fun y hy => (hb y hy).1
  have hM1 : prodM (ls1 m) ≤ 2 ^ 3200 := Nat.le_trans (prodM_le fun y hy => (hb y hy).2.1) (Nat.pow_le_pow_right (by decide) (by rw [hl]; omega))
  have B1 : (2 : Nat) ^ 3200 < 2 ^ 4490 := Nat.pow_lt_pow_right (by decide) (by decide)
  have B2 : (2 : Nat) ^ 3200 * 200 < 2 ^ 300000 := Nat.lt_of_lt_of_le (show (2 : Nat) ^ 3200 * 200 < 2 ^ 3300 by decide +kernel) (Nat.pow_le_pow_right (by decide) (by decide))
  have B3 : (2 : Nat) ^ 16 < 2 ^ 1900 := Nat.pow_lt_pow_right (by decide) (by decide)
  have hs : sumM (prodM (ls1 m)) (ls1 m) < 2 ^ 300000 := by
    have := sumM_le (M := prodM (ls1 m)) fun y hy => (hb y hy).2.2
    rw [hl, Nat.one_mul] at this
    exact Nat.lt_of_le_of_lt (Nat.le_trans this (Nat.mul_le_mul hM1 hm)) B2
  obtain ⟨h2, fs, t2, u2, o2, e2, e3⟩ := mixtot_eq h1 (N + 1) o1 (ls1 m) (prodM (ls1 m)) hM (by omega) (fun y hy => ⟨(hb y hy).1, prodM_dvd y hy⟩) (fun y hy => ⟨by have := (hb y hy).2.2; omega, by have := (hb y hy).2.1; omega⟩) hs (by omega)
  rw [low_of hM (show 0 < m + 1 by omega) (ls1_sum m _ prodM_dvd) (gcd_succ m)] at e3
  obtain ⟨t3, u3, e4⟩ := same_eq (fr (m, m + 1)) (okR_frp (by show m < _; omega) (by show m + 1 < _; omega)) (by show 2 ≤ _; decide) (by show 1 ≤ _; decide)
  refine ⟨h2, .sh (.int m), .sh (.lst ((ls1 m).map fr)), o2.mono (by rw [hl]; omega), rfl, rfl, fun k z hk => ?_⟩
  unfold sr1 sr2 sr3
  repeat' (first | with_reducible assumption | with_reducible exact r_c | with_reducible exact get_z | with_reducible exact free_un | with_reducible exact free_sh | with_reducible exact free_own | with_reducible exact slot_rv | with_reducible exact slot_rf | with_reducible exact put_own | with_reducible exact put_par | with_reducible exact cell_own | with_reducible exact cell_par | with_reducible exact frz_sh | with_reducible exact r_nil | with_reducible exact rd_v | with_reducible exact rd_f | with_reducible exact tru_bl | with_reducible exact not_t | with_reducible exact not_f | with_reducible exact cand_f | with_reducible exact cor_t | with_reducible exact candV_f | with_reducible exact corV_t | with_reducible exact flat_int | with_reducible exact flat_bl | with_reducible exact r_skip | with_reducible exact cseq_rt | with_reducible exact rt_nil | with_reducible exact r_rnil | with_reducible exact sa_nil | with_reducible exact r_ganil | with_reducible exact ls_own | with_reducible exact ls_par | with_reducible exact ls_scr | with_reducible exact le_nil | with_reducible exact ln_nil | with_reducible exact so_nil | with_reducible exact sl_own | with_reducible exact sl_par | with_reducible exact sl_scr | with_reducible exact bk_nil | with_reducible exact it_l | with_reducible exact it_t | with_reducible exact ls_z | with_reducible exact kp_un | with_reducible exact kp_sh | with_reducible exact kp_own | with_reducible exact re_z | with_reducible exact fLst_0 | with_reducible exact fLst_1 | with_reducible exact fLst_2 | with_reducible exact fLst_3 | with_reducible exact fLst_4 | with_reducible exact fLst_5 | with_reducible exact dIsNot_tt | with_reducible exact r_nopart | with_reducible exact fInt_i | with_reducible exact fLen_l | with_reducible exact fLen_t | with_reducible exact fTupOf_l | with_reducible exact fTupOf_t | with_reducible exact fLstOf_l | with_reducible exact fLstOf_t | with_reducible exact fTup_1 | with_reducible exact fTup_2 | with_reducible exact fTup_3 | with_reducible exact dAddR_nn | with_reducible exact at5_0 | with_reducible exact ix5_0 | with_reducible exact st5_0 | with_reducible exact at5_1 | with_reducible exact ix5_1 | with_reducible exact st5_1 | with_reducible exact at5_2 | with_reducible exact ix5_2 | with_reducible exact st5_2 | with_reducible exact at5_3 | with_reducible exact ix5_3 | with_reducible exact st5_3 | with_reducible exact at5_4 | with_reducible exact ix5_4 | with_reducible exact st5_4 | with_reducible exact ixt2_0 | with_reducible exact ixt2_1 | with_reducible apply get_s | with_reducible apply set_z | with_reducible apply set_s | with_reducible apply put_s | with_reducible apply cell_s | with_reducible apply r_frz | with_reducible apply frz_own | with_reducible apply r_bin | with_reducible apply r_binR | with_reducible apply r_un | with_reducible apply r_opN | with_reducible apply r_opNF | with_reducible apply r_cons | with_reducible apply r_gD | with_reducible apply r_gR | with_reducible apply r_if | with_reducible apply cif_t | with_reducible apply cif_f | with_reducible apply r_tb | with_reducible apply r_tru | with_reducible apply r_not | with_reducible apply r_notV | with_reducible apply r_and | with_reducible apply cand_t | with_reducible apply r_or | with_reducible apply cor_f | with_reducible apply r_andV | with_reducible apply candV_t | with_reducible apply r_orV | with_reducible apply corV_f | with_reducible apply r_ixC | with_reducible apply r_opC | with_reducible apply r_binC | with_reducible apply r_seq | with_reducible apply cseq_nx | with_reducible apply r_drop | with_reducible apply r_ret | with_reducible apply r_ifS | with_reducible apply r_set | with_reducible apply r_setC | with_reducible apply r_append | with_reducible apply r_popAt | with_reducible apply r_alt | with_reducible apply r_asg | with_reducible apply rt_name | with_reducible apply rt_cons | with_reducible apply rt_tup | with_reducible apply r_rcons | with_reducible apply sa_cons | with_reducible apply r_par | with_reducible apply r_gad | with_reducible apply r_gal | with_reducible apply r_slScr | with_reducible apply r_part | with_reducible apply le_d | with_reducible apply le_l | with_reducible apply ln_d | with_reducible apply so_d | with_reducible apply so_l | with_reducible apply bk_d | with_reducible apply bk_par | with_reducible apply r_call | with_reducible apply re_s | with_reducible apply r_def1 | with_reducible apply r_def2 | with_reducible apply r_def3 | with_reducible apply r_it | with_reducible apply ls_s | with_reducible apply wp_1 | with_reducible apply md_1 | with_reducible apply r_rng1 | with_reducible apply r_rng2 | with_reducible apply r_for | with_reducible apply r_lc)
theorem st2 (h : Hd) (N : Nat) (o : h.ok N) (s1 s2 s4 s5 s6 s7 s8 : S) (f1 : s1.free = true) (f2 : s2.free = true) : ∃ (h' : Hd) (t1 t2 : S), h'.ok (N + 1) ∧ t1.free = true ∧ t2.free = true ∧
    ∀ (k : GS) (z : O), k [.par h'.c, t1, t2, .un, s4, s5, s6, s7, s8] = some z → gSeq sr4 (gSeq sr5 (gSeq sr6 k)) [.par h.c, s1, s2, .un, s4, s5, s6, s7, s8] = some z := by
  obtain ⟨h1, x, t1, o1, lx, e1⟩ := draw_eq h N 120 o (by decide) (by decide +kernel)
  have e1 : g_law_draw [.par h.c, .sh (.int 120)] = some (.v (.int (x : Int)), [.par h1.c, t1]) := e1
  have q1 : dAddR (.int 1) (.int (x : Int)) = some (.v (.int ((1 + x : Nat) : Int))) := dAddR_nn (a := 1)
  have q2 : dAddR (.int ((1 + x : Nat) : Int)) (.int 1) = some (.v (.int ((1 + x + 1 : Nat) : Int))) := dAddR_nn (b := 1)
  have hm : 1 + x ≤ 120 := by omega
  have hm0 : 0 < 1 + x := by omega
  generalize 1 + x = m at q1 q2 hm hm0
  have w := r_ok (m := m + 1) (by omega)
  have lc : lcLoop [3] (gtName 3) gYes (gOpN fTup (gCons (gC (.int 1)) (gCons (gBin dShl (gC (.int 1)) (gFrz 3)) gNil))) (rngD 1 ((m + 1 : Nat) : Int)) [.par h1.c, .sh (.int m), s2, .un, s4, s5, s6, s7, s8] = some ((ls2 m).map fr, [.par h1.c, .sh (.int m), s2, .un, s4, s5, s6, s7, s8]) := by
    rw [rng_1]
    have := lc_map [3] (gtName 3) (gOpN fTup (gCons (gC (.int 1)) (gCons (gBin dShl (gC (.int 1)) (gFrz 3)) gNil))) [.par h1.c, .sh (.int m), s2, .un, s4, s5, s6, s7, s8] (fun i => nat (1 + i)) (fun i => D.tup [.int 1, .int ((2 ^ (1 + i) : Nat) : Int)]) (fun i => i < 1000) (fun i hi => by
      have a1 := dShl_n (1 + i) (by omega)
      apply Exists.intro
      apply Exists.intro
      refine And.intro ?_ (And.intro ?_ ?_)
      · repeat' (first | with_reducible assumption | with_reducible exact r_c | with_reducible exact get_z | with_reducible exact free_un | with_reducible exact free_sh | with_reducible exact free_own | with_reducible exact slot_rv | with_reducible exact slot_rf | with_reducible exact put_own | with_reducible exact put_par | with_reducible exact cell_own | with_reducible exact cell_par | with_reducible exact frz_sh | with_reducible exact r_nil | with_reducible exact rd_v | with_reducible exact rd_f | with_reducible exact tru_bl | with_reducible exact not_t | with_reducible exact not_f | with_reducible exact cand_f | with_reducible exact cor_t | with_reducible exact candV_f | with_reducible exact corV_t | with_reducible exact flat_int | with_reducible exact flat_bl | with_reducible exact r_skip | with_reducible exact cseq_rt | with_reducible exact rt_nil | with_reducible exact r_rnil | with_reducible exact sa_nil | with_reducible exact r_ganil | with_reducible exact ls_own | with_reducible exact ls_par | with_reducible exact ls_scr | with_reducible exact le_nil | with_reducible exact ln_nil | with_reducible exact so_nil | with_reducible exact sl_own | with_reducible exact sl_par | with_reducible exact sl_scr | with_reducible exact bk_nil | with_reducible exact it_l | with_reducible exact it_t | with_reducible exact ls_z | with_reducible exact kp_un | with_reducible exact kp_sh | with_reducible exact kp_own | with_reducible exact re_z | with_reducible exact fLst_0 | with_reducible exact fLst_1 | with_reducible exact fLst_2 | with_reducible exact fLst_3 | with_reducible exact fLst_4 | with_reducible exact fLst_5 | with_reducible exact dIsNot_tt | with_reducible exact r_nopart | with_reducible exact fInt_i | with_reducible exact fLen_l | with_reducible exact fLen_t | with_reducible exact fTupOf_l | with_reducible exact fTupOf_t | with_reducible exact fLstOf_l | with_reducible exact fLstOf_t | with_reducible exact fTup_1 | with_reducible exact fTup_2 | with_reducible exact fTup_3 | with_reducible exact dAddR_nn | with_reducible exact at5_0 | with_reducible exact ix5_0 | with_reducible exact st5_0 | with_reducible exact at5_1 | with_reducible exact ix5_1 | with_reducible exact st5_1 | with_reducible exact at5_2 | with_reducible exact ix5_2 | with_reducible exact st5_2 | with_reducible exact at5_3 | with_reducible exact ix5_3 | with_reducible exact st5_3 | with_reducible exact at5_4 | with_reducible exact ix5_4 | with_reducible exact st5_4 | with_reducible exact ixt2_0 | with_reducible exact ixt2_1 | with_reducible apply get_s | with_reducible apply set_z | with_reducible apply set_s | with_reducible apply put_s | with_reducible apply cell_s | with_reducible apply r_frz | with_reducible apply frz_own | with_reducible apply r_bin | with_reducible apply r_binR | with_reducible apply r_un | with_reducible apply r_opN | with_reducible apply r_opNF | with_reducible apply r_cons | with_reducible apply r_gD | with_reducible apply r_gR | with_reducible apply r_if | with_reducible apply cif_t | with_reducible apply cif_f | with_reducible apply r_tb | with_reducible apply r_tru | with_reducible apply r_not | with_reducible apply r_notV | with_reducible apply r_and | with_reducible apply cand_t | with_reducible apply r_or | with_reducible apply cor_f | with_reducible apply r_andV | with_reducible apply candV_t | with_reducible apply r_orV | with_reducible apply corV_f | with_reducible apply r_ixC | with_reducible apply r_opC | with_reducible apply r_binC | with_reducible apply r_seq | with_reducible apply cseq_nx | with_reducible apply r_drop | with_reducible apply r_ret | with_reducible apply r_ifS | with_reducible apply r_set | with_reducible apply r_setC | with_reducible apply r_append | with_reducible apply r_popAt | with_reducible apply r_alt | with_reducible apply r_asg | with_reducible apply rt_name | with_reducible apply rt_cons | with_reducible apply rt_tup | with_reducible apply r_rcons | with_reducible apply sa_cons | with_reducible apply r_par | with_reducible apply r_gad | with_reducible apply r_gal | with_reducible apply r_slScr | with_reducible apply r_part | with_reducible apply le_d | with_reducible apply le_l | with_reducible apply ln_d | with_reducible apply so_d | with_reducible apply so_l | with_reducible apply bk_d | with_reducible apply bk_par | with_reducible apply r_call | with_reducible apply re_s | with_reducible apply r_def1 | with_reducible apply r_def2 | with_reducible apply r_def3 | with_reducible apply r_it | with_reducible apply ls_s | with_reducible apply wp_1 | with_reducible apply md_1 | with_reducible apply r_rng1 | with_reducible apply r_rng2 | with_reducible apply r_for | with_reducible apply r_lc)
      · repeat' (first | with_reducible assumption | with_reducible exact r_c | with_reducible exact get_z | with_reducible exact free_un | with_reducible exact free_sh | with_reducible exact free_own | with_reducible exact slot_rv | with_reducible exact slot_rf | with_reducible exact put_own | with_reducible exact put_par | with_reducible exact cell_own | with_reducible exact cell_par | with_reducible exact frz_sh | with_reducible exact r_nil | with_reducible exact rd_v | with_reducible exact rd_f | with_reducible exact tru_bl | with_reducible exact not_t | with_reducible exact not_f | with_reducible exact cand_f | with_reducible exact cor_t | with_reducible exact candV_f | with_reducible exact corV_t | with_reducible exact flat_int | with_reducible exact flat_bl | with_reducible exact r_skip | with_reducible exact cseq_rt | with_reducible exact rt_nil | with_reducible exact r_rnil | with_reducible exact sa_nil | with_reducible exact r_ganil | with_reducible exact ls_own | with_reducible exact ls_par | with_reducible exact ls_scr | with_reducible exact le_nil | with_reducible exact ln_nil | with_reducible exact so_nil | with_reducible exact sl_own | with_reducible exact sl_par | with_reducible exact sl_scr | with_reducible exact bk_nil | with_reducible exact it_l | with_reducible exact it_t | with_reducible exact ls_z | with_reducible exact kp_un | with_reducible exact kp_sh | with_reducible exact kp_own | with_reducible exact re_z | with_reducible exact fLst_0 | with_reducible exact fLst_1 | with_reducible exact fLst_2 | with_reducible exact fLst_3 | with_reducible exact fLst_4 | with_reducible exact fLst_5 | with_reducible exact dIsNot_tt | with_reducible exact r_nopart | with_reducible exact fInt_i | with_reducible exact fLen_l | with_reducible exact fLen_t | with_reducible exact fTupOf_l | with_reducible exact fTupOf_t | with_reducible exact fLstOf_l | with_reducible exact fLstOf_t | with_reducible exact fTup_1 | with_reducible exact fTup_2 | with_reducible exact fTup_3 | with_reducible exact dAddR_nn | with_reducible exact at5_0 | with_reducible exact ix5_0 | with_reducible exact st5_0 | with_reducible exact at5_1 | with_reducible exact ix5_1 | with_reducible exact st5_1 | with_reducible exact at5_2 | with_reducible exact ix5_2 | with_reducible exact st5_2 | with_reducible exact at5_3 | with_reducible exact ix5_3 | with_reducible exact st5_3 | with_reducible exact at5_4 | with_reducible exact ix5_4 | with_reducible exact st5_4 | with_reducible exact ixt2_0 | with_reducible exact ixt2_1 | with_reducible apply get_s | with_reducible apply set_z | with_reducible apply set_s | with_reducible apply put_s | with_reducible apply cell_s | with_reducible apply r_frz | with_reducible apply frz_own | with_reducible apply r_bin | with_reducible apply r_binR | with_reducible apply r_un | with_reducible apply r_opN | with_reducible apply r_opNF | with_reducible apply r_cons | with_reducible apply r_gD | with_reducible apply r_gR | with_reducible apply r_if | with_reducible apply cif_t | with_reducible apply cif_f | with_reducible apply r_tb | with_reducible apply r_tru | with_reducible apply r_not | with_reducible apply r_notV | with_reducible apply r_and | with_reducible apply cand_t | with_reducible apply r_or | with_reducible apply cor_f | with_reducible apply r_andV | with_reducible apply candV_t | with_reducible apply r_orV | with_reducible apply corV_f | with_reducible apply r_ixC | with_reducible apply r_opC | with_reducible apply r_binC | with_reducible apply r_seq | with_reducible apply cseq_nx | with_reducible apply r_drop | with_reducible apply r_ret | with_reducible apply r_ifS | with_reducible apply r_set | with_reducible apply r_setC | with_reducible apply r_append | with_reducible apply r_popAt | with_reducible apply r_alt | with_reducible apply r_asg | with_reducible apply rt_name | with_reducible apply rt_cons | with_reducible apply rt_tup | with_reducible apply r_rcons | with_reducible apply sa_cons | with_reducible apply r_par | with_reducible apply r_gad | with_reducible apply r_gal | with_reducible apply r_slScr | with_reducible apply r_part | with_reducible apply le_d | with_reducible apply le_l | with_reducible apply ln_d | with_reducible apply so_d | with_reducible apply so_l | with_reducible apply bk_d | with_reducible apply bk_par | with_reducible apply r_call | with_reducible apply re_s | with_reducible apply r_def1 | with_reducible apply r_def2 | with_reducible apply r_def3 | with_reducible apply r_it | with_reducible apply ls_s | with_reducible apply wp_1 | with_reducible apply md_1 | with_reducible apply r_rng1 | with_reducible apply r_rng2 | with_reducible apply r_for | with_reducible apply r_lc)
      · rfl) (List.range m) (fun i hi => by have := List.mem_range.mp hi; omega)
    rw [this]
    unfold ls2
    rw [List.map_map]
    rfl
  have lr : (rngD 1 ((m + 1 : Nat) : Int)).length ≤ line := by rw [rng_1]; exact lr_ok _ (by omega)
  have p0 : 0 < 2 ^ m := Nat.pow_pos (by decide)
  have hb : ∀ y ∈ ls2 m, 0 < y.2 ∧ y.2 ∣ 2 ^ m := fun y hy => by
    obtain ⟨i, hi, rfl⟩ := List.mem_map.mp hy
    have := List.mem_range.mp hi
    exact ⟨Nat.pow_pos (by decide), Nat.pow_dvd_pow 2 (by omega)⟩
  have hs := ls2_sum m m (Nat.le_refl _)
  rw [Nat.sub_self] at hs
  have hs : sumM (2 ^ m) (ls2 m) + 1 = 2 ^ m := hs
  have b0 : 2 ^ m ≤ 2 ^ 120 := Nat.pow_le_pow_right (by decide) hm
  have B1 : (2 : Nat) ^ 120 < 2 ^ 4490 := Nat.pow_lt_pow_right (by decide) (by decide)
  have B2 : (2 : Nat) ^ 120 < 2 ^ 300000 := Nat.pow_lt_pow_right (by decide) (by decide)
  have B3 : (2 : Nat) ^ 120 < 2 ^ 1900 := Nat.pow_lt_pow_right (by decide) (by decide)
  obtain ⟨t2, e2⟩ := total_eq (ls2 m) (2 ^ m) p0 (by omega) hb (by omega)
  have godd : Nat.gcd (2 ^ m - 1) (2 ^ m) = 1 := by
    have := gcd_succ (2 ^ m - 1)
    rwa [show 2 ^ m - 1 + 1 = 2 ^ m by omega] at this
  rw [show sumM (2 ^ m) (ls2 m) = 2 ^ m - 1 by omega, low_cop godd] at e2
  have s2' : sumM (2 ^ m) (ls2 m ++ [(1, 2 ^ m)]) = 2 ^ m := by
    rw [sumM_app, sumM_one]
    show _ + 1 * (2 ^ m / 2 ^ m) = _
    rw [Nat.div_self p0]
    exact hs
  obtain ⟨t3, e3⟩ := total_eq (ls2 m ++ [(1, 2 ^ m)]) (2 ^ m) p0 (by omega) (fun y hy => by
    rcases List.mem_append.mp hy with z | z
    · exact hb y z
    · rw [List.mem_singleton.mp z]
      exact ⟨p0, Nat.dvd_refl _⟩) (by rw [s2']; omega)
  have lone : low (2 ^ m) (2 ^ m) = (1, 1) := by
    unfold low
    rw [Nat.gcd_self, Nat.div_self p0]
  rw [s2', lone, List.map_append] at e3
  have e3 : g_total [.sh (.lst ((ls2 m).map fr ++ [.tup [.int 1, .int ((2 ^ m : Nat) : Int)]]))] = some (.v (fr (1, 1)), [t3]) := e3
  have q3 : dAddR (.lst ((ls2 m).map fr)) (.lst [.tup [.int 1, .int ((2 ^ m : Nat) : Int)]]) = some (.fl ((ls2 m).map fr ++ [.tup [.int 1, .int ((2 ^ m : Nat) : Int)]])) := if_pos (by
    have : (ls2 m).length = m := by unfold ls2; rw [List.length_map, List.length_range]
    rw [List.length_map, this]
    show m + 1 ≤ 16777216
    omega)
  have a1 := dShl_n m (by omega)
  have a2 := dSub_1 (2 ^ m) p0
  obtain ⟨t4, u4, e4⟩ := same_eq (.lst [fr (2 ^ m - 1, 2 ^ m), fr (1, 1)]) (by show ((fr (2 ^ m - 1, 2 ^ m)).okR && ((fr (1, 1)).okR && true)) = true; rw [okR_frp (a := 2 ^ m - 1) (b := 2 ^ m) (by omega) (by omega)]; rfl) (by show 6 ≤ _; decide) (by show 2 ≤ _; decide)
  have e4 : g_law_same [.sh (.lst [fr (2 ^ m - 1, 2 ^ m), fr (1, 1)]), .sh (.lst [fr (2 ^ m - 1, 2 ^ m), .tup [.int 1, .int 1]])] = some (.v (.bl true), [t4, u4]) := e4
  generalize 2 ^ m = M at *
  refine ⟨h1, .sh (.int m), .sh (.lst ((ls2 m).map fr)), o1, rfl, rfl, fun k z hk => ?_⟩
  unfold sr4 sr5 sr6
  repeat' (first | with_reducible assumption | with_reducible exact r_c | with_reducible exact get_z | with_reducible exact free_un | with_reducible exact free_sh | with_reducible exact free_own | with_reducible exact slot_rv | with_reducible exact slot_rf | with_reducible exact put_own | with_reducible exact put_par | with_reducible exact cell_own | with_reducible exact cell_par | with_reducible exact frz_sh | with_reducible exact r_nil | with_reducible exact rd_v | with_reducible exact rd_f | with_reducible exact tru_bl | with_reducible exact not_t | with_reducible exact not_f | with_reducible exact cand_f | with_reducible exact cor_t | with_reducible exact candV_f | with_reducible exact corV_t | with_reducible exact flat_int | with_reducible exact flat_bl | with_reducible exact r_skip | with_reducible exact cseq_rt | with_reducible exact rt_nil | with_reducible exact r_rnil | with_reducible exact sa_nil | with_reducible exact r_ganil | with_reducible exact ls_own | with_reducible exact ls_par | with_reducible exact ls_scr | with_reducible exact le_nil | with_reducible exact ln_nil | with_reducible exact so_nil | with_reducible exact sl_own | with_reducible exact sl_par | with_reducible exact sl_scr | with_reducible exact bk_nil | with_reducible exact it_l | with_reducible exact it_t | with_reducible exact ls_z | with_reducible exact kp_un | with_reducible exact kp_sh | with_reducible exact kp_own | with_reducible exact re_z | with_reducible exact fLst_0 | with_reducible exact fLst_1 | with_reducible exact fLst_2 | with_reducible exact fLst_3 | with_reducible exact fLst_4 | with_reducible exact fLst_5 | with_reducible exact dIsNot_tt | with_reducible exact r_nopart | with_reducible exact fInt_i | with_reducible exact fLen_l | with_reducible exact fLen_t | with_reducible exact fTupOf_l | with_reducible exact fTupOf_t | with_reducible exact fLstOf_l | with_reducible exact fLstOf_t | with_reducible exact fTup_1 | with_reducible exact fTup_2 | with_reducible exact fTup_3 | with_reducible exact dAddR_nn | with_reducible exact at5_0 | with_reducible exact ix5_0 | with_reducible exact st5_0 | with_reducible exact at5_1 | with_reducible exact ix5_1 | with_reducible exact st5_1 | with_reducible exact at5_2 | with_reducible exact ix5_2 | with_reducible exact st5_2 | with_reducible exact at5_3 | with_reducible exact ix5_3 | with_reducible exact st5_3 | with_reducible exact at5_4 | with_reducible exact ix5_4 | with_reducible exact st5_4 | with_reducible exact ixt2_0 | with_reducible exact ixt2_1 | with_reducible apply get_s | with_reducible apply set_z | with_reducible apply set_s | with_reducible apply put_s | with_reducible apply cell_s | with_reducible apply r_frz | with_reducible apply frz_own | with_reducible apply r_bin | with_reducible apply r_binR | with_reducible apply r_un | with_reducible apply r_opN | with_reducible apply r_opNF | with_reducible apply r_cons | with_reducible apply r_gD | with_reducible apply r_gR | with_reducible apply r_if | with_reducible apply cif_t | with_reducible apply cif_f | with_reducible apply r_tb | with_reducible apply r_tru | with_reducible apply r_not | with_reducible apply r_notV | with_reducible apply r_and | with_reducible apply cand_t | with_reducible apply r_or | with_reducible apply cor_f | with_reducible apply r_andV | with_reducible apply candV_t | with_reducible apply r_orV | with_reducible apply corV_f | with_reducible apply r_ixC | with_reducible apply r_opC | with_reducible apply r_binC | with_reducible apply r_seq | with_reducible apply cseq_nx | with_reducible apply r_drop | with_reducible apply r_ret | with_reducible apply r_ifS | with_reducible apply r_set | with_reducible apply r_setC | with_reducible apply r_append | with_reducible apply r_popAt | with_reducible apply r_alt | with_reducible apply r_asg | with_reducible apply rt_name | with_reducible apply rt_cons | with_reducible apply rt_tup | with_reducible apply r_rcons | with_reducible apply sa_cons | with_reducible apply r_par | with_reducible apply r_gad | with_reducible apply r_gal | with_reducible apply r_slScr | with_reducible apply r_part | with_reducible apply le_d | with_reducible apply le_l | with_reducible apply ln_d | with_reducible apply so_d | with_reducible apply so_l | with_reducible apply bk_d | with_reducible apply bk_par | with_reducible apply r_call | with_reducible apply re_s | with_reducible apply r_def1 | with_reducible apply r_def2 | with_reducible apply r_def3 | with_reducible apply r_it | with_reducible apply ls_s | with_reducible apply wp_1 | with_reducible apply md_1 | with_reducible apply r_rng1 | with_reducible apply r_rng2 | with_reducible apply r_for | with_reducible apply r_lc)
theorem st3 (h : Hd) (N : Nat) (o : h.ok N) (s1 s2 s4 s5 s6 s7 s8 : S) (f1 : s1.free = true) (f2 : s2.free = true) (f4 : s4.free = true) : ∃ (h' : Hd) (t1 t2 t4 : S), h'.ok (N + 93) ∧ t1.free = true ∧ t2.free = true ∧ t4.free = true ∧
    ∀ (k : GS) (z : O), k [.par h'.c, t1, t2, .un, t4, s5, s6, s7, s8] = some z → gSeq sr7 (gSeq sr8 (gSeq sr9 k)) [.par h.c, s1, s2, .un, s4, s5, s6, s7, s8] = some z := by
  obtain ⟨h1, x, t1, o1, lx, e1⟩ := draw_eq h N 90 o (by decide) (by decide +kernel)
  have e1 : g_law_draw [.par h.c, .sh (.int 90)] = some (.v (.int (x : Int)), [.par h1.c, t1]) := e1
  obtain ⟨h2, y, t2, o2, ly, e2⟩ := draw_eq h1 (N + 1) 90 o1 (by decide) (by decide +kernel)
  have e2 : g_law_draw [.par h1.c, .sh (.int 90)] = some (.v (.int (y : Int)), [.par h2.c, t2]) := e2
  have q1 : dAddR (.int 1) (.int (x : Int)) = some (.v (.int ((1 + x : Nat) : Int))) := dAddR_nn (a := 1)
  have q2 : dAddR (.int 1) (.int (y : Int)) = some (.v (.int ((1 + y : Nat) : Int))) := dAddR_nn (a := 1)
  have q3 : dAddR (.int ((1 + x : Nat) : Int)) (.int 1) = some (.v (.int ((1 + x + 1 : Nat) : Int))) := dAddR_nn (b := 1)
  have hm : 1 + x ≤ 90 := by omega
  have hb : 1 + y ≤ 90 := by omega
  have hb0 : 0 < 1 + y := by omega
  generalize 1 + x = m at q1 q3 hm
  generalize 1 + y = b at q2 hb hb0
  have B3 : 100000 < 2 ^ 1900 := by decide
  have B1 : (90 : Nat) < 2 ^ 4490 := by decide +kernel
  have B2 : (100000 : Nat) < 2 ^ 300000 := Nat.lt_trans B3 (Nat.pow_lt_pow_right (by decide) (by decide))
  have w : -(2 ^ 62) ≤ ((m + 1 : Nat) : Int) ∧ ((m + 1 : Nat) : Int) < 2 ^ 62 := by omega
  have lc : lcLoop [3] (gtName 3) gYes (gD (gCall g_law_low (gaD (gFrz 3) (gaD (gFrz 4) gaNil)))) (rngD 0 ((m + 1 : Nat) : Int)) [.par h2.c, .sh (.int m), s2, .un, .sh (.int b), s5, s6, s7, s8] = some ((ls3 m b).map fr, [.par h2.c, .sh (.int m), s2, .un, .sh (.int b), s5, s6, s7, s8]) := by
    rw [rng_0]
    have := lc_map [3] (gtName 3) (gD (gCall g_law_low (gaD (gFrz 3) (gaD (gFrz 4) gaNil)))) [.par h2.c, .sh (.int m), s2, .un, .sh (.int b), s5, s6, s7, s8] nat (fun i => fr (low i b)) (fun _ => True) (fun i _ => by
      obtain ⟨t, u, e⟩ := law_low_eq i b (by omega) hb0
      apply Exists.intro
      apply Exists.intro
      refine And.intro ?_ (And.intro ?_ ?_)
      · repeat' (first | with_reducible assumption | with_reducible exact r_c | with_reducible exact get_z | with_reducible exact free_un | with_reducible exact free_sh | with_reducible exact free_own | with_reducible exact slot_rv | with_reducible exact slot_rf | with_reducible exact put_own | with_reducible exact put_par | with_reducible exact cell_own | with_reducible exact cell_par | with_reducible exact frz_sh | with_reducible exact r_nil | with_reducible exact rd_v | with_reducible exact rd_f | with_reducible exact tru_bl | with_reducible exact not_t | with_reducible exact not_f | with_reducible exact cand_f | with_reducible exact cor_t | with_reducible exact candV_f | with_reducible exact corV_t | with_reducible exact flat_int | with_reducible exact flat_bl | with_reducible exact r_skip | with_reducible exact cseq_rt | with_reducible exact rt_nil | with_reducible exact r_rnil | with_reducible exact sa_nil | with_reducible exact r_ganil | with_reducible exact ls_own | with_reducible exact ls_par | with_reducible exact ls_scr | with_reducible exact le_nil | with_reducible exact ln_nil | with_reducible exact so_nil | with_reducible exact sl_own | with_reducible exact sl_par | with_reducible exact sl_scr | with_reducible exact bk_nil | with_reducible exact it_l | with_reducible exact it_t | with_reducible exact ls_z | with_reducible exact kp_un | with_reducible exact kp_sh | with_reducible exact kp_own | with_reducible exact re_z | with_reducible exact fLst_0 | with_reducible exact fLst_1 | with_reducible exact fLst_2 | with_reducible exact fLst_3 | with_reducible exact fLst_4 | with_reducible exact fLst_5 | with_reducible exact dIsNot_tt | with_reducible exact r_nopart | with_reducible exact fInt_i | with_reducible exact fLen_l | with_reducible exact fLen_t | with_reducible exact fTupOf_l | with_reducible exact fTupOf_t | with_reducible exact fLstOf_l | with_reducible exact fLstOf_t | with_reducible exact fTup_1 | with_reducible exact fTup_2 | with_reducible exact fTup_3 | with_reducible exact dAddR_nn | with_reducible exact at5_0 | with_reducible exact ix5_0 | with_reducible exact st5_0 | with_reducible exact at5_1 | with_reducible exact ix5_1 | with_reducible exact st5_1 | with_reducible exact at5_2 | with_reducible exact ix5_2 | with_reducible exact st5_2 | with_reducible exact at5_3 | with_reducible exact ix5_3 | with_reducible exact st5_3 | with_reducible exact at5_4 | with_reducible exact ix5_4 | with_reducible exact st5_4 | with_reducible exact ixt2_0 | with_reducible exact ixt2_1 | with_reducible apply get_s | with_reducible apply set_z | with_reducible apply set_s | with_reducible apply put_s | with_reducible apply cell_s | with_reducible apply r_frz | with_reducible apply frz_own | with_reducible apply r_bin | with_reducible apply r_binR | with_reducible apply r_un | with_reducible apply r_opN | with_reducible apply r_opNF | with_reducible apply r_cons | with_reducible apply r_gD | with_reducible apply r_gR | with_reducible apply r_if | with_reducible apply cif_t | with_reducible apply cif_f | with_reducible apply r_tb | with_reducible apply r_tru | with_reducible apply r_not | with_reducible apply r_notV | with_reducible apply r_and | with_reducible apply cand_t | with_reducible apply r_or | with_reducible apply cor_f | with_reducible apply r_andV | with_reducible apply candV_t | with_reducible apply r_orV | with_reducible apply corV_f | with_reducible apply r_ixC | with_reducible apply r_opC | with_reducible apply r_binC | with_reducible apply r_seq | with_reducible apply cseq_nx | with_reducible apply r_drop | with_reducible apply r_ret | with_reducible apply r_ifS | with_reducible apply r_set | with_reducible apply r_setC | with_reducible apply r_append | with_reducible apply r_popAt | with_reducible apply r_alt | with_reducible apply r_asg | with_reducible apply rt_name | with_reducible apply rt_cons | with_reducible apply rt_tup | with_reducible apply r_rcons | with_reducible apply sa_cons | with_reducible apply r_par | with_reducible apply r_gad | with_reducible apply r_gal | with_reducible apply r_slScr | with_reducible apply r_part | with_reducible apply le_d | with_reducible apply le_l | with_reducible apply ln_d | with_reducible apply so_d | with_reducible apply so_l | with_reducible apply bk_d | with_reducible apply bk_par | with_reducible apply r_call | with_reducible apply re_s | with_reducible apply r_def1 | with_reducible apply r_def2 | with_reducible apply r_def3 | with_reducible apply r_it | with_reducible apply ls_s | with_reducible apply wp_1 | with_reducible apply md_1 | with_reducible apply r_rng1 | with_reducible apply r_rng2 | with_reducible apply r_for | with_reducible apply r_lc)
      · repeat' (first | with_reducible assumption | with_reducible exact r_c | with_reducible exact get_z | with_reducible exact free_un | with_reducible exact free_sh | with_reducible exact free_own | with_reducible exact slot_rv | with_reducible exact slot_rf | with_reducible exact put_own | with_reducible exact put_par | with_reducible exact cell_own | with_reducible exact cell_par | with_reducible exact frz_sh | with_reducible exact r_nil | with_reducible exact rd_v | with_reducible exact rd_f | with_reducible exact tru_bl | with_reducible exact not_t | with_reducible exact not_f | with_reducible exact cand_f | with_reducible exact cor_t | with_reducible exact candV_f | with_reducible exact corV_t | with_reducible exact flat_int | with_reducible exact flat_bl | with_reducible exact r_skip | with_reducible exact cseq_rt | with_reducible exact rt_nil | with_reducible exact r_rnil | with_reducible exact sa_nil | with_reducible exact r_ganil | with_reducible exact ls_own | with_reducible exact ls_par | with_reducible exact ls_scr | with_reducible exact le_nil | with_reducible exact ln_nil | with_reducible exact so_nil | with_reducible exact sl_own | with_reducible exact sl_par | with_reducible exact sl_scr | with_reducible exact bk_nil | with_reducible exact it_l | with_reducible exact it_t | with_reducible exact ls_z | with_reducible exact kp_un | with_reducible exact kp_sh | with_reducible exact kp_own | with_reducible exact re_z | with_reducible exact fLst_0 | with_reducible exact fLst_1 | with_reducible exact fLst_2 | with_reducible exact fLst_3 | with_reducible exact fLst_4 | with_reducible exact fLst_5 | with_reducible exact dIsNot_tt | with_reducible exact r_nopart | with_reducible exact fInt_i | with_reducible exact fLen_l | with_reducible exact fLen_t | with_reducible exact fTupOf_l | with_reducible exact fTupOf_t | with_reducible exact fLstOf_l | with_reducible exact fLstOf_t | with_reducible exact fTup_1 | with_reducible exact fTup_2 | with_reducible exact fTup_3 | with_reducible exact dAddR_nn | with_reducible exact at5_0 | with_reducible exact ix5_0 | with_reducible exact st5_0 | with_reducible exact at5_1 | with_reducible exact ix5_1 | with_reducible exact st5_1 | with_reducible exact at5_2 | with_reducible exact ix5_2 | with_reducible exact st5_2 | with_reducible exact at5_3 | with_reducible exact ix5_3 | with_reducible exact st5_3 | with_reducible exact at5_4 | with_reducible exact ix5_4 | with_reducible exact st5_4 | with_reducible exact ixt2_0 | with_reducible exact ixt2_1 | with_reducible apply get_s | with_reducible apply set_z | with_reducible apply set_s | with_reducible apply put_s | with_reducible apply cell_s | with_reducible apply r_frz | with_reducible apply frz_own | with_reducible apply r_bin | with_reducible apply r_binR | with_reducible apply r_un | with_reducible apply r_opN | with_reducible apply r_opNF | with_reducible apply r_cons | with_reducible apply r_gD | with_reducible apply r_gR | with_reducible apply r_if | with_reducible apply cif_t | with_reducible apply cif_f | with_reducible apply r_tb | with_reducible apply r_tru | with_reducible apply r_not | with_reducible apply r_notV | with_reducible apply r_and | with_reducible apply cand_t | with_reducible apply r_or | with_reducible apply cor_f | with_reducible apply r_andV | with_reducible apply candV_t | with_reducible apply r_orV | with_reducible apply corV_f | with_reducible apply r_ixC | with_reducible apply r_opC | with_reducible apply r_binC | with_reducible apply r_seq | with_reducible apply cseq_nx | with_reducible apply r_drop | with_reducible apply r_ret | with_reducible apply r_ifS | with_reducible apply r_set | with_reducible apply r_setC | with_reducible apply r_append | with_reducible apply r_popAt | with_reducible apply r_alt | with_reducible apply r_asg | with_reducible apply rt_name | with_reducible apply rt_cons | with_reducible apply rt_tup | with_reducible apply r_rcons | with_reducible apply sa_cons | with_reducible apply r_par | with_reducible apply r_gad | with_reducible apply r_gal | with_reducible apply r_slScr | with_reducible apply r_part | with_reducible apply le_d | with_reducible apply le_l | with_reducible apply ln_d | with_reducible apply so_d | with_reducible apply so_l | with_reducible apply bk_d | with_reducible apply bk_par | with_reducible apply r_call | with_reducible apply re_s | with_reducible apply r_def1 | with_reducible apply r_def2 | with_reducible apply r_def3 | with_reducible apply r_it | with_reducible apply ls_s | with_reducible apply wp_1 | with_reducible apply md_1 | with_reducible apply r_rng1 | with_reducible apply r_rng2 | with_reducible apply r_for | with_reducible apply r_lc)
      · rfl) (List.range (m + 1)) (fun _ _ => trivial)
    rw [this]
    unfold ls3
    rw [List.map_map]
    rfl
  have lr : (rngD 0 ((m + 1 : Nat) : Int)).length ≤ line := by rw [rng_0]; exact lr_ok _ (by omega)
  have hl : (ls3 m b).length = m + 1 := by unfold ls3; rw [List.length_map, List.length_range]
  have hz : ∀ z ∈ ls3 m b, (0 < z.2 ∧ z.2 ∣ b) ∧ z.1 ≤ m ∧ z.2 ≤ b := fun z hz => by
    obtain ⟨i, hi, rfl⟩ := List.mem_map.mp hz
    have := List.mem_range.mp hi
    exact ⟨⟨low_pos hb0, low_dvd⟩, Nat.le_trans low_le1 (by omega), low_le2⟩
  have hs := ls3_sum m b hb0
  have hmm : m * (m + 1) ≤ 90 * 91 := Nat.mul_le_mul hm (by omega)
  obtain ⟨h3, fs, t3, u3, o3, e3, e4⟩ := mixtot_eq h2 (N + 1 + 1) o2 (ls3 m b) b hb0 (by omega) (fun z hz' => (hz z hz').1) (fun z hz' => ⟨by have := (hz z hz').2.1; omega, by have := (hz z hz').2.2; omega⟩) (by omega) (by omega)
  have a1 := dMulR_nn (a := m) (b := m + 1) (.inl (by omega))
  have a2 : dMulR (.int 2) (.int (b : Int)) = some (.v (.int ((2 * b : Nat) : Int))) := dMulR_nn (a := 2) (.inl (by decide))
  obtain ⟨t5, u5, e5⟩ := law_low_eq (m * (m + 1)) (2 * b) (by omega) (by omega)
  have el : low (sumM b (ls3 m b)) b = low (m * (m + 1)) (2 * b) := low_ext hb0 (by omega) (by rw [← hs, ← Nat.mul_assoc])
  rw [el] at e4
  have l1 : (low (m * (m + 1)) (2 * b)).1 < 2 ^ 1900 := Nat.lt_of_le_of_lt low_le1 (by omega)
  have l2 : (low (m * (m + 1)) (2 * b)).2 < 2 ^ 1900 := Nat.lt_of_le_of_lt low_le2 (by omega)
  generalize low (m * (m + 1)) (2 * b) = R at e4 e5 l1 l2
  obtain ⟨t6, u6, e6⟩ := same_eq (fr R) (okR_frp l1 l2) (by show 2 ≤ _; decide) (by show 1 ≤ _; decide)
  refine ⟨h3, .sh (.int m), .sh (.lst ((ls3 m b).map fr)), .sh (.int b), o3.mono (by rw [hl]; omega), rfl, rfl, rfl, fun k z hk => ?_⟩
  unfold sr7 sr8 sr9
  repeat' (first | with_reducible assumption | with_reducible exact len2 | with_reducible exact r_c | with_reducible exact get_z | with_reducible exact free_un | with_reducible exact free_sh | with_reducible exact free_own | with_reducible exact slot_rv | with_reducible exact slot_rf | with_reducible exact put_own | with_reducible exact put_par | with_reducible exact cell_own | with_reducible exact cell_par | with_reducible exact frz_sh | with_reducible exact r_nil | with_reducible exact rd_v | with_reducible exact rd_f | with_reducible exact tru_bl | with_reducible exact not_t | with_reducible exact not_f | with_reducible exact cand_f | with_reducible exact cor_t | with_reducible exact candV_f | with_reducible exact corV_t | with_reducible exact flat_int | with_reducible exact flat_bl | with_reducible exact r_skip | with_reducible exact cseq_rt | with_reducible exact rt_nil | with_reducible exact r_rnil | with_reducible exact sa_nil | with_reducible exact r_ganil | with_reducible exact ls_own | with_reducible exact ls_par | with_reducible exact ls_scr | with_reducible exact le_nil | with_reducible exact ln_nil | with_reducible exact so_nil | with_reducible exact sl_own | with_reducible exact sl_par | with_reducible exact sl_scr | with_reducible exact bk_nil | with_reducible exact it_l | with_reducible exact it_t | with_reducible exact ls_z | with_reducible exact kp_un | with_reducible exact kp_sh | with_reducible exact kp_own | with_reducible exact re_z | with_reducible exact fLst_0 | with_reducible exact fLst_1 | with_reducible exact fLst_2 | with_reducible exact fLst_3 | with_reducible exact fLst_4 | with_reducible exact fLst_5 | with_reducible exact dIsNot_tt | with_reducible exact r_nopart | with_reducible exact fInt_i | with_reducible exact fLen_l | with_reducible exact fLen_t | with_reducible exact fTupOf_l | with_reducible exact fTupOf_t | with_reducible exact fLstOf_l | with_reducible exact fLstOf_t | with_reducible exact fTup_1 | with_reducible exact fTup_2 | with_reducible exact fTup_3 | with_reducible exact dAddR_nn | with_reducible exact at5_0 | with_reducible exact ix5_0 | with_reducible exact st5_0 | with_reducible exact at5_1 | with_reducible exact ix5_1 | with_reducible exact st5_1 | with_reducible exact at5_2 | with_reducible exact ix5_2 | with_reducible exact st5_2 | with_reducible exact at5_3 | with_reducible exact ix5_3 | with_reducible exact st5_3 | with_reducible exact at5_4 | with_reducible exact ix5_4 | with_reducible exact st5_4 | with_reducible exact ixt2_0 | with_reducible exact ixt2_1 | with_reducible apply get_s | with_reducible apply set_z | with_reducible apply set_s | with_reducible apply put_s | with_reducible apply cell_s | with_reducible apply r_frz | with_reducible apply frz_own | with_reducible apply r_bin | with_reducible apply r_binR | with_reducible apply r_un | with_reducible apply r_opN | with_reducible apply r_opNF | with_reducible apply r_cons | with_reducible apply r_gD | with_reducible apply r_gR | with_reducible apply r_if | with_reducible apply cif_t | with_reducible apply cif_f | with_reducible apply r_tb | with_reducible apply r_tru | with_reducible apply r_not | with_reducible apply r_notV | with_reducible apply r_and | with_reducible apply cand_t | with_reducible apply r_or | with_reducible apply cor_f | with_reducible apply r_andV | with_reducible apply candV_t | with_reducible apply r_orV | with_reducible apply corV_f | with_reducible apply r_ixC | with_reducible apply r_opC | with_reducible apply r_binC | with_reducible apply r_seq | with_reducible apply cseq_nx | with_reducible apply r_drop | with_reducible apply r_ret | with_reducible apply r_ifS | with_reducible apply r_set | with_reducible apply r_setC | with_reducible apply r_append | with_reducible apply r_popAt | with_reducible apply r_alt | with_reducible apply r_asg | with_reducible apply rt_name | with_reducible apply rt_cons | with_reducible apply rt_tup | with_reducible apply r_rcons | with_reducible apply sa_cons | with_reducible apply r_par | with_reducible apply r_gad | with_reducible apply r_gal | with_reducible apply r_slScr | with_reducible apply r_part | with_reducible apply le_d | with_reducible apply le_l | with_reducible apply ln_d | with_reducible apply so_d | with_reducible apply so_l | with_reducible apply bk_d | with_reducible apply bk_par | with_reducible apply r_call | with_reducible apply re_s | with_reducible apply r_def1 | with_reducible apply r_def2 | with_reducible apply r_def3 | with_reducible apply r_it | with_reducible apply ls_s | with_reducible apply wp_1 | with_reducible apply md_1 | with_reducible apply r_rng1 | with_reducible apply r_rng2 | with_reducible apply r_for | with_reducible apply r_lc)
end K07
set_option Elab.async false
set_option linter.all false
set_option maxRecDepth 100000
set_option exponentiation.threshold 20000
/-! K07k: closed sums, the last two; the law's part. -/
namespace K07
open PySem PySem.Spec PyProof.Rows L2 TL
theorem st4_loop (h : Hd) (s1 s4 s6 s7 s8 : S) (gb : GS) (hb : ∀ (i : Nat) (t : S), i < 20 → gb [.par h.c, s1, .own (.lst ((ls4 i).map fr)), .sh (nat (1 + i)), s4, .sh (.int (fct i)), s6, s7, s8] = some (.nx [.par h.c, s1, .own (.lst ((ls4 (i + 1)).map fr)), .sh (nat (1 + i)), s4, .sh (.int (fct (i + 1))), s6, s7, s8])) :
    ∀ (n i : Nat) (t0 : S), t0.free = true → i + n ≤ 20 → ∃ t, t.free = true ∧ forLoop (gtName 3) gb ((List.range' i n).map fun i => nat (1 + i)) [.par h.c, s1, .own (.lst ((ls4 i).map fr)), t0, s4, .sh (.int (fct i)), s6, s7, s8] = some (.nx [.par h.c, s1, .own (.lst ((ls4 (i + n)).map fr)), t, s4, .sh (.int (fct (i + n))), s6, s7, s8]) := by
  intro n
  induction n with
  | zero => exact fun i t0 h0 _ => ⟨t0, h0, rfl⟩
  | succ n ih =>
    intro i t0 h0 hm
    obtain ⟨t, ht, e⟩ := ih (i + 1) (.sh (nat (1 + i))) rfl (by omega)
    refine ⟨t, ht, ?_⟩
    have e1 : gtName 3 (nat (1 + i)) [.par h.c, s1, .own (.lst ((ls4 i).map fr)), t0, s4, .sh (.int (fct i)), s6, s7, s8] = some [.par h.c, s1, .own (.lst ((ls4 i).map fr)), .sh (nat (1 + i)), s4, .sh (.int (fct i)), s6, s7, s8] := by repeat' (first | with_reducible assumption | with_reducible exact r_c | with_reducible exact get_z | with_reducible exact free_un | with_reducible exact free_sh | with_reducible exact free_own | with_reducible exact slot_rv | with_reducible exact slot_rf | with_reducible exact put_own | with_reducible exact put_par | with_reducible exact cell_own | with_reducible exact cell_par | with_reducible exact frz_sh | with_reducible exact r_nil | with_reducible exact rd_v | with_reducible exact rd_f | with_reducible exact tru_bl | with_reducible exact not_t | with_reducible exact not_f | with_reducible exact cand_f | with_reducible exact cor_t | with_reducible exact candV_f | with_reducible exact corV_t | with_reducible exact flat_int | with_reducible exact flat_bl | with_reducible exact r_skip | with_reducible exact cseq_rt | with_reducible exact rt_nil | with_reducible exact r_rnil | with_reducible exact sa_nil | with_reducible exact r_ganil | with_reducible exact ls_own | with_reducible exact ls_par | with_reducible exact ls_scr | with_reducible exact le_nil | with_reducible exact ln_nil | with_reducible exact so_nil | with_reducible exact sl_own | with_reducible exact sl_par | with_reducible exact sl_scr | with_reducible exact bk_nil | with_reducible exact it_l | with_reducible exact it_t | with_reducible exact ls_z | with_reducible exact kp_un | with_reducible exact kp_sh | with_reducible exact kp_own | with_reducible exact re_z | with_reducible exact fLst_0 | with_reducible exact fLst_1 | with_reducible exact fLst_2 | with_reducible exact fLst_3 | with_reducible exact fLst_4 | with_reducible exact fLst_5 | with_reducible exact dIsNot_tt | with_reducible exact r_nopart | with_reducible exact fInt_i | with_reducible exact fLen_l | with_reducible exact fLen_t | with_reducible exact fTupOf_l | with_reducible exact fTupOf_t | with_reducible exact fLstOf_l | with_reducible exact fLstOf_t | with_reducible exact fTup_1 | with_reducible exact fTup_2 | with_reducible exact fTup_3 | with_reducible exact dAddR_nn | with_reducible exact at5_0 | with_reducible exact ix5_0 | with_reducible exact st5_0 | with_reducible exact at5_1 | with_reducible exact ix5_1 | with_reducible exact st5_1 | with_reducible exact at5_2 | with_reducible exact ix5_2 | with_reducible exact st5_2 | with_reducible exact at5_3 | with_reducible exact ix5_3 | with_reducible exact st5_3 | with_reducible exact at5_4 | with_reducible exact ix5_4 | with_reducible exact st5_4 | with_reducible exact ixt2_0 | with_reducible exact ixt2_1 | with_reducible apply get_s | with_reducible apply set_z | with_reducible apply set_s | with_reducible apply put_s | with_reducible apply cell_s | with_reducible apply r_frz | with_reducible apply frz_own | with_reducible apply r_bin | with_reducible apply r_binR | with_reducible apply r_un | with_reducible apply r_opN | with_reducible apply r_opNF | with_reducible apply r_cons | with_reducible apply r_gD | with_reducible apply r_gR | with_reducible apply r_if | with_reducible apply cif_t | with_reducible apply cif_f | with_reducible apply r_tb | with_reducible apply r_tru | with_reducible apply r_not | with_reducible apply r_notV | with_reducible apply r_and | with_reducible apply cand_t | with_reducible apply r_or | with_reducible apply cor_f | with_reducible apply r_andV | with_reducible apply candV_t | with_reducible apply r_orV | with_reducible apply corV_f | with_reducible apply r_ixC | with_reducible apply r_opC | with_reducible apply r_binC | with_reducible apply r_seq | with_reducible apply cseq_nx | with_reducible apply r_drop | with_reducible apply r_ret | with_reducible apply r_ifS | with_reducible apply r_set | with_reducible apply r_setC | with_reducible apply r_append | with_reducible apply r_popAt | with_reducible apply r_alt | with_reducible apply r_asg | with_reducible apply rt_name | with_reducible apply rt_cons | with_reducible apply rt_tup | with_reducible apply r_rcons | with_reducible apply sa_cons | with_reducible apply r_par | with_reducible apply r_gad | with_reducible apply r_gal | with_reducible apply r_slScr | with_reducible apply r_part | with_reducible apply le_d | with_reducible apply le_l | with_reducible apply ln_d | with_reducible apply so_d | with_reducible apply so_l | with_reducible apply bk_d | with_reducible apply bk_par | with_reducible apply r_call | with_reducible apply re_s | with_reducible apply r_def1 | with_reducible apply r_def2 | with_reducible apply r_def3 | with_reducible apply r_it | with_reducible apply ls_s | with_reducible apply wp_1 | with_reducible apply md_1 | with_reducible apply r_rng1 | with_reducible apply r_rng2 | with_reducible apply r_for | with_reducible apply r_lc)
    rw [List.range'_succ, List.map_cons, forLoop_cons, e1]
    simp only [hb i t0 (by omega)]
    rw [show i + (n + 1) = i + 1 + n by omega]
    exact e
theorem st4 (h : Hd) (N : Nat) (o : h.ok N) (s1 s2 s4 s5 s6 s7 s8 : S) (f1 : s1.free = true) (f2 : s2.free = true) (f5 : s5.free = true) : ∃ (h' : Hd) (t1 t2 t3 t5 : S), h'.ok (N + 1) ∧ t1.free = true ∧ t2.free = true ∧
    ∀ (k : GS) (z : O), k [.par h'.c, t1, t2, t3, s4, t5, s6, s7, s8] = some z → gSeq sr10 (gSeq sr11 (gSeq sr12 k)) [.par h.c, s1, s2, .un, s4, s5, s6, s7, s8] = some z := by
  obtain ⟨h1, x, t1, o1, lx, e1⟩ := draw_eq h N 20 o (by decide) (by decide +kernel)
  have e1 : g_law_draw [.par h.c, .sh (.int 20)] = some (.v (.int (x : Int)), [.par h1.c, t1]) := e1
  have q1 : dAddR (.int 1) (.int (x : Int)) = some (.v (.int ((1 + x : Nat) : Int))) := dAddR_nn (a := 1)
  have q2 : dAddR (.int ((1 + x : Nat) : Int)) (.int 1) = some (.v (.int ((1 + x + 1 : Nat) : Int))) := dAddR_nn (b := 1)
  have hm : 1 + x ≤ 20 := by omega
  generalize 1 + x = m at q1 q2 hm
  have w := r_ok (m := m + 1) (by omega)
  have F : fct 20 < 2 ^ 66 := by decide +kernel
  have B0 : (2 : Nat) ^ 66 < 2 ^ 1900 := Nat.pow_lt_pow_right (by decide) (by decide)
  obtain ⟨t3, ht3, lp⟩ := st4_loop h1 (.sh (.int m)) s4 s6 s7 s8 (gSeq (gSet 5 (gBinR dMulR (gFrz 5) (gD (gBinR dAddR (gFrz 3) (gC (.int 1)))))) (gDrop (gAppend 2 (gD (gCall g_law_low (gaD (gFrz 3) (gaD (gFrz 5) gaNil))))))) (fun i t hi => by
      have a1 : dAddR (.int ((1 + i : Nat) : Int)) (.int 1) = some (.v (.int ((1 + i + 1 : Nat) : Int))) := dAddR_nn (b := 1)
      have a2 : dMulR (.int ((fct i : Nat) : Int)) (.int ((1 + i + 1 : Nat) : Int)) = some (.v (.int ((fct (i + 1) : Nat) : Int))) := dMulR_nn (a := fct i) (b := 1 + i + 1) (.inr (.inl (by omega)))
      obtain ⟨t, u, e⟩ := law_low_eq (1 + i) (fct (i + 1)) (by have := fct_le (i + 1) (by omega); omega) (fct_pos _)
      have l1 : ((ls4 i).map fr).length < line := by
        unfold ls4
        rw [List.length_map, List.length_map, List.length_range]
        show _ < 16777216
        omega
      have ap : (ls4 (i + 1)).map fr = (ls4 i).map fr ++ [fr (low (1 + i) (fct (i + 1)))] := by
        unfold ls4
        rw [List.range_succ, List.map_append, List.map_append]
        rfl
      rw [ap]
      repeat' (first | with_reducible assumption | with_reducible exact r_c | with_reducible exact get_z | with_reducible exact free_un | with_reducible exact free_sh | with_reducible exact free_own | with_reducible exact slot_rv | with_reducible exact slot_rf | with_reducible exact put_own | with_reducible exact put_par | with_reducible exact cell_own | with_reducible exact cell_par | with_reducible exact frz_sh | with_reducible exact r_nil | with_reducible exact rd_v | with_reducible exact rd_f | with_reducible exact tru_bl | with_reducible exact not_t | with_reducible exact not_f | with_reducible exact cand_f | with_reducible exact cor_t | with_reducible exact candV_f | with_reducible exact corV_t | with_reducible exact flat_int | with_reducible exact flat_bl | with_reducible exact r_skip | with_reducible exact cseq_rt | with_reducible exact rt_nil | with_reducible exact r_rnil | with_reducible exact sa_nil | with_reducible exact r_ganil | with_reducible exact ls_own | with_reducible exact ls_par | with_reducible exact ls_scr | with_reducible exact le_nil | with_reducible exact ln_nil | with_reducible exact so_nil | with_reducible exact sl_own | with_reducible exact sl_par | with_reducible exact sl_scr | with_reducible exact bk_nil | with_reducible exact it_l | with_reducible exact it_t | with_reducible exact ls_z | with_reducible exact kp_un | with_reducible exact kp_sh | with_reducible exact kp_own | with_reducible exact re_z | with_reducible exact fLst_0 | with_reducible exact fLst_1 | with_reducible exact fLst_2 | with_reducible exact fLst_3 | with_reducible exact fLst_4 | with_reducible exact fLst_5 | with_reducible exact dIsNot_tt | with_reducible exact r_nopart | with_reducible exact fInt_i | with_reducible exact fLen_l | with_reducible exact fLen_t | with_reducible exact fTupOf_l | with_reducible exact fTupOf_t | with_reducible exact fLstOf_l | with_reducible exact fLstOf_t | with_reducible exact fTup_1 | with_reducible exact fTup_2 | with_reducible exact fTup_3 | with_reducible exact dAddR_nn | with_reducible exact at5_0 | with_reducible exact ix5_0 | with_reducible exact st5_0 | with_reducible exact at5_1 | with_reducible exact ix5_1 | with_reducible exact st5_1 | with_reducible exact at5_2 | with_reducible exact ix5_2 | with_reducible exact st5_2 | with_reducible exact at5_3 | with_reducible exact ix5_3 | with_reducible exact st5_3 | with_reducible exact at5_4 | with_reducible exact ix5_4 | with_reducible exact st5_4 | with_reducible exact ixt2_0 | with_reducible exact ixt2_1 | with_reducible apply get_s | with_reducible apply set_z | with_reducible apply set_s | with_reducible apply put_s | with_reducible apply cell_s | with_reducible apply r_frz | with_reducible apply frz_own | with_reducible apply r_bin | with_reducible apply r_binR | with_reducible apply r_un | with_reducible apply r_opN | with_reducible apply r_opNF | with_reducible apply r_cons | with_reducible apply r_gD | with_reducible apply r_gR | with_reducible apply r_if | with_reducible apply cif_t | with_reducible apply cif_f | with_reducible apply r_tb | with_reducible apply r_tru | with_reducible apply r_not | with_reducible apply r_notV | with_reducible apply r_and | with_reducible apply cand_t | with_reducible apply r_or | with_reducible apply cor_f | with_reducible apply r_andV | with_reducible apply candV_t | with_reducible apply r_orV | with_reducible apply corV_f | with_reducible apply r_ixC | with_reducible apply r_opC | with_reducible apply r_binC | with_reducible apply r_seq | with_reducible apply cseq_nx | with_reducible apply r_drop | with_reducible apply r_ret | with_reducible apply r_ifS | with_reducible apply r_set | with_reducible apply r_setC | with_reducible apply r_append | with_reducible apply r_popAt | with_reducible apply r_alt | with_reducible apply r_asg | with_reducible apply rt_name | with_reducible apply rt_cons | with_reducible apply rt_tup | with_reducible apply r_rcons | with_reducible apply sa_cons | with_reducible apply r_par | with_reducible apply r_gad | with_reducible apply r_gal | with_reducible apply r_slScr | with_reducible apply r_part | with_reducible apply le_d | with_reducible apply le_l | with_reducible apply ln_d | with_reducible apply so_d | with_reducible apply so_l | with_reducible apply bk_d | with_reducible apply bk_par | with_reducible apply r_call | with_reducible apply re_s | with_reducible apply r_def1 | with_reducible apply r_def2 | with_reducible apply r_def3 | with_reducible apply r_it | with_reducible apply ls_s | with_reducible apply wp_1 | with_reducible apply md_1 | with_reducible apply r_rng1 | with_reducible apply r_rng2 | with_reducible apply r_for | with_reducible apply r_lc)) m 0 .un rfl (by omega)
  rw [← List.range_eq_range', ← rng_1, Nat.zero_add] at lp
  have lp : forLoop (gtName 3) (gSeq (gSet 5 (gBinR dMulR (gFrz 5) (gD (gBinR dAddR (gFrz 3) (gC (.int 1)))))) (gDrop (gAppend 2 (gD (gCall g_law_low (gaD (gFrz 3) (gaD (gFrz 5) gaNil))))))) (rngD 1 ((m + 1 : Nat) : Int)) [.par h1.c, .sh (.int m), .own (.lst []), .un, s4, .sh (.int 1), s6, s7, s8] = some (.nx [.par h1.c, .sh (.int m), .own (.lst ((ls4 m).map fr)), t3, s4, .sh (.int (fct m)), s6, s7, s8]) := lp
  have hz : ∀ z ∈ ls4 m, 0 < z.2 ∧ z.2 ∣ fct m := fun z hz => by
    obtain ⟨i, hi, rfl⟩ := List.mem_map.mp hz
    have := List.mem_range.mp hi
    exact ⟨low_pos (fct_pos _), Nat.dvd_trans low_dvd (fct_dvd (by omega))⟩
  have hs := ls4_sum m (fct m) (Nat.dvd_refl _)
  rw [Nat.div_self (fct_pos m)] at hs
  have B1 : (2 : Nat) ^ 66 < 2 ^ 4490 := Nat.pow_lt_pow_right (by decide) (by decide)
  have B2 : (2 : Nat) ^ 66 < 2 ^ 300000 := Nat.pow_lt_pow_right (by decide) (by decide)
  have fm := fct_le m hm
  obtain ⟨t2, e2⟩ := total_eq (ls4 m) (fct m) (fct_pos m) (by omega) hz (by omega)
  have hg : Nat.gcd (fct m - 1) (fct m) = 1 := by
    have := gcd_succ (fct m - 1)
    rwa [show fct m - 1 + 1 = fct m by omega] at this
  rw [show sumM (fct m) (ls4 m) = fct m - 1 by omega, low_cop hg] at e2
  have a2 := dSub_1 (fct m) (fct_pos m)
  obtain ⟨t4, u4, e4⟩ := same_eq (fr (fct m - 1, fct m)) (okR_frp (by show fct m - 1 < _; omega) (by show fct m < _; omega)) (by show 2 ≤ _; decide) (by show 1 ≤ _; decide)
  clear B0 B1 B2 F
  refine ⟨h1, .sh (.int m), .sh (.lst ((ls4 m).map fr)), t3, .sh (.int (fct m)), o1, rfl, rfl, fun k z hk => ?_⟩
  unfold sr10 sr11 sr12
  repeat' (first | with_reducible assumption | with_reducible exact r_c | with_reducible exact get_z | with_reducible exact free_un | with_reducible exact free_sh | with_reducible exact free_own | with_reducible exact slot_rv | with_reducible exact slot_rf | with_reducible exact put_own | with_reducible exact put_par | with_reducible exact cell_own | with_reducible exact cell_par | with_reducible exact frz_sh | with_reducible exact r_nil | with_reducible exact rd_v | with_reducible exact rd_f | with_reducible exact tru_bl | with_reducible exact not_t | with_reducible exact not_f | with_reducible exact cand_f | with_reducible exact cor_t | with_reducible exact candV_f | with_reducible exact corV_t | with_reducible exact flat_int | with_reducible exact flat_bl | with_reducible exact r_skip | with_reducible exact cseq_rt | with_reducible exact rt_nil | with_reducible exact r_rnil | with_reducible exact sa_nil | with_reducible exact r_ganil | with_reducible exact ls_own | with_reducible exact ls_par | with_reducible exact ls_scr | with_reducible exact le_nil | with_reducible exact ln_nil | with_reducible exact so_nil | with_reducible exact sl_own | with_reducible exact sl_par | with_reducible exact sl_scr | with_reducible exact bk_nil | with_reducible exact it_l | with_reducible exact it_t | with_reducible exact ls_z | with_reducible exact kp_un | with_reducible exact kp_sh | with_reducible exact kp_own | with_reducible exact re_z | with_reducible exact fLst_0 | with_reducible exact fLst_1 | with_reducible exact fLst_2 | with_reducible exact fLst_3 | with_reducible exact fLst_4 | with_reducible exact fLst_5 | with_reducible exact dIsNot_tt | with_reducible exact r_nopart | with_reducible exact fInt_i | with_reducible exact fLen_l | with_reducible exact fLen_t | with_reducible exact fTupOf_l | with_reducible exact fTupOf_t | with_reducible exact fLstOf_l | with_reducible exact fLstOf_t | with_reducible exact fTup_1 | with_reducible exact fTup_2 | with_reducible exact fTup_3 | with_reducible exact dAddR_nn | with_reducible exact at5_0 | with_reducible exact ix5_0 | with_reducible exact st5_0 | with_reducible exact at5_1 | with_reducible exact ix5_1 | with_reducible exact st5_1 | with_reducible exact at5_2 | with_reducible exact ix5_2 | with_reducible exact st5_2 | with_reducible exact at5_3 | with_reducible exact ix5_3 | with_reducible exact st5_3 | with_reducible exact at5_4 | with_reducible exact ix5_4 | with_reducible exact st5_4 | with_reducible exact ixt2_0 | with_reducible exact ixt2_1 | with_reducible apply get_s | with_reducible apply set_z | with_reducible apply set_s | with_reducible apply put_s | with_reducible apply cell_s | with_reducible apply r_frz | with_reducible apply frz_own | with_reducible apply r_bin | with_reducible apply r_binR | with_reducible apply r_un | with_reducible apply r_opN | with_reducible apply r_opNF | with_reducible apply r_cons | with_reducible apply r_gD | with_reducible apply r_gR | with_reducible apply r_if | with_reducible apply cif_t | with_reducible apply cif_f | with_reducible apply r_tb | with_reducible apply r_tru | with_reducible apply r_not | with_reducible apply r_notV | with_reducible apply r_and | with_reducible apply cand_t | with_reducible apply r_or | with_reducible apply cor_f | with_reducible apply r_andV | with_reducible apply candV_t | with_reducible apply r_orV | with_reducible apply corV_f | with_reducible apply r_ixC | with_reducible apply r_opC | with_reducible apply r_binC | with_reducible apply r_seq | with_reducible apply cseq_nx | with_reducible apply r_drop | with_reducible apply r_ret | with_reducible apply r_ifS | with_reducible apply r_set | with_reducible apply r_setC | with_reducible apply r_append | with_reducible apply r_popAt | with_reducible apply r_alt | with_reducible apply r_asg | with_reducible apply rt_name | with_reducible apply rt_cons | with_reducible apply rt_tup | with_reducible apply r_rcons | with_reducible apply sa_cons | with_reducible apply r_par | with_reducible apply r_gad | with_reducible apply r_gal | with_reducible apply r_slScr | with_reducible apply r_part | with_reducible apply le_d | with_reducible apply le_l | with_reducible apply ln_d | with_reducible apply so_d | with_reducible apply so_l | with_reducible apply bk_d | with_reducible apply bk_par | with_reducible apply r_call | with_reducible apply re_s | with_reducible apply r_def1 | with_reducible apply r_def2 | with_reducible apply r_def3 | with_reducible apply r_it | with_reducible apply ls_s | with_reducible apply wp_1 | with_reducible apply md_1 | with_reducible apply r_rng1 | with_reducible apply r_rng2 | with_reducible apply r_for | with_reducible apply r_lc)
theorem lc_part (vs : List Nat) (gt : GT) (ge : GE) (T : Hd → List S) (h1 : ∀ (h : Hd) (N : Nat) (d : D), h.ok N → ∃ (h' : Hd) (x : Nat × Nat) (τ1 τ2 : List S), h'.ok (N + 54) ∧ Part x ∧ gt d (T h) = some τ1 ∧ ge τ1 = some (fr x, τ2) ∧ wipeT τ2 vs = T h') :
    ∀ (ds : List D) (h : Hd) (N : Nat), h.ok N → ∃ (h' : Hd) (xs : List (Nat × Nat)), h'.ok (N + 54 * ds.length) ∧ xs.length = ds.length ∧ (∀ x ∈ xs, Part x) ∧ lcLoop vs gt gYes ge ds (T h) = some (xs.map fr, T h') := by
  intro ds
  induction ds with
  | nil => exact fun h N o => ⟨h, [], o, rfl, nofun, rfl⟩
  | cons d ds ih =>
    intro h N o
    obtain ⟨h', x, τ1, τ2, o', px, e1, e2, e3⟩ := h1 h N d o
    obtain ⟨h2, xs, o2, l2, hx, e4⟩ := ih h' (N + 54) o'
    refine ⟨h2, x :: xs, o2.mono (by rw [List.length_cons]; omega), by rw [List.length_cons, l2, List.length_cons], fun w hm => ?_, ?_⟩
    · rcases List.mem_cons.mp hm with z | z
      · rw [z]
        exact px
      · exact hx w z
    · rw [lcLoop_cons, e1]
      simp only [gYes_ap, e2, e3, e4]
      rfl
theorem part_loop (M : Nat) (hM : 0 < M) (hM2 : M < 2 ^ 900) (gt : GT) (gb : GS) (T : D → S → List S)
    (hg : ∀ (d f : D) (t : S), t.free = true → gt d (T f t) = some (T f (.sh d)))
    (hb : ∀ (x f : Nat × Nat) (t u : S), Part x → f.1 < 2 ^ 400000 → f.2 < 2 ^ 900 → g_law_low [.sh (.int ((f.1 * x.2 + x.1 * f.2 : Nat) : Int)), .sh (.int ((f.2 * x.2 : Nat) : Int))] = some (.v (fr (plusN f x)), [t, u]) → gb (T (fr f) (.sh (fr x))) = some (.nx (T (fr (plusN f x)) (.sh (fr x))))) :
    ∀ (xs : List (Nat × Nat)) (S0 : Nat) (t : S), t.free = true → (∀ x ∈ xs, Part x ∧ x.2 ∣ M) → S0 + sumM M xs < 2 ^ 300000 → ∃ u, u.free = true ∧ forLoop gt gb (xs.map fr) (T (fr (low S0 M)) t) = some (.nx (T (fr (low (S0 + sumM M xs) M)) u)) := by
  intro xs
  induction xs with
  | nil =>
    intro S0 t ht _ _
    exact ⟨t, ht, rfl⟩
  | cons x xs ih =>
    intro S0 t ht hx hs
    have hx0 := hx x List.mem_cons_self
    have es : sumM M (x :: xs) = x.1 * (M / x.2) + sumM M xs := rfl
    rw [es] at hs ⊢
    have b300 : (2 : Nat) ^ 300000 ≤ 2 ^ 400000 := Nat.pow_le_pow_right (by decide) (by decide)
    have q1 : (low S0 M).1 < 2 ^ 400000 := Nat.lt_of_le_of_lt low_le1 (by omega)
    have q2 : (low S0 M).2 < 2 ^ 900 := Nat.lt_of_le_of_lt low_le2 hM2
    have q3 : x.2 < 2 ^ 900 := Nat.lt_of_le_of_lt (Nat.le_of_dvd hM hx0.2) hM2
    have q5 : (low S0 M).2 * x.2 < 2 ^ 1900 := by
      refine Nat.lt_of_lt_of_le (Nat.mul_lt_mul'' q2 q3) ?_
      rw [← Nat.pow_add]
      exact Nat.pow_le_pow_right (by decide) (by decide)
    obtain ⟨a, b, e⟩ := law_low_eq ((low S0 M).1 * x.2 + x.1 * (low S0 M).2) ((low S0 M).2 * x.2) q5 (Nat.mul_pos (low_pos hM) hx0.1.p)
    have e2 := hb x (low S0 M) a b hx0.1 q1 q2 e
    rw [plus_low hM hx0.1.p hx0.2] at e2
    obtain ⟨u, hu, e3⟩ := ih (S0 + x.1 * (M / x.2)) (.sh (fr x)) rfl (fun y hy => hx y (List.mem_cons_of_mem _ hy)) (by omega)
    refine ⟨u, hu, ?_⟩
    rw [List.map_cons, forLoop_cons, hg _ _ t ht]
    simp only [e2]
    rw [e3, Nat.add_assoc]
theorem st5 (h : Hd) (N : Nat) (o : h.ok N) (s1 s2 s3 s4 s5 : S) (f2 : s2.free = true) : ∃ (h' : Hd) (ss : List S), h'.ok (N + 450) ∧
    gSeq sr13 (gSeq sr14 (gSeq sr15 sr16)) [.par h.c, s1, s2, s3, s4, s5, .un, .un, .un] = some (.rt (.v (.bl true)) (.par h'.c :: ss)) := by
  obtain ⟨h1, x, t1, o1, lx, e1⟩ := draw_eq h N 9 o (by decide) (by decide +kernel)
  have e1 : g_law_draw [.par h.c, .sh (.int 9)] = some (.v (.int (x : Int)), [.par h1.c, t1]) := e1
  have w : -(2 ^ 62) ≤ (x : Int) ∧ (x : Int) < 2 ^ 62 := by omega
  have lr : (rngD 0 (x : Int)).length ≤ line := by rw [rng_0]; exact lr_ok _ (by omega)
  obtain ⟨h2, xs, o2, l2, hx, e2⟩ := lc_part [6] (gtName 6) (gD (gCall g_law_part (gaL 0 gaNil))) (fun h => [.par h.c, s1, s2, s3, s4, s5, .un, .un, .un]) (fun h N d o => by
    obtain ⟨h', x, o', px, e⟩ := part_eq h N o
    refine ⟨h', x, [.par h.c, s1, s2, s3, s4, s5, .sh d, .un, .un], [.par h'.c, s1, s2, s3, s4, s5, .sh d, .un, .un], o', px, ?_, ?_, rfl⟩
    · show gtName 6 d [.par h.c, s1, s2, s3, s4, s5, .un, .un, .un] = _
      repeat' (first | with_reducible assumption | with_reducible exact r_c | with_reducible exact get_z | with_reducible exact free_un | with_reducible exact free_sh | with_reducible exact free_own | with_reducible exact slot_rv | with_reducible exact slot_rf | with_reducible exact put_own | with_reducible exact put_par | with_reducible exact cell_own | with_reducible exact cell_par | with_reducible exact frz_sh | with_reducible exact r_nil | with_reducible exact rd_v | with_reducible exact rd_f | with_reducible exact tru_bl | with_reducible exact not_t | with_reducible exact not_f | with_reducible exact cand_f | with_reducible exact cor_t | with_reducible exact candV_f | with_reducible exact corV_t | with_reducible exact flat_int | with_reducible exact flat_bl | with_reducible exact r_skip | with_reducible exact cseq_rt | with_reducible exact rt_nil | with_reducible exact r_rnil | with_reducible exact sa_nil | with_reducible exact r_ganil | with_reducible exact ls_own | with_reducible exact ls_par | with_reducible exact ls_scr | with_reducible exact le_nil | with_reducible exact ln_nil | with_reducible exact so_nil | with_reducible exact sl_own | with_reducible exact sl_par | with_reducible exact sl_scr | with_reducible exact bk_nil | with_reducible exact it_l | with_reducible exact it_t | with_reducible exact ls_z | with_reducible exact kp_un | with_reducible exact kp_sh | with_reducible exact kp_own | with_reducible exact re_z | with_reducible exact fLst_0 | with_reducible exact fLst_1 | with_reducible exact fLst_2 | with_reducible exact fLst_3 | with_reducible exact fLst_4 | with_reducible exact fLst_5 | with_reducible exact dIsNot_tt | with_reducible exact r_nopart | with_reducible exact fInt_i | with_reducible exact fLen_l | with_reducible exact fLen_t | with_reducible exact fTupOf_l | with_reducible exact fTupOf_t | with_reducible exact fLstOf_l | with_reducible exact fLstOf_t | with_reducible exact fTup_1 | with_reducible exact fTup_2 | with_reducible exact fTup_3 | with_reducible exact dAddR_nn | with_reducible exact at5_0 | with_reducible exact ix5_0 | with_reducible exact st5_0 | with_reducible exact at5_1 | with_reducible exact ix5_1 | with_reducible exact st5_1 | with_reducible exact at5_2 | with_reducible exact ix5_2 | with_reducible exact st5_2 | with_reducible exact at5_3 | with_reducible exact ix5_3 | with_reducible exact st5_3 | with_reducible exact at5_4 | with_reducible exact ix5_4 | with_reducible exact st5_4 | with_reducible exact ixt2_0 | with_reducible exact ixt2_1 | with_reducible apply get_s | with_reducible apply set_z | with_reducible apply set_s | with_reducible apply put_s | with_reducible apply cell_s | with_reducible apply r_frz | with_reducible apply frz_own | with_reducible apply r_bin | with_reducible apply r_binR | with_reducible apply r_un | with_reducible apply r_opN | with_reducible apply r_opNF | with_reducible apply r_cons | with_reducible apply r_gD | with_reducible apply r_gR | with_reducible apply r_if | with_reducible apply cif_t | with_reducible apply cif_f | with_reducible apply r_tb | with_reducible apply r_tru | with_reducible apply r_not | with_reducible apply r_notV | with_reducible apply r_and | with_reducible apply cand_t | with_reducible apply r_or | with_reducible apply cor_f | with_reducible apply r_andV | with_reducible apply candV_t | with_reducible apply r_orV | with_reducible apply corV_f | with_reducible apply r_ixC | with_reducible apply r_opC | with_reducible apply r_binC | with_reducible apply r_seq | with_reducible apply cseq_nx | with_reducible apply r_drop | with_reducible apply r_ret | with_reducible apply r_ifS | with_reducible apply r_set | with_reducible apply r_setC | with_reducible apply r_append | with_reducible apply r_popAt | with_reducible apply r_alt | with_reducible apply r_asg | with_reducible apply rt_name | with_reducible apply rt_cons | with_reducible apply rt_tup | with_reducible apply r_rcons | with_reducible apply sa_cons | with_reducible apply r_par | with_reducible apply r_gad | with_reducible apply r_gal | with_reducible apply r_slScr | with_reducible apply r_part | with_reducible apply le_d | with_reducible apply le_l | with_reducible apply ln_d | with_reducible apply so_d | with_reducible apply so_l | with_reducible apply bk_d | with_reducible apply bk_par | with_reducible apply r_call | with_reducible apply re_s | with_reducible apply r_def1 | with_reducible apply r_def2 | with_reducible apply r_def3 | with_reducible apply r_it | with_reducible apply ls_s | with_reducible apply wp_1 | with_reducible apply md_1 | with_reducible apply r_rng1 | with_reducible apply r_rng2 | with_reducible apply r_for | with_reducible apply r_lc)
    · repeat' (first | with_reducible assumption | with_reducible exact r_c | with_reducible exact get_z | with_reducible exact free_un | with_reducible exact free_sh | with_reducible exact free_own | with_reducible exact slot_rv | with_reducible exact slot_rf | with_reducible exact put_own | with_reducible exact put_par | with_reducible exact cell_own | with_reducible exact cell_par | with_reducible exact frz_sh | with_reducible exact r_nil | with_reducible exact rd_v | with_reducible exact rd_f | with_reducible exact tru_bl | with_reducible exact not_t | with_reducible exact not_f | with_reducible exact cand_f | with_reducible exact cor_t | with_reducible exact candV_f | with_reducible exact corV_t | with_reducible exact flat_int | with_reducible exact flat_bl | with_reducible exact r_skip | with_reducible exact cseq_rt | with_reducible exact rt_nil | with_reducible exact r_rnil | with_reducible exact sa_nil | with_reducible exact r_ganil | with_reducible exact ls_own | with_reducible exact ls_par | with_reducible exact ls_scr | with_reducible exact le_nil | with_reducible exact ln_nil | with_reducible exact so_nil | with_reducible exact sl_own | with_reducible exact sl_par | with_reducible exact sl_scr | with_reducible exact bk_nil | with_reducible exact it_l | with_reducible exact it_t | with_reducible exact ls_z | with_reducible exact kp_un | with_reducible exact kp_sh | with_reducible exact kp_own | with_reducible exact re_z | with_reducible exact fLst_0 | with_reducible exact fLst_1 | with_reducible exact fLst_2 | with_reducible exact fLst_3 | with_reducible exact fLst_4 | with_reducible exact fLst_5 | with_reducible exact dIsNot_tt | with_reducible exact r_nopart | with_reducible exact fInt_i | with_reducible exact fLen_l | with_reducible exact fLen_t | with_reducible exact fTupOf_l | with_reducible exact fTupOf_t | with_reducible exact fLstOf_l | with_reducible exact fLstOf_t | with_reducible exact fTup_1 | with_reducible exact fTup_2 | with_reducible exact fTup_3 | with_reducible exact dAddR_nn | with_reducible exact at5_0 | with_reducible exact ix5_0 | with_reducible exact st5_0 | with_reducible exact at5_1 | with_reducible exact ix5_1 | with_reducible exact st5_1 | with_reducible exact at5_2 | with_reducible exact ix5_2 | with_reducible exact st5_2 | with_reducible exact at5_3 | with_reducible exact ix5_3 | with_reducible exact st5_3 | with_reducible exact at5_4 | with_reducible exact ix5_4 | with_reducible exact st5_4 | with_reducible exact ixt2_0 | with_reducible exact ixt2_1 | with_reducible apply get_s | with_reducible apply set_z | with_reducible apply set_s | with_reducible apply put_s | with_reducible apply cell_s | with_reducible apply r_frz | with_reducible apply frz_own | with_reducible apply r_bin | with_reducible apply r_binR | with_reducible apply r_un | with_reducible apply r_opN | with_reducible apply r_opNF | with_reducible apply r_cons | with_reducible apply r_gD | with_reducible apply r_gR | with_reducible apply r_if | with_reducible apply cif_t | with_reducible apply cif_f | with_reducible apply r_tb | with_reducible apply r_tru | with_reducible apply r_not | with_reducible apply r_notV | with_reducible apply r_and | with_reducible apply cand_t | with_reducible apply r_or | with_reducible apply cor_f | with_reducible apply r_andV | with_reducible apply candV_t | with_reducible apply r_orV | with_reducible apply corV_f | with_reducible apply r_ixC | with_reducible apply r_opC | with_reducible apply r_binC | with_reducible apply r_seq | with_reducible apply cseq_nx | with_reducible apply r_drop | with_reducible apply r_ret | with_reducible apply r_ifS | with_reducible apply r_set | with_reducible apply r_setC | with_reducible apply r_append | with_reducible apply r_popAt | with_reducible apply r_alt | with_reducible apply r_asg | with_reducible apply rt_name | with_reducible apply rt_cons | with_reducible apply rt_tup | with_reducible apply r_rcons | with_reducible apply sa_cons | with_reducible apply r_par | with_reducible apply r_gad | with_reducible apply r_gal | with_reducible apply r_slScr | with_reducible apply r_part | with_reducible apply le_d | with_reducible apply le_l | with_reducible apply ln_d | with_reducible apply so_d | with_reducible apply so_l | with_reducible apply bk_d | with_reducible apply bk_par | with_reducible apply r_call | with_reducible apply re_s | with_reducible apply r_def1 | with_reducible apply r_def2 | with_reducible apply r_def3 | with_reducible apply r_it | with_reducible apply ls_s | with_reducible apply wp_1 | with_reducible apply md_1 | with_reducible apply r_rng1 | with_reducible apply r_rng2 | with_reducible apply r_for | with_reducible apply r_lc)) (rngD 0 (x : Int)) h1 (N + 1) o1
  rw [rngD_len] at o2 l2
  have l2 : xs.length ≤ 8 := by omega
  have o2 : h2.ok (N + 1 + 432) := o2.mono (by omega)
  have hM := prodM_pos fun y hy => (hx y hy).p
  have b110 : (10 : Nat) ^ 33 ≤ 2 ^ 110 := by decide
  have hM1 : prodM xs ≤ 2 ^ 880 := Nat.le_trans (prodM_le fun y hy => Nat.le_trans (hx y hy).l2 b110) (Nat.pow_le_pow_right (by decide) (by omega))
  have hs1 := sumM_le (M := prodM xs) fun y hy => Nat.le_of_lt (hx y hy).l1
  have B0 : (10 : Nat) ^ 33 * 2 ^ 880 * 8 < 2 ^ 1900 := by decide +kernel
  have hs2 : sumM (prodM xs) xs < 2 ^ 1900 := Nat.lt_of_le_of_lt (Nat.le_trans hs1 (Nat.mul_le_mul (Nat.mul_le_mul (Nat.le_refl _) hM1) l2)) B0
  have B1 : (2 : Nat) ^ 880 < 2 ^ 900 := Nat.pow_lt_pow_right (by decide) (by decide)
  have B2 : (2 : Nat) ^ 880 < 2 ^ 1900 := Nat.pow_lt_pow_right (by decide) (by decide)
  have B3 : (2 : Nat) ^ 1900 < 2 ^ 300000 := Nat.pow_lt_pow_right (by decide) (by decide)
  have B4 : (2 : Nat) ^ 880 < 2 ^ 4490 := Nat.pow_lt_pow_right (by decide) (by decide)
  have B5 : (2 : Nat) ^ 900 < 2 ^ 400000 := Nat.pow_lt_pow_right (by decide) (by decide)
  have B6 : (10 : Nat) ^ 33 < 2 ^ 900 := by decide
  obtain ⟨t8, ht8, lp⟩ := part_loop (prodM xs) hM (by omega) (gtName 8) (gSet 7 (gCall g_law_low (gaD (gD (gBinR dAddR (gD (gBinR dMulR (gBin dIx (gFrz 7) (gC (.int 0))) (gBin dIx (gFrz 8) (gC (.int 1))))) (gD (gBinR dMulR (gBin dIx (gFrz 8) (gC (.int 0))) (gBin dIx (gFrz 7) (gC (.int 1))))))) (gaD (gD (gBinR dMulR (gBin dIx (gFrz 7) (gC (.int 1))) (gBin dIx (gFrz 8) (gC (.int 1))))) gaNil))))
    (fun f t => [.par h2.c, s1, .sh (.lst (xs.map fr)), s3, s4, s5, .un, .sh f, t]) (fun d f t ht => by
      show gtName 8 d [.par h2.c, s1, .sh (.lst (xs.map fr)), s3, s4, s5, .un, .sh f, t] = _
      repeat' (first | with_reducible assumption | with_reducible exact r_c | with_reducible exact get_z | with_reducible exact free_un | with_reducible exact free_sh | with_reducible exact free_own | with_reducible exact slot_rv | with_reducible exact slot_rf | with_reducible exact put_own | with_reducible exact put_par | with_reducible exact cell_own | with_reducible exact cell_par | with_reducible exact frz_sh | with_reducible exact r_nil | with_reducible exact rd_v | with_reducible exact rd_f | with_reducible exact tru_bl | with_reducible exact not_t | with_reducible exact not_f | with_reducible exact cand_f | with_reducible exact cor_t | with_reducible exact candV_f | with_reducible exact corV_t | with_reducible exact flat_int | with_reducible exact flat_bl | with_reducible exact r_skip | with_reducible exact cseq_rt | with_reducible exact rt_nil | with_reducible exact r_rnil | with_reducible exact sa_nil | with_reducible exact r_ganil | with_reducible exact ls_own | with_reducible exact ls_par | with_reducible exact ls_scr | with_reducible exact le_nil | with_reducible exact ln_nil | with_reducible exact so_nil | with_reducible exact sl_own | with_reducible exact sl_par | with_reducible exact sl_scr | with_reducible exact bk_nil | with_reducible exact it_l | with_reducible exact it_t | with_reducible exact ls_z | with_reducible exact kp_un | with_reducible exact kp_sh | with_reducible exact kp_own | with_reducible exact re_z | with_reducible exact fLst_0 | with_reducible exact fLst_1 | with_reducible exact fLst_2 | with_reducible exact fLst_3 | with_reducible exact fLst_4 | with_reducible exact fLst_5 | with_reducible exact dIsNot_tt | with_reducible exact r_nopart | with_reducible exact fInt_i | with_reducible exact fLen_l | with_reducible exact fLen_t | with_reducible exact fTupOf_l | with_reducible exact fTupOf_t | with_reducible exact fLstOf_l | with_reducible exact fLstOf_t | with_reducible exact fTup_1 | with_reducible exact fTup_2 | with_reducible exact fTup_3 | with_reducible exact dAddR_nn | with_reducible exact at5_0 | with_reducible exact ix5_0 | with_reducible exact st5_0 | with_reducible exact at5_1 | with_reducible exact ix5_1 | with_reducible exact st5_1 | with_reducible exact at5_2 | with_reducible exact ix5_2 | with_reducible exact st5_2 | with_reducible exact at5_3 | with_reducible exact ix5_3 | with_reducible exact st5_3 | with_reducible exact at5_4 | with_reducible exact ix5_4 | with_reducible exact st5_4 | with_reducible exact ixt2_0 | with_reducible exact ixt2_1 | with_reducible apply get_s | with_reducible apply set_z | with_reducible apply set_s | with_reducible apply put_s | with_reducible apply cell_s | with_reducible apply r_frz | with_reducible apply frz_own | with_reducible apply r_bin | with_reducible apply r_binR | with_reducible apply r_un | with_reducible apply r_opN | with_reducible apply r_opNF | with_reducible apply r_cons | with_reducible apply r_gD | with_reducible apply r_gR | with_reducible apply r_if | with_reducible apply cif_t | with_reducible apply cif_f | with_reducible apply r_tb | with_reducible apply r_tru | with_reducible apply r_not | with_reducible apply r_notV | with_reducible apply r_and | with_reducible apply cand_t | with_reducible apply r_or | with_reducible apply cor_f | with_reducible apply r_andV | with_reducible apply candV_t | with_reducible apply r_orV | with_reducible apply corV_f | with_reducible apply r_ixC | with_reducible apply r_opC | with_reducible apply r_binC | with_reducible apply r_seq | with_reducible apply cseq_nx | with_reducible apply r_drop | with_reducible apply r_ret | with_reducible apply r_ifS | with_reducible apply r_set | with_reducible apply r_setC | with_reducible apply r_append | with_reducible apply r_popAt | with_reducible apply r_alt | with_reducible apply r_asg | with_reducible apply rt_name | with_reducible apply rt_cons | with_reducible apply rt_tup | with_reducible apply r_rcons | with_reducible apply sa_cons | with_reducible apply r_par | with_reducible apply r_gad | with_reducible apply r_gal | with_reducible apply r_slScr | with_reducible apply r_part | with_reducible apply le_d | with_reducible apply le_l | with_reducible apply ln_d | with_reducible apply so_d | with_reducible apply so_l | with_reducible apply bk_d | with_reducible apply bk_par | with_reducible apply r_call | with_reducible apply re_s | with_reducible apply r_def1 | with_reducible apply r_def2 | with_reducible apply r_def3 | with_reducible apply r_it | with_reducible apply ls_s | with_reducible apply wp_1 | with_reducible apply md_1 | with_reducible apply r_rng1 | with_reducible apply r_rng2 | with_reducible apply r_for | with_reducible apply r_lc)) (fun x f t u px b1 b2 e => by
      have m1 := dMulR_nn (a := f.1) (b := x.2) (Sm.of b1 (by have := px.l2; omega))
      have m2 := dMulR_nn (a := x.1) (b := f.2) (Sm.of (by have := px.l1; omega) (by omega))
      have m3 := dMulR_nn (a := f.2) (b := x.2) (Sm.of (by omega) (by have := px.l2; omega))
      clear B0 B1 B2 B3 B4 B5 B6
      show gSet 7 _ [.par h2.c, s1, .sh (.lst (xs.map fr)), s3, s4, s5, .un, .sh (fr f), .sh (fr x)] = _
      repeat' (first | with_reducible assumption | with_reducible exact r_c | with_reducible exact get_z | with_reducible exact free_un | with_reducible exact free_sh | with_reducible exact free_own | with_reducible exact slot_rv | with_reducible exact slot_rf | with_reducible exact put_own | with_reducible exact put_par | with_reducible exact cell_own | with_reducible exact cell_par | with_reducible exact frz_sh | with_reducible exact r_nil | with_reducible exact rd_v | with_reducible exact rd_f | with_reducible exact tru_bl | with_reducible exact not_t | with_reducible exact not_f | with_reducible exact cand_f | with_reducible exact cor_t | with_reducible exact candV_f | with_reducible exact corV_t | with_reducible exact flat_int | with_reducible exact flat_bl | with_reducible exact r_skip | with_reducible exact cseq_rt | with_reducible exact rt_nil | with_reducible exact r_rnil | with_reducible exact sa_nil | with_reducible exact r_ganil | with_reducible exact ls_own | with_reducible exact ls_par | with_reducible exact ls_scr | with_reducible exact le_nil | with_reducible exact ln_nil | with_reducible exact so_nil | with_reducible exact sl_own | with_reducible exact sl_par | with_reducible exact sl_scr | with_reducible exact bk_nil | with_reducible exact it_l | with_reducible exact it_t | with_reducible exact ls_z | with_reducible exact kp_un | with_reducible exact kp_sh | with_reducible exact kp_own | with_reducible exact re_z | with_reducible exact fLst_0 | with_reducible exact fLst_1 | with_reducible exact fLst_2 | with_reducible exact fLst_3 | with_reducible exact fLst_4 | with_reducible exact fLst_5 | with_reducible exact dIsNot_tt | with_reducible exact r_nopart | with_reducible exact fInt_i | with_reducible exact fLen_l | with_reducible exact fLen_t | with_reducible exact fTupOf_l | with_reducible exact fTupOf_t | with_reducible exact fLstOf_l | with_reducible exact fLstOf_t | with_reducible exact fTup_1 | with_reducible exact fTup_2 | with_reducible exact fTup_3 | with_reducible exact dAddR_nn | with_reducible exact at5_0 | with_reducible exact ix5_0 | with_reducible exact st5_0 | with_reducible exact at5_1 | with_reducible exact ix5_1 | with_reducible exact st5_1 | with_reducible exact at5_2 | with_reducible exact ix5_2 | with_reducible exact st5_2 | with_reducible exact at5_3 | with_reducible exact ix5_3 | with_reducible exact st5_3 | with_reducible exact at5_4 | with_reducible exact ix5_4 | with_reducible exact st5_4 | with_reducible exact ixt2_0 | with_reducible exact ixt2_1 | with_reducible apply get_s | with_reducible apply set_z | with_reducible apply set_s | with_reducible apply put_s | with_reducible apply cell_s | with_reducible apply r_frz | with_reducible apply frz_own | with_reducible apply r_bin | with_reducible apply r_binR | with_reducible apply r_un | with_reducible apply r_opN | with_reducible apply r_opNF | with_reducible apply r_cons | with_reducible apply r_gD | with_reducible apply r_gR | with_reducible apply r_if | with_reducible apply cif_t | with_reducible apply cif_f | with_reducible apply r_tb | with_reducible apply r_tru | with_reducible apply r_not | with_reducible apply r_notV | with_reducible apply r_and | with_reducible apply cand_t | with_reducible apply r_or | with_reducible apply cor_f | with_reducible apply r_andV | with_reducible apply candV_t | with_reducible apply r_orV | with_reducible apply corV_f | with_reducible apply r_ixC | with_reducible apply r_opC | with_reducible apply r_binC | with_reducible apply r_seq | with_reducible apply cseq_nx | with_reducible apply r_drop | with_reducible apply r_ret | with_reducible apply r_ifS | with_reducible apply r_set | with_reducible apply r_setC | with_reducible apply r_append | with_reducible apply r_popAt | with_reducible apply r_alt | with_reducible apply r_asg | with_reducible apply rt_name | with_reducible apply rt_cons | with_reducible apply rt_tup | with_reducible apply r_rcons | with_reducible apply sa_cons | with_reducible apply r_par | with_reducible apply r_gad | with_reducible apply r_gal | with_reducible apply r_slScr | with_reducible apply r_part | with_reducible apply le_d | with_reducible apply le_l | with_reducible apply ln_d | with_reducible apply so_d | with_reducible apply so_l | with_reducible apply bk_d | with_reducible apply bk_par | with_reducible apply r_call | with_reducible apply re_s | with_reducible apply r_def1 | with_reducible apply r_def2 | with_reducible apply r_def3 | with_reducible apply r_it | with_reducible apply ls_s | with_reducible apply wp_1 | with_reducible apply md_1 | with_reducible apply r_rng1 | with_reducible apply r_rng2 | with_reducible apply r_for | with_reducible apply r_lc)) xs 0 .un rfl (fun y hy => ⟨hx y hy, prodM_dvd y hy⟩) (by omega)
  rw [Nat.zero_add, low_zero hM] at lp
  obtain ⟨t3, e3⟩ := total_eq xs (prodM xs) hM (by omega) (fun y hy => ⟨(hx y hy).p, prodM_dvd y hy⟩) (by omega)
  obtain ⟨h3, fs, t4, u4, o4, e4, e5⟩ := mixtot_eq h2 (N + 1 + 432) o2 xs (prodM xs) hM (by omega) (fun y hy => ⟨(hx y hy).p, prodM_dvd y hy⟩) (fun y hy => ⟨by have := (hx y hy).l1; omega, by have := (hx y hy).l2; omega⟩) (by omega) (by omega)
  have l3 : (low (sumM (prodM xs) xs) (prodM xs)).1 < 2 ^ 1900 := Nat.lt_of_le_of_lt low_le1 hs2
  have l4 : (low (sumM (prodM xs) xs) (prodM xs)).2 < 2 ^ 1900 := Nat.lt_of_le_of_lt low_le2 (by omega)
  generalize low (sumM (prodM xs) xs) (prodM xs) = W at *
  have lp : forLoop (gtName 8) (gSet 7 (gCall g_law_low (gaD (gD (gBinR dAddR (gD (gBinR dMulR (gBin dIx (gFrz 7) (gC (.int 0))) (gBin dIx (gFrz 8) (gC (.int 1))))) (gD (gBinR dMulR (gBin dIx (gFrz 8) (gC (.int 0))) (gBin dIx (gFrz 7) (gC (.int 1))))))) (gaD (gD (gBinR dMulR (gBin dIx (gFrz 7) (gC (.int 1))) (gBin dIx (gFrz 8) (gC (.int 1))))) gaNil)))) (xs.map fr) [.par h2.c, s1, .sh (.lst (xs.map fr)), s3, s4, s5, .un, .sh (.tup [.int 0, .int 1]), .un] = some (.nx [.par h2.c, s1, .sh (.lst (xs.map fr)), s3, s4, s5, .un, .sh (fr W), t8]) := lp
  obtain ⟨t6, u6, e6⟩ := same_eq (.lst [fr W, fr W]) (by show ((fr W).okR && ((fr W).okR && true)) = true; rw [okR_frp l3 l4]; rfl) (by show 6 ≤ _; decide) (by show 2 ≤ _; decide)
  clear B0 B1 B2 B3 B4 B5 B6 hs1 hs2 hM1 b110
  refine ⟨h3, [s1, .sh (.lst (xs.map fr)), s3, s4, s5, .un, .sh (fr W), t8], o4.mono (by omega), ?_⟩
  unfold sr13 sr14 sr15 sr16
  repeat' (first | with_reducible assumption | with_reducible exact r_c | with_reducible exact get_z | with_reducible exact free_un | with_reducible exact free_sh | with_reducible exact free_own | with_reducible exact slot_rv | with_reducible exact slot_rf | with_reducible exact put_own | with_reducible exact put_par | with_reducible exact cell_own | with_reducible exact cell_par | with_reducible exact frz_sh | with_reducible exact r_nil | with_reducible exact rd_v | with_reducible exact rd_f | with_reducible exact tru_bl | with_reducible exact not_t | with_reducible exact not_f | with_reducible exact cand_f | with_reducible exact cor_t | with_reducible exact candV_f | with_reducible exact corV_t | with_reducible exact flat_int | with_reducible exact flat_bl | with_reducible exact r_skip | with_reducible exact cseq_rt | with_reducible exact rt_nil | with_reducible exact r_rnil | with_reducible exact sa_nil | with_reducible exact r_ganil | with_reducible exact ls_own | with_reducible exact ls_par | with_reducible exact ls_scr | with_reducible exact le_nil | with_reducible exact ln_nil | with_reducible exact so_nil | with_reducible exact sl_own | with_reducible exact sl_par | with_reducible exact sl_scr | with_reducible exact bk_nil | with_reducible exact it_l | with_reducible exact it_t | with_reducible exact ls_z | with_reducible exact kp_un | with_reducible exact kp_sh | with_reducible exact kp_own | with_reducible exact re_z | with_reducible exact fLst_0 | with_reducible exact fLst_1 | with_reducible exact fLst_2 | with_reducible exact fLst_3 | with_reducible exact fLst_4 | with_reducible exact fLst_5 | with_reducible exact dIsNot_tt | with_reducible exact r_nopart | with_reducible exact fInt_i | with_reducible exact fLen_l | with_reducible exact fLen_t | with_reducible exact fTupOf_l | with_reducible exact fTupOf_t | with_reducible exact fLstOf_l | with_reducible exact fLstOf_t | with_reducible exact fTup_1 | with_reducible exact fTup_2 | with_reducible exact fTup_3 | with_reducible exact dAddR_nn | with_reducible exact at5_0 | with_reducible exact ix5_0 | with_reducible exact st5_0 | with_reducible exact at5_1 | with_reducible exact ix5_1 | with_reducible exact st5_1 | with_reducible exact at5_2 | with_reducible exact ix5_2 | with_reducible exact st5_2 | with_reducible exact at5_3 | with_reducible exact ix5_3 | with_reducible exact st5_3 | with_reducible exact at5_4 | with_reducible exact ix5_4 | with_reducible exact st5_4 | with_reducible exact ixt2_0 | with_reducible exact ixt2_1 | with_reducible apply get_s | with_reducible apply set_z | with_reducible apply set_s | with_reducible apply put_s | with_reducible apply cell_s | with_reducible apply r_frz | with_reducible apply frz_own | with_reducible apply r_bin | with_reducible apply r_binR | with_reducible apply r_un | with_reducible apply r_opN | with_reducible apply r_opNF | with_reducible apply r_cons | with_reducible apply r_gD | with_reducible apply r_gR | with_reducible apply r_if | with_reducible apply cif_t | with_reducible apply cif_f | with_reducible apply r_tb | with_reducible apply r_tru | with_reducible apply r_not | with_reducible apply r_notV | with_reducible apply r_and | with_reducible apply cand_t | with_reducible apply r_or | with_reducible apply cor_f | with_reducible apply r_andV | with_reducible apply candV_t | with_reducible apply r_orV | with_reducible apply corV_f | with_reducible apply r_ixC | with_reducible apply r_opC | with_reducible apply r_binC | with_reducible apply r_seq | with_reducible apply cseq_nx | with_reducible apply r_drop | with_reducible apply r_ret | with_reducible apply r_ifS | with_reducible apply r_set | with_reducible apply r_setC | with_reducible apply r_append | with_reducible apply r_popAt | with_reducible apply r_alt | with_reducible apply r_asg | with_reducible apply rt_name | with_reducible apply rt_cons | with_reducible apply rt_tup | with_reducible apply r_rcons | with_reducible apply sa_cons | with_reducible apply r_par | with_reducible apply r_gad | with_reducible apply r_gal | with_reducible apply r_slScr | with_reducible apply r_part | with_reducible apply le_d | with_reducible apply le_l | with_reducible apply ln_d | with_reducible apply so_d | with_reducible apply so_l | with_reducible apply bk_d | with_reducible apply bk_par | with_reducible apply r_call | with_reducible apply re_s | with_reducible apply r_def1 | with_reducible apply r_def2 | with_reducible apply r_def3 | with_reducible apply r_it | with_reducible apply ls_s | with_reducible apply wp_1 | with_reducible apply md_1 | with_reducible apply r_rng1 | with_reducible apply r_rng2 | with_reducible apply r_for | with_reducible apply r_lc)
theorem sums_eq (h : Hd) (N : Nat) (o : h.ok N) : ∃ (h' : Hd), h'.ok (N + 800) ∧ g_law_are_sums_right [.par h.c] = some (.v (.bl true), [.par h'.c]) := by
  obtain ⟨h1, a1, a2, o1, fa1, fa2, k1⟩ := st1 h N o .un .un .un .un .un .un .un rfl rfl
  obtain ⟨h2, b1, b2, o2, fb1, fb2, k2⟩ := st2 h1 _ o1 a1 a2 .un .un .un .un .un fa1 fa2
  obtain ⟨h3, c1, c2, c4, o3, fc1, fc2, fc4, k3⟩ := st3 h2 _ o2 b1 b2 .un .un .un .un .un fb1 fb2 rfl
  obtain ⟨h4, d1, d2, d3, d5, o4, fd1, fd2, k4⟩ := st4 h3 _ o3 c1 c2 c4 .un .un .un .un fc1 fc2 rfl
  obtain ⟨h5, ss, o5, e5⟩ := st5 h4 _ o4 d1 d2 d3 c4 d5 fd2
  refine ⟨h5, o5.mono (by omega), ?_⟩
  rw [sr_split]
  exact def_rt (τ := .par h5.c :: ss) rfl (k1 _ _ (k2 _ _ (k3 _ _ (k4 _ _ e5))))
end K07
set_option Elab.async false
set_option linter.all false
set_option maxRecDepth 100000
set_option exponentiation.threshold 20000
/-! K07l: the law. -/
namespace K07
open PySem PySem.Spec PyProof.Rows L2 TL
def ab (i : Int) : Nat := (if i < 0 then -i else i).toNat % 10 ^ 36
theorem ab_mod (i : Int) : dMod (.int (if i < 0 then -i else i)) (.int ((10 ^ 36 : Nat) : Int)) = some (nat (ab i)) := by
  have h : (0 : Int) ≤ (if i < 0 then -i else i) := by split <;> omega
  have e := dMod_nn (a := (if i < 0 then -i else i).toNat) (b := 10 ^ 36) (by decide)
  rwa [Int.toNat_of_nonneg h] at e
theorem hand_eq (ns : List Int) (hn : ns.length ≤ 63) : ∃ h : Hd, h.ok 0 ∧ g_law_hand [.scr ns] = some (.fl [.lst (h.cs.map nat), .int (h.i : Int), .int (h.n : Int), .int (h.s : Int), .int (h.k : Int)], [.scr ns]) := by
  have hc : (cutA ns none (some 63)).length ≤ 63 := by
    unfold cutA
    rw [List.length_take, List.length_drop]
    omega
  generalize hcs : cutA ns none (some 63) = cs at hc
  have l1 : (cs.map D.int).length ≤ line := by rw [List.length_map]; show _ ≤ 16777216; omega
  have p36 : dPow (.int 10) (.int 36) = some (.int ((10 ^ 36 : Nat) : Int)) := rfl
  have lc := lc_map [2] (gtName 2) (gBin dMod (gOpN fAbs (gCons (gOpN fInt (gCons (gFrz 2) gNil)) gNil)) (gBin dPow (gC (.int 10)) (gC (.int 36)))) [.scr ns, .un, .un] D.int (fun i => nat (ab i)) (fun _ => True) (fun i _ => by
    have m := ab_mod i
    have a := fAbs_i (i := i)
    apply Exists.intro
    apply Exists.intro
    refine And.intro ?_ (And.intro ?_ ?_)
    · repeat' (first | with_reducible assumption | with_reducible exact r_c | with_reducible exact get_z | with_reducible exact free_un | with_reducible exact free_sh | with_reducible exact free_own | with_reducible exact slot_rv | with_reducible exact slot_rf | with_reducible exact put_own | with_reducible exact put_par | with_reducible exact cell_own | with_reducible exact cell_par | with_reducible exact frz_sh | with_reducible exact r_nil | with_reducible exact rd_v | with_reducible exact rd_f | with_reducible exact tru_bl | with_reducible exact not_t | with_reducible exact not_f | with_reducible exact cand_f | with_reducible exact cor_t | with_reducible exact candV_f | with_reducible exact corV_t | with_reducible exact flat_int | with_reducible exact flat_bl | with_reducible exact r_skip | with_reducible exact cseq_rt | with_reducible exact rt_nil | with_reducible exact r_rnil | with_reducible exact sa_nil | with_reducible exact r_ganil | with_reducible exact ls_own | with_reducible exact ls_par | with_reducible exact ls_scr | with_reducible exact le_nil | with_reducible exact ln_nil | with_reducible exact so_nil | with_reducible exact sl_own | with_reducible exact sl_par | with_reducible exact sl_scr | with_reducible exact bk_nil | with_reducible exact it_l | with_reducible exact it_t | with_reducible exact ls_z | with_reducible exact kp_un | with_reducible exact kp_sh | with_reducible exact kp_own | with_reducible exact re_z | with_reducible exact fLst_0 | with_reducible exact fLst_1 | with_reducible exact fLst_2 | with_reducible exact fLst_3 | with_reducible exact fLst_4 | with_reducible exact fLst_5 | with_reducible exact dIsNot_tt | with_reducible exact r_nopart | with_reducible exact fInt_i | with_reducible exact fLen_l | with_reducible exact fLen_t | with_reducible exact fTupOf_l | with_reducible exact fTupOf_t | with_reducible exact fLstOf_l | with_reducible exact fLstOf_t | with_reducible exact fTup_1 | with_reducible exact fTup_2 | with_reducible exact fTup_3 | with_reducible exact dAddR_nn | with_reducible exact at5_0 | with_reducible exact ix5_0 | with_reducible exact st5_0 | with_reducible exact at5_1 | with_reducible exact ix5_1 | with_reducible exact st5_1 | with_reducible exact at5_2 | with_reducible exact ix5_2 | with_reducible exact st5_2 | with_reducible exact at5_3 | with_reducible exact ix5_3 | with_reducible exact st5_3 | with_reducible exact at5_4 | with_reducible exact ix5_4 | with_reducible exact st5_4 | with_reducible exact ixt2_0 | with_reducible exact ixt2_1 | with_reducible apply get_s | with_reducible apply set_z | with_reducible apply set_s | with_reducible apply put_s | with_reducible apply cell_s | with_reducible apply r_frz | with_reducible apply frz_own | with_reducible apply r_bin | with_reducible apply r_binR | with_reducible apply r_un | with_reducible apply r_opN | with_reducible apply r_opNF | with_reducible apply r_cons | with_reducible apply r_gD | with_reducible apply r_gR | with_reducible apply r_if | with_reducible apply cif_t | with_reducible apply cif_f | with_reducible apply r_tb | with_reducible apply r_tru | with_reducible apply r_not | with_reducible apply r_notV | with_reducible apply r_and | with_reducible apply cand_t | with_reducible apply r_or | with_reducible apply cor_f | with_reducible apply r_andV | with_reducible apply candV_t | with_reducible apply r_orV | with_reducible apply corV_f | with_reducible apply r_ixC | with_reducible apply r_opC | with_reducible apply r_binC | with_reducible apply r_seq | with_reducible apply cseq_nx | with_reducible apply r_drop | with_reducible apply r_ret | with_reducible apply r_ifS | with_reducible apply r_set | with_reducible apply r_setC | with_reducible apply r_append | with_reducible apply r_popAt | with_reducible apply r_alt | with_reducible apply r_asg | with_reducible apply rt_name | with_reducible apply rt_cons | with_reducible apply rt_tup | with_reducible apply r_rcons | with_reducible apply sa_cons | with_reducible apply r_par | with_reducible apply r_gad | with_reducible apply r_gal | with_reducible apply r_slScr | with_reducible apply r_part | with_reducible apply le_d | with_reducible apply le_l | with_reducible apply ln_d | with_reducible apply so_d | with_reducible apply so_l | with_reducible apply bk_d | with_reducible apply bk_par | with_reducible apply r_call | with_reducible apply re_s | with_reducible apply r_def1 | with_reducible apply r_def2 | with_reducible apply r_def3 | with_reducible apply r_it | with_reducible apply ls_s | with_reducible apply wp_1 | with_reducible apply md_1 | with_reducible apply r_rng1 | with_reducible apply r_rng2 | with_reducible apply r_for | with_reducible apply r_lc)
    · repeat' (first | with_reducible assumption | with_reducible exact r_c | with_reducible exact get_z | with_reducible exact free_un | with_reducible exact free_sh | with_reducible exact free_own | with_reducible exact slot_rv | with_reducible exact slot_rf | with_reducible exact put_own | with_reducible exact put_par | with_reducible exact cell_own | with_reducible exact cell_par | with_reducible exact frz_sh | with_reducible exact r_nil | with_reducible exact rd_v | with_reducible exact rd_f | with_reducible exact tru_bl | with_reducible exact not_t | with_reducible exact not_f | with_reducible exact cand_f | with_reducible exact cor_t | with_reducible exact candV_f | with_reducible exact corV_t | with_reducible exact flat_int | with_reducible exact flat_bl | with_reducible exact r_skip | with_reducible exact cseq_rt | with_reducible exact rt_nil | with_reducible exact r_rnil | with_reducible exact sa_nil | with_reducible exact r_ganil | with_reducible exact ls_own | with_reducible exact ls_par | with_reducible exact ls_scr | with_reducible exact le_nil | with_reducible exact ln_nil | with_reducible exact so_nil | with_reducible exact sl_own | with_reducible exact sl_par | with_reducible exact sl_scr | with_reducible exact bk_nil | with_reducible exact it_l | with_reducible exact it_t | with_reducible exact ls_z | with_reducible exact kp_un | with_reducible exact kp_sh | with_reducible exact kp_own | with_reducible exact re_z | with_reducible exact fLst_0 | with_reducible exact fLst_1 | with_reducible exact fLst_2 | with_reducible exact fLst_3 | with_reducible exact fLst_4 | with_reducible exact fLst_5 | with_reducible exact dIsNot_tt | with_reducible exact r_nopart | with_reducible exact fInt_i | with_reducible exact fLen_l | with_reducible exact fLen_t | with_reducible exact fTupOf_l | with_reducible exact fTupOf_t | with_reducible exact fLstOf_l | with_reducible exact fLstOf_t | with_reducible exact fTup_1 | with_reducible exact fTup_2 | with_reducible exact fTup_3 | with_reducible exact dAddR_nn | with_reducible exact at5_0 | with_reducible exact ix5_0 | with_reducible exact st5_0 | with_reducible exact at5_1 | with_reducible exact ix5_1 | with_reducible exact st5_1 | with_reducible exact at5_2 | with_reducible exact ix5_2 | with_reducible exact st5_2 | with_reducible exact at5_3 | with_reducible exact ix5_3 | with_reducible exact st5_3 | with_reducible exact at5_4 | with_reducible exact ix5_4 | with_reducible exact st5_4 | with_reducible exact ixt2_0 | with_reducible exact ixt2_1 | with_reducible apply get_s | with_reducible apply set_z | with_reducible apply set_s | with_reducible apply put_s | with_reducible apply cell_s | with_reducible apply r_frz | with_reducible apply frz_own | with_reducible apply r_bin | with_reducible apply r_binR | with_reducible apply r_un | with_reducible apply r_opN | with_reducible apply r_opNF | with_reducible apply r_cons | with_reducible apply r_gD | with_reducible apply r_gR | with_reducible apply r_if | with_reducible apply cif_t | with_reducible apply cif_f | with_reducible apply r_tb | with_reducible apply r_tru | with_reducible apply r_not | with_reducible apply r_notV | with_reducible apply r_and | with_reducible apply cand_t | with_reducible apply r_or | with_reducible apply cor_f | with_reducible apply r_andV | with_reducible apply candV_t | with_reducible apply r_orV | with_reducible apply corV_f | with_reducible apply r_ixC | with_reducible apply r_opC | with_reducible apply r_binC | with_reducible apply r_seq | with_reducible apply cseq_nx | with_reducible apply r_drop | with_reducible apply r_ret | with_reducible apply r_ifS | with_reducible apply r_set | with_reducible apply r_setC | with_reducible apply r_append | with_reducible apply r_popAt | with_reducible apply r_alt | with_reducible apply r_asg | with_reducible apply rt_name | with_reducible apply rt_cons | with_reducible apply rt_tup | with_reducible apply r_rcons | with_reducible apply sa_cons | with_reducible apply r_par | with_reducible apply r_gad | with_reducible apply r_gal | with_reducible apply r_slScr | with_reducible apply r_part | with_reducible apply le_d | with_reducible apply le_l | with_reducible apply ln_d | with_reducible apply so_d | with_reducible apply so_l | with_reducible apply bk_d | with_reducible apply bk_par | with_reducible apply r_call | with_reducible apply re_s | with_reducible apply r_def1 | with_reducible apply r_def2 | with_reducible apply r_def3 | with_reducible apply r_it | with_reducible apply ls_s | with_reducible apply wp_1 | with_reducible apply md_1 | with_reducible apply r_rng1 | with_reducible apply r_rng2 | with_reducible apply r_for | with_reducible apply r_lc)
    · rfl) cs (fun _ _ => trivial)
  have em : (cs.map fun i => nat (ab i)) = (cs.map ab).map nat := by rw [List.map_map]; rfl
  rw [em] at lc
  have ln : ((cs.map ab).map nat).length = cs.length := by rw [List.length_map, List.length_map]
  have fl : fLen [.lst ((cs.map ab).map nat)] = some (.int (cs.length : Int)) := by rw [fLen_l, ln]
  have m1 : dMulR (.int 311) (.int (cs.length : Int)) = some (.v (.int ((311 * cs.length : Nat) : Int))) := dMulR_nn (a := 311) (.inl (by decide))
  have q1 : dAddR (.int 17417) (.int ((311 * cs.length : Nat) : Int)) = some (.v (.int ((17417 + 311 * cs.length : Nat) : Int))) := dAddR_nn (a := 17417)
  have sl := r_slScr (τ := [.scr ns, .un, .un]) (i := 0) (ns := ns) get_z r_nopart (r_part (ge := gC (.int 63)) r_c)
  rw [hcs] at sl
  refine ⟨⟨cs.map ab, 0, 0, 17417 + 311 * cs.length, 0⟩, ⟨fun c hc => ?_, by show 0 < 10 ^ 36; decide, by show 17417 + 311 * cs.length < 2147483629; omega, Nat.le_refl _⟩, ?_⟩
  · obtain ⟨i, _, rfl⟩ := List.mem_map.mp hc
    exact Nat.mod_lt _ (by decide)
  · show g_law_hand [.scr ns] = some (.fl [.lst ((cs.map ab).map nat), .int 0, .int 0, .int ((17417 + 311 * cs.length : Nat) : Int), .int 0], [.scr ns])
    unfold g_law_hand
    repeat' (first | with_reducible assumption | with_reducible exact r_c | with_reducible exact get_z | with_reducible exact free_un | with_reducible exact free_sh | with_reducible exact free_own | with_reducible exact slot_rv | with_reducible exact slot_rf | with_reducible exact put_own | with_reducible exact put_par | with_reducible exact cell_own | with_reducible exact cell_par | with_reducible exact frz_sh | with_reducible exact r_nil | with_reducible exact rd_v | with_reducible exact rd_f | with_reducible exact tru_bl | with_reducible exact not_t | with_reducible exact not_f | with_reducible exact cand_f | with_reducible exact cor_t | with_reducible exact candV_f | with_reducible exact corV_t | with_reducible exact flat_int | with_reducible exact flat_bl | with_reducible exact r_skip | with_reducible exact cseq_rt | with_reducible exact rt_nil | with_reducible exact r_rnil | with_reducible exact sa_nil | with_reducible exact r_ganil | with_reducible exact ls_own | with_reducible exact ls_par | with_reducible exact ls_scr | with_reducible exact le_nil | with_reducible exact ln_nil | with_reducible exact so_nil | with_reducible exact sl_own | with_reducible exact sl_par | with_reducible exact sl_scr | with_reducible exact bk_nil | with_reducible exact it_l | with_reducible exact it_t | with_reducible exact ls_z | with_reducible exact kp_un | with_reducible exact kp_sh | with_reducible exact kp_own | with_reducible exact re_z | with_reducible exact fLst_0 | with_reducible exact fLst_1 | with_reducible exact fLst_2 | with_reducible exact fLst_3 | with_reducible exact fLst_4 | with_reducible exact fLst_5 | with_reducible exact dIsNot_tt | with_reducible exact r_nopart | with_reducible exact fInt_i | with_reducible exact fLen_l | with_reducible exact fLen_t | with_reducible exact fTupOf_l | with_reducible exact fTupOf_t | with_reducible exact fLstOf_l | with_reducible exact fLstOf_t | with_reducible exact fTup_1 | with_reducible exact fTup_2 | with_reducible exact fTup_3 | with_reducible exact dAddR_nn | with_reducible exact at5_0 | with_reducible exact ix5_0 | with_reducible exact st5_0 | with_reducible exact at5_1 | with_reducible exact ix5_1 | with_reducible exact st5_1 | with_reducible exact at5_2 | with_reducible exact ix5_2 | with_reducible exact st5_2 | with_reducible exact at5_3 | with_reducible exact ix5_3 | with_reducible exact st5_3 | with_reducible exact at5_4 | with_reducible exact ix5_4 | with_reducible exact st5_4 | with_reducible exact ixt2_0 | with_reducible exact ixt2_1 | with_reducible apply get_s | with_reducible apply set_z | with_reducible apply set_s | with_reducible apply put_s | with_reducible apply cell_s | with_reducible apply r_frz | with_reducible apply frz_own | with_reducible apply r_bin | with_reducible apply r_binR | with_reducible apply r_un | with_reducible apply r_opN | with_reducible apply r_opNF | with_reducible apply r_cons | with_reducible apply r_gD | with_reducible apply r_gR | with_reducible apply r_if | with_reducible apply cif_t | with_reducible apply cif_f | with_reducible apply r_tb | with_reducible apply r_tru | with_reducible apply r_not | with_reducible apply r_notV | with_reducible apply r_and | with_reducible apply cand_t | with_reducible apply r_or | with_reducible apply cor_f | with_reducible apply r_andV | with_reducible apply candV_t | with_reducible apply r_orV | with_reducible apply corV_f | with_reducible apply r_ixC | with_reducible apply r_opC | with_reducible apply r_binC | with_reducible apply r_seq | with_reducible apply cseq_nx | with_reducible apply r_drop | with_reducible apply r_ret | with_reducible apply r_ifS | with_reducible apply r_set | with_reducible apply r_setC | with_reducible apply r_append | with_reducible apply r_popAt | with_reducible apply r_alt | with_reducible apply r_asg | with_reducible apply rt_name | with_reducible apply rt_cons | with_reducible apply rt_tup | with_reducible apply r_rcons | with_reducible apply sa_cons | with_reducible apply r_par | with_reducible apply r_gad | with_reducible apply r_gal | with_reducible apply r_slScr | with_reducible apply r_part | with_reducible apply le_d | with_reducible apply le_l | with_reducible apply ln_d | with_reducible apply so_d | with_reducible apply so_l | with_reducible apply bk_d | with_reducible apply bk_par | with_reducible apply r_call | with_reducible apply re_s | with_reducible apply r_def1 | with_reducible apply r_def2 | with_reducible apply r_def3 | with_reducible apply r_it | with_reducible apply ls_s | with_reducible apply wp_1 | with_reducible apply md_1 | with_reducible apply r_rng1 | with_reducible apply r_rng2 | with_reducible apply r_for | with_reducible apply r_lc)
theorem lc_true (vs : List Nat) (gt : GT) (ge : GE) (T : Hd → List S) (m : Nat) (h1 : ∀ (h : Hd) (N : Nat) (d : D), h.ok N → ∃ (h' : Hd) (τ1 τ2 : List S), h'.ok (N + m) ∧ gt d (T h) = some τ1 ∧ ge τ1 = some (.bl true, τ2) ∧ wipeT τ2 vs = T h') :
    ∀ (ds : List D) (h : Hd) (N : Nat), h.ok N → ∃ (h' : Hd), h'.ok (N + m * ds.length) ∧ lcLoop vs gt gYes ge ds (T h) = some (ds.map fun _ => .bl true, T h') := by
  intro ds
  induction ds with
  | nil => exact fun h N o => ⟨h, o, rfl⟩
  | cons d ds ih =>
    intro h N o
    obtain ⟨h', τ1, τ2, o', e1, e2, e3⟩ := h1 h N d o
    obtain ⟨h2, o2, e4⟩ := ih h' (N + m) o'
    refine ⟨h2, o2.mono (by rw [List.length_cons, Nat.mul_add]; omega), ?_⟩
    rw [lcLoop_cons, e1]
    simp only [gYes_ap, e2, e3, e4]
    rfl
theorem all_true : ∀ (ds : List D), boolsOf (ds.map fun _ => D.bl true) = some (ds.map fun _ => true)
  | [] => rfl
  | d :: ds => by
    show boolsOf (.bl true :: ds.map fun _ => D.bl true) = _
    unfold boolsOf
    rw [all_true ds]
    rfl
theorem fall_eq (ds : List D) : fAll [.lst (ds.map fun _ => .bl true)] = some (.bl true) := by
  show (match boolsOf (ds.map fun _ => .bl true) with
    | some l => some (D.bl (l.all id))
    | none => none) = _
  rw [all_true]
  show some (D.bl _) = _
  congr 2
  rw [List.all_eq_true]
  intro b hb
  obtain ⟨_, _, e⟩ := List.mem_map.mp hb
  rw [← e]
  rfl
theorem lap_loop (gt : GT) (gb : GS) (T : Hd → S → List S) (m : Nat) (hg : ∀ (h : Hd) (d : D) (t : S), t.free = true → gt d (T h t) = some (T h (.sh d)))
    (hb : ∀ (h : Hd) (N : Nat) (d : D), h.ok N → ∃ h' : Hd, h'.ok (N + m) ∧ gb (T h (.sh d)) = some (.nx (T h' (.sh d)))) :
    ∀ (ds : List D) (h : Hd) (N : Nat) (t : S), t.free = true → h.ok N → ∃ (h' : Hd) (u : S), u.free = true ∧ forLoop gt gb ds (T h t) = some (.nx (T h' u)) := by
  intro ds
  induction ds with
  | nil => exact fun h N t ht o => ⟨h, t, ht, rfl⟩
  | cons d ds ih =>
    intro h N t ht o
    obtain ⟨h', o', e⟩ := hb h N d o
    obtain ⟨h2, u, hu, e2⟩ := ih h' (N + m) (.sh d) rfl o'
    refine ⟨h2, u, hu, ?_⟩
    rw [forLoop_cons, hg h d t ht]
    simp only [e]
    exact e2
theorem law_eq (ns : List Int) (hn : ns.length ≤ 63) : ∃ ss', g_law [.scr ns] = some (.v (.bl true), ss') := by
  obtain ⟨h0, o0, e0⟩ := hand_eq ns hn
  obtain ⟨t1, e1⟩ := total_eq [] 1 (by decide) (by decide +kernel) nofun (by show 0 < _; exact Nat.pow_pos (by decide))
  have e1 : g_total [.sh (.lst [])] = some (.v (.tup [.int 0, .int 1]), [t1]) := e1
  obtain ⟨t2, e2⟩ := total_eq [(1, 2), (1, 3), (1, 6)] 6 (by decide) (by decide +kernel) (fun x hx => by
    simp only [List.mem_cons, List.not_mem_nil, or_false] at hx
    rcases hx with rfl | rfl | rfl
    · exact ⟨by decide, by decide⟩
    · exact ⟨by decide, by decide⟩
    · exact ⟨by decide, by decide⟩) (by
    show 6 < 2 ^ 300000
    exact Nat.lt_of_lt_of_le (show 6 < 2 ^ 3 by decide) (Nat.pow_le_pow_right (by decide) (by decide)))
  have e2 : g_total [.sh (.lst [.tup [.int 1, .int 2], .tup [.int 1, .int 3], .tup [.int 1, .int 6]])] = some (.v (.tup [.int 1, .int 1]), [t2]) := e2
  obtain ⟨t3, u3, e3⟩ := ratio_eq 91 39 (by decide +kernel) (by decide)
  have e3 : g_ratio [.sh (.int 91), .sh (.int 39)] = some (.v (.tup [.int 7, .int 3]), [t3, u3]) := e3
  have n1 : dNe (.tup [.int 0, .int 1]) (.tup [.int 0, .int 1]) = some (.bl false) := rfl
  have n2 : dNe (.tup [.int 1, .int 1]) (.tup [.int 1, .int 1]) = some (.bl false) := rfl
  have n3 : dNe (.tup [.int 7, .int 3]) (.tup [.int 7, .int 3]) = some (.bl false) := rfl
  have w3 : -(2 ^ 62) ≤ (3 : Int) ∧ (3 : Int) < 2 ^ 62 := by decide
  have w4 : -(2 ^ 62) ≤ (4 : Int) ∧ (4 : Int) < 2 ^ 62 := by decide
  have l4 : (rngD 0 4).length ≤ line := by rw [rngD_len]; decide
  have fa := fall_eq (rngD 0 4)
  obtain ⟨h1, u, hu, lp⟩ := lap_loop (gtName 2) (gSeq (gIfS (gOr (gNot (gTru (gD (gCall g_law_are_sums_right (gaL 1 gaNil))))) (gNot (gTru (gD (gCall g_law_are_weights_right (gaL 1 gaNil)))))) (gRet (gR (gC (.bl false)))) gSkip)
    (gIfS (gNot (gTru (gOpN fAll (gCons (gD (gLc [3] (gRng1 (gCons (gC (.int 4)) gNil)) (gtName 3) gYes (gD (gCall g_law_are_pairs_right (gaL 1 gaNil))))) gNil)))) (gRet (gR (gC (.bl false)))) gSkip)) (fun h t => [.scr ns, .own h.c, t, .un]) 2000 (fun h d t ht => by
      show gtName 2 d [.scr ns, .own h.c, t, .un] = _
      repeat' (first | with_reducible assumption | with_reducible exact r_c | with_reducible exact get_z | with_reducible exact free_un | with_reducible exact free_sh | with_reducible exact free_own | with_reducible exact slot_rv | with_reducible exact slot_rf | with_reducible exact put_own | with_reducible exact put_par | with_reducible exact cell_own | with_reducible exact cell_par | with_reducible exact frz_sh | with_reducible exact r_nil | with_reducible exact rd_v | with_reducible exact rd_f | with_reducible exact tru_bl | with_reducible exact not_t | with_reducible exact not_f | with_reducible exact cand_f | with_reducible exact cor_t | with_reducible exact candV_f | with_reducible exact corV_t | with_reducible exact flat_int | with_reducible exact flat_bl | with_reducible exact r_skip | with_reducible exact cseq_rt | with_reducible exact rt_nil | with_reducible exact r_rnil | with_reducible exact sa_nil | with_reducible exact r_ganil | with_reducible exact ls_own | with_reducible exact ls_par | with_reducible exact ls_scr | with_reducible exact le_nil | with_reducible exact ln_nil | with_reducible exact so_nil | with_reducible exact sl_own | with_reducible exact sl_par | with_reducible exact sl_scr | with_reducible exact bk_nil | with_reducible exact it_l | with_reducible exact it_t | with_reducible exact ls_z | with_reducible exact kp_un | with_reducible exact kp_sh | with_reducible exact kp_own | with_reducible exact re_z | with_reducible exact fLst_0 | with_reducible exact fLst_1 | with_reducible exact fLst_2 | with_reducible exact fLst_3 | with_reducible exact fLst_4 | with_reducible exact fLst_5 | with_reducible exact dIsNot_tt | with_reducible exact r_nopart | with_reducible exact fInt_i | with_reducible exact fLen_l | with_reducible exact fLen_t | with_reducible exact fTupOf_l | with_reducible exact fTupOf_t | with_reducible exact fLstOf_l | with_reducible exact fLstOf_t | with_reducible exact fTup_1 | with_reducible exact fTup_2 | with_reducible exact fTup_3 | with_reducible exact dAddR_nn | with_reducible exact at5_0 | with_reducible exact ix5_0 | with_reducible exact st5_0 | with_reducible exact at5_1 | with_reducible exact ix5_1 | with_reducible exact st5_1 | with_reducible exact at5_2 | with_reducible exact ix5_2 | with_reducible exact st5_2 | with_reducible exact at5_3 | with_reducible exact ix5_3 | with_reducible exact st5_3 | with_reducible exact at5_4 | with_reducible exact ix5_4 | with_reducible exact st5_4 | with_reducible exact ixt2_0 | with_reducible exact ixt2_1 | with_reducible apply get_s | with_reducible apply set_z | with_reducible apply set_s | with_reducible apply put_s | with_reducible apply cell_s | with_reducible apply r_frz | with_reducible apply frz_own | with_reducible apply r_bin | with_reducible apply r_binR | with_reducible apply r_un | with_reducible apply r_opN | with_reducible apply r_opNF | with_reducible apply r_cons | with_reducible apply r_gD | with_reducible apply r_gR | with_reducible apply r_if | with_reducible apply cif_t | with_reducible apply cif_f | with_reducible apply r_tb | with_reducible apply r_tru | with_reducible apply r_not | with_reducible apply r_notV | with_reducible apply r_and | with_reducible apply cand_t | with_reducible apply r_or | with_reducible apply cor_f | with_reducible apply r_andV | with_reducible apply candV_t | with_reducible apply r_orV | with_reducible apply corV_f | with_reducible apply r_ixC | with_reducible apply r_opC | with_reducible apply r_binC | with_reducible apply r_seq | with_reducible apply cseq_nx | with_reducible apply r_drop | with_reducible apply r_ret | with_reducible apply r_ifS | with_reducible apply r_set | with_reducible apply r_setC | with_reducible apply r_append | with_reducible apply r_popAt | with_reducible apply r_alt | with_reducible apply r_asg | with_reducible apply rt_name | with_reducible apply rt_cons | with_reducible apply rt_tup | with_reducible apply r_rcons | with_reducible apply sa_cons | with_reducible apply r_par | with_reducible apply r_gad | with_reducible apply r_gal | with_reducible apply r_slScr | with_reducible apply r_part | with_reducible apply le_d | with_reducible apply le_l | with_reducible apply ln_d | with_reducible apply so_d | with_reducible apply so_l | with_reducible apply bk_d | with_reducible apply bk_par | with_reducible apply r_call | with_reducible apply re_s | with_reducible apply r_def1 | with_reducible apply r_def2 | with_reducible apply r_def3 | with_reducible apply r_it | with_reducible apply ls_s | with_reducible apply wp_1 | with_reducible apply md_1 | with_reducible apply r_rng1 | with_reducible apply r_rng2 | with_reducible apply r_for | with_reducible apply r_lc)) (fun h N d o => by
      obtain ⟨h1, o1, k1⟩ := sums_eq h N o
      obtain ⟨h2, o2, k2⟩ := weights_eq h1 _ o1
      obtain ⟨h3, o3, k3⟩ := lc_true [3] (gtName 3) (gD (gCall g_law_are_pairs_right (gaL 1 gaNil))) (fun h => [.scr ns, .own h.c, .sh d, .un]) 136 (fun h N d2 o => by
        obtain ⟨h', o', e⟩ := pairs_eq h N o
        refine ⟨h', [.scr ns, .own h.c, .sh d, .sh d2], [.scr ns, .own h'.c, .sh d, .sh d2], o', ?_, ?_, rfl⟩
        · show gtName 3 d2 [.scr ns, .own h.c, .sh d, .un] = _
          repeat' (first | with_reducible assumption | with_reducible exact r_c | with_reducible exact get_z | with_reducible exact free_un | with_reducible exact free_sh | with_reducible exact free_own | with_reducible exact slot_rv | with_reducible exact slot_rf | with_reducible exact put_own | with_reducible exact put_par | with_reducible exact cell_own | with_reducible exact cell_par | with_reducible exact frz_sh | with_reducible exact r_nil | with_reducible exact rd_v | with_reducible exact rd_f | with_reducible exact tru_bl | with_reducible exact not_t | with_reducible exact not_f | with_reducible exact cand_f | with_reducible exact cor_t | with_reducible exact candV_f | with_reducible exact corV_t | with_reducible exact flat_int | with_reducible exact flat_bl | with_reducible exact r_skip | with_reducible exact cseq_rt | with_reducible exact rt_nil | with_reducible exact r_rnil | with_reducible exact sa_nil | with_reducible exact r_ganil | with_reducible exact ls_own | with_reducible exact ls_par | with_reducible exact ls_scr | with_reducible exact le_nil | with_reducible exact ln_nil | with_reducible exact so_nil | with_reducible exact sl_own | with_reducible exact sl_par | with_reducible exact sl_scr | with_reducible exact bk_nil | with_reducible exact it_l | with_reducible exact it_t | with_reducible exact ls_z | with_reducible exact kp_un | with_reducible exact kp_sh | with_reducible exact kp_own | with_reducible exact re_z | with_reducible exact fLst_0 | with_reducible exact fLst_1 | with_reducible exact fLst_2 | with_reducible exact fLst_3 | with_reducible exact fLst_4 | with_reducible exact fLst_5 | with_reducible exact dIsNot_tt | with_reducible exact r_nopart | with_reducible exact fInt_i | with_reducible exact fLen_l | with_reducible exact fLen_t | with_reducible exact fTupOf_l | with_reducible exact fTupOf_t | with_reducible exact fLstOf_l | with_reducible exact fLstOf_t | with_reducible exact fTup_1 | with_reducible exact fTup_2 | with_reducible exact fTup_3 | with_reducible exact dAddR_nn | with_reducible exact at5_0 | with_reducible exact ix5_0 | with_reducible exact st5_0 | with_reducible exact at5_1 | with_reducible exact ix5_1 | with_reducible exact st5_1 | with_reducible exact at5_2 | with_reducible exact ix5_2 | with_reducible exact st5_2 | with_reducible exact at5_3 | with_reducible exact ix5_3 | with_reducible exact st5_3 | with_reducible exact at5_4 | with_reducible exact ix5_4 | with_reducible exact st5_4 | with_reducible exact ixt2_0 | with_reducible exact ixt2_1 | with_reducible apply get_s | with_reducible apply set_z | with_reducible apply set_s | with_reducible apply put_s | with_reducible apply cell_s | with_reducible apply r_frz | with_reducible apply frz_own | with_reducible apply r_bin | with_reducible apply r_binR | with_reducible apply r_un | with_reducible apply r_opN | with_reducible apply r_opNF | with_reducible apply r_cons | with_reducible apply r_gD | with_reducible apply r_gR | with_reducible apply r_if | with_reducible apply cif_t | with_reducible apply cif_f | with_reducible apply r_tb | with_reducible apply r_tru | with_reducible apply r_not | with_reducible apply r_notV | with_reducible apply r_and | with_reducible apply cand_t | with_reducible apply r_or | with_reducible apply cor_f | with_reducible apply r_andV | with_reducible apply candV_t | with_reducible apply r_orV | with_reducible apply corV_f | with_reducible apply r_ixC | with_reducible apply r_opC | with_reducible apply r_binC | with_reducible apply r_seq | with_reducible apply cseq_nx | with_reducible apply r_drop | with_reducible apply r_ret | with_reducible apply r_ifS | with_reducible apply r_set | with_reducible apply r_setC | with_reducible apply r_append | with_reducible apply r_popAt | with_reducible apply r_alt | with_reducible apply r_asg | with_reducible apply rt_name | with_reducible apply rt_cons | with_reducible apply rt_tup | with_reducible apply r_rcons | with_reducible apply sa_cons | with_reducible apply r_par | with_reducible apply r_gad | with_reducible apply r_gal | with_reducible apply r_slScr | with_reducible apply r_part | with_reducible apply le_d | with_reducible apply le_l | with_reducible apply ln_d | with_reducible apply so_d | with_reducible apply so_l | with_reducible apply bk_d | with_reducible apply bk_par | with_reducible apply r_call | with_reducible apply re_s | with_reducible apply r_def1 | with_reducible apply r_def2 | with_reducible apply r_def3 | with_reducible apply r_it | with_reducible apply ls_s | with_reducible apply wp_1 | with_reducible apply md_1 | with_reducible apply r_rng1 | with_reducible apply r_rng2 | with_reducible apply r_for | with_reducible apply r_lc)
        · repeat' (first | with_reducible assumption | with_reducible exact r_c | with_reducible exact get_z | with_reducible exact free_un | with_reducible exact free_sh | with_reducible exact free_own | with_reducible exact slot_rv | with_reducible exact slot_rf | with_reducible exact put_own | with_reducible exact put_par | with_reducible exact cell_own | with_reducible exact cell_par | with_reducible exact frz_sh | with_reducible exact r_nil | with_reducible exact rd_v | with_reducible exact rd_f | with_reducible exact tru_bl | with_reducible exact not_t | with_reducible exact not_f | with_reducible exact cand_f | with_reducible exact cor_t | with_reducible exact candV_f | with_reducible exact corV_t | with_reducible exact flat_int | with_reducible exact flat_bl | with_reducible exact r_skip | with_reducible exact cseq_rt | with_reducible exact rt_nil | with_reducible exact r_rnil | with_reducible exact sa_nil | with_reducible exact r_ganil | with_reducible exact ls_own | with_reducible exact ls_par | with_reducible exact ls_scr | with_reducible exact le_nil | with_reducible exact ln_nil | with_reducible exact so_nil | with_reducible exact sl_own | with_reducible exact sl_par | with_reducible exact sl_scr | with_reducible exact bk_nil | with_reducible exact it_l | with_reducible exact it_t | with_reducible exact ls_z | with_reducible exact kp_un | with_reducible exact kp_sh | with_reducible exact kp_own | with_reducible exact re_z | with_reducible exact fLst_0 | with_reducible exact fLst_1 | with_reducible exact fLst_2 | with_reducible exact fLst_3 | with_reducible exact fLst_4 | with_reducible exact fLst_5 | with_reducible exact dIsNot_tt | with_reducible exact r_nopart | with_reducible exact fInt_i | with_reducible exact fLen_l | with_reducible exact fLen_t | with_reducible exact fTupOf_l | with_reducible exact fTupOf_t | with_reducible exact fLstOf_l | with_reducible exact fLstOf_t | with_reducible exact fTup_1 | with_reducible exact fTup_2 | with_reducible exact fTup_3 | with_reducible exact dAddR_nn | with_reducible exact at5_0 | with_reducible exact ix5_0 | with_reducible exact st5_0 | with_reducible exact at5_1 | with_reducible exact ix5_1 | with_reducible exact st5_1 | with_reducible exact at5_2 | with_reducible exact ix5_2 | with_reducible exact st5_2 | with_reducible exact at5_3 | with_reducible exact ix5_3 | with_reducible exact st5_3 | with_reducible exact at5_4 | with_reducible exact ix5_4 | with_reducible exact st5_4 | with_reducible exact ixt2_0 | with_reducible exact ixt2_1 | with_reducible apply get_s | with_reducible apply set_z | with_reducible apply set_s | with_reducible apply put_s | with_reducible apply cell_s | with_reducible apply r_frz | with_reducible apply frz_own | with_reducible apply r_bin | with_reducible apply r_binR | with_reducible apply r_un | with_reducible apply r_opN | with_reducible apply r_opNF | with_reducible apply r_cons | with_reducible apply r_gD | with_reducible apply r_gR | with_reducible apply r_if | with_reducible apply cif_t | with_reducible apply cif_f | with_reducible apply r_tb | with_reducible apply r_tru | with_reducible apply r_not | with_reducible apply r_notV | with_reducible apply r_and | with_reducible apply cand_t | with_reducible apply r_or | with_reducible apply cor_f | with_reducible apply r_andV | with_reducible apply candV_t | with_reducible apply r_orV | with_reducible apply corV_f | with_reducible apply r_ixC | with_reducible apply r_opC | with_reducible apply r_binC | with_reducible apply r_seq | with_reducible apply cseq_nx | with_reducible apply r_drop | with_reducible apply r_ret | with_reducible apply r_ifS | with_reducible apply r_set | with_reducible apply r_setC | with_reducible apply r_append | with_reducible apply r_popAt | with_reducible apply r_alt | with_reducible apply r_asg | with_reducible apply rt_name | with_reducible apply rt_cons | with_reducible apply rt_tup | with_reducible apply r_rcons | with_reducible apply sa_cons | with_reducible apply r_par | with_reducible apply r_gad | with_reducible apply r_gal | with_reducible apply r_slScr | with_reducible apply r_part | with_reducible apply le_d | with_reducible apply le_l | with_reducible apply ln_d | with_reducible apply so_d | with_reducible apply so_l | with_reducible apply bk_d | with_reducible apply bk_par | with_reducible apply r_call | with_reducible apply re_s | with_reducible apply r_def1 | with_reducible apply r_def2 | with_reducible apply r_def3 | with_reducible apply r_it | with_reducible apply ls_s | with_reducible apply wp_1 | with_reducible apply md_1 | with_reducible apply r_rng1 | with_reducible apply r_rng2 | with_reducible apply r_for | with_reducible apply r_lc)) (rngD 0 4) h2 _ o2
      have hl : (rngD 0 4).length = 4 := by rw [rngD_len]; decide
      rw [hl] at o3
      refine ⟨h3, o3.mono (by omega), ?_⟩
      show _ = some (O.nx [.scr ns, .own h3.c, .sh d, .un])
      show gSeq _ _ [.scr ns, .own h.c, .sh d, .un] = _
      repeat' (first | with_reducible assumption | with_reducible exact r_c | with_reducible exact get_z | with_reducible exact free_un | with_reducible exact free_sh | with_reducible exact free_own | with_reducible exact slot_rv | with_reducible exact slot_rf | with_reducible exact put_own | with_reducible exact put_par | with_reducible exact cell_own | with_reducible exact cell_par | with_reducible exact frz_sh | with_reducible exact r_nil | with_reducible exact rd_v | with_reducible exact rd_f | with_reducible exact tru_bl | with_reducible exact not_t | with_reducible exact not_f | with_reducible exact cand_f | with_reducible exact cor_t | with_reducible exact candV_f | with_reducible exact corV_t | with_reducible exact flat_int | with_reducible exact flat_bl | with_reducible exact r_skip | with_reducible exact cseq_rt | with_reducible exact rt_nil | with_reducible exact r_rnil | with_reducible exact sa_nil | with_reducible exact r_ganil | with_reducible exact ls_own | with_reducible exact ls_par | with_reducible exact ls_scr | with_reducible exact le_nil | with_reducible exact ln_nil | with_reducible exact so_nil | with_reducible exact sl_own | with_reducible exact sl_par | with_reducible exact sl_scr | with_reducible exact bk_nil | with_reducible exact it_l | with_reducible exact it_t | with_reducible exact ls_z | with_reducible exact kp_un | with_reducible exact kp_sh | with_reducible exact kp_own | with_reducible exact re_z | with_reducible exact fLst_0 | with_reducible exact fLst_1 | with_reducible exact fLst_2 | with_reducible exact fLst_3 | with_reducible exact fLst_4 | with_reducible exact fLst_5 | with_reducible exact dIsNot_tt | with_reducible exact r_nopart | with_reducible exact fInt_i | with_reducible exact fLen_l | with_reducible exact fLen_t | with_reducible exact fTupOf_l | with_reducible exact fTupOf_t | with_reducible exact fLstOf_l | with_reducible exact fLstOf_t | with_reducible exact fTup_1 | with_reducible exact fTup_2 | with_reducible exact fTup_3 | with_reducible exact dAddR_nn | with_reducible exact at5_0 | with_reducible exact ix5_0 | with_reducible exact st5_0 | with_reducible exact at5_1 | with_reducible exact ix5_1 | with_reducible exact st5_1 | with_reducible exact at5_2 | with_reducible exact ix5_2 | with_reducible exact st5_2 | with_reducible exact at5_3 | with_reducible exact ix5_3 | with_reducible exact st5_3 | with_reducible exact at5_4 | with_reducible exact ix5_4 | with_reducible exact st5_4 | with_reducible exact ixt2_0 | with_reducible exact ixt2_1 | with_reducible apply get_s | with_reducible apply set_z | with_reducible apply set_s | with_reducible apply put_s | with_reducible apply cell_s | with_reducible apply r_frz | with_reducible apply frz_own | with_reducible apply r_bin | with_reducible apply r_binR | with_reducible apply r_un | with_reducible apply r_opN | with_reducible apply r_opNF | with_reducible apply r_cons | with_reducible apply r_gD | with_reducible apply r_gR | with_reducible apply r_if | with_reducible apply cif_t | with_reducible apply cif_f | with_reducible apply r_tb | with_reducible apply r_tru | with_reducible apply r_not | with_reducible apply r_notV | with_reducible apply r_and | with_reducible apply cand_t | with_reducible apply r_or | with_reducible apply cor_f | with_reducible apply r_andV | with_reducible apply candV_t | with_reducible apply r_orV | with_reducible apply corV_f | with_reducible apply r_ixC | with_reducible apply r_opC | with_reducible apply r_binC | with_reducible apply r_seq | with_reducible apply cseq_nx | with_reducible apply r_drop | with_reducible apply r_ret | with_reducible apply r_ifS | with_reducible apply r_set | with_reducible apply r_setC | with_reducible apply r_append | with_reducible apply r_popAt | with_reducible apply r_alt | with_reducible apply r_asg | with_reducible apply rt_name | with_reducible apply rt_cons | with_reducible apply rt_tup | with_reducible apply r_rcons | with_reducible apply sa_cons | with_reducible apply r_par | with_reducible apply r_gad | with_reducible apply r_gal | with_reducible apply r_slScr | with_reducible apply r_part | with_reducible apply le_d | with_reducible apply le_l | with_reducible apply ln_d | with_reducible apply so_d | with_reducible apply so_l | with_reducible apply bk_d | with_reducible apply bk_par | with_reducible apply r_call | with_reducible apply re_s | with_reducible apply r_def1 | with_reducible apply r_def2 | with_reducible apply r_def3 | with_reducible apply r_it | with_reducible apply ls_s | with_reducible apply wp_1 | with_reducible apply md_1 | with_reducible apply r_rng1 | with_reducible apply r_rng2 | with_reducible apply r_for | with_reducible apply r_lc)) (rngD 0 3) h0 0 .un rfl o0
  have e0 : g_law_hand [.scr ns] = some (.fl [.lst (h0.cs.map nat), .int (h0.i : Int), .int (h0.n : Int), .int (h0.s : Int), .int (h0.k : Int)], [.scr ns]) := e0
  have lp : forLoop (gtName 2) (gSeq (gIfS (gOr (gNot (gTru (gD (gCall g_law_are_sums_right (gaL 1 gaNil))))) (gNot (gTru (gD (gCall g_law_are_weights_right (gaL 1 gaNil)))))) (gRet (gR (gC (.bl false)))) gSkip)
    (gIfS (gNot (gTru (gOpN fAll (gCons (gD (gLc [3] (gRng1 (gCons (gC (.int 4)) gNil)) (gtName 3) gYes (gD (gCall g_law_are_pairs_right (gaL 1 gaNil))))) gNil)))) (gRet (gR (gC (.bl false)))) gSkip)) (rngD 0 3) [.scr ns, .own (.lst [.lst (h0.cs.map nat), .int (h0.i : Int), .int (h0.n : Int), .int (h0.s : Int), .int (h0.k : Int)]), .un, .un] = some (.nx [.scr ns, .own h1.c, u, .un]) := lp
  unfold g_law
  apply Exists.intro
  repeat' (first | with_reducible assumption | with_reducible exact bk_scr get_z bk_nil | with_reducible exact r_c | with_reducible exact get_z | with_reducible exact free_un | with_reducible exact free_sh | with_reducible exact free_own | with_reducible exact slot_rv | with_reducible exact slot_rf | with_reducible exact put_own | with_reducible exact put_par | with_reducible exact cell_own | with_reducible exact cell_par | with_reducible exact frz_sh | with_reducible exact r_nil | with_reducible exact rd_v | with_reducible exact rd_f | with_reducible exact tru_bl | with_reducible exact not_t | with_reducible exact not_f | with_reducible exact cand_f | with_reducible exact cor_t | with_reducible exact candV_f | with_reducible exact corV_t | with_reducible exact flat_int | with_reducible exact flat_bl | with_reducible exact r_skip | with_reducible exact cseq_rt | with_reducible exact rt_nil | with_reducible exact r_rnil | with_reducible exact sa_nil | with_reducible exact r_ganil | with_reducible exact ls_own | with_reducible exact ls_par | with_reducible exact ls_scr | with_reducible exact le_nil | with_reducible exact ln_nil | with_reducible exact so_nil | with_reducible exact sl_own | with_reducible exact sl_par | with_reducible exact sl_scr | with_reducible exact bk_nil | with_reducible exact it_l | with_reducible exact it_t | with_reducible exact ls_z | with_reducible exact kp_un | with_reducible exact kp_sh | with_reducible exact kp_own | with_reducible exact re_z | with_reducible exact fLst_0 | with_reducible exact fLst_1 | with_reducible exact fLst_2 | with_reducible exact fLst_3 | with_reducible exact fLst_4 | with_reducible exact fLst_5 | with_reducible exact dIsNot_tt | with_reducible exact r_nopart | with_reducible exact fInt_i | with_reducible exact fLen_l | with_reducible exact fLen_t | with_reducible exact fTupOf_l | with_reducible exact fTupOf_t | with_reducible exact fLstOf_l | with_reducible exact fLstOf_t | with_reducible exact fTup_1 | with_reducible exact fTup_2 | with_reducible exact fTup_3 | with_reducible exact dAddR_nn | with_reducible exact at5_0 | with_reducible exact ix5_0 | with_reducible exact st5_0 | with_reducible exact at5_1 | with_reducible exact ix5_1 | with_reducible exact st5_1 | with_reducible exact at5_2 | with_reducible exact ix5_2 | with_reducible exact st5_2 | with_reducible exact at5_3 | with_reducible exact ix5_3 | with_reducible exact st5_3 | with_reducible exact at5_4 | with_reducible exact ix5_4 | with_reducible exact st5_4 | with_reducible exact ixt2_0 | with_reducible exact ixt2_1 | with_reducible apply get_s | with_reducible apply set_z | with_reducible apply set_s | with_reducible apply put_s | with_reducible apply cell_s | with_reducible apply r_frz | with_reducible apply frz_own | with_reducible apply r_bin | with_reducible apply r_binR | with_reducible apply r_un | with_reducible apply r_opN | with_reducible apply r_opNF | with_reducible apply r_cons | with_reducible apply r_gD | with_reducible apply r_gR | with_reducible apply r_if | with_reducible apply cif_t | with_reducible apply cif_f | with_reducible apply r_tb | with_reducible apply r_tru | with_reducible apply r_not | with_reducible apply r_notV | with_reducible apply r_and | with_reducible apply cand_t | with_reducible apply r_or | with_reducible apply cor_f | with_reducible apply r_andV | with_reducible apply candV_t | with_reducible apply r_orV | with_reducible apply corV_f | with_reducible apply r_ixC | with_reducible apply r_opC | with_reducible apply r_binC | with_reducible apply r_seq | with_reducible apply cseq_nx | with_reducible apply r_drop | with_reducible apply r_ret | with_reducible apply r_ifS | with_reducible apply r_set | with_reducible apply r_setC | with_reducible apply r_append | with_reducible apply r_popAt | with_reducible apply r_alt | with_reducible apply r_asg | with_reducible apply rt_name | with_reducible apply rt_cons | with_reducible apply rt_tup | with_reducible apply r_rcons | with_reducible apply sa_cons | with_reducible apply r_par | with_reducible apply r_gad | with_reducible apply r_gal | with_reducible apply r_slScr | with_reducible apply r_part | with_reducible apply le_d | with_reducible apply le_l | with_reducible apply ln_d | with_reducible apply so_d | with_reducible apply so_l | with_reducible apply bk_d | with_reducible apply bk_par | with_reducible apply r_call | with_reducible apply re_s | with_reducible apply r_def1 | with_reducible apply r_def2 | with_reducible apply r_def3 | with_reducible apply r_it | with_reducible apply ls_s | with_reducible apply wp_1 | with_reducible apply md_1 | with_reducible apply r_rng1 | with_reducible apply r_rng2 | with_reducible apply r_for | with_reducible apply r_lc)
end K07
theorem PySem.Challenge.cw_onionpost_k07_whole_parts_of_closed_sums_holds : PySem.Challenge.rw_onionpost_k07_whole_parts_of_closed_sums.Holds := by
  exact K07.holds K07.law_eq
