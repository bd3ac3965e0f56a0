import PyProof.Rows.All
import Wide.All
import OpenK.AllK
import Wide.FinOn
import HandS.ForMost
import HandS.Walk
import HandS.TupAny
import HandS.Deep
import HandS.Style
import HandS.Star
import HandS.Flow
import HandS.DictComp
import HandS.Zip
import PyProof.ZipIter
import PyProof.Draws
import HandS.Zip0
import HandS.SortInts
import HandS.More
import HandS.IsInst
import KE.KSortedM
import HandS.SortRule
import HandS.TupSets
import HandS.SetFor
import HandS.Conv
import HandS.NamedTupSort
import PySem.Challenge.RW_driveout_k90_main_lists_by_turns
set_option Elab.async false
set_option linter.all false
set_option maxRecDepth 100000
/-! The data layer: what expressions and statements compute over plain data. -/
namespace DL
open PySem PySem.Spec L2
abbrev D := PyData

def kD : Key → D
  | .inl i => .int i
  | .inr s => .str s
mutual
/-- v stands for the data d, by what F holds -/
inductive Rp (K : PySem.W.Frag) (F : Hp) : V → D → Prop
  | non : Rp K F .non .none
  | bl (b : Bool) : Rp K F (.bl b) (.bool b)
  | int (i : Int) : Rp K F (.int i) (.int i)
  | str (x : Str) : Rp K F (.str x) (.str x)
  | lst {a : Addr} {xs : List V} {ds : List D} : F a = some (.lst xs) → RpL K F xs ds → Rp K F (.ref a) (.list ds)
  | tup {a : Addr} {xs : List V} {ds : List D} : F a = some (.tup xs) → RpL K F xs ds → Rp K F (.ref a) (.tuple ds)
  | dk {a : Addr} {kvs : List (Key × V)} {es : List (D × D)} : F a = some (.dK kvs) → RpK K F kvs es → Rp K F (.ref a) (.dict es)
  | dt {a : Addr} {kvs : List (List Key × V)} {es : List (D × D)} : F a = some (.dT kvs) → RpT K F kvs es → Rp K F (.ref a) (.dict ((.none, .none) :: es))
inductive RpL (K : PySem.W.Frag) (F : Hp) : List V → List D → Prop
  | nil : RpL K F [] []
  | cons {v : V} {vs : List V} {d : D} {ds : List D} : Rp K F v d → RpL K F vs ds → RpL K F (v :: vs) (d :: ds)
inductive RpK (K : PySem.W.Frag) (F : Hp) : List (Key × V) → List (D × D) → Prop
  | nil : RpK K F [] []
  | cons {k : Key} {v : V} {r : List (Key × V)} {d : D} {es : List (D × D)} : Rp K F v d → RpK K F r es → RpK K F ((k, v) :: r) ((kD k, d) :: es)
inductive RpT (K : PySem.W.Frag) (F : Hp) : List (List Key × V) → List (D × D) → Prop
  | nil : RpT K F [] []
  | cons {k : List Key} {v : V} {r : List (List Key × V)} {d : D} {es : List (D × D)} : Rp K F v d → RpT K F r es → RpT K F ((k, v) :: r) ((.tuple (k.map kD), d) :: es)
end

section mono
variable {K : PySem.W.Frag} {F F' : Hp}
theorem same_rd (e : Same F F') {a : Addr} {u : HO} (h : Rd F a u) : Rd F' a u := by
  rcases h with h | ⟨o, h⟩
  · exact .inl (e _ _ h)
  · exact .inr ⟨o, e _ _ h⟩
theorem same_t (e : Same F F') {a : Addr} {xs : List V} (h : SqT K F a xs) : SqT K F' a xs := by
  rcases h with h | h
  · exact .inl (same_rd e h)
  · exact .inr h
mutual
theorem Rp.mono (e : Same F F') : ∀ {v : V} {d : D}, Rp K F v d → Rp K F' v d
  | _, _, .non => .non
  | _, _, .bl b => .bl b
  | _, _, .int i => .int i
  | _, _, .str x => .str x
  | _, _, .lst h r => .lst (e _ _ h) (RpL.mono e r)
  | _, _, .tup h r => .tup (e _ _ h) (RpL.mono e r)
  | _, _, .dk h r => .dk (e _ _ h) (RpK.mono e r)
  | _, _, .dt h r => .dt (e _ _ h) (RpT.mono e r)
theorem RpL.mono (e : Same F F') : ∀ {v : List V} {d : List D}, RpL K F v d → RpL K F' v d
  | _, _, .nil => .nil
  | _, _, .cons h r => .cons (Rp.mono e h) (RpL.mono e r)
theorem RpK.mono (e : Same F F') : ∀ {v : List (Key × V)} {d : List (D × D)}, RpK K F v d → RpK K F' v d
  | _, _, .nil => .nil
  | _, _, .cons h r => .cons (Rp.mono e h) (RpK.mono e r)
theorem RpT.mono (e : Same F F') : ∀ {v : List (List Key × V)} {d : List (D × D)}, RpT K F v d → RpT K F' v d
  | _, _, .nil => .nil
  | _, _, .cons h r => .cons (Rp.mono e h) (RpT.mono e r)
end
theorem RpL.length : ∀ {v : List V} {d : List D}, RpL K F v d → v.length = d.length
  | _, _, .nil => rfl
  | _, _, .cons _ r => congrArg (· + 1) (RpL.length r)
theorem RpL.get : ∀ {v : List V} {d : List D} {i : Nat} {x : V}, RpL K F v d → v[i]? = some x → ∃ y, d[i]? = some y ∧ Rp K F x y
  | _, _, i, x, .nil, e => by simp at e
  | _, _, 0, x, .cons h r, e => by
    simp only [List.getElem?_cons_zero, Option.some.injEq] at e
    subst e
    exact ⟨_, rfl, h⟩
  | _, _, i + 1, x, .cons h r, e => by
    obtain ⟨y, h1, h2⟩ := RpL.get (i := i) r (by simpa using e)
    exact ⟨y, by simpa using h1, h2⟩
theorem RpL.getD : ∀ {v : List V} {d : List D} {i : Nat} {y : D}, RpL K F v d → d[i]? = some y → ∃ x, v[i]? = some x ∧ Rp K F x y
  | _, _, i, y, .nil, e => by simp at e
  | _, _, 0, y, .cons h r, e => by
    simp only [List.getElem?_cons_zero, Option.some.injEq] at e
    subst e
    exact ⟨_, rfl, h⟩
  | _, _, i + 1, y, .cons h r, e => by
    obtain ⟨x, h1, h2⟩ := RpL.getD (i := i) r (by simpa using e)
    exact ⟨x, by simpa using h1, h2⟩
theorem RpL.append : ∀ {v w : List V} {d e : List D}, RpL K F v d → RpL K F w e → RpL K F (v ++ w) (d ++ e)
  | _, _, _, _, .nil, s => s
  | _, _, _, _, .cons h r, s => .cons h (RpL.append r s)
theorem RpL.take : ∀ {v : List V} {d : List D} (n : Nat), RpL K F v d → RpL K F (v.take n) (d.take n)
  | _, _, 0, _ => .nil
  | _, _, _ + 1, .nil => .nil
  | _, _, n + 1, .cons h r => .cons h (RpL.take n r)
theorem RpL.drop : ∀ {v : List V} {d : List D} (n : Nat), RpL K F v d → RpL K F (v.drop n) (d.drop n)
  | _, _, 0, r => r
  | _, _, _ + 1, .nil => .nil
  | _, _, n + 1, .cons _ r => RpL.drop n r
theorem RpL.reverse {v : List V} {d : List D} (h : RpL K F v d) : RpL K F v.reverse d.reverse := by
  induction h using RpL.rec (motive_1 := fun _ _ _ => True) (motive_3 := fun _ _ _ => True) (motive_4 := fun _ _ _ => True) with
  | nil => exact .nil
  | cons h r _ ih =>
    rw [List.reverse_cons, List.reverse_cons]
    exact RpL.append ih (.cons h .nil)
  | _ => trivial
theorem RpL.set : ∀ {v : List V} {d : List D} (i : Nat) {x : V} {y : D}, RpL K F v d → Rp K F x y → RpL K F (v.set i x) (d.set i y)
  | _, _, _, _, _, .nil, _ => .nil
  | _, _, 0, _, _, .cons _ r, q => .cons q r
  | _, _, i + 1, _, _, .cons h r, q => .cons h (RpL.set i r q)
/-- ints -/
theorem RpL.ints : ∀ {v : List V} {ns : List Int}, RpL K F v (ns.map .int) → v = ns.map V.int
  | _, [], .nil => rfl
  | _, n :: ns, .cons h r => by
    cases h
    rw [RpL.ints r]
    rfl
theorem RpL.of_ints : ∀ (ns : List Int), RpL K F (ns.map V.int) (ns.map .int)
  | [] => .nil
  | n :: ns => .cons (.int n) (RpL.of_ints ns)
end mono

/-! ### cells, operands, states -/
inductive Cell where
  | un
  /-- a value that is never changed -/
  | val (d : D)
  /-- an object (list or dict) that this slot alone holds; b: it is the caller's -/
  | own (b : Bool) (d : D)
inductive Opd where
  | frz (d : D)
  | own (i : Nat)
  | new (d : D)
abbrev Ce := List Cell

/-- the object at a holds d, its items by F -/
def Top (K : PySem.W.Frag) (F H : Hp) (a : Addr) (d : D) : Prop :=
  (∃ xs ds, d = .list ds ∧ H a = some (.lst xs) ∧ RpL K F xs ds) ∨
  (∃ kvs es, d = .dict es ∧ H a = some (.dK kvs) ∧ RpK K F kvs es) ∨
  (∃ kvs es, d = .dict ((.none, .none) :: es) ∧ H a = some (.dT kvs) ∧ RpT K F kvs es)
theorem Top.mono {K : PySem.W.Frag} {F F' H H' : Hp} {a : Addr} {d : D} (e : Same F F') (k : ∀ o, H a = some o → H' a = some o) (t : Top K F H a d) : Top K F' H' a d := by
  rcases t with ⟨xs, ds, e1, h, r⟩ | ⟨xs, ds, e1, h, r⟩ | ⟨xs, ds, e1, h, r⟩
  · exact .inl ⟨xs, ds, e1, k _ h, r.mono e⟩
  · exact .inr (.inl ⟨xs, ds, e1, k _ h, r.mono e⟩)
  · exact .inr (.inr ⟨xs, ds, e1, k _ h, r.mono e⟩)
theorem Top.some {K : PySem.W.Frag} {F H : Hp} {a : Addr} {d : D} (t : Top K F H a d) : ∃ o, H a = some o := by
  rcases t with ⟨xs, ds, e1, h, r⟩ | ⟨xs, ds, e1, h, r⟩ | ⟨xs, ds, e1, h, r⟩ <;> exact ⟨_, h⟩

structure Sd (K : PySem.W.Frag) (F H : Hp) (σ : L2.St) (ρ : Ce) : Prop where
  sub : Same F H
  len : ρ.length = σ.length
  val : ∀ (i : Nat) d, ρ[i]? = some (.val d) → ∃ v, σ[i]? = some (some v) ∧ Rp K F v d
  own : ∀ (i : Nat) b d, ρ[i]? = some (.own b d) → ∃ a, σ[i]? = some (some (.ref a)) ∧ F a = none ∧ Top K F H a d
  sep : ∀ (i j : Nat) b d c e a, ρ[i]? = some (.own b d) → ρ[j]? = some (.own c e) → σ[i]? = some (some (.ref a)) → σ[j]? = some (some (.ref a)) → i = j

/-- a is held by a slot of its own -/
def OwA (σ : L2.St) (ρ : Ce) (a : Addr) : Prop := ∃ (i : Nat) (b : Bool) (d : D), ρ[i]? = some (.own b d) ∧ σ[i]? = some (some (.ref a))
/-- what stays of the cells behind an expression -/
def Shape (ρ ρ' : Ce) : Prop := ρ.length = ρ'.length ∧ ∀ i : Nat, (∀ c, ρ[i]? = some c → (∀ b d, c ≠ .own b d) → ρ'[i]? = some c) ∧ (∀ b d, ρ[i]? = some (.own b d) → ∃ d', ρ'[i]? = some (.own b d'))
theorem Shape.refl (ρ : Ce) : Shape ρ ρ := ⟨rfl, fun i => ⟨fun _ h _ => h, fun b d h => ⟨d, h⟩⟩⟩
theorem Shape.trans {a b c : Ce} (h : Shape a b) (k : Shape b c) : Shape a c := ⟨h.1.trans k.1, fun i => ⟨fun x e n => (k.2 i).1 x ((h.2 i).1 x e n) n, fun x d e => by
  obtain ⟨d', e'⟩ := (h.2 i).2 x d e
  exact (k.2 i).2 x d' e'⟩⟩
theorem Shape.back {a b : Ce} (h : Shape a b) {i : Nat} {x : Bool} {d : D} (e : b[i]? = some (.own x d)) : ∃ d', a[i]? = some (.own x d') := by
  have hi : i < b.length := (List.getElem?_eq_some_iff.mp e).1
  have hi' : i < a.length := by rw [h.1]; exact hi
  cases q : a[i]? with
  | none => rw [List.getElem?_eq_none_iff] at q; omega
  | some c =>
    cases c with
    | un => have := (h.2 i).1 _ q (fun _ _ z => by cases z); rw [e] at this; cases this
    | val d' => have := (h.2 i).1 _ q (fun _ _ z => by cases z); rw [e] at this; cases this
    | own y d' =>
      obtain ⟨d2, e2⟩ := (h.2 i).2 y d' q
      rw [e] at e2
      cases e2
      exact ⟨d', rfl⟩
theorem OwA.shape {σ : L2.St} {ρ ρ' : Ce} (h : Shape ρ ρ') {a : Addr} : OwA σ ρ' a ↔ OwA σ ρ a :=
  ⟨fun ⟨i, b, d, e, f⟩ => let ⟨d', e'⟩ := h.back e; ⟨i, b, d', e', f⟩, fun ⟨i, b, d, e, f⟩ => let ⟨d', e'⟩ := (h.2 i).2 b d e; ⟨i, b, d', e', f⟩⟩

/-- how frozen heap and heap grow -/
structure Gr (Ow : Addr → Prop) (F H F' H' : Hp) : Prop where
  fr : Same F F'
  new : ∀ a o, F' a = some o → F a = some o ∨ H a = none
  keep : ∀ a o, H a = some o → ¬ Ow a → H' a = some o
  there : ∀ a, H' a = none → H a = none
section
variable {Ow : Addr → Prop} {F H F1 H1 F2 H2 : Hp}
theorem Gr.refl : Gr Ow F H F H := ⟨Same.refl F, fun _ _ h => .inl h, fun _ _ h _ => h, fun _ h => h⟩
theorem Gr.trans (a : Gr Ow F H F1 H1) (b : Gr Ow F1 H1 F2 H2) : Gr Ow F H F2 H2 :=
  ⟨a.fr.trans b.fr, fun x o e => (b.new x o e).elim (fun z => a.new x o z) fun z => .inr (a.there x z), fun x o e n => b.keep x o (a.keep x o e n) n, fun x e => a.there x (b.there x e)⟩
theorem Gr.weak {Ow' : Addr → Prop} (a : Gr Ow F H F1 H1) (h : ∀ x, Ow x → Ow' x) : Gr Ow' F H F1 H1 := ⟨a.fr, a.new, fun x o e n => a.keep x o e fun z => n (h x z), a.there⟩
/-- a new object is laid, not frozen -/
theorem Gr.laid {a : Addr} {o : HO} (n : H a = none) : Gr Ow F H F (upd H a o) :=
  ⟨Same.refl F, fun _ _ h => .inl h, fun x u e _ => by rw [upd_ne (ne_of_none e n)]; exact e, fun x e => by
    by_cases q : x = a
    · rw [q]; exact n
    · rw [upd_ne q] at e; exact e⟩
end

def OpOk (K : PySem.W.Frag) (H0 F H : Hp) (σ : L2.St) (ρ : Ce) (v : V) : Opd → Prop
  | .frz d => Rp K F v d
  | .own i => σ[i]? = some (some v) ∧ ∃ b d, ρ[i]? = some (.own b d)
  | .new d => ∃ a, v = .ref a ∧ H0 a = none ∧ F a = none ∧ ¬ OwA σ ρ a ∧ Top K F H a d

section
variable {K : PySem.W.Frag} {H0 F H F1 H1 : Hp} {σ : L2.St} {ρ ρ1 : Ce} {v : V} {o : Opd}
/-- an operand stays while another expression runs -/
theorem OpOk.stay (h : OpOk K H0 F H σ ρ v o) (G : Gr (OwA σ ρ) F H F1 H1) (s : Shape ρ ρ1) : OpOk K H0 F1 H1 σ ρ1 v o := by
  cases o with
  | frz d => exact Rp.mono G.fr h
  | own i =>
    obtain ⟨h1, b, d, h2⟩ := h
    obtain ⟨d', e⟩ := (s.2 i).2 b d h2
    exact ⟨h1, b, d', e⟩
  | new d =>
    obtain ⟨a, e, n0, nF, nO, t⟩ := h
    refine ⟨a, e, n0, ?_, fun z => nO ((OwA.shape s).mp z), t.mono G.fr fun o q => G.keep a o q nO⟩
    cases q : F1 a with
    | none => rfl
    | some u =>
      obtain ⟨o, ho⟩ := t.some
      rcases G.new a u q with z | z
      · rw [nF] at z; cases z
      · rw [ho] at z; cases z
theorem OpOk.from {H00 : Hp} (h : OpOk K H0 F H σ ρ v o) (k : ∀ a, H0 a = none → H00 a = none) : OpOk K H00 F H σ ρ v o := by
  cases o with
  | frz d => exact h
  | own i => exact h
  | new d =>
    obtain ⟨a, e, n0, r⟩ := h
    exact ⟨a, e, k a n0, r⟩
/-- a frozen heap is laid over -/
def ovl (F H : Hp) (a : Addr) : Hp := fun b => if b = a then H b else F b
theorem ovl_same {a : Addr} : ovl F H a a = H a := if_pos rfl
theorem ovl_ne {a b : Addr} (n : b ≠ a) : ovl F H a b = F b := if_neg n
theorem same_ovl {a : Addr} (n : F a = none) : Same F (ovl F H a) := fun b o e => by
  rw [ovl_ne (ne_of_none e n)]
  exact e
theorem Top.rp {a : Addr} {d : D} (h : Top K F H a d) (n : F a = none) : Rp K (ovl F H a) (.ref a) d := by
  have s : Same F (ovl F H a) := same_ovl n
  rcases h with ⟨xs, ds, rfl, h, r⟩ | ⟨xs, ds, rfl, h, r⟩ | ⟨xs, ds, rfl, h, r⟩
  · exact .lst (ovl_same.trans h) (r.mono s)
  · exact .dk (ovl_same.trans h) (r.mono s)
  · exact .dt (ovl_same.trans h) (r.mono s)
theorem Sd.ovl (S : Sd K F H σ ρ) {a : Addr} (n : F a = none) (nO : ¬ OwA σ ρ a) : Sd K (ovl F H a) H σ ρ := by
  have s : Same F (DL.ovl F H a) := same_ovl n
  refine ⟨fun b o e => ?_, S.len, fun i d e => ?_, fun i b d e => ?_, S.sep⟩
  · by_cases q : b = a
    · subst q; rw [ovl_same] at e; exact e
    · rw [ovl_ne q] at e; exact S.sub b o e
  · obtain ⟨v, h1, h2⟩ := S.val i d e
    exact ⟨v, h1, h2.mono s⟩
  · obtain ⟨c, h1, h2, h3⟩ := S.own i b d e
    have nc : c ≠ a := fun z => nO ⟨i, b, d, e, by rw [← z]; exact h1⟩
    exact ⟨c, h1, by rw [ovl_ne nc]; exact h2, h3.mono s fun _ z => z⟩
theorem Gr.ovl {Ow : Addr → Prop} {F0 : Hp} (G : Gr Ow F0 H0 F H) {a : Addr} (n : F a = none) (n0 : H0 a = none) : Gr Ow F0 H0 (ovl F H a) H :=
  ⟨G.fr.trans (same_ovl n), fun b o e => by
    by_cases q : b = a
    · exact .inr (by rw [q]; exact n0)
    · rw [ovl_ne q] at e; exact G.new b o e, G.keep, G.there⟩
/-- every operand but a slot's own becomes frozen -/
def frD : Opd → Option D
  | .frz d => some d
  | .new d => some d
  | .own _ => none
theorem OpOk.freeze {Ow : Addr → Prop} {F0 : Hp} {d : D} (h : OpOk K H0 F H σ ρ v o) (S : Sd K F H σ ρ) (G : Gr Ow F0 H0 F H) (e : frD o = some d) : ∃ F', Gr Ow F0 H0 F' H ∧ Sd K F' H σ ρ ∧ Rp K F' v d ∧ Same F F' := by
  cases o with
  | frz d' => cases e; exact ⟨F, G, S, h, Same.refl F⟩
  | own i => cases e
  | new d' =>
    cases e
    obtain ⟨a, rfl, n0, nF, nO, t⟩ := h
    exact ⟨DL.ovl F H a, G.ovl nF n0, S.ovl nF nO, t.rp nF, same_ovl nF⟩
/-- what an operand holds now -/
def deref (ρ : Ce) : Opd → Option D
  | .frz d => some d
  | .new d => some d
  | .own i => match ρ[i]? with
    | some (.own _ d) => some d
    | _ => none
theorem OpOk.list {ds : List D} (h : OpOk K H0 F H σ ρ v o) (S : Sd K F H σ ρ) (e : deref ρ o = some (.list ds)) : ∃ a xs, v = .ref a ∧ H a = some (.lst xs) ∧ RpL K F xs ds := by
  cases o with
  | frz d' =>
    cases e
    cases h with
    | lst q r => exact ⟨_, _, rfl, S.sub _ _ q, r⟩
  | own i =>
    obtain ⟨h1, b, d, h2⟩ := h
    simp only [deref, h2, Option.some.injEq] at e
    subst e
    obtain ⟨a, q1, q2, q3⟩ := S.own i b _ h2
    rw [h1] at q1
    cases q1
    rcases q3 with ⟨xs, ds', e1, h, r⟩ | ⟨xs, ds', e1, h, r⟩ | ⟨xs, ds', e1, h, r⟩
    · cases e1; exact ⟨a, xs, rfl, h, r⟩
    · cases e1
    · cases e1
  | new d' =>
    cases e
    obtain ⟨a, rfl, n0, nF, nO, t⟩ := h
    rcases t with ⟨xs, ds', e1, h, r⟩ | ⟨xs, ds', e1, h, r⟩ | ⟨xs, ds', e1, h, r⟩
    · cases e1; exact ⟨a, xs, rfl, h, r⟩
    · cases e1
    · cases e1
theorem OpOk.tuple {ds : List D} (h : OpOk K H0 F H σ ρ v o) (S : Sd K F H σ ρ) (e : deref ρ o = some (.tuple ds)) : ∃ a xs, v = .ref a ∧ F a = some (.tup xs) ∧ RpL K F xs ds := by
  cases o with
  | frz d' =>
    cases e
    cases h with
    | tup q r => exact ⟨_, _, rfl, q, r⟩
  | own i =>
    obtain ⟨h1, b, d, h2⟩ := h
    simp only [deref, h2, Option.some.injEq] at e
    subst e
    obtain ⟨a, q1, q2, q3⟩ := S.own i b _ h2
    rcases q3 with ⟨xs, ds', e1, h, r⟩ | ⟨xs, ds', e1, h, r⟩ | ⟨xs, ds', e1, h, r⟩ <;> cases e1
  | new d' =>
    cases e
    obtain ⟨a, rfl, n0, nF, nO, t⟩ := h
    rcases t with ⟨xs, ds', e1, h, r⟩ | ⟨xs, ds', e1, h, r⟩ | ⟨xs, ds', e1, h, r⟩ <;> cases e1
theorem OpOk.dict {es : List (D × D)} (h : OpOk K H0 F H σ ρ v o) (S : Sd K F H σ ρ) (e : deref ρ o = some (.dict es)) :
    ∃ a, v = .ref a ∧ ((∃ kvs, H a = some (.dK kvs) ∧ RpK K F kvs es) ∨ ∃ kvs es', es = (.none, .none) :: es' ∧ H a = some (.dT kvs) ∧ RpT K F kvs es') := by
  have fin : ∀ a, Top K F H a (.dict es) → ((∃ kvs, H a = some (.dK kvs) ∧ RpK K F kvs es) ∨ ∃ kvs es', es = (.none, .none) :: es' ∧ H a = some (.dT kvs) ∧ RpT K F kvs es') := fun a t => by
    rcases t with ⟨xs, ds', e1, h, r⟩ | ⟨xs, ds', e1, h, r⟩ | ⟨xs, ds', e1, h, r⟩
    · cases e1
    · cases e1; exact .inl ⟨_, h, r⟩
    · cases e1; exact .inr ⟨_, _, rfl, h, r⟩
  cases o with
  | frz d' =>
    cases e
    cases h with
    | dk q r => exact ⟨_, rfl, .inl ⟨_, S.sub _ _ q, r⟩⟩
    | dt q r => exact ⟨_, rfl, .inr ⟨_, _, rfl, S.sub _ _ q, r⟩⟩
  | own i =>
    obtain ⟨h1, b, d, h2⟩ := h
    simp only [deref, h2, Option.some.injEq] at e
    subst e
    obtain ⟨a, q1, q2, q3⟩ := S.own i b _ h2
    rw [h1] at q1
    cases q1
    exact ⟨a, rfl, fin a q3⟩
  | new d' =>
    cases e
    obtain ⟨a, rfl, n0, nF, nO, t⟩ := h
    exact ⟨a, rfl, fin a t⟩
theorem OpOk.frzOf {d : D} (h : OpOk K H0 F H σ ρ v o) (e : o = .frz d) : Rp K F v d := by subst e; exact h
theorem OpOk.int {i : Int} (h : OpOk K H0 F H σ ρ v o) (e : o = .frz (.int i)) : v = .int i := by
  subst e
  cases h
  rfl
theorem OpOk.bool {i : Bool} (h : OpOk K H0 F H σ ρ v o) (e : o = .frz (.bool i)) : v = .bl i := by
  subst e
  cases h
  rfl
end

/-! ### expressions -/
abbrev FE := Ce → Option (Opd × Ce)
/-- the reading of «it computes f» -/
def canE (K : PySem.W.Frag) (f : FE) : TE := fun σ H Q => ∃ F ρ o ρ', Sd K F H σ ρ ∧ f ρ = some (o, ρ') ∧
  ∀ v F' H', Gr (OwA σ ρ) F H F' H' → Sd K F' H' σ ρ' → Shape ρ ρ' → OpOk K H F' H' σ ρ' v o → Q v H'
def EJ (X : Cx) (e : Expr) (f : FE) : Prop := PE X e (canE X.K f)
theorem PE.weak {X : Cx} {e : Expr} {t t' : TE} (h : PE X e t) (k : ∀ σ H Q, t' σ H Q → t σ H Q) : PE X e t' := ⟨fun pins s σ H Q I q => h.run pins s σ H Q I (k σ H Q q)⟩
theorem PT.weak {X : Cx} {e : Expr} {t t' : TT} (h : PT X e t) (k : ∀ σ H Q, t' σ H Q → t σ H Q) : PT X e t' := ⟨fun pins s σ H Q I q => h.run pins s σ H Q I (k σ H Q q)⟩
theorem PW.weak {X : Cx} {e : Expr} {t t' : TT} (h : PW X e t) (k : ∀ σ H Q, t' σ H Q → t σ H Q) : PW X e t' := ⟨fun w pins s σ H Q I q => h.run w pins s σ H Q I (k σ H Q q)⟩
theorem PA.weak {X : Cx} {e : List Expr} {t t' : TA} (h : PA X e t) (k : ∀ σ H Q, t' σ H Q → t σ H Q) : PA X e t' := ⟨fun p pins s σ H Q I q => h.run p pins s σ H Q I (k σ H Q q)⟩
theorem PS.weak {X : Cx} {e : Stmt} {t t' : TS} (h : PS X e t) (k : ∀ D σ H, t' D σ H → t D σ H) : PS X e t' := ⟨fun pins s σ H D I q => h.run pins s σ H D I (k D σ H q)⟩
theorem PSs.weak {X : Cx} {e : List Stmt} {t t' : TS} (h : PSs X e t) (k : ∀ D σ H, t' D σ H → t D σ H) : PSs X e t' := ⟨fun pins s σ H D I q => h.run pins s σ H D I (k D σ H q)⟩
theorem PI.weak {X : Cx} {tg e : Expr} {t t' : TI} (h : PI X tg e t) (k : ∀ σ H Q, t' σ H Q → t σ H Q) : PI X tg e t' := ⟨fun pins s σ H Q I q => h.run pins s σ H Q I (k σ H Q q)⟩
theorem PG.weak {X : Cx} {e : Expr} {t t' : TG} (h : PG X e t) (k : ∀ v σ H Q, t' v σ H Q → t v σ H Q) : PG X e t' := ⟨fun pins s σ H v u Q I r q => h.run pins s σ H v u Q I r (k v σ H Q q)⟩

section
variable {K : PySem.W.Frag} {F H : Hp} {σ : L2.St} {ρ ρ1 ρ2 : Ce} {o x y : Opd} {fa fb : FE}
theorem one (S : Sd K F H σ ρ) (ha : fa ρ = some (x, ρ1)) {Q : VK}
    (k : ∀ v F' H', Gr (OwA σ ρ) F H F' H' → Sd K F' H' σ ρ1 → Shape ρ ρ1 → OpOk K H F' H' σ ρ1 v x → Q v H') : canE K fa σ H Q := ⟨F, ρ, x, ρ1, S, ha, k⟩
theorem two (S : Sd K F H σ ρ) (ha : fa ρ = some (x, ρ1)) (hb : fb ρ1 = some (y, ρ2)) {R : V → V → Hp → Prop}
    (k : ∀ v u F' H', Gr (OwA σ ρ) F H F' H' → Sd K F' H' σ ρ2 → Shape ρ ρ2 → OpOk K H F' H' σ ρ2 v x → OpOk K H F' H' σ ρ2 u y → R v u H') :
    canE K fa σ H fun v H1 => canE K fb σ H1 fun u H2 => R v u H2 :=
  ⟨F, ρ, x, ρ1, S, ha, fun v F1 H1 G1 S1 s1 o1 => ⟨F1, ρ1, y, ρ2, S1, hb, fun u F2 H2 G2 S2 s2 o2 =>
    k v u F2 H2 (G1.trans (G2.weak fun a z => (OwA.shape s1).mp z)) S2 (s1.trans s2) (o1.stay (G2.weak fun a z => z) s2) (o2.from G1.there)⟩⟩
end
end DL

namespace DL
open PySem PySem.Spec L2

/-! ### what an operation lays -/
section
variable {K : PySem.W.Frag} {F H : Hp} {σ : L2.St} {ρ : Ce} {Ow : Addr → Prop}
theorem Sd.fresh (S : Sd K F H σ ρ) {p : Addr} (n : H p = none) : F p = none ∧ ¬ OwA σ ρ p := by
  refine ⟨?_, fun ⟨i, b, d, e, f⟩ => ?_⟩
  · cases q : F p with
    | none => rfl
    | some o => rw [S.sub p o q] at n; cases n
  · obtain ⟨a, h1, h2, h3⟩ := S.own i b d e
    rw [f] at h1
    cases h1
    obtain ⟨o, ho⟩ := h3.some
    rw [n] at ho; cases ho
theorem Sd.lay (S : Sd K F H σ ρ) {p : Addr} {o : HO} (n : H p = none) : Sd K F (upd H p o) σ ρ := by
  refine ⟨fun b u e => ?_, S.len, S.val, fun i b d e => ?_, S.sep⟩
  · rw [upd_ne (ne_of_none (S.sub b u e) n)]; exact S.sub b u e
  · obtain ⟨a, h1, h2, h3⟩ := S.own i b d e
    exact ⟨a, h1, h2, h3.mono (Same.refl F) fun u q => by rw [upd_ne (ne_of_none q n)]; exact q⟩
/-- a new list, not frozen -/
theorem new_list (S : Sd K F H σ ρ) {p : Addr} (n : H p = none) {zs : List V} {ds : List D} (r : RpL K F zs ds) :
    Gr Ow F H F (upd H p (.lst zs)) ∧ Sd K F (upd H p (.lst zs)) σ ρ ∧ OpOk K H F (upd H p (.lst zs)) σ ρ (.ref p) (.new (.list ds)) :=
  ⟨Gr.laid n, S.lay n, p, rfl, n, (S.fresh n).1, (S.fresh n).2, .inl ⟨zs, ds, rfl, upd_same, r⟩⟩
theorem new_dk (S : Sd K F H σ ρ) {p : Addr} (n : H p = none) {zs : List (Key × V)} {ds : List (D × D)} (r : RpK K F zs ds) :
    Gr Ow F H F (upd H p (.dK zs)) ∧ Sd K F (upd H p (.dK zs)) σ ρ ∧ OpOk K H F (upd H p (.dK zs)) σ ρ (.ref p) (.new (.dict ds)) :=
  ⟨Gr.laid n, S.lay n, p, rfl, n, (S.fresh n).1, (S.fresh n).2, .inr (.inl ⟨zs, ds, rfl, upd_same, r⟩)⟩
theorem new_dt (S : Sd K F H σ ρ) {p : Addr} (n : H p = none) {zs : List (List Key × V)} {ds : List (D × D)} (r : RpT K F zs ds) :
    Gr Ow F H F (upd H p (.dT zs)) ∧ Sd K F (upd H p (.dT zs)) σ ρ ∧ OpOk K H F (upd H p (.dT zs)) σ ρ (.ref p) (.new (.dict ((.none, .none) :: ds))) :=
  ⟨Gr.laid n, S.lay n, p, rfl, n, (S.fresh n).1, (S.fresh n).2, .inr (.inr ⟨zs, ds, rfl, upd_same, r⟩)⟩
/-- a new tuple, frozen at once -/
theorem new_tup (S : Sd K F H σ ρ) {p : Addr} (n : H p = none) {zs : List V} {ds : List D} (r : RpL K F zs ds) :
    ∃ F', Gr Ow F H F' (upd H p (.tup zs)) ∧ Sd K F' (upd H p (.tup zs)) σ ρ ∧ Rp K F' (.ref p) (.tuple ds) := by
  have hf := S.fresh n
  have s1 : Same F (ovl F (upd H p (.tup zs)) p) := same_ovl hf.1
  refine ⟨ovl F (upd H p (.tup zs)) p, (Gr.laid n).ovl hf.1 n, (S.lay n).ovl hf.1 hf.2, ?_⟩
  exact .tup (by rw [ovl_same, upd_same]) (r.mono s1)
end

/-! ### operators by values -/
def f2 (p : D → D → Option Opd) (fa fb : FE) : FE := fun ρ =>
  (fa ρ).bind fun r => (fb r.2).bind fun q => (deref q.2 r.1).bind fun d => (deref q.2 q.1).bind fun e => (p d e).bind fun o => some (o, q.2)
def R2D (K : PySem.W.Frag) (r : R2) (p : D → D → Option Opd) : Prop :=
  ∀ (F H H0 : Hp) (σ : L2.St) (ρ : Ce) (v u : V) (x y : Opd) (d e : D) (o : Opd) (Q : VK), Sd K F H σ ρ → OpOk K H0 F H σ ρ v x → OpOk K H0 F H σ ρ u y → deref ρ x = some d → deref ρ y = some e → p d e = some o →
    (∀ w F' H', Gr (OwA σ ρ) F H F' H' → Sd K F' H' σ ρ → OpOk K H F' H' σ ρ w o → Q w H') → r v u H Q
theorem r2_of {K : PySem.W.Frag} {r : R2} {p : D → D → Option Opd} (h : R2D K r p) {fa fb : FE} {σ : L2.St} {H : Hp} {Q : VK} (c : canE K (f2 p fa fb) σ H Q) : tOp r (canE K fa) (canE K fb) σ H Q := by
  obtain ⟨F, ρ, o, ρ', S, hf, k⟩ := c
  simp only [f2, Option.bind_eq_some_iff] at hf
  obtain ⟨⟨x, ρ1⟩, ha, ⟨y, ρ2⟩, hb, d, hd, e, he, z, hp, hq⟩ := hf
  cases hq
  refine two S ha hb fun v u F' H' G S' s ov ou => ?_
  refine h F' H' H σ ρ2 v u x y d e o Q S' ov ou hd he hp fun w F2 H2 G2 S2 ow => ?_
  have G2' : Gr (OwA σ ρ) F' H' F2 H2 := G2.weak fun a z => (OwA.shape s).mp z
  exact k w F2 H2 (G.trans G2') S2 s (ow.from G.there)
theorem ej_op {X : Cx} {a b : Expr} {op : Operator} {pos : Pos} {r : R2} {p : D → D → Option Opd} {fa fb : FE} (ho : OpR X (binaryOp op) r) (h : R2D X.K r p) (ha : EJ X a fa) (hb : EJ X b fb) : EJ X (.BinOp a op b pos) (f2 p fa fb) :=
  PE.weak (pe_op ho ha hb) fun _ _ _ c => r2_of h c
theorem ej_cmp {X : Cx} {a b : Expr} {op : CmpOp} {pos : Pos} {r : R2} {p : D → D → Option Opd} {fa fb : FE} (ho : OpR X (compareOp op) r) (h : R2D X.K r p) (ha : EJ X a fa) (hb : EJ X b fb) (hm : behindInMarks op b = false) : EJ X (.Compare a [op] [b] pos) (f2 p fa fb) :=
  PE.weak (pe_cmpR ho ha hb hm) fun _ _ _ c => r2_of h c

theorem frz_of {K : PySem.W.Frag} {H0 F H : Hp} {σ : L2.St} {ρ : Ce} {v : V} {x : Opd} {d : D} (h : OpOk K H0 F H σ ρ v x) (S : Sd K F H σ ρ) (e : deref ρ x = some d) (hd : (∀ ds, d ≠ .list ds) ∧ ∀ es, d ≠ .dict es) : Rp K F v d := by
  cases x with
  | frz d' => cases e; exact h
  | own i =>
    obtain ⟨h1, b, d', h2⟩ := h
    simp only [deref, h2, Option.some.injEq] at e
    subst e
    obtain ⟨a, q1, q2, q3⟩ := S.own i b _ h2
    rcases q3 with ⟨xs, ds', e1, _⟩ | ⟨xs, ds', e1, _⟩ | ⟨xs, ds', e1, _⟩
    · exact absurd e1 (hd.1 _)
    · exact absurd e1 (hd.2 _)
    · exact absurd e1 (hd.2 _)
  | new d' =>
    cases e
    obtain ⟨a, rfl, n0, nF, nO, t⟩ := h
    rcases t with ⟨xs, ds', e1, _⟩ | ⟨xs, ds', e1, _⟩ | ⟨xs, ds', e1, _⟩
    · exact absurd e1 (hd.1 _)
    · exact absurd e1 (hd.2 _)
    · exact absurd e1 (hd.2 _)
theorem int_of {K : PySem.W.Frag} {H0 F H : Hp} {σ : L2.St} {ρ : Ce} {v : V} {x : Opd} {i : Int} (h : OpOk K H0 F H σ ρ v x) (S : Sd K F H σ ρ) (e : deref ρ x = some (.int i)) : v = .int i := by
  cases frz_of h S e ⟨fun _ z => (by cases z), fun _ z => (by cases z)⟩
  rfl
theorem bool_of {K : PySem.W.Frag} {H0 F H : Hp} {σ : L2.St} {ρ : Ce} {v : V} {x : Opd} {i : Bool} (h : OpOk K H0 F H σ ρ v x) (S : Sd K F H σ ρ) (e : deref ρ x = some (.bool i)) : v = .bl i := by
  cases frz_of h S e ⟨fun _ z => (by cases z), fun _ z => (by cases z)⟩
  rfl
theorem str_of {K : PySem.W.Frag} {H0 F H : Hp} {σ : L2.St} {ρ : Ce} {v : V} {x : Opd} {i : Str} (h : OpOk K H0 F H σ ρ v x) (S : Sd K F H σ ρ) (e : deref ρ x = some (.str i)) : v = .str i := by
  cases frz_of h S e ⟨fun _ z => (by cases z), fun _ z => (by cases z)⟩
  rfl

/-- two ints -/
def pI (g : Int → Int → Option D) : D → D → Option Opd
  | .int i, .int j => (g i j).map .frz
  | _, _ => none
theorem pI_some {g : Int → Int → Option D} {d e : D} {o : Opd} (h : pI g d e = some o) : ∃ i j z, d = .int i ∧ e = .int j ∧ g i j = some z ∧ o = .frz z := by
  unfold pI at h
  split at h
  · rename_i i j
    cases q : g i j with
    | none => rw [q] at h; cases h
    | some z => rw [q] at h; exact ⟨i, j, z, rfl, rfl, q, (Option.some.inj h).symm⟩
  · cases h
theorem r2_I0 {K : PySem.W.Frag} {gv : Int → Int → V} {g : Int → Int → D} (hg : ∀ i j F, Rp K F (gv i j) (g i j)) : R2D K (rI0 gv) (pI fun i j => some (g i j)) := by
  intro F H H0 σ ρ v u x y d e o Q S ov ou hd he hp k
  obtain ⟨i, j, z, rfl, rfl, hz, rfl⟩ := pI_some hp
  cases hz
  exact ⟨i, j, int_of ov S hd, int_of ou S he, k _ F H Gr.refl S (hg i j F)⟩
theorem r2_I {K : PySem.W.Frag} {C : Int → Int → Prop} {gv : Int → Int → V} {g : Int → Int → Option D} (hg : ∀ i j z, g i j = some z → C i j ∧ ∀ F, Rp K F (gv i j) z) : R2D K (rI C gv) (pI g) := by
  intro F H H0 σ ρ v u x y d e o Q S ov ou hd he hp k
  obtain ⟨i, j, z, rfl, rfl, hz, rfl⟩ := pI_some hp
  obtain ⟨c, r⟩ := hg i j z hz
  exact ⟨i, j, int_of ov S hd, int_of ou S he, c, k _ F H Gr.refl S (r F)⟩
section
variable {X : Cx} {a b : Expr} {pos : Pos} {fa fb : FE} (ha : EJ X a fa) (hb : EJ X b fb)
include ha hb
theorem ej_add : EJ X (.BinOp a .Add b pos) (f2 (pI fun i j => some (.int (i + j))) fa fb) := ej_op op_add (r2_I0 fun i j F => .int _) ha hb
theorem ej_sub : EJ X (.BinOp a .Sub b pos) (f2 (pI fun i j => some (.int (i - j))) fa fb) := ej_op op_sub (r2_I0 fun i j F => .int _) ha hb
/-- one factor is small -/
def gMul (i j : Int) : Option D := if (-(2 ^ 64) < i ∧ i < 2 ^ 64) ∨ (-(2 ^ 64) < j ∧ j < 2 ^ 64) then some (.int (i * j)) else none
omit ha hb in
theorem gMul_ok {i j : Int} (h : (-(2 ^ 64) < i ∧ i < 2 ^ 64) ∨ (-(2 ^ 64) < j ∧ j < 2 ^ 64)) : gMul i j = some (.int (i * j)) := if_pos h
theorem ej_mul : EJ X (.BinOp a .Mult b pos) (f2 (pI gMul) fa fb) := ej_op op_mul (r2_I fun i j z h => by
  unfold gMul at h
  split at h
  · rename_i c
    cases h
    exact ⟨c, fun F => .int _⟩
  · cases h) ha hb
def gMod (i j : Int) : Option D := if 0 < j then some (.int (i % j)) else none
omit ha hb in
theorem fmod_pos {i j : Int} (h : 0 < j) : i.fmod j = i % j := Int.fmod_eq_emod_of_nonneg i (Int.le_of_lt h)
omit ha hb in
theorem fdiv_pos {i j : Int} (h : 0 < j) : i.fdiv j = i / j := Int.fdiv_eq_ediv_of_nonneg i (Int.le_of_lt h)
theorem ej_mod : EJ X (.BinOp a .Mod b pos) (f2 (pI gMod) fa fb) := ej_op op_modN (r2_I fun i j z h => by
  unfold gMod at h
  split at h
  · rename_i c
    cases h
    exact ⟨Int.ne_of_gt c, fun F => by rw [fmod_pos c]; exact .int _⟩
  · cases h) ha hb
def gDiv (i j : Int) : Option D := if 0 < j ∧ j < 1073741824 then some (.int (i / j)) else none
theorem ej_div : EJ X (.BinOp a .FloorDiv b pos) (f2 (pI gDiv) fa fb) := ej_op op_fdivN (r2_I fun i j z h => by
  unfold gDiv at h
  split at h
  · rename_i c
    cases h
    refine ⟨⟨Int.ne_of_gt c.1, by omega⟩, fun F => by rw [fdiv_pos c.1]; exact .int _⟩
  · cases h) ha hb
def gPow (i j : Int) : Option D := if (0 ≤ j ∧ j ≤ 1000000) ∧ i.natAbs < 2 ^ 64 then some (.int (i ^ j.toNat)) else none
theorem ej_pow : EJ X (.BinOp a .Pow b pos) (f2 (pI gPow) fa fb) := ej_op op_pow (r2_I fun i j z h => by
  unfold gPow at h
  split at h
  · rename_i c
    cases h
    exact ⟨⟨c.1.1, c.1.2, c.2⟩, fun F => .int _⟩
  · cases h) ha hb
end
end DL

namespace DL
open PySem PySem.Spec L2
section
variable {K : PySem.W.Frag}
theorem R2D.or {r1 r2 : R2} {p1 p2 : D → D → Option Opd} (h1 : R2D K r1 p1) (h2 : R2D K r2 p2) : R2D K (fun x y H Q => r1 x y H Q ∨ r2 x y H Q) (fun d e => (p1 d e).or (p2 d e)) := by
  intro F H H0 σ ρ v u x y d e o Q S ov ou hd he hp k
  replace hp : (p1 d e).or (p2 d e) = some o := hp
  cases q : p1 d e with
  | none => rw [q, Option.none_or] at hp; exact .inr (h2 F H H0 σ ρ v u x y d e o Q S ov ou hd he hp k)
  | some z => rw [q, Option.some_or] at hp; exact .inl (h1 F H H0 σ ρ v u x y d e o Q S ov ou hd he (q.trans hp) k)
/-! ### + of lists, tuples, texts; a list times an int -/
def pCat : D → D → Option Opd
  | .list xs, .list ys => if xs.length + ys.length ≤ sizeLine then some (.new (.list (xs ++ ys))) else none
  | _, _ => none
theorem r2_cat : R2D K rCat pCat := by
  intro F H H0 σ ρ v u x y d e o Q S ov ou hd he hp k
  unfold pCat at hp
  split at hp
  · rename_i xs ys
    split at hp
    · rename_i hz
      cases hp
      obtain ⟨a, vs, rfl, ha, ra⟩ := ov.list S hd
      obtain ⟨b, us, rfl, hb, rb⟩ := ou.list S he
      refine ⟨a, b, vs, us, rfl, rfl, ha, hb, by rw [ra.length, rb.length]; exact hz, fun p np => ?_⟩
      obtain ⟨G, S', ow⟩ := new_list (Ow := OwA σ ρ) S np (ra.append rb)
      exact k _ _ _ G S' ow
    · cases hp
  · cases hp
def pCatT : D → D → Option Opd
  | .tuple xs, .tuple ys => if xs.length + ys.length ≤ sizeLine then some (.frz (.tuple (xs ++ ys))) else none
  | _, _ => none
theorem r2_catT : R2D K (rCatA K) pCatT := by
  intro F H H0 σ ρ v u x y d e o Q S ov ou hd he hp k
  unfold pCatT at hp
  split at hp
  · rename_i xs ys
    split at hp
    · rename_i hz
      cases hp
      obtain ⟨a, vs, rfl, ha, ra⟩ := ov.tuple S hd
      obtain ⟨b, us, rfl, hb, rb⟩ := ou.tuple S he
      refine ⟨a, b, vs, us, rfl, rfl, .inl (.inl (S.sub _ _ ha)), .inl (.inl (S.sub _ _ hb)), by rw [ra.length, rb.length]; exact hz, fun e0 => ?_, fun n0 e1 => ?_, fun n0 n1 p np => ?_⟩
      · subst e0
        cases ra
        exact k _ F H Gr.refl S (Rp.tup hb rb)
      · subst e1
        cases rb
        rw [List.append_nil] at k
        exact k _ F H Gr.refl S (Rp.tup ha ra)
      · obtain ⟨F', G, S', r⟩ := new_tup (Ow := OwA σ ρ) S np (ra.append rb)
        exact k _ _ _ G S' r
    · cases hp
  · cases hp
def rCatStr : R2 := fun x y H Q => ∃ i j, x = .str i ∧ y = .str j ∧ i.length + j.length ≤ sizeLine ∧ Q (.str (i ++ j)) H
def pCatS : D → D → Option Opd
  | .str xs, .str ys => if xs.length + ys.length ≤ sizeLine then some (.frz (.str (xs ++ ys))) else none
  | _, _ => none
theorem r2_catS : R2D K rCatStr pCatS := by
  intro F H H0 σ ρ v u x y d e o Q S ov ou hd he hp k
  unfold pCatS at hp
  split at hp
  · rename_i xs ys
    split at hp
    · rename_i hz
      cases hp
      exact ⟨xs, ys, str_of ov S hd, str_of ou S he, hz, k _ F H Gr.refl S (Rp.str _)⟩
    · cases hp
  · cases hp
def pRep : D → D → Option Opd
  | .list xs, .int k => if -(2 ^ 63) ≤ k ∧ k < 2 ^ 63 ∧ xs.length * k.toNat ≤ sizeLine then some (.new (.list (List.replicate k.toNat xs).flatten)) else none
  | _, _ => none
theorem RpL.rep {F : Hp} {vs : List V} {ds : List D} (r : RpL K F vs ds) : ∀ n : Nat, RpL K F (List.replicate n vs).flatten (List.replicate n ds).flatten
  | 0 => .nil
  | n + 1 => by
    rw [List.replicate_succ, List.replicate_succ, List.flatten_cons, List.flatten_cons]
    exact r.append (RpL.rep r n)
theorem r2_rep : R2D K rRep pRep := by
  intro F H H0 σ ρ v u x y d e o Q S ov ou hd he hp k
  unfold pRep at hp
  split at hp
  · rename_i xs n
    split at hp
    · rename_i hz
      cases hp
      obtain ⟨a, vs, rfl, ha, ra⟩ := ov.list S hd
      refine ⟨a, n, vs, rfl, int_of ou S he, ha, hz.1, hz.2.1, by rw [ra.length]; exact hz.2.2, fun p np => ?_⟩
      obtain ⟨G, S', ow⟩ := new_list (Ow := OwA σ ρ) S np (ra.rep n.toNat)
      exact k _ _ _ G S' ow
    · cases hp
  · cases hp
def pAdd (d e : D) : Option Opd := ((pI fun i j => some (.int (i + j))) d e).or ((pCat d e).or ((pCatT d e).or (pCatS d e)))
def pMul (d e : D) : Option Opd := (pI gMul d e).or (pRep d e)

/-! ### data without dicts, by HandS's own relation -/
mutual
theorem Rp.dp {F H : Hp} (s : Same F H) : ∀ {v : V} {d : D}, Rp K F v d → d.canLay0 = true → Dp K H v d
  | _, _, .non, _ => .non
  | _, _, .bl b, _ => .bl b
  | _, _, .int i, _ => .int i
  | _, _, .str x, _ => .str x
  | _, _, .lst h r, c => .lst (.inl (.inl (s _ _ h))) (RpL.dp s r c)
  | _, _, .tup h r, c => .tup (.inl (.inl (s _ _ h))) (RpL.dp s r c)
  | _, _, .dk h r, c => nomatch c
  | _, _, .dt h r, c => nomatch c
theorem RpL.dp {F H : Hp} (s : Same F H) : ∀ {v : List V} {d : List D}, RpL K F v d → PyData.canLayAll0 d = true → DpAll K H v d
  | _, _, .nil, _ => .nil
  | _, _, .cons h r, c => by
    simp only [PyData.canLayAll0, Bool.and_eq_true] at c
    exact .cons (Rp.dp s h c.1) (RpL.dp s r c.2)
end
theorem OpOk.dp {H0 F H : Hp} {σ : L2.St} {ρ : Ce} {v : V} {x : Opd} {d : D} (h : OpOk K H0 F H σ ρ v x) (S : Sd K F H σ ρ) (e : deref ρ x = some d) (c : SeqAt.shaped d = true) : Dp K H v d := by
  have c0 := SeqAt.canLay_of_shaped c
  cases d with
  | list ds =>
    obtain ⟨a, xs, rfl, ha, r⟩ := h.list S e
    exact .lst (.inl (.inl ha)) (r.dp S.sub c0)
  | dict es => exact nomatch c0
  | none => exact Rp.dp S.sub (frz_of h S e ⟨fun _ z => (by cases z), fun _ z => (by cases z)⟩) c0
  | bool b => exact Rp.dp S.sub (frz_of h S e ⟨fun _ z => (by cases z), fun _ z => (by cases z)⟩) c0
  | int i => exact Rp.dp S.sub (frz_of h S e ⟨fun _ z => (by cases z), fun _ z => (by cases z)⟩) c0
  | str x => exact Rp.dp S.sub (frz_of h S e ⟨fun _ z => (by cases z), fun _ z => (by cases z)⟩) c0
  | tuple ds => exact Rp.dp S.sub (frz_of h S e ⟨fun _ z => (by cases z), fun _ z => (by cases z)⟩) c0
def pEq (d e : D) : Option Opd := if SeqAt.shaped d = true ∧ SeqAt.shaped e = true then some (.frz (.bool (PyData.eqv d e))) else none
def pNe (d e : D) : Option Opd := if SeqAt.shaped d = true ∧ SeqAt.shaped e = true then some (.frz (.bool (!PyData.eqv d e))) else none
theorem r2_eq : R2D K (rEqD K) pEq := by
  intro F H H0 σ ρ v u x y d e o Q S ov ou hd he hp k
  unfold pEq at hp
  split at hp
  · rename_i c
    cases hp
    exact ⟨d, e, ov.dp S hd c.1, ou.dp S he c.2, c.1, c.2, k _ F H Gr.refl S (Rp.bl _)⟩
  · cases hp
theorem r2_ne : R2D K (rNeD K) pNe := by
  intro F H H0 σ ρ v u x y d e o Q S ov ou hd he hp k
  unfold pNe at hp
  split at hp
  · rename_i c
    cases hp
    exact ⟨d, e, ov.dp S hd c.1, ou.dp S he c.2, c.1, c.2, k _ F H Gr.refl S (Rp.bl _)⟩
  · cases hp
/-! ### is None, is not None; in, not in -/
def pIsN (d e : D) : Option Opd := match d, e with
  | .none, .none => some (.frz (.bool true))
  | _, .none => some (.frz (.bool false))
  | _, _ => none
def pNotN (d e : D) : Option Opd := match d, e with
  | .none, .none => some (.frz (.bool false))
  | _, .none => some (.frz (.bool true))
  | _, _ => none
theorem non_iff {H0 F H : Hp} {σ : L2.St} {ρ : Ce} {v : V} {x : Opd} {d : D} (h : OpOk K H0 F H σ ρ v x) (S : Sd K F H σ ρ) (e : deref ρ x = some d) : v = .non ↔ d = .none := by
  cases d with
  | list ds =>
    obtain ⟨a, xs, rfl, ha, r⟩ := h.list S e
    exact ⟨nofun, nofun⟩
  | dict es =>
    obtain ⟨a, rfl, _⟩ := h.dict S e
    exact ⟨nofun, nofun⟩
  | none => cases frz_of h S e ⟨fun _ z => (by cases z), fun _ z => (by cases z)⟩; exact ⟨fun _ => rfl, fun _ => rfl⟩
  | bool b => cases frz_of h S e ⟨fun _ z => (by cases z), fun _ z => (by cases z)⟩; exact ⟨nofun, nofun⟩
  | int i => cases frz_of h S e ⟨fun _ z => (by cases z), fun _ z => (by cases z)⟩; exact ⟨nofun, nofun⟩
  | str x => cases frz_of h S e ⟨fun _ z => (by cases z), fun _ z => (by cases z)⟩; exact ⟨nofun, nofun⟩
  | tuple ds => cases frz_of h S e ⟨fun _ z => (by cases z), fun _ z => (by cases z)⟩; exact ⟨nofun, nofun⟩
theorem r2_isN : R2D K (fun x y H Q => y = .non ∧ Q (.bl (decide (x = .non))) H) pIsN := by
  intro F H H0 σ ρ v u x y d e o Q S ov ou hd he hp k
  unfold pIsN at hp
  split at hp
  · cases hp
    refine ⟨(non_iff ou S he).mpr rfl, ?_⟩
    rw [decide_eq_true ((non_iff ov S hd).mpr rfl)]
    exact k _ F H Gr.refl S (Rp.bl _)
  · rename_i hn
    cases hp
    refine ⟨(non_iff ou S he).mpr rfl, ?_⟩
    rw [decide_eq_false fun z => hn ((non_iff ov S hd).mp z)]
    exact k _ F H Gr.refl S (Rp.bl _)
  · cases hp
theorem r2_notN : R2D K (fun x y H Q => y = .non ∧ Q (.bl (!decide (x = .non))) H) pNotN := by
  intro F H H0 σ ρ v u x y d e o Q S ov ou hd he hp k
  unfold pNotN at hp
  split at hp
  · cases hp
    refine ⟨(non_iff ou S he).mpr rfl, ?_⟩
    rw [decide_eq_true ((non_iff ov S hd).mpr rfl)]
    exact k _ F H Gr.refl S (Rp.bl _)
  · rename_i hn
    cases hp
    refine ⟨(non_iff ou S he).mpr rfl, ?_⟩
    rw [decide_eq_false fun z => hn ((non_iff ov S hd).mp z)]
    exact k _ F H Gr.refl S (Rp.bl _)
  · cases hp
end
end DL

namespace DL
open PySem PySem.Spec L2

/-! ### dicts as data -/
def dLook (es : List (D × D)) (k : D) : Option D := (es.find? fun p => PyData.eqv p.1 k).map (·.2)
def dPut (es : List (D × D)) (k v : D) : List (D × D) := if (es.any fun p => PyData.eqv p.1 k) = true then es.map (fun p => if PyData.eqv p.1 k = true then (p.1, v) else p) else es ++ [(k, v)]
def dDrop (es : List (D × D)) (k : D) : List (D × D) := es.filter fun p => !PyData.eqv p.1 k
/-- ints and texts as keys; tuples of these -/
def keyD : D → Option Key
  | .int i => some (.inl i)
  | .str s => some (.inr s)
  | _ => none
def keysD : List D → Option (List Key)
  | [] => some []
  | d :: ds => match keyD d, keysD ds with
    | some k, some r => some (k :: r)
    | _, _ => none
theorem keyD_eq {d : D} {k : Key} (h : keyD d = some k) : d = kD k := by
  cases d <;> first
    | (cases h; rfl)
    | cases h
theorem keyD_kD (k : Key) : keyD (kD k) = some k := by cases k <;> rfl
theorem keysD_eq : ∀ {ds : List D} {ks : List Key}, keysD ds = some ks → ds = ks.map kD
  | [], _, h => by cases h; rfl
  | d :: ds, ks, h => by
    unfold keysD at h
    split at h
    · rename_i k r h1 h2
      cases h
      rw [keyD_eq h1, keysD_eq h2]
      rfl
    · cases h
theorem eqv_kD (a b : Key) : PyData.eqv (kD a) (kD b) = decide (a = b) := by
  cases a with
  | inl i =>
    cases b with
    | inl j =>
      rw [key_ll]
      show PyData.eqv (.int i) (.int j) = _
      rfl
    | inr t => rw [key_lr]; rfl
  | inr s =>
    cases b with
    | inl j => rw [key_rl]; rfl
    | inr t =>
      rw [key_rr]
      show (s == t) = _
      exact Bool.beq_eq_decide_eq s t
theorem eqv_kDs : ∀ a b : List Key, PyData.eqvAll (a.map kD) (b.map kD) = decide (a = b)
  | [], [] => rfl
  | [], _ :: _ => rfl
  | _ :: _, [] => rfl
  | x :: a, y :: b => by
    show (PyData.eqv (kD x) (kD y) && PyData.eqvAll (a.map kD) (b.map kD)) = _
    rw [eqv_kD, eqv_kDs a b, ← Bool.decide_and]
    simp
def ORel (K : PySem.W.Frag) (F : Hp) : Option V → Option D → Prop
  | some v, some d => Rp K F v d
  | none, none => True
  | _, _ => False
section
variable {K : PySem.W.Frag} {F H H0 : Hp} {σ : L2.St} {ρ : Ce}
theorem RpK.look : ∀ {kvs : List (Key × V)} {es : List (D × D)} (k : Key), RpK K F kvs es → ORel K F (valV kvs k) (dLook es (kD k))
  | _, _, k, .nil => True.intro
  | _, _, k, .cons (k := k') (v := v) (r := r) (d := d) (es := es) h t => by
    have ih := RpK.look k t
    unfold dLook valV at ih ⊢
    simp only [List.find?_cons, eqv_kD]
    by_cases e : k' = k
    · simp only [e, decide_true]; exact h
    · simp only [e, decide_false]; exact ih
theorem RpT.look : ∀ {kvs : List (List Key × V)} {es : List (D × D)} (k : List Key), RpT K F kvs es → ORel K F (valV kvs k) (dLook es (.tuple (k.map kD)))
  | _, _, k, .nil => True.intro
  | _, _, k, .cons (k := k') (v := v) (r := r) (d := d) (es := es) h t => by
    have ih := RpT.look k t
    unfold dLook valV at ih ⊢
    have e2 : PyData.eqv (.tuple (k'.map kD)) (.tuple (k.map kD)) = decide (k' = k) := eqv_kDs k' k
    simp only [List.find?_cons, e2]
    by_cases e : k' = k
    · simp only [e, decide_true]; exact h
    · simp only [e, decide_false]; exact ih
theorem RpK.length : ∀ {kvs : List (Key × V)} {es : List (D × D)}, RpK K F kvs es → kvs.length = es.length
  | _, _, .nil => rfl
  | _, _, .cons _ r => congrArg (· + 1) r.length
theorem RpT.length : ∀ {kvs : List (List Key × V)} {es : List (D × D)}, RpT K F kvs es → kvs.length = es.length
  | _, _, .nil => rfl
  | _, _, .cons _ r => congrArg (· + 1) r.length
theorem RpK.has : ∀ {kvs : List (Key × V)} {es : List (D × D)} (k : Key), RpK K F kvs es → (kvs.any fun kv => decide (kv.1 = k)) = es.any fun p => PyData.eqv p.1 (kD k)
  | _, _, k, .nil => rfl
  | _, _, k, .cons (k := k') h t => by
    simp only [List.any_cons, eqv_kD]
    rw [RpK.has k t]
theorem RpT.has : ∀ {kvs : List (List Key × V)} {es : List (D × D)} (k : List Key), RpT K F kvs es → (kvs.any fun kv => decide (kv.1 = k)) = es.any fun p => PyData.eqv p.1 (.tuple (k.map kD))
  | _, _, k, .nil => rfl
  | _, _, k, .cons (k := k') h t => by
    have e2 : PyData.eqv (.tuple (k'.map kD)) (.tuple (k.map kD)) = decide (k' = k) := eqv_kDs k' k
    simp only [List.any_cons, e2]
    rw [RpT.has k t]
theorem RpK.snoc {v : V} {d : D} : ∀ {kvs : List (Key × V)} {es : List (D × D)} (k : Key), RpK K F kvs es → Rp K F v d → RpK K F (kvs ++ [(k, v)]) (es ++ [(kD k, d)])
  | _, _, k, .nil, r => .cons r .nil
  | _, _, k, .cons h t, r => .cons h (RpK.snoc k t r)
theorem RpT.snoc {v : V} {d : D} : ∀ {kvs : List (List Key × V)} {es : List (D × D)} (k : List Key), RpT K F kvs es → Rp K F v d → RpT K F (kvs ++ [(k, v)]) (es ++ [(.tuple (k.map kD), d)])
  | _, _, k, .nil, r => .cons r .nil
  | _, _, k, .cons h t, r => .cons h (RpT.snoc k t r)
theorem RpK.repl {v : V} {d : D} : ∀ {kvs : List (Key × V)} {es : List (D × D)} (k : Key), RpK K F kvs es → Rp K F v d →
    RpK K F (kvs.map fun kv => if kv.1 = k then (kv.1, v) else kv) (es.map fun p => if PyData.eqv p.1 (kD k) = true then (p.1, d) else p)
  | _, _, k, .nil, r => .nil
  | _, _, k, .cons (k := k') (v := w) h t, r => by
    simp only [List.map_cons, eqv_kD]
    by_cases e : k' = k
    · simp only [e, decide_true, if_true]
      exact .cons r (RpK.repl k t r)
    · simp only [e, decide_false, if_false, Bool.false_eq_true]
      exact .cons h (RpK.repl k t r)
theorem RpT.repl {v : V} {d : D} : ∀ {kvs : List (List Key × V)} {es : List (D × D)} (k : List Key), RpT K F kvs es → Rp K F v d →
    RpT K F (kvs.map fun kv => if kv.1 = k then (kv.1, v) else kv) (es.map fun p => if PyData.eqv p.1 (.tuple (k.map kD)) = true then (p.1, d) else p)
  | _, _, k, .nil, r => .nil
  | _, _, k, .cons (k := k') (v := w) h t, r => by
    have e2 : PyData.eqv (.tuple (k'.map kD)) (.tuple (k.map kD)) = decide (k' = k) := eqv_kDs k' k
    simp only [List.map_cons, e2]
    by_cases e : k' = k
    · simp only [e, decide_true, if_true]
      exact .cons r (RpT.repl k t r)
    · simp only [e, decide_false, if_false, Bool.false_eq_true]
      exact .cons h (RpT.repl k t r)
theorem RpK.put {v : V} {d : D} {kvs : List (Key × V)} {es : List (D × D)} (k : Key) (h : RpK K F kvs es) (r : Rp K F v d) : RpK K F (putK kvs k v) (dPut es (kD k) d) := by
  unfold putK dPut
  rw [h.has k]
  by_cases e : (es.any fun p => PyData.eqv p.1 (kD k)) = true
  · rw [if_pos e, if_pos e]; exact h.repl k r
  · rw [if_neg e, if_neg e]; exact h.snoc k r
theorem RpT.put {v : V} {d : D} {kvs : List (List Key × V)} {es : List (D × D)} (k : List Key) (h : RpT K F kvs es) (r : Rp K F v d) : RpT K F (putK kvs k v) (dPut es (.tuple (k.map kD)) d) := by
  unfold putK dPut
  rw [h.has k]
  by_cases e : (es.any fun p => PyData.eqv p.1 (.tuple (k.map kD))) = true
  · rw [if_pos e, if_pos e]; exact h.repl k r
  · rw [if_neg e, if_neg e]; exact h.snoc k r
theorem RpK.drop : ∀ {kvs : List (Key × V)} {es : List (D × D)} (k : Key), RpK K F kvs es → RpK K F (dropK kvs k) (dDrop es (kD k))
  | _, _, k, .nil => .nil
  | _, _, k, .cons (k := k') (v := w) h t => by
    have ih := RpK.drop k t
    unfold dropK dDrop at ih ⊢
    simp only [List.filter_cons, eqv_kD]
    by_cases e : k' = k
    · simp only [e, ne_eq, not_true_eq_false, decide_false, decide_true, Bool.not_true, Bool.false_eq_true, if_false]; exact ih
    · simp only [e, ne_eq, not_false_eq_true, decide_true, decide_false, Bool.not_false, if_true]; exact .cons h ih
theorem dPut_mark {es : List (D × D)} {ks : List D} {v : D} : dPut ((.none, .none) :: es) (.tuple ks) v = (.none, .none) :: dPut es (.tuple ks) v := by
  have h : PyData.eqv .none (.tuple ks) = false := rfl
  unfold dPut
  simp only [List.any_cons, h, Bool.false_or, List.map_cons, Bool.false_eq_true, if_false]
  by_cases e : (es.any fun p => PyData.eqv p.1 (.tuple ks)) = true
  · simp only [if_pos e]
  · simp only [if_neg e]; rfl
theorem dLook_mark {es : List (D × D)} {ks : List D} : dLook ((.none, .none) :: es) (.tuple ks) = dLook es (.tuple ks) := by
  have h : PyData.eqv .none (.tuple ks) = false := rfl
  unfold dLook
  simp only [List.find?_cons, h]
theorem RpK.hd {kvs : List (Key × V)} {es es' : List (D × D)} {p : D × D} (r : RpK K F kvs es) (e : es = p :: es') : ∃ k, p.1 = kD k := by
  cases r with
  | nil => cases e
  | cons h t => cases e; exact ⟨_, rfl⟩
/-- whether these entries and this key go together -/
def fitK (es : List (D × D)) (k : D) : Bool := match es with
  | (.none, _) :: _ => match k with
    | .tuple ks => (keysD ks).isSome
    | _ => false
  | _ => (keyD k).isSome
theorem kV_rp {v : V} {k : Key} (r : Rp K F v (kD k)) : v = kV k := by
  cases k <;> (cases r; rfl)
theorem kVs_rp : ∀ {vs : List V} {ks : List Key}, RpL K F vs (ks.map kD) → vs = ks.map kV
  | _, [], .nil => rfl
  | _, k :: ks, .cons h r => by rw [kV_rp h, kVs_rp r]; rfl
/-- what a dict holds at a key -/
theorem dget_of {v u : V} {x y : Opd} {es : List (D × D)} {k : D} (ov : OpOk K H0 F H σ ρ v x) (ou : OpOk K H0 F H σ ρ u y) (S : Sd K F H σ ρ) (hd : deref ρ x = some (.dict es)) (hk : deref ρ y = some k) (hf : fitK es k = true) :
    ∃ a o, v = .ref a ∧ DGet H a u o ∧ ORel K F o (dLook es k) := by
  obtain ⟨a, rfl, c⟩ := ov.dict S hd
  rcases c with ⟨kvs, hH, r⟩ | ⟨kvs, es', rfl, hH, r⟩
  · have hk2 : ∃ kk, keyD k = some kk := by
      unfold fitK at hf
      split at hf
      · rename_i z es2
        obtain ⟨k', e⟩ := r.hd rfl
        exfalso
        cases k' <;> exact nomatch e
      · exact Option.isSome_iff_exists.mp hf
    obtain ⟨kk, ek⟩ := hk2
    cases keyD_eq ek
    have eu : u = kV kk := kV_rp (frz_of ou S hk ⟨fun _ z => (by cases kk <;> cases z), fun _ z => (by cases kk <;> cases z)⟩)
    subst eu
    exact ⟨a, _, rfl, DGet.k hH, r.look kk⟩
  · obtain ⟨ks, rfl, kk, ek⟩ : ∃ ks, k = .tuple ks ∧ ∃ kk, keysD ks = some kk := by
      simp only [fitK] at hf
      split at hf
      · exact ⟨_, rfl, Option.isSome_iff_exists.mp hf⟩
      · cases hf
    obtain ⟨b, us, rfl, hb, rb⟩ := ou.tuple S hk
    cases keysD_eq ek
    cases kVs_rp rb
    rw [dLook_mark]
    exact ⟨a, _, rfl, DGet.t hH (S.sub _ _ hb), r.look kk⟩
end

/-! ### in -/
def flatD : D → Bool
  | .none => true
  | .bool _ => true
  | .int _ => true
  | .str _ => true
  | _ => false
section
variable {K : PySem.W.Frag} {F H H0 : Hp} {σ : L2.St} {ρ : Ce}
theorem flat_rp {v : V} {d : D} (h : Rp K F v d) (f : flatD d = true) : flatV v = true := by
  cases h <;> first | rfl | exact absurd f Bool.false_ne_true
theorem eq_rp {v u : V} {d e : D} (h : Rp K F v d) (g : Rp K F u e) (f : flatD d = true) (f' : flatD e = true) : eqV v u = PyData.eqv d e := by
  cases h <;> first
    | exact absurd f Bool.false_ne_true
    | (cases g <;> first | exact absurd f' Bool.false_ne_true | rfl)
theorem flats_rp : ∀ {vs : List V} {ds : List D}, RpL K F vs ds → ds.all flatD = true → vs.all flatV = true
  | _, _, .nil, _ => rfl
  | _, _, .cons h r, f => by
    simp only [List.all_cons, Bool.and_eq_true] at f ⊢
    exact ⟨flat_rp h f.1, flats_rp r f.2⟩
theorem inV_rp {u : V} {e : D} (g : Rp K F u e) (f' : flatD e = true) : ∀ {vs : List V} {ds : List D}, RpL K F vs ds → ds.all flatD = true → inV u vs = ds.any fun z => PyData.eqv z e
  | _, _, .nil, _ => rfl
  | _, _, .cons h r, f => by
    simp only [List.all_cons, Bool.and_eq_true] at f
    have ih := inV_rp g f' r f.2
    unfold inV at ih ⊢
    simp only [List.any_cons, eq_rp h g f.1 f', ih]
def inD (d e : D) : Option Bool := match e with
  | .list ds => if SeqAt.shaped d = true ∧ SeqAt.shaped (.list ds) = true then some (ds.any fun z => PyData.eqv z d) else none
  | .tuple ds => if flatD d = true ∧ ds.all flatD = true then some (ds.any fun z => PyData.eqv z d) else none
  | .dict es => if fitK es d = true then some (dLook es d).isSome else none
  | _ => none
def pIn (d e : D) : Option Opd := (inD d e).map fun b => .frz (.bool b)
def pNotIn (d e : D) : Option Opd := (inD d e).map fun b => .frz (.bool (!b))
def rInA (K : PySem.W.Frag) (neg : Bool) : R2 := fun x y H Q =>
  (∃ d ds, Dp K H x d ∧ Dp K H y (.list ds) ∧ SeqAt.shaped d = true ∧ SeqAt.shaped (.list ds) = true ∧ Q (.bl (if neg then !(ds.any fun z => PyData.eqv z d) else (ds.any fun z => PyData.eqv z d))) H) ∨
  (rIn K neg x y H Q ∨ ∃ a o, y = .ref a ∧ DGet H a x o ∧ Q (.bl (if neg then !o.isSome else o.isSome)) H)
theorem op_inA {X : Cx} (hu : X.A.units + 65 < cLine) : OpR X (compareOp .In) (rInA X.K false) := by
  refine OpR.or (op_inD hu) (OpR.or op_in_seq ?_)
  intro pins s σ H x y v u Q I rx ry h
  obtain ⟨a, o, rfl, g, q⟩ := h
  cases ry
  exact d_in (Nat.lt_of_le_of_lt (Nat.add_le_add_left (by decide) _) hu) I g rx fun s3 I3 => ⟨.bl o.isSome, H, I3, rfl, q⟩
theorem op_notInA {X : Cx} (hu : X.A.units + 65 < cLine) : OpR X (compareOp .NotIn) (rInA X.K true) := by
  refine OpR.or (op_notInD hu) (OpR.or op_notIn_seq ?_)
  intro pins s σ H x y v u Q I rx ry h
  obtain ⟨a, o, rfl, g, q⟩ := h
  cases ry
  exact d_notIn (Nat.lt_of_le_of_lt (Nat.add_le_add_left (by decide) _) hu) I g rx fun s3 I3 => ⟨.bl (!o.isSome), H, I3, rfl, q⟩
theorem rInA_of {neg : Bool} {v u : V} {x y : Opd} {d e : D} {b : Bool} {Q : VK} (S : Sd K F H σ ρ) (ov : OpOk K H0 F H σ ρ v x) (ou : OpOk K H0 F H σ ρ u y) (hd : deref ρ x = some d) (he : deref ρ y = some e) (hp : inD d e = some b)
    (q : Q (.bl (if neg then !b else b)) H) : rInA K neg v u H Q := by
  unfold inD at hp
  split at hp
  · split at hp
    · rename_i c
      cases hp
      exact .inl ⟨d, _, ov.dp S hd c.1, ou.dp S he c.2, c.1, c.2, q⟩
    · cases hp
  · rename_i ds
    split at hp
    · rename_i c
      cases hp
      obtain ⟨a, xs, rfl, ha, r⟩ := ou.tuple S he
      have rv : Rp K F v d := frz_of ov S hd ⟨fun _ z => (by subst z; exact nomatch c.1), fun _ z => (by subst z; exact nomatch c.1)⟩
      refine .inr (.inl ⟨a, xs, rfl, .inr (.inl (.inl (S.sub _ _ ha))), flat_rp rv c.1, flats_rp r c.2, ?_⟩)
      rw [inV_rp rv c.1 r c.2]
      exact q
    · cases hp
  · rename_i es
    split at hp
    · rename_i c
      cases hp
      obtain ⟨a, o, rfl, g, r⟩ := dget_of ou ov S he hd c
      refine .inr (.inr ⟨a, o, rfl, g, ?_⟩)
      have e1 : o.isSome = (dLook es d).isSome := by
        cases o with
        | none => cases q2 : dLook es d with
          | none => rfl
          | some z => rw [q2] at r; exact r.elim
        | some w => cases q2 : dLook es d with
          | none => rw [q2] at r; exact r.elim
          | some z => rfl
      rw [e1]
      exact q
    · cases hp
  · cases hp
theorem r2_in : R2D K (rInA K false) pIn := by
  intro F H H0 σ ρ v u x y d e o Q S ov ou hd he hp k
  obtain ⟨b, hb, rfl⟩ := Option.map_eq_some_iff.mp hp
  exact rInA_of S ov ou hd he hb (k _ F H Gr.refl S (Rp.bl _))
theorem r2_notIn : R2D K (rInA K true) pNotIn := by
  intro F H H0 σ ρ v u x y d e o Q S ov ou hd he hp k
  obtain ⟨b, hb, rfl⟩ := Option.map_eq_some_iff.mp hp
  exact rInA_of S ov ou hd he hb (k _ F H Gr.refl S (Rp.bl _))
end
end DL

namespace DL
open PySem PySem.Spec L2

/-! ### names, constants -/
def fN (i : Nat) : FE := fun ρ => match ρ[i]? with
  | some (.val d) => some (.frz d, ρ)
  | some (.own _ _) => some (.own i, ρ)
  | _ => none
def fC (d : D) : FE := fun ρ => some (.frz d, ρ)
section
variable {X : Cx}
theorem ej_var {i : Nat} {x : Str} {pos : Pos} (h : PE X (.Name x pos) (tVar i)) : EJ X (.Name x pos) (fN i) := by
  refine PE.weak h fun σ H Q c => ?_
  obtain ⟨F, ρ, o, ρ', S, hf, k⟩ := c
  unfold fN at hf
  split at hf
  · rename_i d e
    cases hf
    obtain ⟨v, h1, h2⟩ := S.val i d e
    exact ⟨v, h1, k v F H Gr.refl S (Shape.refl ρ) h2⟩
  · rename_i b d e
    cases hf
    obtain ⟨a, h1, h2, h3⟩ := S.own i b d e
    exact ⟨.ref a, h1, k _ F H Gr.refl S (Shape.refl ρ) ⟨h1, b, d, e⟩⟩
  · cases hf
theorem en (i : Nat) {x : Str} {pos : Pos} (hN : X.N[i]? = some x := by rfl) (hv : Vis X.env.scope x := by first | exact Or.inl rfl | exact Or.inr (Or.inl rfl) | exact Or.inr (Or.inr rfl)) (hd : (x == ("__debug__" : Str)) = false := by decide)
    (hcd : (x == ("__classdict__" : Str)) = false := by decide) : EJ X (.Name x pos) (fN i) := ej_var (pe_var hN hv hd hcd)
theorem ej_c {e : Expr} {v : V} {d : D} (h : PE X e (tC v)) (r : ∀ F, Rp X.K F v d) : EJ X e (fC d) := by
  refine PE.weak h fun σ H Q c => ?_
  obtain ⟨F, ρ, o, ρ', S, hf, k⟩ := c
  cases hf
  exact k v F H Gr.refl S (Shape.refl ρ) (r F)
theorem ej_int {i j pos} : EJ X (.Constant (.int i) j pos) (fC (.int i)) := ej_c pe_int fun _ => .int i
theorem ej_bl {b j pos} : EJ X (.Constant (.bool b) j pos) (fC (.bool b)) := ej_c pe_bl fun _ => .bl b
theorem ej_non {j pos} : EJ X (.Constant .none j pos) (fC .none) := ej_c pe_non fun _ => .non
theorem ej_str {x j pos} : EJ X (.Constant (.str x) j pos) (fC (.str x)) := ej_c pe_str fun _ => .str x
/-- -a -/
def fNeg (fa : FE) : FE := fun ρ => (fa ρ).bind fun r => match r.1 with
  | .frz (.int i) => some (.frz (.int (-i)), r.2)
  | _ => none
theorem ej_neg {a : Expr} {pos : Pos} {fa : FE} (ha : EJ X a fa) : EJ X (.UnaryOp .USub a pos) (fNeg fa) := by
  refine PE.weak (pe_un un_neg ha) fun σ H Q c => ?_
  obtain ⟨F, ρ, o, ρ', S, hf, k⟩ := c
  simp only [fNeg, Option.bind_eq_some_iff] at hf
  obtain ⟨⟨x, ρ1⟩, h1, h2⟩ := hf
  split at h2
  · rename_i i e
    cases h2
    simp only at e
    subst e
    refine one S h1 fun v F' H' G S' s ov => ?_
    cases ov
    exact ⟨i, rfl, k _ F' H' G S' s (Rp.int (-i))⟩
  · cases h2
end

/-! ### tests -/
abbrev FT := Ce → Option (Bool × Ce)
def canT (K : PySem.W.Frag) (f : FT) : TT := fun σ H Q => ∃ F ρ b ρ', Sd K F H σ ρ ∧ f ρ = some (b, ρ') ∧
  ∀ F' H', Gr (OwA σ ρ) F H F' H' → Sd K F' H' σ ρ' → Shape ρ ρ' → Q b H'
def TJ (X : Cx) (e : Expr) (f : FT) : Prop := PT X e (canT X.K f)
def WJ (X : Cx) (e : Expr) (f : FT) : Prop := PW X e (canT X.K f)
def fT (fa : FE) : FT := fun ρ => (fa ρ).bind fun r => match r.1 with
  | .frz (.bool b) => some (b, r.2)
  | _ => none
theorem canT_of {K : PySem.W.Frag} {fa : FE} {σ : L2.St} {H : Hp} {Q : Bool → Hp → Prop} (c : canT K (fT fa) σ H Q) : canE K fa σ H fun x H1 => ∃ k, x = .bl k ∧ Q k H1 := by
  obtain ⟨F, ρ, b, ρ', S, hf, k⟩ := c
  simp only [fT, Option.bind_eq_some_iff] at hf
  obtain ⟨⟨x, ρ1⟩, h1, h2⟩ := hf
  split at h2
  · rename_i i e
    cases h2
    simp only at e
    subst e
    refine one S h1 fun v F' H' G S' s ov => ?_
    cases ov
    exact ⟨b, rfl, k F' H' G S' s⟩
  · cases h2
section
variable {X : Cx} {a b c : Expr} {rest : List Expr} {pos : Pos} {fa fb fc : FE} {ft fu : FT}
theorem tj_val (ha : EJ X a fa) (he : ∀ whole, isTrue a X.env whole = (do let v ← whole; standAt a.pos; holding [v] (truthy v)) := by intro _; rfl) : TJ X a (fT fa) :=
  PT.weak (pt_val ha he) fun _ _ _ c => canT_of c
theorem tj_cmp {op : CmpOp} {r : R2} {p : D → D → Option Opd} (ho : OpR X (compareOp op) r) (h : R2D X.K r p) (ha : EJ X a fa) (hb : EJ X b fb) (hm : behindInMarks op b = false) : TJ X (.Compare a [op] [b] pos) (fT (f2 p fa fb)) :=
  PT.weak (pt_cmpR ho ha hb hm) fun _ _ _ c => r2_of h (canT_of c)
def fNot (ft : FT) : FT := fun ρ => (ft ρ).bind fun r => some (!r.1, r.2)
theorem tj_not (h : TJ X a ft) : TJ X (.UnaryOp .Not a pos) (fNot ft) := by
  refine PT.weak (pt_not h) fun σ H Q c => ?_
  obtain ⟨F, ρ, b, ρ', S, hf, k⟩ := c
  simp only [fNot, Option.bind_eq_some_iff] at hf
  obtain ⟨⟨x, ρ1⟩, h1, h2⟩ := hf
  cases h2
  exact ⟨F, ρ, x, ρ1, S, h1, k⟩
def fAnd (ft fu : FT) : FT := fun ρ => (ft ρ).bind fun r => cond r.1 (fu r.2) (some (false, r.2))
def fOr (ft fu : FT) : FT := fun ρ => (ft ρ).bind fun r => cond r.1 (some (true, r.2)) (fu r.2)
theorem wj_and1 (h : TJ X a ft) : WJ X (.BoolOp .And [a] pos) ft := pw_and1 h
theorem wj_or1 (h : TJ X a ft) : WJ X (.BoolOp .Or [a] pos) ft := pw_or1 h
theorem wj_and (h : TJ X a ft) (g : WJ X (.BoolOp .And (b :: rest) pos) fu) : WJ X (.BoolOp .And (a :: b :: rest) pos) (fAnd ft fu) := by
  refine PW.weak (pw_and h g) fun σ H Q c => ?_
  obtain ⟨F, ρ, z, ρ', S, hf, k⟩ := c
  simp only [fAnd, Option.bind_eq_some_iff] at hf
  obtain ⟨⟨x, ρ1⟩, h1, h2⟩ := hf
  refine ⟨F, ρ, x, ρ1, S, h1, fun F1 H1 G1 S1 s1 => ?_⟩
  cases x with
  | false =>
    cases h2
    exact k F1 H1 G1 S1 s1
  | true =>
    exact ⟨F1, ρ1, z, ρ', S1, h2, fun F2 H2 G2 S2 s2 => k F2 H2 (G1.trans (G2.weak fun a z => (OwA.shape s1).mp z)) S2 (s1.trans s2)⟩
theorem wj_or (h : TJ X a ft) (g : WJ X (.BoolOp .Or (b :: rest) pos) fu) : WJ X (.BoolOp .Or (a :: b :: rest) pos) (fOr ft fu) := by
  refine PW.weak (pw_or h g) fun σ H Q c => ?_
  obtain ⟨F, ρ, z, ρ', S, hf, k⟩ := c
  simp only [fOr, Option.bind_eq_some_iff] at hf
  obtain ⟨⟨x, ρ1⟩, h1, h2⟩ := hf
  refine ⟨F, ρ, x, ρ1, S, h1, fun F1 H1 G1 S1 s1 => ?_⟩
  cases x with
  | true =>
    cases h2
    exact k F1 H1 G1 S1 s1
  | false =>
    exact ⟨F1, ρ1, z, ρ', S1, h2, fun F2 H2 G2 S2 s2 => k F2 H2 (G1.trans (G2.weak fun a z => (OwA.shape s1).mp z)) S2 (s1.trans s2)⟩
theorem tj_w (h : WJ X a ft) : TJ X a ft := PW.pt h
/-! ### and, or, not as values; if-expressions; chains -/
def fAndV (fa fb : FE) : FE := fun ρ => (fa ρ).bind fun r => match r.1 with
  | .frz (.bool x) => cond x (fb r.2) (some (.frz (.bool false), r.2))
  | _ => none
def fOrV (fa fb : FE) : FE := fun ρ => (fa ρ).bind fun r => match r.1 with
  | .frz (.bool x) => cond x (some (.frz (.bool true), r.2)) (fb r.2)
  | _ => none
def fNotV (fa : FE) : FE := fun ρ => (fa ρ).bind fun r => match r.1 with
  | .frz (.bool x) => some (.frz (.bool (!x)), r.2)
  | _ => none
theorem ej_one {op} (h : EJ X a fa) : EJ X (.BoolOp op [a] pos) fa := pe_one h
theorem ej_and (ha : EJ X a fa) (hb : EJ X (.BoolOp .And (b :: rest) pos) fb) : EJ X (.BoolOp .And (a :: b :: rest) pos) (fAndV fa fb) := by
  refine PE.weak (pe_and ha hb) fun σ H Q c => ?_
  obtain ⟨F, ρ, o, ρ', S, hf, k⟩ := c
  simp only [fAndV, Option.bind_eq_some_iff] at hf
  obtain ⟨⟨x, ρ1⟩, h1, h2⟩ := hf
  split at h2
  · rename_i i e
    simp only at e h2
    subst e
    refine one S h1 fun v F1 H1 G1 S1 s1 ov => ?_
    cases ov
    refine ⟨i, rfl, ?_⟩
    cases i with
    | false =>
      cases h2
      exact k _ F1 H1 G1 S1 s1 (Rp.bl false)
    | true =>
      exact one S1 h2 fun v F2 H2 G2 S2 s2 o2 => k v F2 H2 (G1.trans (G2.weak fun a z => (OwA.shape s1).mp z)) S2 (s1.trans s2) (o2.from G1.there)
  · cases h2
theorem ej_or (ha : EJ X a fa) (hb : EJ X (.BoolOp .Or (b :: rest) pos) fb) : EJ X (.BoolOp .Or (a :: b :: rest) pos) (fOrV fa fb) := by
  refine PE.weak (pe_or ha hb) fun σ H Q c => ?_
  obtain ⟨F, ρ, o, ρ', S, hf, k⟩ := c
  simp only [fOrV, Option.bind_eq_some_iff] at hf
  obtain ⟨⟨x, ρ1⟩, h1, h2⟩ := hf
  split at h2
  · rename_i i e
    simp only at e h2
    subst e
    refine one S h1 fun v F1 H1 G1 S1 s1 ov => ?_
    cases ov
    refine ⟨i, rfl, ?_⟩
    cases i with
    | true =>
      cases h2
      exact k _ F1 H1 G1 S1 s1 (Rp.bl true)
    | false =>
      exact one S1 h2 fun v F2 H2 G2 S2 s2 o2 => k v F2 H2 (G1.trans (G2.weak fun a z => (OwA.shape s1).mp z)) S2 (s1.trans s2) (o2.from G1.there)
  · cases h2
theorem ej_not (ha : EJ X a fa) : EJ X (.UnaryOp .Not a pos) (fNotV fa) := by
  refine PE.weak (pe_not ha) fun σ H Q c => ?_
  obtain ⟨F, ρ, o, ρ', S, hf, k⟩ := c
  simp only [fNotV, Option.bind_eq_some_iff] at hf
  obtain ⟨⟨x, ρ1⟩, h1, h2⟩ := hf
  split at h2
  · rename_i i e
    simp only at e
    subst e
    cases h2
    refine one S h1 fun v F1 H1 G1 S1 s1 ov => ?_
    cases ov
    exact ⟨i, rfl, k _ F1 H1 G1 S1 s1 (Rp.bl _)⟩
  · cases h2
def fIf (ft : FT) (fa fb : FE) : FE := fun ρ => (ft ρ).bind fun r => cond r.1 (fa r.2) (fb r.2)
theorem ej_if (hc : TJ X c ft) (ha : EJ X a fa) (hb : EJ X b fb) : EJ X (.IfExp c a b pos) (fIf ft fa fb) := by
  refine PE.weak (pe_ifExp hc ha hb) fun σ H Q cc => ?_
  obtain ⟨F, ρ, o, ρ', S, hf, k⟩ := cc
  simp only [fIf, Option.bind_eq_some_iff] at hf
  obtain ⟨⟨x, ρ1⟩, h1, h2⟩ := hf
  refine ⟨F, ρ, x, ρ1, S, h1, fun F1 H1 G1 S1 s1 => ?_⟩
  cases x with
  | true =>
    exact one S1 h2 fun v F2 H2 G2 S2 s2 o2 => k v F2 H2 (G1.trans (G2.weak fun a z => (OwA.shape s1).mp z)) S2 (s1.trans s2) (o2.from G1.there)
  | false =>
    exact one S1 h2 fun v F2 H2 G2 S2 s2 o2 => k v F2 H2 (G1.trans (G2.weak fun a z => (OwA.shape s1).mp z)) S2 (s1.trans s2) (o2.from G1.there)
def fCh (p p' : D → D → Option Opd) (fa fb fc : FE) : FE := fun ρ =>
  (fa ρ).bind fun r => (fb r.2).bind fun q => (deref q.2 r.1).bind fun d => (deref q.2 q.1).bind fun e => (p d e).bind fun o => match o with
    | .frz (.bool x) => cond x ((fc q.2).bind fun w => (deref w.2 q.1).bind fun e2 => (deref w.2 w.1).bind fun g => (p' e2 g).bind fun z => some (z, w.2)) (some (.frz (.bool false), q.2))
    | _ => none
theorem chain_of {K : PySem.W.Frag} {r r' : R2} {p p' : D → D → Option Opd} (h : R2D K r p) (h' : R2D K r' p') {σ : L2.St} {H : Hp} {Q : VK} (c : canE K (fCh p p' fa fb fc) σ H Q) : tChain r r' (canE K fa) (canE K fb) (canE K fc) σ H Q := by
  obtain ⟨F, ρ, o, ρ', S, hf, k⟩ := c
  simp only [fCh, Option.bind_eq_some_iff] at hf
  obtain ⟨⟨x, ρ1⟩, ha, ⟨y, ρ2⟩, hb, d, hd, e, he, z, hp, hq⟩ := hf
  refine two S ha hb fun v u F1 H1 G1 S1 s1 ov ou => ?_
  refine h F1 H1 H σ ρ2 v u x y d e z _ S1 ov ou hd he hp fun w F2 H2 G2 S2 ow => ?_
  have G2' : Gr (OwA σ ρ) F1 H1 F2 H2 := G2.weak fun a z => (OwA.shape s1).mp z
  split at hq
  · rename_i b
    cases ow
    refine ⟨b, rfl, ?_⟩
    cases b with
    | false =>
      cases hq
      exact k _ F2 H2 (G1.trans G2') S2 s1 (Rp.bl false)
    | true =>
      simp only [cond_true, Option.bind_eq_some_iff] at hq
      obtain ⟨⟨t, ρ3⟩, hc, e2, he2, g, hg, z2, hp2, hq2⟩ := hq
      cases hq2
      refine one S2 hc fun w F3 H3 G3 S3 s3 ow => ?_
      have ou3 := (ou.stay G2 (Shape.refl ρ2)).stay G3 s3
      have G3' : Gr (OwA σ ρ) F2 H2 F3 H3 := G3.weak fun a z => (OwA.shape s1).mp z
      refine h' F3 H3 H σ ρ3 u w y t e2 g o Q S3 ou3 (ow.from fun a z => (G1.trans G2').there a z) he2 hg hp2 fun w2 F4 H4 G4 S4 ow4 => ?_
      have G4' : Gr (OwA σ ρ) F3 H3 F4 H4 := G4.weak fun a z => (OwA.shape (s1.trans s3)).mp z
      exact k w2 F4 H4 (((G1.trans G2').trans G3').trans G4') S4 (s1.trans s3) (ow4.from ((G1.trans G2').trans G3').there)
  · cases hq
theorem ej_chain {op op' : CmpOp} {r r' : R2} {p p' : D → D → Option Opd} (ho : OpR X (compareOp op) r) (h : R2D X.K r p) (ho' : OpR X (compareOp op') r') (h' : R2D X.K r' p') (ha : EJ X a fa) (hb : EJ X b fb) (hc : EJ X c fc)
    (hm : lastMarks [op, op'] [b, c] = false := by with_unfolding_all rfl) : EJ X (.Compare a [op, op'] [b, c] pos) (fCh p p' fa fb fc) := PE.weak (pe_chain ho ho' ha hb hc hm) fun _ _ _ c => chain_of h h' c
theorem tj_chain {op op' : CmpOp} {r r' : R2} {p p' : D → D → Option Opd} (ho : OpR X (compareOp op) r) (h : R2D X.K r p) (ho' : OpR X (compareOp op') r') (h' : R2D X.K r' p') (ha : EJ X a fa) (hb : EJ X b fb) (hc : EJ X c fc)
    (hm : lastMarks [op, op'] [b, c] = false := by with_unfolding_all rfl) : TJ X (.Compare a [op, op'] [b, c] pos) (fT (fCh p p' fa fb fc)) := PT.weak (pt_chain ho ho' ha hb hc hm) fun _ _ _ c => chain_of h h' (canT_of c)
end

/-! ### arguments -/
abbrev FA := Ce → Option (List Opd × Ce)
def ArgOk (K : PySem.W.Frag) (F : Hp) (σ : L2.St) (ρ : Ce) (v : V) : Opd → Prop
  | .frz d => Rp K F v d
  | .own i => σ[i]? = some (some v) ∧ ∃ b d, ρ[i]? = some (.own b d)
  | .new _ => False
def ArgsOk (K : PySem.W.Frag) (F : Hp) (σ : L2.St) (ρ : Ce) : List V → List Opd → Prop
  | [], [] => True
  | v :: vs, o :: os => ArgOk K F σ ρ v o ∧ ArgsOk K F σ ρ vs os
  | _, _ => False
theorem ArgOk.op {K : PySem.W.Frag} {H0 F H : Hp} {σ : L2.St} {ρ : Ce} {v : V} {o : Opd} (h : ArgOk K F σ ρ v o) : OpOk K H0 F H σ ρ v o := by
  cases o with
  | frz d => exact h
  | own i => exact h
  | new d => exact h.elim
theorem ArgOk.stay {K : PySem.W.Frag} {F F1 : Hp} {σ : L2.St} {ρ ρ1 : Ce} {v : V} {o : Opd} (h : ArgOk K F σ ρ v o) (e : Same F F1) (s : Shape ρ ρ1) : ArgOk K F1 σ ρ1 v o := by
  cases o with
  | frz d => exact Rp.mono e h
  | own i =>
    obtain ⟨h1, b, d, h2⟩ := h
    obtain ⟨d', q⟩ := (s.2 i).2 b d h2
    exact ⟨h1, b, d', q⟩
  | new d => exact h.elim
def argO : Opd → Opd
  | .new d => .frz d
  | o => o
def canA (K : PySem.W.Frag) (f : FA) : TA := fun σ H Q => ∃ F ρ os ρ', Sd K F H σ ρ ∧ f ρ = some (os, ρ') ∧
  ∀ vs F' H', Gr (OwA σ ρ) F H F' H' → Sd K F' H' σ ρ' → Shape ρ ρ' → ArgsOk K F' σ ρ' vs os → Q vs H'
def AJ (X : Cx) (es : List Expr) (f : FA) : Prop := PA X es (canA X.K f)
theorem OpOk.arg {K : PySem.W.Frag} {H0 F H : Hp} {σ : L2.St} {ρ : Ce} {v : V} {o : Opd} {Ow : Addr → Prop} {F0 : Hp} (h : OpOk K H0 F H σ ρ v o) (S : Sd K F H σ ρ) (G : Gr Ow F0 H0 F H) : ∃ F', Gr Ow F0 H0 F' H ∧ Sd K F' H σ ρ ∧ ArgOk K F' σ ρ v (argO o) ∧ Same F F' := by
  cases o with
  | frz d => exact ⟨F, G, S, h, Same.refl F⟩
  | own i => exact ⟨F, G, S, h, Same.refl F⟩
  | new d => exact h.freeze S G rfl
def faN : FA := fun ρ => some ([], ρ)
def faC (fe : FE) (fa : FA) : FA := fun ρ => (fe ρ).bind fun r => (fa r.2).bind fun q => some (argO r.1 :: q.1, q.2)
section
variable {X : Cx} {e : Expr} {es : List Expr} {fe : FE} {fa : FA} {pos p : Pos}
theorem aj_nil : AJ X [] faN := PA.weak pa_nil fun σ H Q c => by
  obtain ⟨F, ρ, os, ρ', S, hf, k⟩ := c
  cases hf
  exact k [] F H Gr.refl S (Shape.refl ρ) True.intro
theorem aj_cons (he : EJ X e fe) (ha : AJ X es fa) (hs : starEach (e :: es) X.env = (false, eval e X.env) :: starEach es X.env := by rfl) : AJ X (e :: es) (faC fe fa) := by
  refine PA.weak (pa_cons he ha hs) fun σ H Q c => ?_
  obtain ⟨F, ρ, os, ρ', S, hf, k⟩ := c
  simp only [faC, Option.bind_eq_some_iff] at hf
  obtain ⟨⟨x, ρ1⟩, h1, ⟨ys, ρ2⟩, h2, h3⟩ := hf
  cases h3
  refine one S h1 fun v F1 H1 G1 S1 s1 ov => ?_
  obtain ⟨F1', G1', S1', ov', _⟩ := ov.arg S1 G1
  exact ⟨F1', ρ1, ys, ρ2, S1', h2, fun vs F2 H2 G2 S2 s2 os2 => k (v :: vs) F2 H2 (G1'.trans (G2.weak fun a z => (OwA.shape s1).mp z)) S2 (s1.trans s2) ⟨ov'.stay G2.fr s2, os2⟩⟩
/-- all frozen -/
def frzs : List Opd → Option (List D)
  | [] => some []
  | .frz d :: r => (frzs r).bind fun ds => some (d :: ds)
  | _ :: _ => none
theorem ArgsOk.frz {K : PySem.W.Frag} {F : Hp} {σ : L2.St} {ρ : Ce} : ∀ {vs : List V} {os : List Opd} {ds : List D}, ArgsOk K F σ ρ vs os → frzs os = some ds → RpL K F vs ds
  | [], [], _, _, h => by cases h; exact .nil
  | v :: vs, o :: os, ds, h, e => by
    cases o with
    | frz d =>
      simp only [frzs, Option.bind_eq_some_iff] at e
      obtain ⟨ds', e1, e2⟩ := e
      cases e2
      exact .cons h.1 (ArgsOk.frz h.2 e1)
    | own i => cases e
    | new d => cases e
  | [], _ :: _, _, h, _ => h.elim
  | _ :: _, [], _, h, _ => h.elim
/-! ### displays -/
def fLst (fa : FA) : FE := fun ρ => (fa ρ).bind fun r => (frzs r.1).bind fun ds => if ds.length ≤ sizeLine then some (.new (.list ds), r.2) else none
def fTup (fa : FA) : FE := fun ρ => (fa ρ).bind fun r => (frzs r.1).bind fun ds => if ds.length ≤ sizeLine then some (.frz (.tuple ds), r.2) else none
theorem ej_lst (h : AJ X es fa) : EJ X (.List es pos) (fLst fa) := by
  refine PE.weak (pe_lst h) fun σ H Q c => ?_
  obtain ⟨F, ρ, o, ρ', S, hf, k⟩ := c
  simp only [fLst, Option.bind_eq_some_iff] at hf
  obtain ⟨⟨os, ρ1⟩, h1, ds, h2, h3⟩ := hf
  split at h3
  · rename_i hz
    cases h3
    refine ⟨F, ρ, os, ρ1, S, h1, fun vs F1 H1 G1 S1 s1 av => ?_⟩
    have r := av.frz h2
    refine ⟨by rw [r.length]; exact hz, fun p np => ?_⟩
    obtain ⟨G2, S2, o2⟩ := new_list (Ow := OwA σ ρ) S1 np r
    exact k _ _ _ (G1.trans G2) S2 s1 (o2.from G1.there)
  · cases h3
theorem ej_tup {x1} (h : AJ X es fa) : EJ X (.Tuple es x1 pos) (fTup fa) := by
  refine PE.weak (pe_tup h) fun σ H Q c => ?_
  obtain ⟨F, ρ, o, ρ', S, hf, k⟩ := c
  simp only [fTup, Option.bind_eq_some_iff] at hf
  obtain ⟨⟨os, ρ1⟩, h1, ds, h2, h3⟩ := hf
  split at h3
  · rename_i hz
    cases h3
    refine ⟨F, ρ, os, ρ1, S, h1, fun vs F1 H1 G1 S1 s1 av => ?_⟩
    have r := av.frz h2
    refine ⟨by rw [r.length]; exact hz, fun p np => ?_⟩
    obtain ⟨F2, G2, S2, o2⟩ := new_tup (Ow := OwA σ ρ) S1 np r
    exact k _ _ _ (G1.trans G2) S2 s1 o2
  · cases h3
def fStar (fe : FE) (fa : FA) : FA := fun ρ => (fe ρ).bind fun r => match deref r.2 r.1 with
  | some (.list ds) => (fa r.2).bind fun q => some (ds.map .frz ++ q.1, q.2)
  | some (.tuple ds) => (fa r.2).bind fun q => some (ds.map .frz ++ q.1, q.2)
  | _ => none
theorem args_frz {K : PySem.W.Frag} {F : Hp} {σ : L2.St} {ρ : Ce} : ∀ {xs : List V} {ds : List D} {vs : List V} {os : List Opd}, RpL K F xs ds → ArgsOk K F σ ρ vs os → ArgsOk K F σ ρ (xs ++ vs) (ds.map .frz ++ os)
  | _, _, _, _, .nil, h => h
  | _, _, _, _, .cons r t, h => ⟨r, args_frz t h⟩
theorem aj_star (he : EJ X e fe) (ha : AJ X es fa) : AJ X (.Starred e p :: es) (fStar fe fa) := by
  refine PA.weak (StX.pa_star he ha) fun σ H Q c => ?_
  obtain ⟨F, ρ, os, ρ', S, hf, k⟩ := c
  simp only [fStar, Option.bind_eq_some_iff] at hf
  obtain ⟨⟨x, ρ1⟩, h1, h2⟩ := hf
  refine one S h1 fun v F1 H1 G1 S1 s1 ov => ?_
  split at h2
  · rename_i ds e
    simp only [Option.bind_eq_some_iff] at h2
    obtain ⟨⟨ys, ρ2⟩, h2, h3⟩ := h2
    cases h3
    obtain ⟨a, xs, rfl, ha, r⟩ := ov.list S1 e
    exact ⟨a, xs, rfl, .inr (.inl (.inl ha)), F1, ρ1, ys, ρ2, S1, h2, fun vs F2 H2 G2 S2 s2 os2 => k (xs ++ vs) F2 H2 (G1.trans (G2.weak fun a z => (OwA.shape s1).mp z)) S2 (s1.trans s2) (args_frz (r.mono G2.fr) os2)⟩
  · rename_i ds e
    simp only [Option.bind_eq_some_iff] at h2
    obtain ⟨⟨ys, ρ2⟩, h2, h3⟩ := h2
    cases h3
    obtain ⟨a, xs, rfl, ha, r⟩ := ov.tuple S1 e
    exact ⟨a, xs, rfl, .inl (.inl (.inl (S1.sub _ _ ha))), F1, ρ1, ys, ρ2, S1, h2, fun vs F2 H2 G2 S2 s2 os2 => k (xs ++ vs) F2 H2 (G1.trans (G2.weak fun a z => (OwA.shape s1).mp z)) S2 (s1.trans s2) (args_frz (r.mono G2.fr) os2)⟩
  · cases h2
end
end DL

namespace DL
open PySem PySem.Spec L2

/-! ### statements -/
/-- what a def's run is measured against: its entry (frozen heap, heap), the borrowed objects -/
structure Bs where
  F0 : Hp
  H0 : Hp
  W : Addr → Prop
  V : Addr → Prop
  U : Nat → Addr
structure Ba (K : PySem.W.Frag) (B : Bs) (F H : Hp) (σ : L2.St) (ρ : Ce) : Prop where
  sd : Sd K F H σ ρ
  fr0 : Same B.F0 F
  new0 : ∀ a o, F a = some o → B.F0 a = some o ∨ B.H0 a = none ∨ B.V a
  keep0 : ∀ a o, B.H0 a = some o → ¬ B.W a → ¬ B.V a → H a = some o
  there0 : ∀ a, H a = none → B.H0 a = none
  own0 : ∀ (i : Nat) b d a, ρ[i]? = some (.own b d) → σ[i]? = some (some (.ref a)) → (b = true ∧ B.W a) ∨ (b = false ∧ (B.V a ∨ B.H0 a = none))
  brw0 : ∀ (i : Nat) d, ρ[i]? = some (.own true d) → σ[i]? = some (some (.ref (B.U i)))
  wf0 : ∀ a, B.W a ∨ B.V a → B.H0 a ≠ none
section
variable {K : PySem.W.Frag} {B : Bs} {F H F1 H1 : Hp} {σ σ1 : L2.St} {ρ ρ1 : Ce}
theorem Ba.expr (A : Ba K B F H σ ρ) (G : Gr (OwA σ ρ) F H F1 H1) (S : Sd K F1 H1 σ ρ1) (s : Shape ρ ρ1) : Ba K B F1 H1 σ ρ1 where
  sd := S
  fr0 := A.fr0.trans G.fr
  new0 := fun a o e => (G.new a o e).elim (A.new0 a o) fun z => .inr (.inl (A.there0 a z))
  keep0 := fun a o e n n2 => G.keep a o (A.keep0 a o e n n2) fun ⟨i, b, d, h1, h2⟩ => (A.own0 i b d a h1 h2).elim (fun z => n z.2) fun z => z.2.elim n2 fun z => by rw [e] at z; cases z
  there0 := fun a e => A.there0 a (G.there a e)
  own0 := fun i b d a h1 h2 => let ⟨d', e⟩ := s.back h1; A.own0 i b d' a e h2
  brw0 := fun i d h1 => let ⟨d', e⟩ := s.back h1; A.brw0 i d' e
  wf0 := A.wf0
theorem Ba.frz (A : Ba K B F H σ ρ) {a : Addr} (n : F a = none) (n0 : B.H0 a = none ∨ B.V a) (nO : ¬ OwA σ ρ a) : Ba K B (ovl F H a) H σ ρ where
  sd := A.sd.ovl n nO
  fr0 := A.fr0.trans (same_ovl n)
  new0 := fun b o e => by
    by_cases q : b = a
    · exact .inr (by rw [q]; exact n0)
    · rw [ovl_ne q] at e; exact A.new0 b o e
  keep0 := A.keep0
  there0 := A.there0
  own0 := A.own0
  brw0 := A.brw0
  wf0 := A.wf0
theorem OpOk.freezeB {v : V} {o : Opd} {d : D} (h : OpOk K B.H0 F H σ ρ v o) (A : Ba K B F H σ ρ) (e : frD o = some d) : ∃ F', Ba K B F' H σ ρ ∧ Rp K F' v d ∧ Same F F' := by
  cases o with
  | frz d' => cases e; exact ⟨F, A, h, Same.refl F⟩
  | own i => cases e
  | new d' =>
    cases e
    obtain ⟨a, rfl, n0, nF, nO, t⟩ := h
    exact ⟨ovl F H a, A.frz nF (.inl n0) nO, t.rp nF, same_ovl nF⟩
theorem lt_of_cell {i : Nat} {c : Cell} (S : Sd K F H σ ρ) (h : ρ[i]? = some c) : i < σ.length := by
  rw [← S.len]; exact (List.getElem?_eq_some_iff.mp h).1
/-- a cell is replaced by one that holds no object of its own, the slots as they are -/
theorem Ba.setC (A : Ba K B F H σ ρ) (i : Nat) (c : Cell) (hc : c = .un ∨ ∃ d v, c = .val d ∧ σ[i]? = some (some v) ∧ Rp K F v d) : Ba K B F H σ (ρ.set i c) := by
  have no : ∀ {b : Bool} {e : D}, c ≠ .own b e := fun {b e} z => by
    rcases hc with q | ⟨d, v, q, _⟩ <;> (subst q; cases z)
  have oldO : ∀ {j : Nat} {b : Bool} {e : D}, (ρ.set i c)[j]? = some (.own b e) → ρ[j]? = some (.own b e) := fun {j b e} h => by
    by_cases q : j = i
    · subst q
      by_cases hj : j < ρ.length
      · rw [List.getElem?_set_self hj] at h; exact (no (Option.some.inj h)).elim
      · rw [List.getElem?_eq_none (by rw [List.length_set]; omega)] at h; cases h
    · rw [List.getElem?_set_ne (Ne.symm q)] at h; exact h
  refine ⟨⟨A.sd.sub, by simp [A.sd.len], fun j e h => ?_, fun j b e h => A.sd.own j b e (oldO h), fun j k b e c e' a h1 h2 h3 h4 => A.sd.sep j k b e c e' a (oldO h1) (oldO h2) h3 h4⟩, A.fr0, A.new0, A.keep0, A.there0, fun j b e a h1 h2 => A.own0 j b e a (oldO h1) h2, fun j e h1 => A.brw0 j e (oldO h1), A.wf0⟩
  by_cases q : j = i
  · subst q
    by_cases hj : j < ρ.length
    · rw [List.getElem?_set_self hj] at h
      rcases hc with z | ⟨d, v, z, h1, h2⟩
      · subst z; cases h
      · subst z; cases h; exact ⟨v, h1, h2⟩
    · rw [List.getElem?_eq_none (by rw [List.length_set]; omega)] at h; cases h
  · rw [List.getElem?_set_ne (Ne.symm q)] at h
    exact A.sd.val j e h
/-- a slot is stored: a value -/
theorem Ba.set (A : Ba K B F H σ ρ) {v : V} {d : D} (i : Nat) (r : Rp K F v d) : Ba K B F H (σ.set i (some v)) (ρ.set i (.val d)) := by
  have oldO : ∀ {j : Nat} {b : Bool} {e : D}, (ρ.set i (.val d))[j]? = some (.own b e) → j ≠ i ∧ ρ[j]? = some (.own b e) := fun {j b e} h => by
    by_cases q : j = i
    · subst q
      by_cases hj : j < ρ.length
      · rw [List.getElem?_set_self hj] at h; cases h
      · rw [List.getElem?_eq_none (by rw [List.length_set]; omega)] at h; cases h
    · rw [List.getElem?_set_ne (Ne.symm q)] at h; exact ⟨q, h⟩
  have oldS : ∀ {j : Nat}, j ≠ i → (σ.set i (some v))[j]? = σ[j]? := fun {j} q => List.getElem?_set_ne (Ne.symm q)
  refine ⟨⟨A.sd.sub, by simp [A.sd.len], fun j e h => ?_, fun j b e h => ?_, fun j k b e c e' a h1 h2 h3 h4 => ?_⟩, A.fr0, A.new0, A.keep0, A.there0, fun j b e a h1 h2 => ?_, fun j e h1 => ?_, A.wf0⟩
  · by_cases q : j = i
    · subst q
      by_cases hj : j < ρ.length
      · rw [List.getElem?_set_self hj] at h
        cases h
        exact ⟨v, by rw [List.getElem?_set_self (by rw [← A.sd.len]; exact hj)], r⟩
      · rw [List.getElem?_eq_none (by rw [List.length_set]; omega)] at h; cases h
    · rw [List.getElem?_set_ne (Ne.symm q)] at h
      rw [oldS q]
      exact A.sd.val j e h
  · obtain ⟨q, h'⟩ := oldO h
    rw [oldS q]
    exact A.sd.own j b e h'
  · obtain ⟨q1, h1'⟩ := oldO h1
    obtain ⟨q2, h2'⟩ := oldO h2
    rw [oldS q1] at h3
    rw [oldS q2] at h4
    exact A.sd.sep j k b e c e' a h1' h2' h3 h4
  · obtain ⟨q, h1'⟩ := oldO h1
    rw [oldS q] at h2
    exact A.own0 j b e a h1' h2
  · obtain ⟨q, h1'⟩ := oldO h1
    rw [oldS q]
    exact A.brw0 j e h1'
/-- a slot is stored: a new object of its own -/
theorem Ba.setOwn (A : Ba K B F H σ ρ) {a : Addr} {d : D} (i : Nat) (n0 : B.H0 a = none) (nF : F a = none) (nO : ¬ OwA σ ρ a) (t : Top K F H a d) : Ba K B F H (σ.set i (some (.ref a))) (ρ.set i (.own false d)) := by
  have old : ∀ {j : Nat} {c : Cell}, (ρ.set i (.own false d))[j]? = some c → (j = i ∧ c = .own false d ∧ i < σ.length) ∨ (j ≠ i ∧ ρ[j]? = some c) := fun {j c} h => by
    by_cases q : j = i
    · subst q
      by_cases hj : j < ρ.length
      · rw [List.getElem?_set_self hj] at h; cases h; exact .inl ⟨rfl, rfl, by rw [← A.sd.len]; exact hj⟩
      · rw [List.getElem?_eq_none (by rw [List.length_set]; omega)] at h; cases h
    · rw [List.getElem?_set_ne (Ne.symm q)] at h; exact .inr ⟨q, h⟩
  have oldS : ∀ {j : Nat}, j ≠ i → (σ.set i (some (V.ref a)))[j]? = σ[j]? := fun {j} q => List.getElem?_set_ne (Ne.symm q)
  refine ⟨⟨A.sd.sub, by simp [A.sd.len], fun j e h => ?_, fun j b e h => ?_, fun j k b e c e' a' h1 h2 h3 h4 => ?_⟩, A.fr0, A.new0, A.keep0, A.there0, fun j b e a' h1 h2 => ?_, fun j e h1 => ?_, A.wf0⟩
  · rcases old h with ⟨_, z, _⟩ | ⟨q, h'⟩
    · cases z
    · rw [oldS q]; exact A.sd.val j e h'
  · rcases old h with ⟨rfl, z, hi⟩ | ⟨q, h'⟩
    · cases z
      exact ⟨a, by rw [List.getElem?_set_self hi], nF, t⟩
    · rw [oldS q]; exact A.sd.own j b e h'
  · rcases old h1 with ⟨rfl, z, hi⟩ | ⟨q, h1'⟩
    · rcases old h2 with ⟨rfl, z2, hi2⟩ | ⟨q2, h2'⟩
      · rfl
      · rw [List.getElem?_set_self hi] at h3
        rw [oldS q2] at h4
        cases h3
        exact (nO ⟨k, c, e', h2', h4⟩).elim
    · rcases old h2 with ⟨rfl, z2, hi2⟩ | ⟨q2, h2'⟩
      · rw [List.getElem?_set_self hi2] at h4
        rw [oldS q] at h3
        cases h4
        exact (nO ⟨j, b, e, h1', h3⟩).elim
      · rw [oldS q] at h3
        rw [oldS q2] at h4
        exact A.sd.sep j k b e c e' a' h1' h2' h3 h4
  · rcases old h1 with ⟨rfl, z, hi⟩ | ⟨q, h1'⟩
    · rw [List.getElem?_set_self hi] at h2
      cases h2
      cases z
      exact .inr ⟨rfl, .inr n0⟩
    · rw [oldS q] at h2; exact A.own0 j b e a' h1' h2
  · rcases old h1 with ⟨_, z, _⟩ | ⟨q, h1'⟩
    · cases z
    · rw [oldS q]; exact A.brw0 j e h1'
end

inductive Rs where
  | nx (ρ : Ce)
  | rt (o : Opd) (ρ : Ce)
  | bk (ρ : Ce)
  | ct (ρ : Ce)
def PostS (K : PySem.W.Frag) (B : Bs) (D : Ends) : Rs → Prop
  | .nx ρ => ∀ F H σ, Ba K B F H σ ρ → D.nx σ H
  | .bk ρ => ∀ F H σ, Ba K B F H σ ρ → D.bk σ H
  | .ct ρ => ∀ F H σ, Ba K B F H σ ρ → D.ct σ H
  | .rt o ρ => ∀ F H σ v, Ba K B F H σ ρ → OpOk K B.H0 F H σ ρ v o → D.rt v H
abbrev FS := Ce → Option Rs
def canS (K : PySem.W.Frag) (g : FS) : TS := fun D σ H => ∃ B F ρ r, Ba K B F H σ ρ ∧ g ρ = some r ∧ PostS K B D r
def SJ (X : Cx) (st : Stmt) (g : FS) : Prop := PS X st (canS X.K g)
def SsJ (X : Cx) (st : List Stmt) (g : FS) : Prop := PSs X st (canS X.K g)

def gNil : FS := fun ρ => some (.nx ρ)
def gSeq (g1 g2 : FS) : FS := fun ρ => (g1 ρ).bind fun r => match r with
  | .nx ρ' => g2 ρ'
  | r => some r
section
variable {X : Cx} {st : Stmt} {rest : List Stmt} {g1 g2 : FS} {e : Expr} {fe : FE} {pos : Pos}
theorem ssj_nil : SsJ X [] gNil := PSs.weak pss_nil fun D σ H c => by
  obtain ⟨B, F, ρ, r, A, hg, p⟩ := c
  cases hg
  exact p F H σ A
theorem ssj_cons (h1 : SJ X st g1) (h2 : SsJ X rest g2) : SsJ X (st :: rest) (gSeq g1 g2) := by
  refine PSs.weak (pss_cons h1 h2) fun D σ H c => ?_
  obtain ⟨B, F, ρ, r, A, hg, p⟩ := c
  simp only [gSeq, Option.bind_eq_some_iff] at hg
  obtain ⟨r1, h1, h2⟩ := hg
  refine ⟨B, F, ρ, r1, A, h1, ?_⟩
  cases r1 with
  | nx ρ' => exact fun F' H' σ' A' => ⟨B, F', ρ', r, A', h2, p⟩
  | rt o ρ' => cases h2; exact p
  | bk ρ' => cases h2; exact p
  | ct ρ' => cases h2; exact p
theorem ssj_one (h1 : SJ X st g1) : SsJ X [st] g1 := pss_one h1
/-- a ghost step: a slot's own object is frozen from here on -/
def gFrz (i : Nat) : FS := fun ρ => match ρ[i]? with
  | some (.own false d) => some (.nx (ρ.set i (.val d)))
  | _ => none
theorem ssj_frz (i : Nat) (h2 : SsJ X rest g2) : SsJ X rest (gSeq (gFrz i) g2) := by
  refine PSs.weak h2 fun D σ H c => ?_
  obtain ⟨B, F, ρ, r, A, hg, p⟩ := c
  simp only [gSeq, Option.bind_eq_some_iff] at hg
  obtain ⟨r1, h1, h2⟩ := hg
  unfold gFrz at h1
  split at h1
  · rename_i d e
    cases h1
    obtain ⟨a, q1, q2, q3⟩ := A.sd.own i false d e
    have hi : i < σ.length := lt_of_cell A.sd e
    have A1 : Ba X.K B F H σ (ρ.set i .un) := A.setC i .un (.inl rfl)
    have nO : ¬ OwA σ (ρ.set i .un) a := fun ⟨j, b, d', h3, h4⟩ => by
      by_cases q : j = i
      · subst q
        rw [List.getElem?_set_self (by rw [A.sd.len]; exact hi)] at h3
        cases h3
      · rw [List.getElem?_set_ne (Ne.symm q)] at h3
        exact q (A.sd.sep j i b d' false d a h3 e h4 q1)
    have A2 : Ba X.K B (ovl F H a) H σ (ρ.set i .un) := A1.frz q2 (((A.own0 i false d a e q1).elim (fun z => nomatch z.1) fun z => z.2).symm) nO
    have A3 := A2.setC i (.val d) (.inr ⟨d, .ref a, rfl, q1, q3.rp q2⟩)
    rw [List.set_set] at A3
    exact ⟨B, _, _, r, A3, h2, p⟩
  · cases h1
end
end DL

namespace DL
open PySem PySem.Spec L2
open PyProof.Rows (envOfC)
section
variable {X : Cx} {st : Stmt} {rest : List Stmt} {g1 g2 : FS} {e : Expr} {fe : FE} {ft : FT} {pos : Pos}
/-- behind an expression, in a statement -/
theorem canE_B {K : PySem.W.Frag} {B : Bs} {F H : Hp} {σ : L2.St} {ρ ρ1 : Ce} {x : Opd} {Q : VK} (A : Ba K B F H σ ρ) (h : fe ρ = some (x, ρ1))
    (k : ∀ v F' H', Ba K B F' H' σ ρ1 → OpOk K B.H0 F' H' σ ρ1 v x → Q v H') : canE K fe σ H Q :=
  ⟨F, ρ, x, ρ1, A.sd, h, fun v F' H' G S s o => k v F' H' (A.expr G S s) (o.from A.there0)⟩
def gSet (i : Nat) (fe : FE) : FS := fun ρ => (fe ρ).bind fun r => (frD r.1).bind fun d => some (.nx (r.2.set i (.val d)))
theorem gset_of {K : PySem.W.Frag} {i : Nat} {D : Ends} {σ : L2.St} {H : Hp} (c : canS K (gSet i fe) D σ H) : tAsg (canE K fe) (gName i) D σ H := by
  obtain ⟨B, F, ρ, r, A, hg, p⟩ := c
  simp only [gSet, Option.bind_eq_some_iff] at hg
  obtain ⟨⟨x, ρ1⟩, h1, d, h2, h3⟩ := hg
  cases h3
  refine canE_B A h1 fun v F' H' A' o => ?_
  obtain ⟨F2, A2, r2, _⟩ := o.freezeB A' h2
  exact p F2 H' _ (A2.set i r2)
def gOwn (i : Nat) (fe : FE) : FS := fun ρ => (fe ρ).bind fun r => match r.1 with
  | .new d => some (.nx (r.2.set i (.own false d)))
  | _ => none
theorem gown_of {K : PySem.W.Frag} {i : Nat} {D : Ends} {σ : L2.St} {H : Hp} (c : canS K (gOwn i fe) D σ H) : tAsg (canE K fe) (gName i) D σ H := by
  obtain ⟨B, F, ρ, r, A, hg, p⟩ := c
  simp only [gOwn, Option.bind_eq_some_iff] at hg
  obtain ⟨⟨x, ρ1⟩, h1, h2⟩ := hg
  split at h2
  · rename_i d e
    simp only at e
    subst e
    cases h2
    refine canE_B A h1 fun v F' H' A' o => ?_
    obtain ⟨a, rfl, n0, nF, nO, t⟩ := o
    exact p F' H' _ (A'.setOwn i n0 nF nO t)
  · cases h2
theorem sj_set {i : Nat} {x : Str} {pos' : Pos} (hN : X.N.Nodup) (hi : X.N[i]? = some x) (hx : Loc X.env.scope x) (he : EJ X e fe) (hs : swapsWith e (some (.Name x pos')) pos.line X.env = pure false := by rfl)
    (hf : X.fn x = true ∨ X.env.scope.names.lookup x = some .local := by first | exact .inl rfl | exact .inr rfl | assumption) : SJ X (.Assign [.Name x pos'] e pos) (gSet i fe) := PS.weak (ps_set hN hi hx he hs hf) fun _ _ _ c => gset_of c
theorem sj_own {i : Nat} {x : Str} {pos' : Pos} (hN : X.N.Nodup) (hi : X.N[i]? = some x) (hx : Loc X.env.scope x) (he : EJ X e fe) (hs : swapsWith e (some (.Name x pos')) pos.line X.env = pure false := by rfl)
    (hf : X.fn x = true ∨ X.env.scope.names.lookup x = some .local := by first | exact .inl rfl | exact .inr rfl | assumption) : SJ X (.Assign [.Name x pos'] e pos) (gOwn i fe) := PS.weak (ps_set hN hi hx he hs hf) fun _ _ _ c => gown_of c
def gEx (fe : FE) : FS := fun ρ => (fe ρ).bind fun r => some (.nx r.2)
theorem sj_ex (he : EJ X e fe) (hs : swapsWith e none pos.line X.env = pure false := by rfl) : SJ X (.Expr e pos) (gEx fe) := by
  refine PS.weak (ps_expr he hs) fun D σ H c => ?_
  obtain ⟨B, F, ρ, r, A, hg, p⟩ := c
  simp only [gEx, Option.bind_eq_some_iff] at hg
  obtain ⟨⟨x, ρ1⟩, h1, h2⟩ := hg
  cases h2
  exact canE_B A h1 fun v F' H' A' o => p F' H' _ A'
def gRet (fe : FE) : FS := fun ρ => (fe ρ).bind fun r => some (.rt r.1 r.2)
theorem sj_ret (he : EJ X e fe) : SJ X (.Return (some e) pos) (gRet fe) := by
  refine PS.weak (ps_ret he) fun D σ H c => ?_
  obtain ⟨B, F, ρ, r, A, hg, p⟩ := c
  simp only [gRet, Option.bind_eq_some_iff] at hg
  obtain ⟨⟨x, ρ1⟩, h1, h2⟩ := hg
  cases h2
  exact canE_B A h1 fun v F' H' A' o => p F' H' σ v A' o
def gRetN : FS := fun ρ => some (.rt (.frz .none) ρ)
theorem sj_retN : SJ X (.Return none pos) gRetN := by
  refine PS.weak ps_retN fun D σ H c => ?_
  obtain ⟨B, F, ρ, r, A, hg, p⟩ := c
  cases hg
  exact p F H σ .non A Rp.non
def gIf (ft : FT) (g1 g2 : FS) : FS := fun ρ => (ft ρ).bind fun r => cond r.1 (g1 r.2) (g2 r.2)
theorem sj_if {a b : List Stmt} (hc : TJ X e ft) (ha : SsJ X a g1) (hb : SsJ X b g2) : SJ X (.If e a b pos) (gIf ft g1 g2) := by
  refine PS.weak (ps_if hc ha hb) fun D σ H c => ?_
  obtain ⟨B, F, ρ, r, A, hg, p⟩ := c
  simp only [gIf, Option.bind_eq_some_iff] at hg
  obtain ⟨⟨x, ρ1⟩, h1, h2⟩ := hg
  refine ⟨F, ρ, x, ρ1, A.sd, h1, fun F' H' G S s => ?_⟩
  cases x with
  | true => exact ⟨B, F', ρ1, r, A.expr G S s, h2, p⟩
  | false => exact ⟨B, F', ρ1, r, A.expr G S s, h2, p⟩
def gBrk : FS := fun ρ => some (.bk ρ)
def gCont : FS := fun ρ => some (.ct ρ)
theorem sj_pass : SJ X (.Pass pos) gNil := PS.weak ps_pass fun D σ H c => by
  obtain ⟨B, F, ρ, r, A, hg, p⟩ := c
  cases hg
  exact p F H σ A
theorem sj_brk : SJ X (.Break pos) gBrk := PS.weak ps_break fun D σ H c => by
  obtain ⟨B, F, ρ, r, A, hg, p⟩ := c
  cases hg
  exact p F H σ A
theorem sj_cont : SJ X (.Continue pos) gCont := PS.weak ps_continue fun D σ H c => by
  obtain ⟨B, F, ρ, r, A, hg, p⟩ := c
  cases hg
  exact p F H σ A
def gNo : FS := fun _ => none
theorem sj_no : SJ X st gNo := PS.weak ps_never fun D σ H c => by
  obtain ⟨B, F, ρ, r, A, hg, p⟩ := c
  cases hg
end

/-! ### what a def promises -/
abbrev Fn := List D → Option D
/-- the value, by frozen data -/
def spP (K : PySem.W.Frag) (n : Nat) (fn : Fn) : Sp := fun vs H Q _ => vs.length = n ∧ ∃ F ds r, Same F H ∧ RpL K F vs ds ∧ fn ds = some r ∧
  ∀ v F' H', Gr (fun _ => False) F H F' H' → Same F' H' → Rp K F' v r → Q v H'
/-- the value a new list or dict -/
def spN (K : PySem.W.Frag) (n : Nat) (fn : Fn) : Sp := fun vs H Q _ => vs.length = n ∧ ∃ F ds r, Same F H ∧ RpL K F vs ds ∧ fn ds = some r ∧
  ∀ a F' H', Gr (fun _ => False) F H F' H' → Same F' H' → H a = none → F' a = none → Top K F' H' a r → Q (.ref a) H'
/-- the first argument a list that may be changed -/
abbrev FnU := D → List D → Option (D × D)
def spU (K : PySem.W.Frag) (n : Nat) (fn : FnU) : Sp := fun vs H Q _ => vs.length = n ∧ ∃ F u ws w ds r w', vs = .ref u :: ws ∧ Same F H ∧ F u = none ∧ Top K F H u w ∧ RpL K F ws ds ∧ fn w ds = some (r, w') ∧
  ∀ v F' H', Gr (fun a => a = u) F H F' H' → Same F' H' → F' u = none → Top K F' H' u w' → Rp K F' v r → Q v H'
def resD (ρ : Ce) : Opd → Option D
  | .frz d => some d
  | .new d => some d
  | .own i => match ρ[i]? with
    | some (.own false d) => some d
    | _ => none
def endD : Rs → Option D
  | .rt o ρ => resD ρ o
  | .nx _ => some .none
  | _ => none
/-- the cells at the entry -/
def cells (N : Nat) (ds : List D) : Ce := ds.map .val ++ List.replicate (N - ds.length) .un
def cellsU (N : Nat) (w : D) (ds : List D) : Ce := .own true w :: (ds.map .val ++ List.replicate (N - (ds.length + 1)) .un)
section
variable {K : PySem.W.Frag}
theorem Sd.cells {F H : Hp} (s : Same F H) {vs : List V} {ds : List D} (r : RpL K F vs ds) (N : List Str) (hl : ds.length ≤ N.length) : Sd K F H (L2.start N vs) (DL.cells N.length ds) := by
  have hlen := r.length
  have noown : ∀ (i : Nat) (b : Bool) (d : D), (DL.cells N.length ds)[i]? ≠ some (.own b d) := fun i b d h => by
    unfold DL.cells at h
    by_cases hi : i < ds.length
    · rw [List.getElem?_append_left (by simpa using hi), List.getElem?_map] at h
      cases q : ds[i]? with
      | none => rw [q] at h; cases h
      | some z => rw [q] at h; cases h
    · rw [List.getElem?_append_right (by simpa using hi), List.getElem?_replicate] at h
      split at h <;> cases h
  refine ⟨s, ?_, fun i d h => ?_, fun i b d h => (noown i b d h).elim, fun i j b d c e a h _ _ _ => (noown i b d h).elim⟩
  · unfold DL.cells L2.start; simp [hlen]
  · unfold DL.cells at h
    by_cases hi : i < ds.length
    · rw [List.getElem?_append_left (by simpa using hi), List.getElem?_map] at h
      cases q : ds[i]? with
      | none => rw [q] at h; cases h
      | some z =>
        rw [q] at h
        cases h
        obtain ⟨x, h1, h2⟩ := r.getD q
        refine ⟨x, ?_, h2⟩
        unfold L2.start
        rw [List.getElem?_append_left (by simpa [hlen] using hi), List.getElem?_map, h1]
        rfl
    · rw [List.getElem?_append_right (by simpa using hi), List.getElem?_replicate] at h
      split at h <;> cases h
/-- the base at the entry -/
def bs0 (F H : Hp) (W : Addr → Prop) (u : Addr) : Bs := ⟨F, H, W, fun _ => False, fun _ => u⟩
theorem Ba.cells {F H : Hp} (s : Same F H) {vs : List V} {ds : List D} (r : RpL K F vs ds) (N : List Str) (hl : ds.length ≤ N.length) : Ba K (bs0 F H (fun _ => False) 0) F H (L2.start N vs) (DL.cells N.length ds) := by
  have S := Sd.cells s r N hl
  have noown : ∀ (i : Nat) (b : Bool) (d : D), (DL.cells N.length ds)[i]? ≠ some (.own b d) := fun i b d h => by
    unfold DL.cells at h
    by_cases hi : i < ds.length
    · rw [List.getElem?_append_left (by simpa using hi), List.getElem?_map] at h
      cases q : ds[i]? with
      | none => rw [q] at h; cases h
      | some z => rw [q] at h; cases h
    · rw [List.getElem?_append_right (by simpa using hi), List.getElem?_replicate] at h
      split at h <;> cases h
  exact ⟨S, Same.refl F, fun _ _ h => .inl h, fun _ _ h _ _ => h, fun _ h => h, fun i b d a h _ => (noown i b d h).elim, fun i d h => (noown i true d h).elim, fun _ z => (z.elim id id).elim⟩
theorem Ba.gr {F H F' H' : Hp} {W : Addr → Prop} {u : Addr} {σ : L2.St} {ρ : Ce} (A : Ba K (bs0 F H W u) F' H' σ ρ) : Gr W F H F' H' :=
  ⟨A.fr0, fun a o e => (A.new0 a o e).elim .inl fun z => .inr (z.elim id False.elim), fun a o e n => A.keep0 a o e n id, A.there0⟩
/-- a result, frozen -/
theorem OpOk.res {B : Bs} {F H : Hp} {σ : L2.St} {ρ : Ce} {v : V} {o : Opd} {d : D} (h : OpOk K B.H0 F H σ ρ v o) (A : Ba K B F H σ ρ) (e : resD ρ o = some d) : ∃ F' ρ', Ba K B F' H σ ρ' ∧ Rp K F' v d ∧ ∀ (i : Nat) (d' : D), ρ[i]? = some (.own true d') → ρ'[i]? = some (.own true d') := by
  cases o with
  | frz d' => cases e; exact ⟨F, ρ, A, h, fun _ _ z => z⟩
  | new d' =>
    obtain ⟨F', A', r, _⟩ := h.freezeB A (d := d) e
    exact ⟨F', ρ, A', r, fun _ _ z => z⟩
  | own i =>
    obtain ⟨h1, _⟩ := h
    simp only [resD] at e
    split at e
    · rename_i d' e'
      cases e
      obtain ⟨a, q1, q2, q3⟩ := A.sd.own i false _ e'
      rw [h1] at q1
      cases q1
      have hi : i < σ.length := lt_of_cell A.sd e'
      have A1 : Ba K B F H σ (ρ.set i .un) := A.setC i .un (.inl rfl)
      have nO : ¬ OwA σ (ρ.set i .un) a := fun ⟨j, b, d', h3, h4⟩ => by
        by_cases q : j = i
        · subst q
          rw [List.getElem?_set_self (by rw [A.sd.len]; exact hi)] at h3
          cases h3
        · rw [List.getElem?_set_ne (Ne.symm q)] at h3
          exact q (A.sd.sep j i b d' false _ a h3 e' h4 h1)
      refine ⟨_, _, A1.frz q2 (((A.own0 i false _ a e' h1).elim (fun z => nomatch z.1) fun z => z.2).symm) nO, q3.rp q2, fun j d2 z => ?_⟩
      have q : j ≠ i := fun q => by subst q; rw [e'] at z; cases z
      rw [List.getElem?_set_ne (Ne.symm q)]
      exact z
    · cases e
variable {P : Program} {w : World} {mg : Str → Option Value} {base : Heap}
theorem fn_ok {x qual : Str} {st : Stmt} {f : Addr} {fd : FuncData} {N ps : List Str} {k : Nat} {fn : Fn} (F : Fun K x qual st f fd) (S : FnScope N ps (defScope st)) {n : Nat} (hn : ps.length = n) (hNn : n ≤ N.length)
    (hbody : ∀ (cdv : Value) (A : Around) (outer : List Env) (s : Shared) (H : Hp) (E : XK), Room k (A.deeper (envOfC qual (defScope st) s.heap.objs.size f cdv)) →
      ∃ g, SsJ (cxOf CX0 P w K mg base N qual (defScope st) f cdv A outer s H E).nox (defBody st) g ∧ ∀ ds r, ds.length = n → fn ds = some r → (g (DL.cells N.length ds)).bind endD = some r) : FnOk P w K mg base CX0 (k + 1) f fd ps (spP K n fn) := by
  refine F.ok S (fun vs H Q E h => h.1.trans hn.symm) (fun cdv A outer s H vs Q E hr h => ?_)
  obtain ⟨hl, F0, ds, r, s0, rp, hf, q⟩ := h
  obtain ⟨g, J, hg⟩ := hbody cdv A outer s H E hr
  have hd : ds.length = n := rp.length.symm.trans hl
  refine ⟨_, J, ?_⟩
  have e := hg ds r hd hf
  obtain ⟨rs, h1, h2⟩ := Option.bind_eq_some_iff.mp e
  refine ⟨bs0 F0 H (fun _ => False) 0, F0, DL.cells N.length ds, rs, Ba.cells s0 rp N (by omega), h1, ?_⟩
  cases rs with
  | nx ρ' =>
    cases h2
    exact fun F' H' σ' A' => q .non F' H' A'.gr A'.sd.sub Rp.non
  | rt o ρ' =>
    intro F' H' σ' v A' ov
    obtain ⟨F2, ρ2, A2, r2, _⟩ := ov.res A' h2
    exact q v F2 H' A2.gr A2.sd.sub r2
  | bk ρ' => cases h2
  | ct ρ' => cases h2
/-- .. with a new list or dict for a result -/
def endN : Rs → Option D
  | .rt (.new d) _ => some d
  | .rt (.own i) ρ => match (ρ[i]? : Option Cell) with
    | some (Cell.own false d) => some d
    | _ => none
  | _ => none
theorem fn_okN {x qual : Str} {st : Stmt} {f : Addr} {fd : FuncData} {N ps : List Str} {k : Nat} {fn : Fn} (F : Fun K x qual st f fd) (S : FnScope N ps (defScope st)) {n : Nat} (hn : ps.length = n) (hNn : n ≤ N.length)
    (hbody : ∀ (cdv : Value) (A : Around) (outer : List Env) (s : Shared) (H : Hp) (E : XK), Room k (A.deeper (envOfC qual (defScope st) s.heap.objs.size f cdv)) →
      ∃ g, SsJ (cxOf CX0 P w K mg base N qual (defScope st) f cdv A outer s H E).nox (defBody st) g ∧ ∀ ds r, ds.length = n → fn ds = some r → (g (DL.cells N.length ds)).bind endN = some r) : FnOk P w K mg base CX0 (k + 1) f fd ps (spN K n fn) := by
  refine F.ok S (fun vs H Q E h => h.1.trans hn.symm) (fun cdv A outer s H vs Q E hr h => ?_)
  obtain ⟨hl, F0, ds, r, s0, rp, hf, q⟩ := h
  obtain ⟨g, J, hg⟩ := hbody cdv A outer s H E hr
  have hd : ds.length = n := rp.length.symm.trans hl
  refine ⟨_, J, ?_⟩
  have e := hg ds r hd hf
  obtain ⟨rs, h1, h2⟩ := Option.bind_eq_some_iff.mp e
  refine ⟨bs0 F0 H (fun _ => False) 0, F0, DL.cells N.length ds, rs, Ba.cells s0 rp N (by omega), h1, ?_⟩
  cases rs with
  | nx ρ' => cases h2
  | rt o ρ' =>
    intro F' H' σ' v A' ov
    cases o with
    | frz d => cases h2
    | new d =>
      cases h2
      obtain ⟨a, rfl, n0, nF, nO, t⟩ := ov
      exact q a F' H' A'.gr A'.sd.sub n0 nF t
    | own i =>
      simp only [endN] at h2
      split at h2
      · rename_i d e'
        cases h2
        obtain ⟨h1', _⟩ := ov
        obtain ⟨a, q1, q2, q3⟩ := A'.sd.own i false _ e'
        rw [h1'] at q1
        cases q1
        exact q a F' H' A'.gr A'.sd.sub ((A'.own0 i false _ a e' h1').elim (fun z => nomatch z.1) fun z => z.2.elim False.elim id) q2 q3
      · cases h2
  | bk ρ' => cases h2
  | ct ρ' => cases h2
/-- .. with a first argument that is changed -/
def endU : Rs → Option (D × D)
  | .rt o ρ => match (ρ[0]? : Option Cell) with
    | some (Cell.own true w) => (resD ρ o).bind fun d => some (d, w)
    | _ => none
  | .nx ρ => match (ρ[0]? : Option Cell) with
    | some (Cell.own true w) => some (.none, w)
    | _ => none
  | _ => none
theorem Ba.cellsU {F H : Hp} (s : Same F H) {u : Addr} {wd : D} (nF : F u = none) (t : Top K F H u wd) {vs : List V} {ds : List D} (r : RpL K F vs ds) (N : List Str) (hl : ds.length + 1 ≤ N.length) : Ba K (bs0 F H (fun a => a = u) u) F H (L2.start N (.ref u :: vs)) (DL.cellsU N.length wd ds) := by
  have hlen := r.length
  have e0 : start N (.ref u :: vs) = some (.ref u) :: (vs.map some ++ List.replicate (N.length - (vs.length + 1)) none) := by unfold L2.start; simp
  have cell : ∀ (i : Nat) (c : Cell), (DL.cellsU N.length wd ds)[i]? = some c → (i = 0 ∧ c = .own true wd) ∨ (∃ j d x, i = j + 1 ∧ c = .val d ∧ (L2.start N (.ref u :: vs))[i]? = some (some x) ∧ Rp K F x d) ∨ c = .un := fun i c h => by
    unfold DL.cellsU at h
    cases i with
    | zero => cases h; exact .inl ⟨rfl, rfl⟩
    | succ j =>
      rw [List.getElem?_cons_succ] at h
      by_cases hi : j < ds.length
      · rw [List.getElem?_append_left (by simpa using hi), List.getElem?_map] at h
        cases q : ds[j]? with
        | none => rw [q] at h; cases h
        | some z =>
          rw [q] at h
          cases h
          obtain ⟨x, h1, h2⟩ := r.getD q
          refine .inr (.inl ⟨j, z, x, rfl, rfl, ?_, h2⟩)
          rw [e0, List.getElem?_cons_succ, List.getElem?_append_left (by simpa [hlen] using hi), List.getElem?_map, h1]
          rfl
      · rw [List.getElem?_append_right (by simpa using hi), List.getElem?_replicate] at h
        split at h
        · cases h; exact .inr (.inr rfl)
        · cases h
  have ow : ∀ (i : Nat) (b : Bool) (d : D), (DL.cellsU N.length wd ds)[i]? = some (.own b d) → i = 0 ∧ b = true ∧ d = wd := fun i b d h => by
    rcases cell i _ h with ⟨rfl, z⟩ | ⟨_, _, _, _, z, _⟩ | z
    · cases z; exact ⟨rfl, rfl, rfl⟩
    · cases z
    · cases z
  refine ⟨⟨s, ?_, fun i d h => ?_, fun i b d h => ?_, fun i j b d c e a h1 h2 _ _ => (ow i b d h1).1.trans (ow j c e h2).1.symm⟩, Same.refl F, fun _ _ h => .inl h, fun _ _ h _ _ => h, fun _ h => h, fun i b d a h1 h2 => ?_, fun i d h => ?_, fun a z => ?_⟩
  · rw [e0]; unfold DL.cellsU; simp [hlen]
  · rcases cell i _ h with ⟨rfl, z⟩ | ⟨_, _, x, _, z, h1, h2⟩ | z
    · cases z
    · cases z; exact ⟨x, h1, h2⟩
    · cases z
  · obtain ⟨rfl, rfl, rfl⟩ := ow i b d h
    exact ⟨u, by rw [e0]; rfl, nF, t⟩
  · obtain ⟨rfl, rfl, rfl⟩ := ow i b d h1
    rw [e0] at h2
    cases h2
    exact .inl ⟨rfl, rfl⟩
  · obtain ⟨rfl, _, rfl⟩ := ow i true d h
    rw [e0]; rfl
  · obtain ⟨o, ho⟩ := t.some
    rcases z with z | z
    · replace z : a = u := z
      subst z
      show H a ≠ none
      rw [ho]; exact nofun
    · exact z.elim
theorem fn_okU {x qual : Str} {st : Stmt} {f : Addr} {fd : FuncData} {N ps : List Str} {k : Nat} {fn : FnU} (F : Fun K x qual st f fd) (S : FnScope N ps (defScope st)) {n : Nat} (hn : ps.length = n + 1) (hNn : n + 1 ≤ N.length)
    (hbody : ∀ (cdv : Value) (A : Around) (outer : List Env) (s : Shared) (H : Hp) (E : XK), Room k (A.deeper (envOfC qual (defScope st) s.heap.objs.size f cdv)) →
      ∃ g, SsJ (cxOf CX0 P w K mg base N qual (defScope st) f cdv A outer s H E).nox (defBody st) g ∧ ∀ wd ds r w', ds.length = n → fn wd ds = some (r, w') → (g (DL.cellsU N.length wd ds)).bind endU = some (r, w')) : FnOk P w K mg base CX0 (k + 1) f fd ps (spU K (n + 1) fn) := by
  refine F.ok S (fun vs H Q E h => h.1.trans hn.symm) (fun cdv A outer s H vs Q E hr h => ?_)
  obtain ⟨hl, F0, u, ws, wd, ds, r, w', rfl, s0, nF, t, rp, hf, q⟩ := h
  obtain ⟨g, J, hg⟩ := hbody cdv A outer s H E hr
  have hd : ds.length = n := by have := rp.length; simp at hl; omega
  refine ⟨_, J, ?_⟩
  have e := hg wd ds r w' hd hf
  obtain ⟨rs, h1, h2⟩ := Option.bind_eq_some_iff.mp e
  refine ⟨bs0 F0 H (fun a => a = u) u, F0, DL.cellsU N.length wd ds, rs, Ba.cellsU s0 nF t rp N (by omega), h1, ?_⟩
  have fin : ∀ {F' H' : Hp} {σ' : L2.St} {ρ' : Ce} {wz : D}, Ba K (bs0 F0 H (fun a => a = u) u) F' H' σ' ρ' → ρ'[0]? = some (.own true wz) → F' u = none ∧ Top K F' H' u wz := fun {F' H' σ' ρ' wz} A' e' => by
    obtain ⟨a, q1, q2, q3⟩ := A'.sd.own 0 true _ e'
    have z := A'.brw0 0 _ e'
    rw [q1] at z
    cases z
    exact ⟨q2, q3⟩
  cases rs with
  | nx ρ' =>
    intro F' H' σ' A'
    simp only [endU] at h2
    split at h2
    · rename_i wz e'
      cases h2
      exact q .non F' H' A'.gr A'.sd.sub (fin A' e').1 (fin A' e').2 Rp.non
    · cases h2
  | rt o ρ' =>
    intro F' H' σ' v A' ov
    simp only [endU] at h2
    split at h2
    · rename_i wz e'
      obtain ⟨d, h3, h4⟩ := Option.bind_eq_some_iff.mp h2
      cases h4
      obtain ⟨F2, ρ2, A2, r2, k2⟩ := ov.res A' h3
      exact q v F2 H' A2.gr A2.sd.sub (fin A2 (k2 0 _ e')).1 (fin A2 (k2 0 _ e')).2 r2
    · cases h2
  | bk ρ' => cases h2
  | ct ρ' => cases h2

/-! ### calls of such defs -/
theorem Sd.grow {F H F' H' : Hp} {σ : L2.St} {ρ : Ce} (S : Sd K F H σ ρ) (G : Gr (fun _ => False) F H F' H') (s : Same F' H') : Sd K F' H' σ ρ := by
  refine ⟨s, S.len, fun i d h => ?_, fun i b d h => ?_, S.sep⟩
  · obtain ⟨v, h1, h2⟩ := S.val i d h
    exact ⟨v, h1, h2.mono G.fr⟩
  · obtain ⟨a, h1, h2, h3⟩ := S.own i b d h
    refine ⟨a, h1, ?_, h3.mono G.fr fun o e => G.keep a o e id⟩
    obtain ⟨o, ho⟩ := h3.some
    cases q : F' a with
    | none => rfl
    | some z =>
      rcases G.new a z q with y | y
      · rw [h2] at y; cases y
      · rw [ho] at y; cases y
def fCall (fn : Fn) (fa : FA) : FE := fun ρ => (fa ρ).bind fun r => (frzs r.1).bind fun ds => (fn ds).bind fun d => some (.frz d, r.2)
def fCallN (fn : Fn) (fa : FA) : FE := fun ρ => (fa ρ).bind fun r => (frzs r.1).bind fun ds => (fn ds).bind fun d => some (.new d, r.2)
theorem call_ofP {n : Nat} {fn : Fn} {fa : FA} {σ : L2.St} {H : Hp} {Q : VK} {E : XK} (hn : ∀ ds r, fn ds = some r → ds.length = n) (c : canE K (fCall fn fa) σ H Q) : tCall (spP K n fn) [] E (canA K fa) σ H Q := by
  obtain ⟨F, ρ, o, ρ', S, hf, k⟩ := c
  simp only [fCall, Option.bind_eq_some_iff] at hf
  obtain ⟨⟨os, ρ1⟩, h1, ds, h2, d, h3, h4⟩ := hf
  cases h4
  refine ⟨F, ρ, os, ρ1, S, h1, fun vs F1 H1 G1 S1 s1 av => ?_⟩
  have rp := av.frz h2
  show spP K n fn (vs ++ []) H1 Q E
  rw [List.append_nil]
  refine ⟨rp.length.trans (hn ds d h3), F1, ds, d, S1.sub, rp, h3, fun v F2 H2 G2 s2 r2 => ?_⟩
  exact k v F2 H2 (G1.trans (G2.weak fun _ z => z.elim)) (S1.grow G2 s2) s1 r2
theorem call_ofN {n : Nat} {fn : Fn} {fa : FA} {σ : L2.St} {H : Hp} {Q : VK} {E : XK} (hn : ∀ ds r, fn ds = some r → ds.length = n) (c : canE K (fCallN fn fa) σ H Q) : tCall (spN K n fn) [] E (canA K fa) σ H Q := by
  obtain ⟨F, ρ, o, ρ', S, hf, k⟩ := c
  simp only [fCallN, Option.bind_eq_some_iff] at hf
  obtain ⟨⟨os, ρ1⟩, h1, ds, h2, d, h3, h4⟩ := hf
  cases h4
  refine ⟨F, ρ, os, ρ1, S, h1, fun vs F1 H1 G1 S1 s1 av => ?_⟩
  have rp := av.frz h2
  show spN K n fn (vs ++ []) H1 Q E
  rw [List.append_nil]
  refine ⟨rp.length.trans (hn ds d h3), F1, ds, d, S1.sub, rp, h3, fun a F2 H2 G2 s2 na nF t => ?_⟩
  refine k _ F2 H2 (G1.trans (G2.weak fun _ z => z.elim)) (S1.grow G2 s2) s1 ⟨a, rfl, G1.there a na, nF, ?_, t⟩
  exact fun ⟨i, b, d, e1, e2⟩ => by
    obtain ⟨c, q1, q2, q3⟩ := S1.own i b d e1
    rw [e2] at q1
    cases q1
    obtain ⟨o, ho⟩ := q3.some
    rw [na] at ho; cases ho
def fCallU (fn : FnU) (fa : FA) : FE := fun ρ => (fa ρ).bind fun r => match r.1 with
  | .own i :: os => match (r.2[i]? : Option Cell) with
    | some (Cell.own b wd) => (frzs os).bind fun ds => (fn wd ds).bind fun q => some (.frz q.1, r.2.set i (.own b q.2))
    | _ => none
  | _ => none
/-- the object of a slot's own has changed -/
theorem Sd.chg {F H F' H' : Hp} {σ : L2.St} {ρ : Ce} (S : Sd K F H σ ρ) {i : Nat} {b : Bool} {w w' : D} {u : Addr} (hi : ρ[i]? = some (.own b w)) (hu : σ[i]? = some (some (.ref u))) (G : Gr (fun a => a = u) F H F' H') (s : Same F' H') (nF : F' u = none) (t : Top K F' H' u w') :
    Sd K F' H' σ (ρ.set i (.own b w')) ∧ Shape ρ (ρ.set i (.own b w')) ∧ Gr (OwA σ ρ) F H F' H' := by
  have hlt : i < ρ.length := (List.getElem?_eq_some_iff.mp hi).1
  have sh : Shape ρ (ρ.set i (.own b w')) := by
    refine ⟨by simp, fun j => ⟨fun c h n => ?_, fun b2 d h => ?_⟩⟩
    · have q : j ≠ i := fun q => by subst q; rw [hi] at h; cases h; exact n _ _ rfl
      rw [List.getElem?_set_ne (Ne.symm q)]; exact h
    · by_cases q : j = i
      · subst q
        rw [hi] at h
        cases h
        exact ⟨w', by rw [List.getElem?_set_self hlt]⟩
      · exact ⟨d, by rw [List.getElem?_set_ne (Ne.symm q)]; exact h⟩
  refine ⟨⟨s, by simp [S.len], fun j d h => ?_, fun j c d h => ?_, fun j k c d c' e a h1 h2 h3 h4 => ?_⟩, sh, G.weak fun a z => ⟨i, b, w, hi, by rw [z]; exact hu⟩⟩
  · have q : j ≠ i := fun q => by subst q; rw [List.getElem?_set_self hlt] at h; cases h
    rw [List.getElem?_set_ne (Ne.symm q)] at h
    obtain ⟨v, h1, h2⟩ := S.val j d h
    exact ⟨v, h1, h2.mono G.fr⟩
  · by_cases q : j = i
    · subst q
      rw [List.getElem?_set_self hlt] at h
      cases h
      exact ⟨u, hu, nF, t⟩
    · rw [List.getElem?_set_ne (Ne.symm q)] at h
      obtain ⟨a, h1, h2, h3⟩ := S.own j c d h
      have ne : a ≠ u := fun z => q (S.sep j i c d b w u h hi (by rw [← z]; exact h1) hu)
      refine ⟨a, h1, ?_, h3.mono G.fr fun o e => G.keep a o e ne⟩
      obtain ⟨o, ho⟩ := h3.some
      cases q2 : F' a with
      | none => rfl
      | some z =>
        rcases G.new a z q2 with y | y
        · rw [h2] at y; cases y
        · rw [ho] at y; cases y
  · obtain ⟨d1, e1⟩ := sh.back h1
    obtain ⟨d2, e2⟩ := sh.back h2
    exact S.sep j k c d1 c' d2 a e1 e2 h3 h4
theorem call_ofU {n : Nat} {fn : FnU} {fa : FA} {σ : L2.St} {H : Hp} {Q : VK} {E : XK} (hn : ∀ w ds r, fn w ds = some r → ds.length + 1 = n) (c : canE K (fCallU fn fa) σ H Q) : tCall (spU K n fn) [] E (canA K fa) σ H Q := by
  obtain ⟨F, ρ, o, ρ', S, hf, k⟩ := c
  simp only [fCallU, Option.bind_eq_some_iff] at hf
  obtain ⟨⟨os, ρ1⟩, h1, h2⟩ := hf
  split at h2
  · rename_i i os' e
    split at h2
    · rename_i b w e2
      simp only [Option.bind_eq_some_iff] at h2
      obtain ⟨ds, h3, ⟨r, w'⟩, h4, h5⟩ := h2
      cases h5
      simp only at e e2
      subst e
      refine ⟨F, ρ, _, ρ1, S, h1, fun vs F1 H1 G1 S1 s1 av => ?_⟩
      cases vs with
      | nil => exact av.elim
      | cons v ws =>
        obtain ⟨⟨q1, _⟩, av2⟩ := av
        have rp := av2.frz h3
        obtain ⟨u, q2, q3, q4⟩ := S1.own i b w e2
        rw [q1] at q2
        cases q2
        show spU K n fn ((V.ref u :: ws) ++ []) H1 Q E
        rw [List.append_nil]
        refine ⟨by rw [List.length_cons, rp.length]; exact hn w ds _ h4, F1, u, ws, w, ds, r, w', rfl, S1.sub, q3, q4, rp, h4, fun v F2 H2 G2 s2 nF t r2 => ?_⟩
        obtain ⟨S2, sh, G3⟩ := S1.chg e2 q1 G2 s2 nF t
        exact k v F2 H2 (G1.trans (G3.weak fun a z => (OwA.shape s1).mp z)) S2 (s1.trans sh) r2
    · cases h2
  · cases h2
end
end DL

namespace DL
open PySem PySem.Spec L2
section
variable {K : PySem.W.Frag} {F H : Hp} {σ : L2.St} {ρ : Ce}
theorem Sd.set (S : Sd K F H σ ρ) {v : V} {d : D} (i : Nat) (r : Rp K F v d) : Sd K F H (σ.set i (some v)) (ρ.set i (.val d)) := by
  have oldO : ∀ {j : Nat} {b : Bool} {e : D}, (ρ.set i (.val d))[j]? = some (.own b e) → j ≠ i ∧ ρ[j]? = some (.own b e) := fun {j b e} h => by
    by_cases q : j = i
    · subst q
      by_cases hj : j < ρ.length
      · rw [List.getElem?_set_self hj] at h; cases h
      · rw [List.getElem?_eq_none (by rw [List.length_set]; omega)] at h; cases h
    · rw [List.getElem?_set_ne (Ne.symm q)] at h; exact ⟨q, h⟩
  have oldS : ∀ {j : Nat}, j ≠ i → (σ.set i (some v))[j]? = σ[j]? := fun {j} q => List.getElem?_set_ne (Ne.symm q)
  refine ⟨S.sub, by simp [S.len], fun j e h => ?_, fun j b e h => ?_, fun j k b e c e' a h1 h2 h3 h4 => ?_⟩
  · by_cases q : j = i
    · subst q
      by_cases hj : j < ρ.length
      · rw [List.getElem?_set_self hj] at h
        cases h
        exact ⟨v, by rw [List.getElem?_set_self (by rw [← S.len]; exact hj)], r⟩
      · rw [List.getElem?_eq_none (by rw [List.length_set]; omega)] at h; cases h
    · rw [List.getElem?_set_ne (Ne.symm q)] at h
      rw [oldS q]
      exact S.val j e h
  · obtain ⟨q, h'⟩ := oldO h
    rw [oldS q]
    exact S.own j b e h'
  · obtain ⟨q1, h1'⟩ := oldO h1
    obtain ⟨q2, h2'⟩ := oldO h2
    rw [oldS q1] at h3
    rw [oldS q2] at h4
    exact S.sep j k b e c e' a h1' h2' h3 h4
/-! ### targets -/
inductive TgtR (K : PySem.W.Frag) (F : Hp) (is : List Nat) (σ : L2.St) (ρ : Ce) : L2.St → Ce → Prop
  | refl : TgtR K F is σ ρ σ ρ
  | step {σ1 : L2.St} {ρ1 : Ce} {i : Nat} {v : V} {d : D} : TgtR K F is σ ρ σ1 ρ1 → i ∈ is → Rp K F v d → TgtR K F is σ ρ (σ1.set i (some v)) (ρ1.set i (.val d))
theorem TgtR.sd {is : List Nat} {σ' : L2.St} {ρ' : Ce} (t : TgtR K F is σ ρ σ' ρ') (S : Sd K F H σ ρ) : Sd K F H σ' ρ' := by
  induction t with
  | refl => exact S
  | step _ _ r ih => exact ih.set _ r
theorem TgtR.ba {B : Bs} {is : List Nat} {σ' : L2.St} {ρ' : Ce} (t : TgtR K F is σ ρ σ' ρ') (A : Ba K B F H σ ρ) : Ba K B F H σ' ρ' := by
  induction t with
  | refl => exact A
  | step _ _ r ih => exact ih.set _ r
theorem wipe_set {vs : List Nat} {i : Nat} {x : Option V} (hi : i ∈ vs) : ∀ σ : L2.St, wipe (σ.set i x) vs = wipe σ vs := by
  intro σ
  induction vs with
  | nil => cases hi
  | cons v vs ih =>
    show (wipe (σ.set i x) vs).set v none = (wipe σ vs).set v none
    by_cases q : i ∈ vs
    · rw [ih q]
    · have e : i = v := by
        rcases List.mem_cons.mp hi with z | z
        · exact z
        · exact (q z).elim
      subst e
      have : ∀ (us : List Nat) (τ : L2.St), i ∉ us → wipe (τ.set i x) us = (wipe τ us).set i x := by
        intro us
        induction us with
        | nil => intro τ _; rfl
        | cons u us ih2 =>
          intro τ hn
          show (wipe (τ.set i x) us).set u none = ((wipe τ us).set u none).set i x
          rw [ih2 τ fun z => hn (List.mem_cons_of_mem _ z), List.set_comm _ _ (fun z => hn (by rw [z]; exact List.mem_cons_self))]
      rw [this vs σ q, List.set_set]
theorem TgtR.wipe {is vs : List Nat} {σ' : L2.St} {ρ' : Ce} (t : TgtR K F is σ ρ σ' ρ') (hs : ∀ i ∈ is, i ∈ vs) : L2.wipe σ' vs = L2.wipe σ vs := by
  induction t with
  | refl => rfl
  | step _ hi _ ih => rw [wipe_set (hs _ hi), ih]
abbrev HT := D → Ce → Option Ce
def canG (K : PySem.W.Frag) (h : HT) (is : List Nat) : TG := fun v σ H Q => ∃ F ρ d ρ', Sd K F H σ ρ ∧ Rp K F v d ∧ h d ρ = some ρ' ∧ ∀ σ', TgtR K F is σ ρ σ' ρ' → Q σ' H
def GJ (X : Cx) (e : Expr) (h : HT) (is : List Nat) : Prop := PG X e (canG X.K h is)
def hN (i : Nat) : HT := fun d ρ => some (ρ.set i (.val d))
def hSet : List Nat → List D → Ce → Option Ce
  | [], [], ρ => some ρ
  | i :: is, d :: ds, ρ => hSet is ds (ρ.set i (.val d))
  | _, _, _ => none
def hT (is : List Nat) : HT := fun d ρ => match d with
  | .tuple ds => hSet is ds ρ
  | _ => none
theorem gj_name {X : Cx} {i : Nat} {x : Str} {pos : Pos} (hN : X.N.Nodup) (hi : X.N[i]? = some x) (hx : Loc X.env.scope x) (hf : X.fn x = true ∨ X.env.scope.names.lookup x = some .local := by first | exact .inl rfl | exact .inr rfl | assumption) : GJ X (.Name x pos) (DL.hN i) [i] :=
  PG.weak (pg_name hN hi hx hf) fun v σ H Q c => by
    obtain ⟨F, ρ, d, ρ', S, r, h, k⟩ := c
    cases h
    exact k _ (.step .refl (List.mem_singleton.mpr rfl) r)
def gNs : List Nat → TGs
  | [] => L2.gNil
  | i :: is => gCons (gName i) (gNs is)
theorem gNs_of {all : List Nat} {Q : L2.St → Hp → Prop} : ∀ {is : List Nat} {vs : List V} {ds : List D} {σ1 : L2.St} {ρ1 ρ' : Ce}, (∀ i ∈ is, i ∈ all) → RpL K F vs ds → hSet is ds ρ1 = some ρ' → TgtR K F all σ ρ σ1 ρ1 → (∀ σ', TgtR K F all σ ρ σ' ρ' → Q σ' H) → gNs is vs σ1 H Q
  | [], _, [], σ1, ρ1, ρ', _, .nil, h, t, k => by cases h; exact ⟨rfl, k _ t⟩
  | [], _, _ :: _, _, _, _, _, .cons _ _, h, _, _ => by cases h
  | _ :: _, _, [], _, _, _, _, .nil, h, _, _ => by cases h
  | i :: is, _, _ :: _, σ1, ρ1, ρ', hs, .cons r rs, h, t, k => ⟨_, _, rfl, gNs_of (fun j hj => hs j (List.mem_cons_of_mem _ hj)) rs h (.step t (hs i List.mem_cons_self) r) k⟩
theorem gj_tup {X : Cx} {es : List Expr} {k : Nat} {pos : Pos} {is : List Nat} {n : Nat} (hc : X.calm = true) (h : PGs X es (gNs is)) (hn : (assignEach es X.env).length = n) (hl : is.length = n) (hst : (assignEach es X.env).findIdx? (·.1) = none := by rfl) : GJ X (.Tuple es k pos) (hT is) is :=
  PG.weak (pg_tup hc h hn hst) fun v σ H Q c => by
    obtain ⟨F, ρ, d, ρ', S, r, hh, kk⟩ := c
    cases d with
    | tuple ds =>
      cases r with
      | tup ha rp =>
        have hlen : ∀ (is : List Nat) (ds : List D) (ρ : Ce), hSet is ds ρ = some ρ' → is.length = ds.length := by
          intro is
          induction is with
          | nil => intro ds ρ h; cases ds with
            | nil => rfl
            | cons _ _ => cases h
          | cons i is ih => intro ds ρ h; cases ds with
            | nil => cases h
            | cons d ds => exact congrArg (· + 1) (ih ds _ h)
        exact ⟨_, _, rfl, .inl (.inl (S.sub _ _ ha)), by rw [rp.length, ← hlen is ds ρ hh, hl], gNs_of (fun _ z => z) rp hh .refl kk⟩
    | none => cases hh
    | bool b => cases hh
    | int i => cases hh
    | str x => cases hh
    | list ds => cases hh
    | dict es => cases hh

/-! ### what is walked -/
abbrev FI := Ce → Option (List D × Option Nat × Ce)
def YR (K : PySem.W.Frag) (F : Hp) (H2 : Hp) (x : V) (H3 : Hp) (d : D) : Prop :=
  (H3 = H2 ∧ Rp K F x d) ∨ ∃ T y z dy dz, x = .ref T ∧ H2 T = none ∧ H3 = upd H2 T (.tup [y, z]) ∧ Rp K F y dy ∧ Rp K F z dz ∧ d = .tuple [dy, dz]
def WalkOk (K : PySem.W.Frag) (H F1 H1 : Hp) (σ : L2.St) (ρ1 : Ce) (os : Option Nat) (J : It) (ds : List D) : Prop := ∃ (G : Hp → Prop) (Y : Nat → Hp → V → Hp → Prop) (Sr : Addr → Prop), Walk J ds.length G Y ∧
  (∀ a, Sr a → (H a = none ∧ ¬ OwA σ ρ1 a) ∨ ∃ i b d, os = some i ∧ ρ1[i]? = some (.own b d) ∧ σ[i]? = some (some (.ref a))) ∧
  (∀ H2, Same F1 H2 → (∀ a o, Sr a → H1 a = some o → H2 a = some o) → G H2) ∧
  ∀ i H2 x H3, Same F1 H2 → Y i H2 x H3 → ∃ d, ds[i]? = some d ∧ YR K F1 H2 x H3 d
def canI (K : PySem.W.Frag) (f : FI) : TI := fun σ H R => ∃ F ρ ds os ρ', Sd K F H σ ρ ∧ f ρ = some (ds, os, ρ') ∧
  ∀ J F' H', Gr (OwA σ ρ) F H F' H' → Sd K F' H' σ ρ' → Shape ρ ρ' → WalkOk K H F' H' σ ρ' os J ds → R J H'
def IJ (X : Cx) (tg e : Expr) (f : FI) : Prop := PI X tg e (canI X.K f)
theorem YR.take {Ow : Addr → Prop} {F1 H2 H3 : Hp} {x : V} {d : D} (y : YR K F1 H2 x H3 d) (s : Same F1 F) (S : Sd K F H2 σ ρ) : ∃ F3, Gr Ow F H2 F3 H3 ∧ Sd K F3 H3 σ ρ ∧ Rp K F3 x d ∧ Same F F3 := by
  rcases y with ⟨rfl, r⟩ | ⟨T, y, z, dy, dz, rfl, n, rfl, r1, r2, rfl⟩
  · exact ⟨F, Gr.refl, S, r.mono s, Same.refl F⟩
  · obtain ⟨F3, G, S3, r⟩ := new_tup (Ow := Ow) S n (.cons (r1.mono s) (.cons (r2.mono s) .nil))
    exact ⟨F3, G, S3, r, G.fr⟩
/-- the iterator lemma without slots -/
theorem it_core {J : It} {n : Nat} {G : Hp → Prop} {Y : Nat → Hp → V → Hp → Prop} (w : Walk J n G Y) (Body : V → Hp → (Hp → Prop) → Prop) (Pv : Nat → Hp → Prop) {Qd : Hp → Prop} {H0 : Hp} (h0 : Pv 0 H0) (hG : ∀ i H, i ≤ n → Pv i H → G H)
    (hs : ∀ i x H H', i < n → Pv i H → Y i H x H' → Body x H' (Pv (i + 1))) (hd : ∀ H, Pv n H → Qd H) :
    ∃ W : Nat → Nat → Hp → Prop, (∃ m, W 0 m H0) ∧ ∀ i m H, W i m H →
      (J.stop i H ∧ Qd H) ∨ (J.go i H ∧ ∃ Nx : Hp → Prop, (∀ H', Nx H' → ∃ m', m' < m ∧ W (i + 1) m' H') ∧ ∀ x H', J.yld i H x H' → Body x H' Nx) := by
  refine ⟨fun i m H => m = n - i ∧ i ≤ n ∧ Pv i H, ⟨n, by simp, Nat.zero_le _, h0⟩, ?_⟩
  rintro i m H ⟨rfl, hi, p⟩
  have q := hG i H hi p
  by_cases hlt : i < n
  · exact .inr ⟨w.goes i H hlt q, Pv (i + 1), fun H' p' => ⟨n - (i + 1), by omega, rfl, hlt, p'⟩, fun x H' y => hs i x H H' hlt p (w.yields i H x H' hlt q y)⟩
  · have e : i = n := by omega
    subst e
    exact .inl ⟨w.stops H q, hd H p⟩
end

/-! ### for -/
def goFor (h : HT) (g : FS) : List D → Ce → Option Rs
  | [], ρ => some (.nx ρ)
  | d :: ds, ρ => (h d ρ).bind fun ρ1 => (g ρ1).bind fun r => match r with
    | .nx ρ2 => goFor h g ds ρ2
    | .ct ρ2 => goFor h g ds ρ2
    | .bk ρ2 => some (.nx ρ2)
    | .rt o ρ2 => some (.rt o ρ2)
def gFor (fi : FI) (h : HT) (g : FS) : FS := fun ρ => (fi ρ).bind fun r => match r with
  | (ds, none, ρ1) => goFor h g ds ρ1
  | _ => none
/-- the base at a loop's start -/
def reB (B : Bs) (F H : Hp) (σ : L2.St) (ρ : Ce) : Bs := ⟨F, H, B.W, fun a => B.V a ∨ ∃ (i : Nat) (d : D), ρ[i]? = some (.own false d) ∧ σ[i]? = some (some (.ref a)), B.U⟩
section
variable {K : PySem.W.Frag} {B : Bs} {F H F' H' : Hp} {σ σ' : L2.St} {ρ ρ' : Ce}
theorem Ba.re (A : Ba K B F H σ ρ) : Ba K (reB B F H σ ρ) F H σ ρ :=
  ⟨A.sd, Same.refl F, fun _ _ h => .inl h, fun _ _ h _ _ => h, fun _ h => h, fun i b d a h1 h2 => by
    cases b with
    | true => exact .inl ⟨rfl, (A.own0 i true d a h1 h2).elim (fun z => z.2) fun z => nomatch z.1⟩
    | false => exact .inr ⟨rfl, .inl (.inr ⟨i, d, h1, h2⟩)⟩, A.brw0, fun a z => by
    rcases z with z | z | ⟨i, d, h1, h2⟩
    · exact fun y => A.wf0 a (.inl z) (A.there0 a y)
    · exact fun y => A.wf0 a (.inr z) (A.there0 a y)
    · obtain ⟨c, q1, q2, q3⟩ := A.sd.own i false d h1
      rw [h2] at q1
      cases q1
      obtain ⟨o, ho⟩ := q3.some
      show H a ≠ none
      rw [ho]; exact nofun⟩
theorem Ba.back (A : Ba K B F H σ ρ) (A' : Ba K (reB B F H σ ρ) F' H' σ' ρ') : Ba K B F' H' σ' ρ' where
  sd := A'.sd
  fr0 := A.fr0.trans A'.fr0
  new0 := fun a o e => by
    rcases A'.new0 a o e with z | z | z | ⟨i, d, h1, h2⟩
    · exact A.new0 a o z
    · exact .inr (.inl (A.there0 a z))
    · exact .inr (.inr z)
    · exact .inr (((A.own0 i false d a h1 h2).elim (fun z => nomatch z.1) fun z => z.2).symm)
  keep0 := fun a o e n1 n2 => A'.keep0 a o (A.keep0 a o e n1 n2) n1 fun z => by
    rcases z with z | ⟨i, d, h1, h2⟩
    · exact n2 z
    · rcases A.own0 i false d a h1 h2 with y | ⟨_, y | y⟩
      · exact nomatch y.1
      · exact n2 y
      · rw [e] at y; cases y
  there0 := fun a e => A.there0 a (A'.there0 a e)
  own0 := fun i b d a h1 h2 => by
    rcases A'.own0 i b d a h1 h2 with z | ⟨z, y | y⟩
    · exact .inl z
    · rcases y with y | ⟨j, d', h3, h4⟩
      · exact .inr ⟨z, .inl y⟩
      · exact .inr ⟨z, (A.own0 j false d' a h3 h4).elim (fun z => nomatch z.1) fun z => z.2⟩
    · exact .inr ⟨z, .inr (A.there0 a y)⟩
  brw0 := A'.brw0
  wf0 := A.wf0
theorem OpOk.back {v : V} {o : Opd} (A : Ba K B F H σ ρ) (h : OpOk K (reB B F H σ ρ).H0 F' H' σ' ρ' v o) : OpOk K B.H0 F' H' σ' ρ' v o := h.from A.there0
theorem getElem?_drop0 {α : Type} {l : List α} {k : Nat} {x : α} (h : l[k]? = some x) : l.drop k = x :: l.drop (k + 1) := by
  obtain ⟨h1, h2⟩ := List.getElem?_eq_some_iff.mp h
  rw [List.drop_eq_getElem_cons h1, h2]
end
section
variable {X : Cx} {tg iter : Expr} {body : List Stmt} {fi : FI} {h : HT} {is : List Nat} {g : FS} {pos : Pos}
theorem sj_for (hp : PassesOwn (model X.prog X.w) X.A X.env X.xe) (hc : X.calm = true) (hi : IJ X tg iter fi) (hg : GJ X tg h is) (hb : SsJ X body g) (hs : ∀ x, foldedSetIterable iter X.env x = pure x := by intro _; rfl) : SJ X (.For tg iter body [] pos) (gFor fi h g) := by
  refine PS.weak (ps_for hp hc hi hg hb hs) fun D σ H c => ?_
  obtain ⟨B, F, ρ, r, A, hf, p⟩ := c
  simp only [gFor, Option.bind_eq_some_iff] at hf
  obtain ⟨⟨ds, os, ρ1⟩, h1, h2⟩ := hf
  cases os with
  | some i => cases h2
  | none =>
    replace h2 : goFor h g ds ρ1 = some r := h2
    refine ⟨F, ρ, ds, none, ρ1, A.sd, h1, fun J F1 H1 G1 S1 s1 wk => ?_⟩
    obtain ⟨Gc, Y, Sr, W, hSr, hG, hY⟩ := wk
    have A1 := A.expr G1 S1 s1
    have A1' := A1.re
    refine for_it W (fun k σ2 H2 => ∃ F2 ρ2, Ba X.K (reB B F1 H1 σ ρ1) F2 H2 σ2 ρ2 ∧ goFor h g (ds.drop k) ρ2 = some r) ⟨F1, ρ1, A1', by simpa using h2⟩ (fun k σ2 H2 hk ⟨F2, ρ2, A2, _⟩ => ?_) (fun k x σ2 H2 H3 hk ⟨F2, ρ2, A2, q2⟩ y => ?_) (fun σ2 H2 ⟨F2, ρ2, A2, q2⟩ => ?_)
    · refine hG H2 (A2.fr0.trans A2.sd.sub) fun a o sr e => ?_
      rcases hSr a sr with ⟨n, nO⟩ | ⟨i, b, d, z, _⟩
      · refine A2.keep0 a o e (fun z => A.wf0 a (.inl z) (A.there0 a n)) fun z => ?_
        rcases z with z | ⟨i, d, h1, h2⟩
        · exact A.wf0 a (.inr z) (A.there0 a n)
        · exact nO ⟨i, false, d, h1, h2⟩
      · cases z
    · obtain ⟨d, hd, yr⟩ := hY k H2 x H3 (A2.fr0.trans A2.sd.sub) y
      obtain ⟨F3, G3, S3, r3, s3⟩ := yr.take (Ow := OwA σ2 ρ2) A2.fr0 A2.sd
      have A3 := A2.expr G3 S3 (Shape.refl ρ2)
      rw [getElem?_drop0 hd] at q2
      simp only [goFor, Option.bind_eq_some_iff] at q2
      obtain ⟨ρ4, e4, rr, e5, e6⟩ := q2
      refine ⟨F3, ρ2, d, ρ4, S3, r3, e4, fun σ4 t4 => ?_⟩
      refine ⟨_, F3, ρ4, rr, t4.ba A3, e5, ?_⟩
      cases rr with
      | nx ρ5 => exact fun F5 H5 σ5 A5 => ⟨F5, ρ5, A5, e6⟩
      | ct ρ5 => exact fun F5 H5 σ5 A5 => ⟨F5, ρ5, A5, e6⟩
      | bk ρ5 =>
        cases e6
        exact fun F5 H5 σ5 A5 => p F5 H5 σ5 (A1.back A5)
      | rt o ρ5 =>
        cases e6
        exact fun F5 H5 σ5 v A5 ov => p F5 H5 σ5 v (A1.back A5) (OpOk.back A1 ov)
    · rw [List.drop_of_length_le (Nat.le_refl _)] at q2
      cases q2
      exact p F2 H2 σ2 (A1.back A2)
end
end DL

namespace DL
open PySem PySem.Spec L2
theorem PI.or {X : Cx} {tg e : Expr} {t t' : TI} (h : PI X tg e t) (h' : PI X tg e t') : PI X tg e (fun σ H R => t σ H R ∨ t' σ H R) := ⟨fun pins s σ H R I q => q.elim (h.run pins s σ H R I) (h'.run pins s σ H R I)⟩
theorem PE.or {X : Cx} {e : Expr} {t t' : TE} (h : PE X e t) (h' : PE X e t') : PE X e (fun σ H R => t σ H R ∨ t' σ H R) := ⟨fun pins s σ H R I q => q.elim (h.run pins s σ H R I) (h'.run pins s σ H R I)⟩
def osOf : Opd → Option Nat
  | .own i => some i
  | _ => none
def fSeq (fe : FE) : FI := fun ρ => (fe ρ).bind fun r => match deref r.2 r.1 with
  | some (.list ds) => some (ds, osOf r.1, r.2)
  | some (.tuple ds) => some (ds, none, r.2)
  | _ => none
section
variable {K : PySem.W.Frag} {H0 H F1 H1 : Hp} {σ : L2.St} {ρ1 : Ce}
/-- where a list operand stands: in the frozen heap, new, or a slot's own -/
theorem OpOk.src {v : V} {o : Opd} {ds : List D} (h : OpOk K H F1 H1 σ ρ1 v o) (S : Sd K F1 H1 σ ρ1) (e : deref ρ1 o = some (.list ds)) :
    ∃ a xs, v = .ref a ∧ H1 a = some (.lst xs) ∧ RpL K F1 xs ds ∧ (F1 a = some (.lst xs) ∨ (H a = none ∧ ¬ OwA σ ρ1 a) ∨ ∃ i b d, osOf o = some i ∧ ρ1[i]? = some (.own b d) ∧ σ[i]? = some (some (.ref a))) := by
  cases o with
  | frz d' =>
    cases e
    cases h with
    | lst q r => exact ⟨_, _, rfl, S.sub _ _ q, r, .inl q⟩
  | own i =>
    obtain ⟨a, xs, rfl, h1, h2⟩ := OpOk.list h S e
    obtain ⟨q1, b, d, q2⟩ := h
    exact ⟨a, xs, rfl, h1, h2, .inr (.inr ⟨i, b, d, rfl, q2, q1⟩)⟩
  | new d' =>
    obtain ⟨a, xs, e1, h1, h2⟩ := OpOk.list h S e
    obtain ⟨a', rfl, n0, nF, nO, t⟩ := h
    cases e1
    exact ⟨a, xs, rfl, h1, h2, .inr (.inl ⟨n0, nO⟩)⟩
theorem YR.items {xs : List V} {ds : List D} (r : RpL K F1 xs ds) {i : Nat} {H2 H3 : Hp} {x : V} (y : YAt xs i H2 x H3) : ∃ d, ds[i]? = some d ∧ YR K F1 H2 x H3 d := by
  obtain ⟨d, h1, h2⟩ := r.get y.2
  exact ⟨d, h1, .inl ⟨y.1, h2⟩⟩
/-- a walk over a list that stands so -/
theorem walk_src {a : Addr} {xs : List V} {os : Option Nat} {J : It} {Y : Nat → Hp → V → Hp → Prop} {es : List D} (hH : H1 a = some (.lst xs))
    (src : F1 a = some (.lst xs) ∨ (H a = none ∧ ¬ OwA σ ρ1 a) ∨ ∃ (i : Nat) (b : Bool) (d : D), os = some i ∧ ρ1[i]? = some (Cell.own b d) ∧ σ[i]? = some (some (.ref a)))
    (w : Walk J es.length (fun H => SqL K H a xs) Y) (hY : ∀ i H2 x H3, Same F1 H2 → Y i H2 x H3 → ∃ d, es[i]? = some d ∧ YR K F1 H2 x H3 d) : WalkOk K H F1 H1 σ ρ1 os J es := by
  refine ⟨_, Y, fun b => b = a ∧ F1 a ≠ some (.lst xs), w, fun b sr => ?_, fun H2 s2 k2 => ?_, hY⟩
  · obtain ⟨rfl, nf⟩ := sr
    rcases src with z | z | z
    · exact (nf z).elim
    · exact .inl z
    · exact .inr z
  · rcases Classical.em (F1 a = some (.lst xs)) with z | z
    · exact .inl (.inl (s2 _ _ z))
    · exact .inl (.inl (k2 a _ ⟨rfl, z⟩ hH))
end
section
variable {X : Cx} {tg e e2 : Expr} {fe fe2 : FE} {fa : FA} {pos p : Pos}
theorem ij_seq (he : EJ X e fe) : IJ X tg e (fSeq fe) := by
  refine PI.weak (PI.or (pi_list he) (pi_tup he)) fun σ H R c => ?_
  obtain ⟨F, ρ, ds, os, ρ', S, hf, k⟩ := c
  simp only [fSeq, Option.bind_eq_some_iff] at hf
  obtain ⟨⟨x, ρ1⟩, h1, h2⟩ := hf
  split at h2
  · rename_i ds' e'
    cases h2
    refine .inl (one S h1 fun v F1 H1 G1 S1 s1 ov => ?_)
    obtain ⟨a, xs, rfl, hH, r, src⟩ := ov.src S1 e'
    refine ⟨a, rfl, ⟨xs, .inl (.inl hH)⟩, k _ F1 H1 G1 S1 s1 ?_⟩
    have hl : xs.length = ds.length := r.length
    exact walk_src hH src (by rw [← hl]; exact walk_list) fun i H2 y H3 _ q => YR.items r q
  · rename_i ds' e'
    cases h2
    refine .inr (one S h1 fun v F1 H1 G1 S1 s1 ov => ?_)
    obtain ⟨a, xs, rfl, hF, r⟩ := ov.tuple S1 e'
    refine ⟨a, rfl, ⟨xs, .inl (.inl (S1.sub _ _ hF))⟩, k _ F1 H1 G1 S1 s1 ?_⟩
    have hl : xs.length = ds.length := r.length
    refine ⟨_, _, fun _ => False, by rw [← hl]; exact walk_tup, fun _ z => z.elim, fun H2 s2 _ => Or.inl (Or.inl (s2 _ _ hF)), fun i H2 y H3 _ q => YR.items r q⟩
  · cases h2
/-! ### ranges -/
def rngD (lo c : Int) : Nat → List D
  | 0 => []
  | n + 1 => .int lo :: rngD (lo + c) c n
theorem rngD_len (c : Int) : ∀ (n : Nat) (lo : Int), (rngD lo c n).length = n
  | 0, _ => rfl
  | n + 1, lo => congrArg (· + 1) (rngD_len c n (lo + c))
theorem rngD_get (c : Int) : ∀ (n : Nat) (lo : Int) (i : Nat), i < n → (rngD lo c n)[i]? = some (.int (lo + (i : Int) * c))
  | 0, _, _, h => absurd h (Nat.not_lt_zero _)
  | n + 1, lo, 0, _ => by simp [rngD]
  | n + 1, lo, i + 1, h => by
    show (rngD (lo + c) c n)[i]? = _
    rw [rngD_get c n (lo + c) i (by omega)]
    have : lo + c + (i : Int) * c = lo + ((i + 1 : Nat) : Int) * c := by
      rw [Int.natCast_add, Int.add_mul]; simp; omega
    rw [this]
def okR (i : Int) : Bool := decide (-(2 ^ 62) ≤ i ∧ i < 2 ^ 62)
def fRng (fa : FA) : FI := fun ρ => (fa ρ).bind fun r => match r.1 with
  | [.frz (.int j)] => if okR j = true then some (rngD 0 1 j.toNat, none, r.2) else none
  | [.frz (.int i), .frz (.int j)] => if okR i = true ∧ okR j = true then some (rngD i 1 (j - i).toNat, none, r.2) else none
  | [.frz (.int i), .frz (.int j), .frz (.int (-1))] => if okR i = true ∧ okR j = true then some (rngD i (-1) (i - j).toNat, none, r.2) else none
  | _ => none
theorem okR_of {i : Int} (h : okR i = true) : -(2 ^ 62) ≤ i ∧ i < 2 ^ 62 := of_decide_eq_true h
theorem walk_rng {K : PySem.W.Frag} {H F1 H1 : Hp} {σ : L2.St} {ρ1 : Ce} {lo c : Int} {n : Nat} {J : It} (w : Walk J n (fun _ => True) (YFn fun i => .int (lo + (i : Int) * c))) : WalkOk K H F1 H1 σ ρ1 none J (rngD lo c n) := by
  refine ⟨_, fun i H2 x H3 => i < n ∧ YFn (fun i => .int (lo + (i : Int) * c)) i H2 x H3, fun _ => False, ?_, fun _ z => z.elim, fun _ _ _ => True.intro, fun i H2 x H3 _ q => ?_⟩
  · rw [rngD_len]
    exact ⟨w.goes, w.stops, fun i H x H' hi g y => ⟨hi, w.yields i H x H' hi g y⟩⟩
  · obtain ⟨hi, e1, rfl⟩ := q
    exact ⟨_, rngD_get c n lo i hi, .inl ⟨e1, .int _⟩⟩
theorem args1 {K : PySem.W.Frag} {F : Hp} {σ : L2.St} {ρ : Ce} {vs : List V} {i : Int} (h : ArgsOk K F σ ρ vs [.frz (.int i)]) : vs = [.int i] := by
  match vs, h with
  | [v], ⟨h1, _⟩ => cases h1; rfl
theorem args2 {K : PySem.W.Frag} {F : Hp} {σ : L2.St} {ρ : Ce} {vs : List V} {i j : Int} (h : ArgsOk K F σ ρ vs [.frz (.int i), .frz (.int j)]) : vs = [.int i, .int j] := by
  match vs, h with
  | [v, w], ⟨h1, h2, _⟩ => cases h1; cases h2; rfl
theorem args3 {K : PySem.W.Frag} {F : Hp} {σ : L2.St} {ρ : Ce} {vs : List V} {i j k : Int} (h : ArgsOk K F σ ρ vs [.frz (.int i), .frz (.int j), .frz (.int k)]) : vs = [.int i, .int j, .int k] := by
  match vs, h with
  | [v, w, u], ⟨h1, h2, h3, _⟩ => cases h1; cases h2; cases h3; rfl
theorem frng1 {ρ ρ' : Ce} {ds : List D} {os : Option Nat} (h : fRng fa ρ = some (ds, os, ρ')) (hl : ∀ os ρ1, fa ρ = some (os, ρ1) → os.length = 1) : ∃ j, fa ρ = some ([.frz (.int j)], ρ') ∧ okR j = true ∧ ds = rngD 0 1 j.toNat ∧ os = none := by
  simp only [fRng, Option.bind_eq_some_iff] at h
  obtain ⟨⟨x, ρ1⟩, h1, h2⟩ := h
  have l := hl _ _ h1
  split at h2
  · rename_i j e
    simp only at e
    subst e
    split at h2
    · rename_i c; cases h2; exact ⟨j, h1, c, rfl, rfl⟩
    · cases h2
  · rename_i e; simp only at e; subst e; simp at l
  · rename_i e; simp only at e; subst e; simp at l
  · cases h2
theorem ij_rng1 (hg : Gl X "range") (hm : X.mg "range" = none) (he : EJ X e fe) (hs : starEach [e] X.env = [(false, eval e X.env)] := by rfl) : IJ X tg (.Call (.Name "range" p) [e] [] pos) (fRng (faC fe faN)) := by
  refine PI.weak (pi_range1 hg hm (aj_cons he aj_nil hs) hs) fun σ H R c => ?_
  obtain ⟨F, ρ, ds, os, ρ', S, hf, k⟩ := c
  have hl : ∀ os ρ1, faC fe faN ρ = some (os, ρ1) → os.length = 1 := fun os ρ1 h => by
    simp only [faC, faN, Option.bind_eq_some_iff] at h
    obtain ⟨x, _, y, h2, h3⟩ := h
    cases h2; cases h3; rfl
  obtain ⟨j, h1, ok, rfl, rfl⟩ := frng1 hf hl
  refine ⟨F, ρ, _, ρ', S, h1, fun vs F1 H1 G1 S1 s1 av => ⟨j, args1 av, (okR_of ok).1, (okR_of ok).2, k _ F1 H1 G1 S1 s1 (walk_rng ?_)⟩⟩
  exact walk_range.mono (fun _ z => z) fun i H2 x H3 _ _ q => ⟨q.1, by have z := q.2; simp only [Int.mul_one]; exact z⟩
theorem ij_rng2 {fe2 : FE} (hg : Gl X "range") (hm : X.mg "range" = none) (he : EJ X e fe) (he2 : EJ X e2 fe2) (hs : starEach [e, e2] X.env = [(false, eval e X.env), (false, eval e2 X.env)] := by rfl) (hs2 : starEach [e2] X.env = [(false, eval e2 X.env)] := by rfl) :
    IJ X tg (.Call (.Name "range" p) [e, e2] [] pos) (fRng (faC fe (faC fe2 faN))) := by
  refine PI.weak (pi_range2 hg hm (aj_cons he (aj_cons he2 aj_nil hs2) (hs.trans (by rw [hs2]))) hs hs2) fun σ H R c => ?_
  obtain ⟨F, ρ, ds, os, ρ', S, hf, k⟩ := c
  simp only [fRng, Option.bind_eq_some_iff] at hf
  obtain ⟨⟨x, ρ1⟩, h1, h2⟩ := hf
  have l : x.length = 2 := by
    simp only [faC, faN, Option.bind_eq_some_iff] at h1
    obtain ⟨x1, _, y, ⟨x2, _, z, h3, h4⟩, h5⟩ := h1
    cases h3; cases h4; cases h5; rfl
  split at h2
  · rename_i e; simp only at e; subst e; simp at l
  · rename_i i j e
    simp only at e
    subst e
    split at h2
    · rename_i c
      cases h2
      refine ⟨F, ρ, _, _, S, h1, fun vs F1 H1 G1 S1 s1 av => ⟨i, j, args2 av, ⟨(okR_of c.1).1, (okR_of c.1).2, (okR_of c.2).1, (okR_of c.2).2⟩, k _ F1 H1 G1 S1 s1 (walk_rng ?_)⟩⟩
      exact walk_range.mono (fun _ z => z) fun i H2 x H3 _ _ q => ⟨q.1, by have z := q.2; simp only [Int.mul_one]; exact z⟩
    · cases h2
  · rename_i e; simp only at e; subst e; simp at l
  · cases h2
theorem ij_rng3 {e3 : Expr} {fe2 fe3 : FE} (hg : Gl X "range") (hm : X.mg "range" = none) (he : EJ X e fe) (he2 : EJ X e2 fe2) (he3 : EJ X e3 fe3) (hs : starEach [e, e2, e3] X.env = (false, eval e X.env) :: starEach [e2, e3] X.env := by rfl) (hs2 : starEach [e2, e3] X.env = (false, eval e2 X.env) :: starEach [e3] X.env := by rfl)
    (hs3 : starEach [e3] X.env = [(false, eval e3 X.env)] := by rfl) (hpl : (backTo pos (starEach [e2, e3] X.env)).any (·.1) = false := by rfl) :
    IJ X tg (.Call (.Name "range" p) [e, e2, e3] [] pos) (fRng (faC fe (faC fe2 (faC fe3 faN)))) := by
  refine PI.weak (pi_range3 hg hm (aj_cons he (aj_cons he2 (aj_cons he3 aj_nil hs3) hs2) hs) hs hpl) fun σ H R c => ?_
  obtain ⟨F, ρ, ds, os, ρ', S, hf, k⟩ := c
  simp only [fRng, Option.bind_eq_some_iff] at hf
  obtain ⟨⟨x, ρ1⟩, h1, h2⟩ := hf
  have l : x.length = 3 := by
    simp only [faC, faN, Option.bind_eq_some_iff] at h1
    obtain ⟨x1, _, y, ⟨x2, _, z, ⟨x3, _, w, h6, h7⟩, h4⟩, h5⟩ := h1
    cases h6; cases h7; cases h4; cases h5; rfl
  split at h2
  · rename_i e; simp only at e; subst e; simp at l
  · rename_i e; simp only at e; subst e; simp at l
  · rename_i i j e
    simp only at e
    subst e
    split at h2
    · rename_i c
      cases h2
      refine ⟨F, ρ, _, _, S, h1, fun vs F1 H1 G1 S1 s1 av => ⟨i, j, -1, (i - j).toNat, args3 av, RgC.neg (okR_of c.1).1 (okR_of c.1).2 (okR_of c.2).1 (okR_of c.2).2, k _ F1 H1 G1 S1 s1 (walk_rng walk_rangeC)⟩⟩
    · cases h2
  · cases h2
/-! ### enumerate -/
def enumD : Int → List D → List D
  | _, [] => []
  | k, d :: ds => .tuple [.int k, d] :: enumD (k + 1) ds
theorem enumD_len : ∀ (ds : List D) (k : Int), (enumD k ds).length = ds.length
  | [], _ => rfl
  | _ :: ds, k => congrArg (· + 1) (enumD_len ds (k + 1))
theorem enumD_get : ∀ (ds : List D) (k : Int) (i : Nat), (enumD k ds)[i]? = ds[i]?.map fun d => .tuple [.int (k + i), d]
  | [], _, i => by simp [enumD]
  | d :: ds, k, 0 => by simp [enumD]
  | d :: ds, k, i + 1 => by
    show (enumD (k + 1) ds)[i]? = _
    rw [enumD_get ds (k + 1) i, List.getElem?_cons_succ]
    have : k + 1 + (i : Int) = k + ((i + 1 : Nat) : Int) := by omega
    rw [this]
def fEnum (fe : FE) : FI := fun ρ => (fe ρ).bind fun r => match deref r.2 (argO r.1) with
  | some (.list ds) => some (enumD 0 ds, osOf r.1, r.2)
  | _ => none
theorem osOf_arg (o : Opd) : osOf (argO o) = osOf o := by cases o <;> rfl
theorem ij_enum {elts : List Expr} {kk : Nat} {tpos : Pos} (hg : Gl X "enumerate") (hm : X.mg "enumerate" = none) (he : EJ X e fe) (hs : starEach [e] X.env = [(false, eval e X.env)] := by rfl) :
    IJ X (.Tuple elts kk tpos) (.Call (.Name "enumerate" p) [e] [] pos) (fEnum fe) := by
  refine PI.weak (pi_enum hg hm (aj_cons he aj_nil hs) hs) fun σ H R c => ?_
  obtain ⟨F, ρ, ds, os, ρ', S, hf, k⟩ := c
  simp only [fEnum, Option.bind_eq_some_iff] at hf
  obtain ⟨⟨x, ρ1⟩, h1, h2⟩ := hf
  split at h2
  · rename_i ds' e'
    cases h2
    refine ⟨F, ρ, [argO x], ρ1, S, by simp only [faC, faN, h1, Option.bind_some], fun vs F1 H1 G1 S1 s1 av => ?_⟩
    cases vs with
    | nil => exact av.elim
    | cons v vs =>
      cases vs with
      | cons _ _ => exact av.2.elim
      | nil =>
        obtain ⟨a, xs, rfl, hH, r, src⟩ := (av.1.op (H0 := H) (H := H1)).src S1 e'
        refine ⟨a, xs, rfl, .inl (.inl hH), k _ F1 H1 G1 S1 s1 ?_⟩
        rw [osOf_arg] at src
        refine walk_src hH src (es := enumD 0 ds') (by rw [enumD_len, ← r.length]; exact walk_enum) fun i H2 y H3 s2 q => ?_
        obtain ⟨T, z1, z2, e1, e2, e3, e4, e5⟩ := q
        cases e4
        obtain ⟨d, g1, g2⟩ := r.get e5
        refine ⟨.tuple [.int i, d], by rw [enumD_get, g1]; simp, .inr ⟨T, _, z2, _, d, e1, e2, e3, .int _, g2, rfl⟩⟩
  · cases h2
/-! ### zip of two lists or two tuples -/
def zipD : List D → List D → List D
  | d :: ds, e :: es => .tuple [d, e] :: zipD ds es
  | _, _ => []
theorem zipD_len : ∀ ds es : List D, (zipD ds es).length = min ds.length es.length
  | [], _ => by simp [zipD]
  | _ :: _, [] => by simp [zipD]
  | _ :: ds, _ :: es => by simp [zipD, zipD_len ds es]
theorem zipD_get : ∀ (ds es : List D) (i : Nat) (d e : D), ds[i]? = some d → es[i]? = some e → (zipD ds es)[i]? = some (.tuple [d, e])
  | [], _, i, _, _, h, _ => by simp at h
  | _ :: _, [], i, _, _, _, h => by simp at h
  | a :: ds, b :: es, 0, d, e, h1, h2 => by simp at h1 h2; subst h1; subst h2; rfl
  | a :: ds, b :: es, i + 1, d, e, h1, h2 => zipD_get ds es i d e (by simpa using h1) (by simpa using h2)
end
end DL

set_option maxHeartbeats 1000000
/-! zip over any two sequences (lists, tuples, mixed); enumerate over a tuple. -/
namespace DL
open PySem PySem.Spec L2
section
variable {prog : Program} {w : World} {A : Around} {E : Value → Shared → Prop} {s : Shared}
theorem draws_tuple (hh : A.handled = none) (it l : Addr) (hne : l ≠ it) (items : Array Value) :
    Draws prog w A it [it, l] items.size (fun i v => items[i]? = some v) (fun i h => h.IsTupleIter it l i ∧ h.IsTuple l items) where
  live := fun _ _ st => let ⟨o, ho, _⟩ := st.1; ⟨o, ho⟩
  frame := fun _ _ _ st k => ⟨st.1.at fun o e => k it (by simp) o e, st.2.at fun o e => k l (by simp) o e⟩
  item := fun i s Q E hi st hQ => RZ.nextOf_tuple_item st.1 st.2 (x := items[i]) (by simp [hi]) fun h' st' sb => hQ _ h' s.toks (by simp [hi]) ⟨st', st.2.extBut sb.extBut hne⟩ sb
  done := fun s Q E st hE => RZ.nextOf_tuple_end hh st.1 st.2 (by simp) hE

/-- the five objects of a zip over what i1 and i2 draw stand apart -/
structure Apart2 (z TI TO i1 i2 : Addr) (fp1 fp2 : List Addr) : Prop where
  TIz : TI ≠ z
  TOz : TO ≠ z
  i1z : i1 ≠ z
  i2z : i2 ≠ z
  TITO : TI ≠ TO
  TIi1 : TI ≠ i1
  TIi2 : TI ≠ i2
  TOi1 : TO ≠ i1
  TOi2 : TO ≠ i2
  i12 : i1 ≠ i2
  z1 : z ∉ fp1
  z2 : z ∉ fp2
  T1 : TO ∉ fp1
  T2 : TO ∉ fp2
  x1 : i2 ∉ fp1
  x2 : i1 ∉ fp2
section
variable {z TI TO i1 i2 : Addr} {fp1 fp2 : List Addr} {n1 n2 k1 k2 : Nat} {P1 P2 : Nat → Value → Prop} {S1 S2 : Nat → Heap → Prop} {a b : Value}
theorem out_of {fp : List Addr} {c : Addr} {h h' : Heap} (n : c ∉ fp) (k : ∀ d o, d ≠ c → h.get? d = some o → h'.get? d = some o) : ∀ d ∈ fp, ∀ o, h.get? d = some o → h'.get? d = some o := fun d hd o e => k d o (fun q => n (q ▸ hd)) e
theorem zipG_item {Q : Value → Shared → Prop} (Ap : Apart2 z TI TO i1 i2 fp1 fp2) (D1 : Draws prog w A i1 fp1 n1 P1 S1) (D2 : Draws prog w A i2 fp2 n2 P2 S2)
    (hz : IsZip s.heap z TI TO .none) (hI : IsPair s.heap TI (.ref i1) (.ref i2)) (hO : IsPair s.heap TO a b) (st1 : S1 k1 s.heap) (st2 : S2 k2 s.heap) (lt1 : k1 < n1) (lt2 : k2 < n2)
    (hQ : ∀ h' tk x y, P1 k1 x → P2 k2 y → IsZip h' z TI TO (rawInt s.heap.objs.size) → IsPair h' TO x y → S1 (k1 + 1) h' → S2 (k2 + 1) h' → IsPair h' s.heap.objs.size x y → h'.objs.size = s.heap.objs.size + 1 →
      (∀ c o, c ≠ z → c ≠ TO → c ≠ i1 → c ≠ i2 → s.heap.get? c = some o → h'.get? c = some o) → Q (.ref s.heap.objs.size) { s with heap := h', toks := tk }) :
    wpAny (model prog w) A (Builtin.«zip.__next__» ⟨[.ref z], []⟩) (fun fin s' => ∃ v, fin = .done (.ret v) ∧ Q v s') E s := by
  obtain ⟨hp, g, d, tk₀, os⟩ := s
  show wpAny _ _ (field (.ref z) 2 >>= _) _ _ _
  refine wpAny_bind (wpAny_field hz rfl (x := .bool false) rfl ?_)
  show wpAny _ _ (field (.ref z) 3 >>= _) _ _ _
  refine wpAny_bind (wpAny_field hz rfl (x := .ref TI) rfl (wpAny_bind (wpAny_seqItems hI rfl ?_)))
  show wpAny _ _ (Builtin.SmallTypes.ownedTupleIsFree (.ref z) >>= _) _ _ _
  unfold Builtin.SmallTypes.ownedTupleIsFree
  refine wpAny_bind (wpAny_bind (wpAny_field hz rfl (x := .none) rfl (wpAny_pure ?_)))
  simp only [if_true]
  refine wpAny_bind (wpAny_rule (wpAny_bind (wpAny_field hz rfl (x := .ref TO) rfl (wpAny_bind (wpAny_setField_rec hz (by simp) fun ha za sa => ?_)))))
  replace za : IsZip ha z TI TO .ellipsis := za
  replace sa : Heap.SameBut z hp ha := sa
  refine wpAny_bind ?_
  simp only [List.zipIdx_cons, List.zipIdx_nil, List.forIn_cons, List.forIn_nil]
  -- the first
  refine wpAny_bind (wpAny_bind (wpAny_onRaise ?_))
  show wpAny _ _ (Builtin.SmallTypes.nextOf (.ref i1) >>= _) _ _ _
  refine wpAny_bind (D1.item k1 ⟨ha, g, d, tk₀, os⟩ _ _ lt1 (D1.frame _ _ _ st1 (out_of Ap.z1 sa.extBut)) fun x hb tk1 px stb sb => wpAny_pure ?_)
  replace sb : Heap.SameBut i1 ha hb := sb
  have Ob : IsPair hb TO a b := sb.extBut _ _ Ap.TOi1 (sa.extBut _ _ Ap.TOz hO)
  refine wpAny_bind (wpAny_seqItems (s := ⟨hb, g, d, tk1, os⟩) Ob rfl (wpAny_bind (wpAny_updateSeq_pair (s := ⟨hb, g, d, tk1, os⟩) Ob fun hc Oc sc => ?_)))
  replace Oc : IsPair hc TO x b := Oc
  replace sc : Heap.SameBut TO hb hc := sc
  refine wpAny_bind (wpAny_letGo (wpAny_pure ?_))
  -- the second
  refine wpAny_bind (wpAny_bind (wpAny_onRaise ?_))
  show wpAny _ _ (Builtin.SmallTypes.nextOf (.ref i2) >>= _) _ _ _
  have st2c : S2 k2 hc := D2.frame _ _ _ (D2.frame _ _ _ (D2.frame _ _ _ st2 (out_of Ap.z2 sa.extBut)) (out_of Ap.x2 sb.extBut)) (out_of Ap.T2 sc.extBut)
  refine wpAny_bind (D2.item k2 ⟨hc, g, d, tk1, os⟩ _ _ lt2 st2c fun y hd tk2 py std sd => wpAny_pure ?_)
  replace sd : Heap.SameBut i2 hc hd := sd
  have Od : IsPair hd TO x b := sd.extBut _ _ Ap.TOi2 Oc
  refine wpAny_bind (wpAny_seqItems (s := ⟨hd, g, d, tk2, os⟩) Od rfl (wpAny_bind (wpAny_updateSeq_pair (s := ⟨hd, g, d, tk2, os⟩) Od fun he Oe se => ?_)))
  replace Oe : IsPair he TO x y := Oe
  replace se : Heap.SameBut TO hd he := se
  refine wpAny_bind (wpAny_letGo (wpAny_pure (wpAny_pure ?_)))
  -- the pair handed out
  refine wpAny_bind (wpAny_seqItems (s := ⟨he, g, d, tk2, os⟩) Oe rfl (wpAny_bind (wpAny_newTuple ?_)))
  have size : he.objs.size = hp.objs.size := by rw [se.1, sd.1, sc.1, sb.1, sa.1]
  have ze : IsZip he z TI TO .ellipsis := se.extBut _ _ Ap.TOz.symm (sd.extBut _ _ Ap.i2z.symm (sc.extBut _ _ Ap.TOz.symm (sb.extBut _ _ Ap.i1z.symm za)))
  have keep : ∀ c o, c ≠ z → c ≠ TO → c ≠ i1 → c ≠ i2 → hp.get? c = some o → he.get? c = some o := fun c o c1 c2 c3 c4 e =>
    se.extBut _ _ c2 (sd.extBut _ _ c4 (sc.extBut _ _ c2 (sb.extBut _ _ c3 (sa.extBut _ _ c1 e))))
  have f1 : S1 (k1 + 1) he := D1.frame _ _ _ (D1.frame _ _ _ (D1.frame _ _ _ stb (out_of Ap.T1 sc.extBut)) (out_of Ap.x1 sd.extBut)) (out_of Ap.T1 se.extBut)
  have f2 : S2 (k2 + 1) he := D2.frame _ _ _ std (out_of Ap.T2 se.extBut)
  have zl : z < he.objs.size := Heap.lt_size ze
  show wpAny _ _ (Builtin.SmallTypes.ownedTupleHandOut (.ref z) (.ref he.objs.size) >>= _) _ _ _
  unfold Builtin.SmallTypes.ownedTupleHandOut
  have zf : IsZip (he.push { cls := .type "tuple", data := .seq #[x, y] }) z TI TO .ellipsis := Heap.get?_push_of_some _ ze
  refine wpAny_bind (wpAny_bind (wpAny_setField_rec (s := ⟨he.push { cls := .type "tuple", data := .seq #[x, y] }, g, d, tk2, os⟩) zf (by simp) fun hm zm sm => ?_))
  replace zm : IsZip hm z TI TO (rawInt he.objs.size) := zm
  refine wpAny_setField_rec zm (by simp) fun hn zn sn => ?_
  replace zn : IsZip hn z TI TO (rawInt he.objs.size) := zn
  have up : ∀ c o, c ≠ z → he.get? c = some o → hn.get? c = some o := fun c o c1 e => sn.extBut _ _ c1 (sm.extBut _ _ c1 (Heap.get?_push_of_some _ e))
  have Tn : IsPair hn he.objs.size x y := sn.extBut _ _ (Nat.ne_of_gt zl) (sm.extBut _ _ (Nat.ne_of_gt zl) (Heap.get?_push_size _ rfl))
  have size2 : hn.objs.size = he.objs.size + 1 := by rw [sn.1, sm.1, Heap.size_push]
  rw [size] at zn Tn size2
  refine wpAny_pure ⟨_, rfl, ?_⟩
  show Q (.ref he.objs.size) _
  rw [size]
  exact hQ hn tk2 x y px py zn (up _ _ Ap.TOz Oe) (D1.frame _ _ _ f1 (out_of Ap.z1 up)) (D2.frame _ _ _ f2 (out_of Ap.z2 up)) Tn size2 fun c o c1 c2 c3 c4 e => up c o c1 (keep c o c1 c2 c3 c4 e)
theorem zipG_end {Q : Fin → Shared → Prop} (Ap : Apart2 z TI TO i1 i2 fp1 fp2) (D1 : Draws prog w A i1 fp1 n1 P1 S1) (D2 : Draws prog w A i2 fp2 n2 P2 S2)
    (hz : IsZip s.heap z TI TO .none) (hI : IsPair s.heap TI (.ref i1) (.ref i2)) (hO : IsPair s.heap TO a b) (st1 : S1 k1 s.heap) (st2 : S2 k2 s.heap) (e12 : k1 = n1 ∨ (k1 < n1 ∧ k2 = n2))
    (hE : ∀ h' tk e, (∀ c o, c ≠ z → c ≠ TO → c ≠ i1 → c ≠ i2 → s.heap.get? c = some o → h'.get? c = some o) → (∃ o, h'.get? e = some o ∧ o.cls = .type "StopIteration") → E (.ref e) { s with heap := h', toks := tk }) :
    wpAny (model prog w) A (Builtin.«zip.__next__» ⟨[.ref z], []⟩) Q E s := by
  obtain ⟨hp, g, d, tk₀, os⟩ := s
  show wpAny _ _ (field (.ref z) 2 >>= _) _ _ _
  refine wpAny_bind (wpAny_field hz rfl (x := .bool false) rfl ?_)
  show wpAny _ _ (field (.ref z) 3 >>= _) _ _ _
  refine wpAny_bind (wpAny_field hz rfl (x := .ref TI) rfl (wpAny_bind (wpAny_seqItems hI rfl ?_)))
  show wpAny _ _ (Builtin.SmallTypes.ownedTupleIsFree (.ref z) >>= _) _ _ _
  unfold Builtin.SmallTypes.ownedTupleIsFree
  refine wpAny_bind (wpAny_bind (wpAny_field hz rfl (x := .none) rfl (wpAny_pure ?_)))
  simp only [if_true]
  refine wpAny_bind (wpAny_rule (wpAny_bind (wpAny_field hz rfl (x := .ref TO) rfl (wpAny_bind (wpAny_setField_rec hz (by simp) fun ha za sa => ?_)))))
  replace za : IsZip ha z TI TO .ellipsis := za
  replace sa : Heap.SameBut z hp ha := sa
  refine wpAny_bind ?_
  simp only [List.zipIdx_cons, List.zipIdx_nil, List.forIn_cons, List.forIn_nil]
  refine wpAny_bind (wpAny_bind (wpAny_onRaise ?_))
  show wpAny _ _ (Builtin.SmallTypes.nextOf (.ref i1) >>= _) _ _ _
  have st1a : S1 k1 ha := D1.frame _ _ _ st1 (out_of Ap.z1 sa.extBut)
  rcases e12 with e1 | ⟨lt1, e2⟩
  · subst e1
    refine wpAny_bind (D1.done ⟨ha, g, d, tk₀, os⟩ _ _ st1a fun hb e sb st => ?_)
    obtain ⟨oe, ge, ce⟩ := st
    have zb : IsZip hb z TI TO .ellipsis := sb _ _ Ap.i1z.symm za
    have ne : e ≠ z := fun q => by subst q; rw [zb] at ge; cases ge; simp at ce
    exact wpAny_setField_rec zb (by simp) fun hc _ sc => hE hc _ e (fun c o c1 _ c3 _ q => sc.extBut _ _ c1 (sb _ _ c3 (sa.extBut _ _ c1 q))) ⟨oe, sc.extBut _ _ ne ge, ce⟩
  · subst e2
    refine wpAny_bind (D1.item k1 ⟨ha, g, d, tk₀, os⟩ _ _ lt1 st1a fun x hb tk1 px stb sb => wpAny_pure ?_)
    replace sb : Heap.SameBut i1 ha hb := sb
    have Ob : IsPair hb TO a b := sb.extBut _ _ Ap.TOi1 (sa.extBut _ _ Ap.TOz hO)
    refine wpAny_bind (wpAny_seqItems (s := ⟨hb, g, d, tk1, os⟩) Ob rfl (wpAny_bind (wpAny_updateSeq_pair (s := ⟨hb, g, d, tk1, os⟩) Ob fun hc Oc sc => ?_)))
    replace sc : Heap.SameBut TO hb hc := sc
    refine wpAny_bind (wpAny_letGo (wpAny_pure ?_))
    refine wpAny_bind (wpAny_bind (wpAny_onRaise ?_))
    show wpAny _ _ (Builtin.SmallTypes.nextOf (.ref i2) >>= _) _ _ _
    have st2c : S2 k2 hc := D2.frame _ _ _ (D2.frame _ _ _ (D2.frame _ _ _ st2 (out_of Ap.z2 sa.extBut)) (out_of Ap.x2 sb.extBut)) (out_of Ap.T2 sc.extBut)
    refine wpAny_bind (D2.done ⟨hc, g, d, tk1, os⟩ _ _ st2c fun hd e sd st => ?_)
    obtain ⟨oe, ge, ce⟩ := st
    have zd : IsZip hd z TI TO .ellipsis := sd _ _ Ap.i2z.symm (sc.extBut _ _ Ap.TOz.symm (sb.extBut _ _ Ap.i1z.symm za))
    have ne : e ≠ z := fun q => by subst q; rw [zd] at ge; cases ge; simp at ce
    exact wpAny_setField_rec zd (by simp) fun he _ se => hE he _ e (fun c o c1 c2 c3 c4 q => se.extBut _ _ c1 (sd _ _ c4 (sc.extBut _ _ c2 (sb.extBut _ _ c3 (sa.extBut _ _ c1 q))))) ⟨oe, se.extBut _ _ ne ge, ce⟩
theorem pyNext_zipG_item {Q : Option Value → Shared → Prop} (Ap : Apart2 z TI TO i1 i2 fp1 fp2) (D1 : Draws prog w A.in1 i1 fp1 n1 P1 S1) (D2 : Draws prog w A.in1 i2 fp2 n2 P2 S2)
    (hz : IsZip s.heap z TI TO .none) (hI : IsPair s.heap TI (.ref i1) (.ref i2)) (hO : IsPair s.heap TO a b) (st1 : S1 k1 s.heap) (st2 : S2 k2 s.heap) (lt1 : k1 < n1) (lt2 : k2 < n2)
    (hQ : ∀ h' tk x y, P1 k1 x → P2 k2 y → IsZip h' z TI TO (rawInt s.heap.objs.size) → IsPair h' TO x y → S1 (k1 + 1) h' → S2 (k2 + 1) h' → IsPair h' s.heap.objs.size x y → h'.objs.size = s.heap.objs.size + 1 →
      (∀ c o, c ≠ z → c ≠ TO → c ≠ i1 → c ≠ i2 → s.heap.get? c = some o → h'.get? c = some o) → Q (some (.ref s.heap.objs.size)) { s with heap := h', toks := tk }) : wpAny (model prog w) A (pyNext (.ref z)) Q E s := by
  have ty : s.TypeIs (.ref z) "zip" := ⟨_, hz, rfl⟩
  unfold pyNext
  refine wpAny_bind (wpAny_attempt (wpAny_callSpecial?_slot (name := Str.ofString "__next__") ty F.slot_zip_next (wpAny_call_entry F.slot_zip_next ty F.entry_zip_next ?_ (F.args_zip_next_1 _))))
  exact zipG_item Ap D1 D2 hz hI hO st1 st2 lt1 lt2 fun h' tk x y p1 p2 a1 a2 a3 a4 a5 a6 a7 => wpAny_pure (hQ h' tk x y p1 p2 a1 a2 a3 a4 a5 a6 a7)
theorem pyNext_zipG_end {Q : Option Value → Shared → Prop} (Ap : Apart2 z TI TO i1 i2 fp1 fp2) (D1 : Draws prog w A.in1 i1 fp1 n1 P1 S1) (D2 : Draws prog w A.in1 i2 fp2 n2 P2 S2)
    (hz : IsZip s.heap z TI TO .none) (hI : IsPair s.heap TI (.ref i1) (.ref i2)) (hO : IsPair s.heap TO a b) (st1 : S1 k1 s.heap) (st2 : S2 k2 s.heap) (e12 : k1 = n1 ∨ (k1 < n1 ∧ k2 = n2))
    (hQ : ∀ h' tk, (∀ c o, c ≠ z → c ≠ TO → c ≠ i1 → c ≠ i2 → s.heap.get? c = some o → h'.get? c = some o) → Q none { s with heap := h', toks := tk }) : wpAny (model prog w) A (pyNext (.ref z)) Q E s := by
  have ty : s.TypeIs (.ref z) "zip" := ⟨_, hz, rfl⟩
  unfold pyNext
  refine wpAny_bind (wpAny_attempt (wpAny_callSpecial?_slot (name := Str.ofString "__next__") ty F.slot_zip_next (wpAny_call_entry F.slot_zip_next ty F.entry_zip_next
    (zipG_end Ap D1 D2 hz hI hO st1 st2 e12 fun h' tk e k st => ?_) (F.args_zip_next_1 _))))
  obtain ⟨o, ho, hc⟩ := st
  exact wpAny_bind (wpAny_isInstance (T := "StopIteration") (b := true) ⟨o, ho, hc⟩ isSubtype_stop (wpAny_pure (hQ _ tk k)))
end
end
/-- a list at a, a tuple at b -/
def ItzM (K : PySem.W.Frag) (a b : Addr) : It :=
  ⟨fun i H => ∃ (xs ys : List V) (x y : V), SqL K H a xs ∧ SqT K H b ys ∧ xs[i]? = some x ∧ ys[i]? = some y,
    fun i H v H' => ∃ T x y, v = .ref T ∧ H T = none ∧ H' = upd H T (.tup [x, y]) ∧ (∀ xs, SqL K H a xs → xs[i]? = some x) ∧ ∀ ys, SqT K H b ys → ys[i]? = some y,
    fun i H => ∃ xs ys : List V, SqL K H a xs ∧ SqT K H b ys ∧ (xs.length = i ∨ (i < xs.length ∧ ys.length = i))⟩
theorem turn_zipM {P : Program} {w : World} {K : PySem.W.Frag} {elts : List Expr} {kk : Nat} {tpos : Pos} {a b z TI TO i1 i2 : Addr} (D : ZipApart z TI TO i1 i2 a b) :
    Turn P w K (.Tuple elts kk tpos) (ItzM K a b) [z, TI, TO, i1, i2] z (fun i h => IsZip h z TI TO .none ∧ IsPair h TI (.ref i1) (.ref i2) ∧ (∃ x y, IsPair h TO x y) ∧ h.IsListIter i1 a i ∧ h.IsTupleIter i2 b i) := by
  have Ap : Apart2 z TI TO i1 i2 [i1, a] [i2, b] :=
    ⟨D.TIz, D.TOz, D.i1z, D.i2z, D.TITO, D.TIi1, D.TIi2, D.TOi1, D.TOi2, D.i12, by simp [D.i1z.symm, D.l1z.symm], by simp [D.i2z.symm, D.l2z.symm], by simp [D.TOi1, D.l1TO.symm], by simp [D.TOi2, D.l2TO.symm],
      by simp [D.i12.symm, D.l1i2.symm], by simp [D.i12, D.l2i1.symm]⟩
  have five : ∀ {c : Addr}, c ∈ [z, TI, TO, i1, i2] → c = z ∨ c = TI ∨ c = TO ∨ c = i1 ∨ c = i2 := fun h => by simpa using h
  refine ⟨by simp, fun i h st c hc => ?_, fun i h h' st k => ?_, ?_, ?_, fun A i s Q E st h => wpAny_pyIter_zip st.1 h⟩
  · obtain ⟨hz, hI, ⟨x, y, hO⟩, ⟨o1, e1, _, d1⟩, ⟨o2, e2, _, d2⟩⟩ := st
    rcases five hc with q | q | q | q | q
    · rw [q]; exact ⟨_, hz, fun v q => nomatch q⟩
    · rw [q]; exact ⟨_, hI, fun v q => nomatch q⟩
    · rw [q]; exact ⟨_, hO, fun v q => nomatch q⟩
    · rw [q]; exact ⟨o1, e1, fun v q => by rw [d1] at q; cases q⟩
    · rw [q]; exact ⟨o2, e2, fun v q => by rw [d2] at q; cases q⟩
  · obtain ⟨hz, hI, ⟨x, y, hO⟩, h1, h2⟩ := st
    exact ⟨k z (by simp) _ hz, k TI (by simp) _ hI, ⟨x, y, k TO (by simp) _ hO⟩, h1.at fun o q => k i1 (by simp) o q, h2.at fun o q => k i2 (by simp) o q⟩
  · intro X hP hw hK hc i pins s σ H E I hf st hg
    subst hP hw hK
    obtain ⟨hz, hI, ⟨x0, y0, hO⟩, h1, h2⟩ := st
    obtain ⟨xs, ys, x, y, qx, qy, hx, hy⟩ := hg
    obtain ⟨its, rv, p, _⟩ := I.list qx
    obtain ⟨its2, rv2, p2, _⟩ := I.tuple qy
    obtain ⟨u, hu, ru⟩ := rv.get hx
    obtain ⟨u2, hu2, ru2⟩ := rv2.get hy
    have zl : z < s.heap.objs.size := Heap.lt_size hz
    have hh : X.A.in1.handled = none := I.ok.hd hc
    refine pyNext_zipG_item Ap (Draws.list hh i1 a D.l1i1 its.toArray) (draws_tuple hh i2 b D.l2i2 its2.toArray) hz hI hO ⟨h1, p.isList⟩ ⟨h2, p2⟩ (by simpa using (List.getElem?_eq_some_iff.mp hu).1) (by simpa using (List.getElem?_eq_some_iff.mp hu2).1)
      fun h' tk x' y' px py z' O' s1' s2' hT hsz hk => ?_
    have ex : x' = u := Option.some.inj (px.symm.trans (by simpa using hu))
    have ey : y' = u2 := Option.some.inj (py.symm.trans (by simpa using hu2))
    subst ex ey
    refine ⟨_, rfl, wpAny_letOwnedTupleGo_zip (s := { s with heap := h', toks := tk }) z' fun h'' z'' sb => ?_⟩
    have hT2 : h''.get? s.heap.objs.size = some { cls := .type "tuple", data := .seq #[x', y'] } := (sb.2 _ (Nat.ne_of_gt zl)).trans hT
    have new : ObjOk X.prog X.w (upd H s.heap.objs.size (.tup [x, y])) h'' s.heap.objs.size (.tup [x, y]) := ⟨by show 2 ≤ sizeLine; decide, [x', y'], .cons ru (.cons ru2 .nil), ⟨_, hT2, rfl, _, rfl⟩⟩
    have I1 : Inv X pins σ (upd H s.heap.objs.size (.tup [x, y])) { s with heap := h'', toks := tk } :=
      I.turnedNew (t' := tk) (ch := [z, TI, TO, i1, i2]) (fun c o hb q => (sb.2 c (fun q' => hb (by simp [q']))).trans (hk c o (fun q' => hb (by simp [q'])) (fun q' => hb (by simp [q'])) (fun q' => hb (by simp [q'])) (fun q' => hb (by simp [q'])) q)) hf (Nat.le_refl _) new
    refine ⟨.ref s.heap.objs.size, _, I1, rfl, ⟨_, x, y, rfl, I.hok.fresh (Nat.le_refl _), rfl, fun l hl => by rw [I.list_inj hl qx]; exact hx, fun l hl => by rw [I.tuple_inj hl qy]; exact hy⟩, ⟨z'', ?_, ⟨x', y', ?_⟩, ?_, ?_⟩, fun c hcm => ?_⟩
    · exact (sb.2 _ D.TIz).trans (hk _ _ D.TIz D.TITO D.TIi1 D.TIi2 hI)
    · exact (sb.2 _ D.TOz).trans O'
    · exact s1'.1.at fun o q => (sb.2 _ D.i1z).trans q
    · exact s2'.1.at fun o q => (sb.2 _ D.i2z).trans q
    · have hlt : c < s.heap.objs.size := by
        rcases five hcm with q | q | q | q | q
        · rw [q]; exact zl
        · rw [q]; exact Heap.lt_size hI
        · rw [q]; exact Heap.lt_size hO
        · rw [q]; obtain ⟨_, e1, _⟩ := h1; exact Heap.lt_size e1
        · rw [q]; obtain ⟨_, e2, _⟩ := h2; exact Heap.lt_size e2
      rw [upd_ne (Nat.ne_of_lt hlt)]
      exact (hf c hcm).1
  · intro X hP hw hK hc i pins s σ H E I hf st hg
    subst hP hw hK
    obtain ⟨hz, hI, ⟨x0, y0, hO⟩, h1, h2⟩ := st
    obtain ⟨xs, ys, qx, qy, hend⟩ := hg
    obtain ⟨its, rv, p, _⟩ := I.list qx
    obtain ⟨its2, rv2, p2, _⟩ := I.tuple qy
    have l1 := rv.length
    have l2 := rv2.length
    have hh : X.A.in1.handled = none := I.ok.hd hc
    have e12 : i = its.toArray.size ∨ (i < its.toArray.size ∧ i = its2.toArray.size) := by
      rcases hend with q | ⟨q, q2⟩
      · exact .inl (by simp; omega)
      · exact .inr ⟨by simp; omega, by simp; omega⟩
    exact pyNext_zipG_end Ap (Draws.list hh i1 a D.l1i1 its.toArray) (draws_tuple hh i2 b D.l2i2 its2.toArray) hz hI hO ⟨h1, p.isList⟩ ⟨h2, p2⟩ e12 fun h' tk hk => ⟨rfl, I.turnedL (t' := tk) (ch := [z, TI, TO, i1, i2]) (fun c o hb q =>
      hk c o (fun q' => hb (by simp [q'])) (fun q' => hb (by simp [q'])) (fun q' => hb (by simp [q'])) (fun q' => hb (by simp [q'])) q) hf⟩
theorem walk_zipM {K : PySem.W.Frag} {a b : Addr} {xs ys : List V} {n : Nat} (hn : n = min xs.length ys.length) : Walk (ItzM K a b) n (fun H => SqL K H a xs ∧ SqT K H b ys) (YPair (fun i => xs[i]?) (fun i => ys[i]?)) := by
  subst hn
  refine ⟨fun i _ hi q => ?_, fun _ q => ⟨xs, ys, q.1, q.2, by omega⟩, fun i H v H' _ q y => ?_⟩
  · have h1 : i < xs.length := by omega
    have h2 : i < ys.length := by omega
    exact ⟨xs, ys, xs[i], ys[i], q.1, q.2, by simp [h1], by simp [h2]⟩
  · obtain ⟨T, x, z, h1, h2, h3, h4, h5⟩ := y
    exact ⟨T, x, z, h1, h2, h3, h4 xs q.1, h5 ys q.2⟩
theorem walk_zipT {K : PySem.W.Frag} {a b : Addr} {xs ys : List V} {n : Nat} (hn : n = min xs.length ys.length) : Walk (RZ.ItzT K a b) n (fun H => SqT K H a xs ∧ SqT K H b ys) (YPair (fun i => xs[i]?) (fun i => ys[i]?)) := by
  subst hn
  refine ⟨fun i _ hi q => ?_, fun _ q => ⟨xs, ys, q.1, q.2, by omega⟩, fun i H v H' _ q y => ?_⟩
  · have h1 : i < xs.length := by omega
    have h2 : i < ys.length := by omega
    exact ⟨xs, ys, xs[i], ys[i], q.1, q.2, by simp [h1], by simp [h2]⟩
  · obtain ⟨T, x, z, h1, h2, h3, h4, h5⟩ := y
    exact ⟨T, x, z, h1, h2, h3, h4 xs q.1, h5 ys q.2⟩
section
open PyProof.Rows
abbrev zmH1 (h : Heap) (l1 : Addr) : Heap := h.push { cls := .type "list_iterator", data := .fields #[.ref l1, .int 0 0] }
abbrev zmH2 (h : Heap) (l1 l2 : Addr) : Heap := (zmH1 h l1).push { cls := .type "tuple_iterator", data := .fields #[.ref l2, .int 0 0] }
abbrev zmH3 (h : Heap) (l1 l2 : Addr) : Heap := (zmH2 h l1 l2).push { cls := .type "tuple", data := .seq #[.ref h.objs.size, .ref (zmH1 h l1).objs.size] }
abbrev zmH4 (h : Heap) (l1 l2 : Addr) : Heap := (zmH3 h l1 l2).push { cls := .type "tuple", data := .seq #[.none, .none] }
abbrev zmH5 (h : Heap) (l1 l2 : Addr) : Heap := (zmH4 h l1 l2).push { cls := .type "zip", data := .fields #[.none, .bool false, .bool false, .ref (zmH2 h l1 l2).objs.size, .ref (zmH3 h l1 l2).objs.size] }
theorem meets_zipM (l1 l2 : Addr) (xs ys : Array Value) :
    Meets (Builtin.«zip.__new__» ⟨[.type "zip", .ref l1, .ref l2], []⟩) (fun _ R s => s.heap.IsList l1 xs ∧ s.heap.IsTuple l2 ys ∧ R (.ok (.ret (.ref (zmH4 s.heap l1 l2).objs.size))) { s with heap := zmH5 s.heap l1 l2 }) :=
  .of_wp fun prog w A R s h => by
    obtain ⟨hp, g, d, tk, os⟩ := s
    obtain ⟨hl1, hl2, h⟩ := h
    have hsub := sub_zip
    have hL1 : Heap.IsList (Shared.heap ⟨hp, g, d, tk, os⟩) l1 xs := hl1
    have hL2 : Heap.IsTuple (Shared.heap ⟨hp.push { cls := .type "list_iterator", data := .fields #[.ref l1, .int 0 0] }, g, d, tk, os⟩) l2 ys := Heap.IsTuple.push hl2 _
    wp_walk using wpAny_pyIter_list hL1, wpAny_pyIter_tuple hL2
    exact ⟨_, rfl, h⟩
end
section
variable {prog : Program} {w : World} {A : Around} {E : Value → Shared → Prop} {s : Shared}
theorem call_zipM {l1 l2 : Addr} {xs ys : Array Value} {Q : Value → Shared → Prop} (hl1 : s.heap.IsList l1 xs) (hl2 : s.heap.IsTuple l2 ys)
    (h : ∀ h', IsZip h' (s.heap.objs.size + 4) (s.heap.objs.size + 2) (s.heap.objs.size + 3) .none → IsPair h' (s.heap.objs.size + 2) (.ref s.heap.objs.size) (.ref (s.heap.objs.size + 1)) →
      IsPair h' (s.heap.objs.size + 3) .none .none → h'.IsListIter s.heap.objs.size l1 0 → h'.IsTupleIter (s.heap.objs.size + 1) l2 0 → (∀ c o, s.heap.get? c = some o → h'.get? c = some o) → Q (.ref (s.heap.objs.size + 4)) { s with heap := h' }) :
    wpAny (model prog w) A (call (.type "zip") [.ref l1, .ref l2]) Q E s := by
  refine callType_new F.called_zip (by decide) (F.typeCall_zip_2 _ _) (F.newCall_zip_2 _ _) (fun obj => F.args_object_init_3 obj _ _) F.entry_zip_new (meets_zipM l1 l2 xs ys) ⟨hl1, hl2, ?_⟩
  have z1 : (zmH1 s.heap l1).objs.size = s.heap.objs.size + 1 := Heap.size_push ..
  have z2 : (zmH2 s.heap l1 l2).objs.size = s.heap.objs.size + 2 := (Heap.size_push ..).trans (by rw [z1])
  have z3 : (zmH3 s.heap l1 l2).objs.size = s.heap.objs.size + 3 := (Heap.size_push ..).trans (by rw [z2])
  have z4 : (zmH4 s.heap l1 l2).objs.size = s.heap.objs.size + 4 := (Heap.size_push ..).trans (by rw [z3])
  have up : ∀ {h : Heap} {ob : Obj} {c : Addr} {o : Obj}, h.get? c = some o → (h.push ob).get? c = some o := fun e => Heap.get?_push_of_some _ e
  have g5 : (zmH5 s.heap l1 l2).get? (zmH4 s.heap l1 l2).objs.size = some _ := Heap.get?_push_size _ rfl
  have g4 : (zmH5 s.heap l1 l2).get? (zmH3 s.heap l1 l2).objs.size = some _ := up (Heap.get?_push_size _ rfl)
  have g3 : (zmH5 s.heap l1 l2).get? (zmH2 s.heap l1 l2).objs.size = some _ := up (up (Heap.get?_push_size _ rfl))
  have g2 : (zmH5 s.heap l1 l2).get? (zmH1 s.heap l1).objs.size = some _ := up (up (up (Heap.get?_push_size _ rfl)))
  have g1 : (zmH5 s.heap l1 l2).get? s.heap.objs.size = some _ := up (up (up (up (Heap.get?_push_size _ rfl))))
  show _ ∧ _
  rw [z2, z3, z4] at g5
  rw [z1, z2] at g3
  rw [z3] at g4
  rw [z1] at g2
  rw [z4]
  exact ⟨⟨_, g5, rfl⟩, h _ g5 g3 g4 ⟨_, g1, rfl, rfl⟩ ⟨_, g2, rfl, rfl⟩ fun c o x => up (up (up (up (up x))))⟩
end
def iZipM (K : PySem.W.Frag) (ta : TA) : TI := fun σ H R => ta σ H fun vs H1 => ∃ a b xs ys, vs = [.ref a, .ref b] ∧ SqL K H1 a xs ∧ SqT K H1 b ys ∧ R (ItzM K a b) H1
theorem pi_zipM {X : Cx} {e e2 : Expr} {ta : TA} {p pos tpos : Pos} {elts : List Expr} {kk : Nat} (hg : Gl X "zip") (hm : X.mg "zip" = none) (ha : PA X [e, e2] ta)
    (hs : starEach [e, e2] X.env = (false, eval e X.env) :: starEach [e2] X.env := by rfl) (hpl : (backTo pos (starEach [e2] X.env)).any (·.1) = false := by rfl) :
    PI X (.Tuple elts kk tpos) (.Call (.Name "zip" p) [e, e2] [] pos) (iZipM X.K ta) := by
  refine ⟨fun pins s σ H R I h => ?_⟩
  refine PyProof.Rows.Call_ (ld_blt I hg hm PyProof.Rows.boot_zip (PyProof.Rows.callWith_type1 (thn (ha.run pos pins s σ H _ I h) fun us s1 ⟨vs, H1, I1, r1, q1⟩ => ?_) hs hpl))
  obtain ⟨a, b, xs, ys, ex, qx, qy, q⟩ := q1
  subst ex
  cases r1 with | cons ru rr =>
  cases rr with | cons rv r0 =>
  cases r0
  cases ru
  cases rv
  obtain ⟨its, rx, p1, _⟩ := I1.list qx
  obtain ⟨its2, ry, p2, _⟩ := I1.tuple qy
  obtain ⟨o1, n1, ho1, _⟩ := id p1
  obtain ⟨o2, ho2, _⟩ := id p2
  refine call_zipM p1.isList p2 fun h' hz hI hO h1 h2 hk => wpAny_pyIter_zip hz ?_
  have I2 : Inv X pins σ H1 { s1 with heap := h' } := I1.kept (t' := s1.toks) hk
  refine ⟨s1.heap.objs.size + 4, [s1.heap.objs.size + 4, s1.heap.objs.size + 2, s1.heap.objs.size + 3, s1.heap.objs.size, s1.heap.objs.size + 1], _, _, H1, rfl, I2, turn_zipM (PySem.W.ktu_apart s1.heap.objs.size a b (Heap.lt_size ho1) (Heap.lt_size ho2)), ⟨hz, hI, ⟨_, _, hO⟩, h1, h2⟩, fun c hcm => ?_, q⟩
  have hle : s1.heap.objs.size ≤ c := by
    have e' : c = s1.heap.objs.size + 4 ∨ c = s1.heap.objs.size + 2 ∨ c = s1.heap.objs.size + 3 ∨ c = s1.heap.objs.size ∨ c = s1.heap.objs.size + 1 := by simpa using hcm
    rcases e' with z | z | z | z | z <;> (rw [z]; first | exact Nat.le_add_right _ _ | exact Nat.le_refl _)
  exact I1.fpOk hle (I1.hok.fresh hle)
/-- zip of two frozen sequences -/
def seqs : List Opd → Option (List D)
  | [.frz (.list a), .frz (.list b)] => some (zipD a b)
  | [.frz (.tuple a), .frz (.tuple b)] => some (zipD a b)
  | [.frz (.list a), .frz (.tuple b)] => some (zipD a b)
  | _ => none
def fZip (fa : FA) : FI := fun ρ => (fa ρ).bind fun r => (seqs r.1).bind fun ds => some (ds, none, r.2)
theorem yr_pair {K : PySem.W.Frag} {F1 : Hp} {xs ys : List V} {as bs : List D} (ra : RpL K F1 xs as) (rb : RpL K F1 ys bs) {i : Nat} {H2 H3 : Hp} {x : V} (q : YPair (fun i => xs[i]?) (fun i => ys[i]?) i H2 x H3) :
    ∃ d, (zipD as bs)[i]? = some d ∧ YR K F1 H2 x H3 d := by
  obtain ⟨T, z1, z2, e1, e2, e3, e4, e5⟩ := q
  obtain ⟨d1, g1, r1⟩ := ra.get e4
  obtain ⟨d2, g2, r2⟩ := rb.get e5
  exact ⟨_, zipD_get as bs i d1 d2 g1 g2, .inr ⟨T, z1, z2, d1, d2, e1, e2, e3, r1, r2, rfl⟩⟩
theorem ij_zip {X : Cx} {e e2 : Expr} {fe fe2 : FE} {p pos tpos : Pos} {elts : List Expr} {kk : Nat} (hg : Gl X "zip") (hm : X.mg "zip" = none) (he : EJ X e fe) (he2 : EJ X e2 fe2)
    (hs : starEach [e, e2] X.env = (false, eval e X.env) :: starEach [e2] X.env := by rfl) (hs2 : starEach [e2] X.env = [(false, eval e2 X.env)] := by rfl) (hpl : (backTo pos (starEach [e2] X.env)).any (·.1) = false := by rfl) :
    IJ X (.Tuple elts kk tpos) (.Call (.Name "zip" p) [e, e2] [] pos) (fZip (faC fe (faC fe2 faN))) := by
  have ha := aj_cons he (aj_cons he2 aj_nil hs2) hs
  refine PI.weak (DL.PI.or (RZ.pi_zipA hg hm ha hs hpl) (pi_zipM hg hm ha hs hpl)) fun σ H R c => ?_
  obtain ⟨F, ρ, ds, os, ρ', S, hf, k⟩ := c
  simp only [fZip, Option.bind_eq_some_iff] at hf
  obtain ⟨⟨x, ρ1⟩, h1, ds', h2, h3⟩ := hf
  cases h3
  have both : ∀ {vs : List V} {F1 : Hp} {d1 d2 : D}, ArgsOk X.K F1 σ ρ1 vs [.frz d1, .frz d2] → ∃ v1 v2, vs = [v1, v2] ∧ Rp X.K F1 v1 d1 ∧ Rp X.K F1 v2 d2 := fun {vs F1 d1 d2} h => by
    match vs, h with
    | [v, w], ⟨h1, h2, _⟩ => exact ⟨v, w, rfl, h1, h2⟩
  unfold seqs at h2
  split at h2
  · rename_i as bs e'
    simp only at e'
    subst e'
    cases h2
    refine .inl ⟨F, ρ, _, ρ1, S, h1, fun vs F1 H1 G1 S1 s1 av => ?_⟩
    obtain ⟨v1, v2, rfl, r1, r2⟩ := both av
    cases r1 with | lst ha ra =>
    cases r2 with | lst hb rb =>
    refine ⟨_, _, _, _, rfl, .inl ⟨.inl (.inl (S1.sub _ _ ha)), .inl (.inl (S1.sub _ _ hb)), k _ F1 H1 G1 S1 s1 ⟨_, _, fun _ => False, walk_zip (by rw [zipD_len, ra.length, rb.length]), fun _ z => z.elim, fun H2 s2 _ => ⟨.inl (.inl (s2 _ _ ha)), .inl (.inl (s2 _ _ hb))⟩, fun i H2 x H3 _ q => yr_pair ra rb q⟩⟩⟩
  · rename_i as bs e'
    simp only at e'
    subst e'
    cases h2
    refine .inl ⟨F, ρ, _, ρ1, S, h1, fun vs F1 H1 G1 S1 s1 av => ?_⟩
    obtain ⟨v1, v2, rfl, r1, r2⟩ := both av
    cases r1 with | tup ha ra =>
    cases r2 with | tup hb rb =>
    refine ⟨_, _, _, _, rfl, .inr ⟨.inl (.inl (S1.sub _ _ ha)), .inl (.inl (S1.sub _ _ hb)), k _ F1 H1 G1 S1 s1 ⟨_, _, fun _ => False, walk_zipT (by rw [zipD_len, ra.length, rb.length]), fun _ z => z.elim, fun H2 s2 _ => ⟨.inl (.inl (s2 _ _ ha)), .inl (.inl (s2 _ _ hb))⟩, fun i H2 x H3 _ q => yr_pair ra rb q⟩⟩⟩
  · rename_i as bs e'
    simp only at e'
    subst e'
    cases h2
    refine .inr ⟨F, ρ, _, ρ1, S, h1, fun vs F1 H1 G1 S1 s1 av => ?_⟩
    obtain ⟨v1, v2, rfl, r1, r2⟩ := both av
    cases r1 with | lst ha ra =>
    cases r2 with | tup hb rb =>
    refine ⟨_, _, _, _, rfl, .inl (.inl (S1.sub _ _ ha)), .inl (.inl (S1.sub _ _ hb)), k _ F1 H1 G1 S1 s1 ⟨_, _, fun _ => False, walk_zipM (by rw [zipD_len, ra.length, rb.length]), fun _ z => z.elim, fun H2 s2 _ => ⟨.inl (.inl (s2 _ _ ha)), .inl (.inl (s2 _ _ hb))⟩, fun i H2 x H3 _ q => yr_pair ra rb q⟩⟩
  · cases h2
end DL

namespace DL
open PySem PySem.Spec L2
def wipeC (ρ : Ce) : List Nat → Ce
  | [] => ρ
  | v :: vs => (wipeC ρ vs).set v .un
def restC (ρ : Ce) : List Nat → Ce → Ce
  | [], e => e
  | v :: vs, e => match ρ[v]? with
    | some c => (restC ρ vs e).set v c
    | none => restC ρ vs e
section
variable {ρ e : Ce} {σ : L2.St} {i : Nat}
theorem wipeC_len : ∀ vs : List Nat, (wipeC ρ vs).length = ρ.length
  | [] => rfl
  | v :: vs => by show ((wipeC ρ vs).set v .un).length = _; rw [List.length_set, wipeC_len vs]
theorem wipeC_out : ∀ {vs : List Nat}, i ∉ vs → (wipeC ρ vs)[i]? = ρ[i]?
  | [], _ => rfl
  | v :: vs, h => by
    show ((wipeC ρ vs).set v .un)[i]? = _
    rw [List.getElem?_set_ne (fun q => h (by rw [q]; exact List.mem_cons_self)), wipeC_out fun q => h (List.mem_cons_of_mem _ q)]
theorem wipeC_in : ∀ {vs : List Nat} {c : Cell}, i ∈ vs → (wipeC ρ vs)[i]? = some c → c = .un
  | v :: vs, c, h, q => by
    replace q : ((wipeC ρ vs).set v .un)[i]? = some c := q
    by_cases z : i = v
    · subst z
      by_cases hl : i < (wipeC ρ vs).length
      · rw [List.getElem?_set_self hl] at q; exact (Option.some.inj q).symm
      · rw [List.getElem?_eq_none (by rw [List.length_set]; omega)] at q; cases q
    · rw [List.getElem?_set_ne (Ne.symm z)] at q
      exact wipeC_in ((List.mem_cons.mp h).resolve_left z) q
theorem restC_len : ∀ vs : List Nat, (restC ρ vs e).length = e.length
  | [] => rfl
  | v :: vs => by
    unfold restC
    split
    · rw [List.length_set, restC_len vs]
    · exact restC_len vs
theorem restC_out : ∀ {vs : List Nat}, i ∉ vs → (restC ρ vs e)[i]? = e[i]?
  | [], _ => rfl
  | v :: vs, h => by
    have h1 : v ≠ i := fun q => h (by rw [q]; exact List.mem_cons_self)
    have h2 : i ∉ vs := fun q => h (List.mem_cons_of_mem _ q)
    unfold restC
    split
    · rw [List.getElem?_set_ne h1, restC_out h2]
    · exact restC_out h2
theorem restC_in (hl : e.length = ρ.length) : ∀ {vs : List Nat}, i ∈ vs → (restC ρ vs e)[i]? = ρ[i]?
  | v :: vs, h => by
    unfold restC
    split
    · rename_i c q
      by_cases z : i = v
      · subst z
        have hi : i < ρ.length := (List.getElem?_eq_some_iff.mp q).1
        rw [List.getElem?_set_self (by rw [restC_len, hl]; exact hi), q]
      · rw [List.getElem?_set_ne (Ne.symm z)]
        exact restC_in hl ((List.mem_cons.mp h).resolve_left z)
    · rename_i q
      by_cases z : i = v
      · subst z
        rw [q, List.getElem?_eq_none (by rw [restC_len, hl]; exact List.getElem?_eq_none_iff.mp q)]
      · exact restC_in hl ((List.mem_cons.mp h).resolve_left z)
theorem wipe_outS : ∀ {vs : List Nat}, i ∉ vs → (wipe σ vs)[i]? = σ[i]?
  | [], _ => rfl
  | v :: vs, h => by
    show ((wipe σ vs).set v none)[i]? = _
    rw [List.getElem?_set_ne (fun q => h (by rw [q]; exact List.mem_cons_self)), wipe_outS fun q => h (List.mem_cons_of_mem _ q)]
end
section
variable {K : PySem.W.Frag} {F H : Hp} {σ : L2.St} {ρ : Ce}
/-- cells hidden: those of vs (with the slots' values), others (the cells alone) -/
theorem Sd.hide (S : Sd K F H σ ρ) (vs us : List Nat) (hv : ∀ i ∈ vs, i ∈ us) : Sd K F H (wipe σ vs) (wipeC ρ us) := by
  have cell : ∀ {i : Nat} {c : Cell}, (wipeC ρ us)[i]? = some c → c ≠ .un → ρ[i]? = some c ∧ (wipe σ vs)[i]? = σ[i]? := fun {i c} h n => by
    by_cases q : i ∈ us
    · exact (n (wipeC_in q h)).elim
    · exact ⟨(wipeC_out q).symm.trans h, wipe_outS fun z => q (hv i z)⟩
  refine ⟨S.sub, by rw [wipeC_len, wipe_length, S.len], fun i d h => ?_, fun i b d h => ?_, fun i j b d c e a h1 h2 h3 h4 => ?_⟩
  · obtain ⟨h1, h2⟩ := cell h (fun z => by cases z)
    rw [h2]; exact S.val i d h1
  · obtain ⟨h1, h2⟩ := cell h (fun z => by cases z)
    rw [h2]; exact S.own i b d h1
  · obtain ⟨g1, e1⟩ := cell h1 (fun z => by cases z)
    obtain ⟨g2, e2⟩ := cell h2 (fun z => by cases z)
    rw [e1] at h3
    rw [e2] at h4
    exact S.sep i j b d c e a g1 g2 h3 h4
theorem TgtR.out {is : List Nat} {σ' : L2.St} {ρ' : Ce} (t : TgtR K F is σ ρ σ' ρ') : ρ'.length = ρ.length ∧ ∀ i, i ∉ is → ρ'[i]? = ρ[i]? ∧ σ'[i]? = σ[i]? := by
  induction t with
  | refl => exact ⟨rfl, fun _ _ => ⟨rfl, rfl⟩⟩
  | @step σ1 ρ1 j v d _ hj _ ih =>
    refine ⟨by rw [List.length_set, ih.1], fun i n => ?_⟩
    have ne : j ≠ i := fun q => n (q ▸ hj)
    rw [List.getElem?_set_ne ne, List.getElem?_set_ne ne]
    exact ih.2 i n
end

/-! ### a comprehension's turns -/
def lcGo (h : HT) (ft : FT) (fe : FE) (vs : List Nat) : List D → Ce → List D → Option (List D × Ce)
  | [], ρ, acc => some (acc, ρ)
  | d :: ds, ρ, acc => (h d ρ).bind fun ρ1 => (ft ρ1).bind fun t => cond t.1
      ((fe t.2).bind fun q => (frD q.1).bind fun y => if acc.length < sizeLine then lcGo h ft fe vs ds (wipeC q.2 vs) (acc ++ [y]) else none)
      (lcGo h ft fe vs ds (wipeC t.2 vs) acc)
structure CInv (K : PySem.W.Frag) (F1 H1 : Hp) (Ow : Addr → Prop) (σw : L2.St) (ρb : Ce) (L : Addr) (F H : Hp) (ρ : Ce) (accv : List V) (acc : List D) : Prop where
  sd : Sd K F H σw ρ
  gr : Gr (fun a => Ow a ∨ a = L) F1 H1 F H
  dF : F L = none
  dO : ¬ OwA σw ρ L
  dH : H L = some (.lst accv)
  rp : RpL K F accv acc
  ow : ∀ a, OwA σw ρ a → Ow a
  sh : Shape ρb ρ
section
variable {K : PySem.W.Frag} {F1 H1 : Hp} {Ow : Addr → Prop} {σ σw : L2.St} {ρb : Ce} {L : Addr} {h : HT} {is vs : List Nat} {ft : FT} {fe : FE} {res : List D × Ce}
/-- what a turn is to reach -/
def CNx (K : PySem.W.Frag) (F1 H1 : Hp) (Ow : Addr → Prop) (σw : L2.St) (ρb : Ce) (L : Addr) (P : Ce → List D → Prop) (H : Hp) : Prop := ∃ F ρ accv acc, CInv K F1 H1 Ow σw ρb L F H ρ accv acc ∧ P ρ acc
/-- behind some expressions of a turn: back to the loop's cells -/
theorem CInv.after {F2 H2 F3 H3 : Hp} {ρ2 ρ3 ρ4 : Ce} {accv : List V} {acc : List D} {σ2 : L2.St} (I : CInv K F1 H1 Ow σw ρb L F2 H2 ρ2 accv acc) (hb : ∀ i ∈ vs, ∀ c, ρb[i]? = some c → c = .un) (hw : wipe σ2 vs = σw) (hs : ∀ i ∈ is, i ∈ vs)
    (len3 : ρ3.length = ρ2.length) (out3 : ∀ i, i ∉ is → ρ3[i]? = ρ2[i]? ∧ σ2[i]? = σw[i]?) (noOwn : ∀ i ∈ vs, ∀ b d, ρ3[i]? ≠ some (.own b d)) (G : Gr (OwA σ2 ρ3) F2 H2 F3 H3) (S3 : Sd K F3 H3 σ2 ρ4) (s : Shape ρ3 ρ4) : CInv K F1 H1 Ow σw ρb L F3 H3 (wipeC ρ4 vs) accv acc := by
  have owOld : ∀ a, OwA σ2 ρ3 a → OwA σw ρ2 a := fun a ⟨i, b, d, e1, e2⟩ => by
    have hi : i ∉ vs := fun q => noOwn i q b d e1
    have hi' : i ∉ is := fun q => hi (hs i q)
    obtain ⟨o1, o2⟩ := out3 i hi'
    exact ⟨i, b, d, o1.symm.trans e1, o2.symm.trans e2⟩
  have nL : ¬ OwA σ2 ρ3 L := fun z => I.dO (owOld L z)
  have S4 : Sd K F3 H3 σw (wipeC ρ4 vs) := by rw [← hw]; exact S3.hide vs vs fun _ z => z
  have owNew : ∀ a, OwA σw (wipeC ρ4 vs) a → OwA σw ρ2 a := fun a ⟨i, b, d, e1, e2⟩ => by
    have hi : i ∉ vs := fun q => by cases wipeC_in q e1
    rw [wipeC_out hi] at e1
    obtain ⟨d', e3⟩ := s.back e1
    obtain ⟨o1, _⟩ := out3 i fun q => hi (hs i q)
    exact ⟨i, b, d', o1.symm.trans e3, e2⟩
  refine ⟨S4, I.gr.trans (G.weak fun a z => .inl (I.ow a (owOld a z))), ?_, fun z => I.dO (owNew L z), G.keep L _ I.dH nL, I.rp.mono G.fr, fun a z => I.ow a (owNew a z), ?_⟩
  · cases q : F3 L with
    | none => rfl
    | some o =>
      rcases G.new L o q with z | z
      · rw [I.dF] at z; cases z
      · rw [I.dH] at z; cases z
  · refine ⟨by rw [wipeC_len, ← s.1, len3, I.sh.1], fun i => ⟨fun c e n => ?_, fun b d e => ?_⟩⟩
    · by_cases hi : i ∈ vs
      · have := hb i hi c e
        subst this
        have hlt : i < (wipeC ρ4 vs).length := by
          rw [wipeC_len, ← s.1, len3, ← I.sh.1]
          exact (List.getElem?_eq_some_iff.mp e).1
        cases q : (wipeC ρ4 vs)[i]? with
        | none => rw [List.getElem?_eq_none_iff] at q; omega
        | some c' => rw [wipeC_in hi q]
      · rw [wipeC_out hi]
        refine (s.2 i).1 c ?_ n
        rw [(out3 i fun q => hi (hs i q)).1]
        exact (I.sh.2 i).1 c e n
    · have hi : i ∉ vs := fun q => by cases hb i q _ e
      rw [wipeC_out hi]
      obtain ⟨d1, e1⟩ := (I.sh.2 i).2 b d e
      rw [← (out3 i fun q => hi (hs i q)).1] at e1
      exact (s.2 i).2 b d1 e1
theorem lc_turn {P : Ce → List D → Prop} {F2 H2 H3 : Hp} {ρ2 : Ce} {accv : List V} {acc : List D} {d : D} {x : V} (I : CInv K F1 H1 Ow σw ρb L F2 H2 ρ2 accv acc) (hb : ∀ i ∈ vs, ∀ c, ρb[i]? = some c → c = .un) (hσ : wipe σ vs = σw) (hs : ∀ i ∈ is, i ∈ vs)
    (y : YR K F1 H2 x H3 d) (go : ∃ ρ1 t, h d ρ2 = some ρ1 ∧ ft ρ1 = some t ∧ (t.1 = true → ∃ q z, fe t.2 = some q ∧ frD q.1 = some z ∧ acc.length < sizeLine ∧ P (wipeC q.2 vs) (acc ++ [z])) ∧ (t.1 = false → P (wipeC t.2 vs) acc)) :
    canG K h is x σw H3 fun σ2 H4 => wipe σ2 vs = σw ∧ canT K ft σ2 H4 fun b H5 =>
      if b = true then canE K fe σ2 H5 fun z H6 => ∃ accv', H6 L = some (.lst accv') ∧ accv'.length < sizeLine ∧ CNx K F1 H1 Ow σw ρb L P (upd H6 L (.lst (accv' ++ [z]))) else CNx K F1 H1 Ow σw ρb L P H5 := by
  obtain ⟨ρ1, t, h1, h2, hT, hF⟩ := go
  obtain ⟨F3, G3, S3, r3, s3⟩ := y.take (Ow := OwA σw ρ2) I.gr.fr I.sd
  have ww : wipe σw vs = σw := by
    rw [← hσ]
    clear hσ
    have out : ∀ (us : List Nat) (i : Nat), i ∈ us → (wipe σ us)[i]? = some none ∨ (wipe σ us)[i]? = none := by
      intro us
      induction us with
      | nil => intro i hi; cases hi
      | cons u us ih =>
        intro i hi
        show ((wipe σ us).set u none)[i]? = _ ∨ _
        by_cases q : i = u
        · subst q
          by_cases hl : i < (wipe σ us).length
          · exact .inl (by rw [List.getElem?_set_self hl])
          · exact .inr (by show ((wipe σ us).set i none)[i]? = none; rw [List.getElem?_eq_none (by rw [List.length_set]; omega)])
        · rw [List.getElem?_set_ne (Ne.symm q)]
          show _ ∨ ((wipe σ us).set u none)[i]? = none
          rw [List.getElem?_set_ne (Ne.symm q)]
          exact ih i ((List.mem_cons.mp hi).resolve_left q)
    apply List.ext_getElem?
    intro i
    by_cases hi : i ∈ vs
    · have a1 : ∀ us : List Nat, i ∈ us → ∀ τ : L2.St, τ.length = σ.length → (wipe τ us)[i]? = if i < σ.length then some none else none := by
        intro us
        induction us with
        | nil => intro hi; cases hi
        | cons u us ih =>
          intro hi τ hl
          show ((wipe τ us).set u none)[i]? = _
          by_cases q : i = u
          · subst q
            by_cases hl2 : i < σ.length
            · rw [List.getElem?_set_self (by rw [wipe_length, hl]; exact hl2), if_pos hl2]
            · rw [List.getElem?_eq_none (by rw [List.length_set, wipe_length, hl]; omega), if_neg hl2]
          · rw [List.getElem?_set_ne (Ne.symm q)]
            exact ih ((List.mem_cons.mp hi).resolve_left q) τ hl
      rw [a1 vs hi _ (wipe_length σ vs), a1 vs hi σ rfl]
    · rw [wipe_outS hi]
  refine ⟨F3, ρ2, d, ρ1, S3, r3, h1, fun σ2 tg => ⟨(tg.wipe hs).trans ww, ?_⟩⟩
  have S1 := tg.sd S3
  obtain ⟨len1, out1⟩ := tg.out
  have noOwn : ∀ i ∈ vs, ∀ b d, ρ1[i]? ≠ some (.own b d) := by
    have base : ∀ i ∈ vs, ∀ b d, ρ2[i]? ≠ some (.own b d) := fun i hi b d e => by
      obtain ⟨d', e'⟩ := I.sh.back e
      cases hb i hi _ e'
    clear S1 len1 out1 h1 h2 hT hF
    induction tg with
    | refl => exact base
    | @step τ ρ j v e _ hj _ ih =>
      intro i hi b d' q
      by_cases z : i = j
      · subst z
        by_cases hl : i < ρ.length
        · rw [List.getElem?_set_self hl] at q; cases q
        · rw [List.getElem?_eq_none (by rw [List.length_set]; omega)] at q; cases q
      · rw [List.getElem?_set_ne (Ne.symm z)] at q
        exact ih i hi b d' q
  have ow1 : ∀ a, OwA σ2 ρ1 a → OwA σw ρ2 a := fun a ⟨i, b, d, e1, e2⟩ => by
    have hi : i ∉ is := fun q => noOwn i (hs i q) b d e1
    exact ⟨i, b, d, (out1 i hi).1.symm.trans e1, (out1 i hi).2.symm.trans e2⟩
  have I3 : CInv K F1 H1 Ow σw ρb L F3 H3 ρ2 accv acc := by
    refine ⟨S3, I.gr.trans (G3.weak fun a z => .inl (I.ow a z)), ?_, I.dO, G3.keep L _ I.dH I.dO, I.rp.mono G3.fr, I.ow, I.sh⟩
    cases q : F3 L with
    | none => rfl
    | some o =>
      rcases G3.new L o q with z | z
      · rw [I.dF] at z; cases z
      · rw [I.dH] at z; cases z
  have wp2 : wipe σ2 vs = σw := (tg.wipe hs).trans ww
  refine ⟨F3, ρ1, t.1, t.2, S1, h2, fun F4 H4 G4 S4 s4 => ?_⟩
  cases ht : t.1 with
  | false =>
    rw [if_neg Bool.false_ne_true]
    exact ⟨F4, _, accv, acc, I3.after (σ2 := σ2) hb wp2 hs len1 out1 noOwn G4 S4 s4, hF ht⟩
  | true =>
    rw [if_pos rfl]
    obtain ⟨q, z, h3, h4, hlen, hP⟩ := hT ht
    refine one S4 (x := q.1) (ρ1 := q.2) h3 fun v F5 H5 G5 S5 s5 ov => ?_
    obtain ⟨F6, G6, S6, r6, s6⟩ := ov.freeze S5 G5 h4
    have G46 : Gr (OwA σ2 ρ1) F3 H3 F6 H5 := G4.trans (G6.weak fun a y => (OwA.shape s4).mp y)
    have I6 := I3.after (σ2 := σ2) hb wp2 hs len1 out1 noOwn G46 S6 (s4.trans s5)
    refine ⟨accv, I6.dH, by rw [I6.rp.length]; exact hlen, F6, _, accv ++ [v], acc ++ [z], ⟨?_, ?_, I6.dF, I6.dO, upd_same, I6.rp.append (.cons r6 .nil), I6.ow, I6.sh⟩, hP⟩
    · refine ⟨fun b o e => ?_, I6.sd.len, I6.sd.val, fun i b d e => ?_, I6.sd.sep⟩
      · have nb : b ≠ L := fun y => by subst y; rw [I6.dF] at e; cases e
        rw [upd_ne nb]; exact I6.sd.sub b o e
      · obtain ⟨a, e1, e2, e3⟩ := I6.sd.own i b d e
        have na : a ≠ L := fun y => I6.dO ⟨i, b, d, e, by rw [← y]; exact e1⟩
        exact ⟨a, e1, e2, e3.mono (Same.refl _) fun o y => by rw [upd_ne na]; exact y⟩
    · refine ⟨I6.gr.fr, I6.gr.new, fun a o e n => ?_, fun a e => ?_⟩
      · have na : a ≠ L := fun y => n (.inr y)
        rw [upd_ne na]; exact I6.gr.keep a o e n
      · by_cases na : a = L
        · subst na; rw [upd_same] at e; cases e
        · rw [upd_ne na] at e; exact I6.gr.there a e
end
end DL

namespace DL
open PySem PySem.Spec L2
def hsO : Option Nat → List Nat
  | some i => [i]
  | none => []
def TsJ (X : Cx) (ifs : List Expr) (ft : FT) : Prop := PTs X ifs (canT X.K ft)
def fYes : FT := fun ρ => some (true, ρ)
theorem tsj_nil {X : Cx} : TsJ X [] fYes := ⟨fun pins s σ H Q I h => (pts_nil (X := X)).run pins s σ H Q I (by
  obtain ⟨F, ρ, b, ρ', S, hf, k⟩ := h
  cases hf
  exact k F H Gr.refl S (Shape.refl ρ))⟩
theorem tsj_one {X : Cx} {c : Expr} {ft : FT} (h : TJ X c ft) : TsJ X [c] ft := pts_one h
def fLc (fi : FI) (h : HT) (ft : FT) (fe : FE) (vs : List Nat) : FE := fun ρ => (fi ρ).bind fun r =>
  (lcGo h ft fe vs r.1 (wipeC r.2.2 (vs ++ hsO r.2.1)) []).bind fun q => some (.new (.list q.1), restC r.2.2 (vs ++ hsO r.2.1) q.2)
section
variable {K : PySem.W.Frag} {F H F1 H1 F2 H2 : Hp} {σ : L2.St} {ρ ρ1 ρ2 : Ce} {L : Addr} {vs us : List Nat} {accv : List V} {acc : List D}
/-- the start of a comprehension's loop -/
theorem CInv.start (S1 : Sd K F1 H1 σ ρ1) (n : H1 L = none) (hv : ∀ i ∈ vs, i ∈ us) : CInv K F1 (upd H1 L (.lst [])) (OwA (wipe σ vs) (wipeC ρ1 us)) (wipe σ vs) (wipeC ρ1 us) L F1 (upd H1 L (.lst [])) (wipeC ρ1 us) [] [] := by
  have S2 := S1.hide vs us hv
  exact ⟨S2.lay n, Gr.refl, (S1.fresh n).1, (S2.fresh n).2, upd_same, .nil, fun a z => z, Shape.refl _⟩
/-- behind it: the hidden cells are back -/
theorem CInv.fin (S1 : Sd K F1 H1 σ ρ1) (n : H1 L = none) (hv : ∀ i ∈ vs, i ∈ us) (I : CInv K F1 (upd H1 L (.lst [])) (OwA (wipe σ vs) (wipeC ρ1 us)) (wipe σ vs) (wipeC ρ1 us) L F2 H2 ρ2 accv acc) :
    Gr (OwA σ ρ1) F1 H1 F2 H2 ∧ Sd K F2 H2 σ (restC ρ1 us ρ2) ∧ Shape ρ1 (restC ρ1 us ρ2) ∧ ¬ OwA σ (restC ρ1 us ρ2) L := by
  have len2 : ρ2.length = ρ1.length := by rw [← I.sh.1, wipeC_len]
  have owSub : ∀ a, OwA (wipe σ vs) (wipeC ρ1 us) a → OwA σ ρ1 a := fun a ⟨i, b, d, e1, e2⟩ => by
    have hi : i ∉ us := fun q => by cases wipeC_in q e1
    exact ⟨i, b, d, (wipeC_out hi).symm.trans e1, (wipe_outS fun z => hi (hv i z)).symm.trans e2⟩
  have hidden : ∀ {i : Nat} {b : Bool} {d : D} {a : Addr}, i ∈ us → ρ1[i]? = some (.own b d) → σ[i]? = some (some (.ref a)) → ¬ OwA (wipe σ vs) (wipeC ρ1 us) a := fun {i b d a} hi e1 e2 ⟨j, b', d', e3, e4⟩ => by
    have hj : j ∉ us := fun q => by cases wipeC_in q e3
    rw [wipeC_out hj] at e3
    rw [wipe_outS fun z => hj (hv j z)] at e4
    have := S1.sep i j b d b' d' a e1 e3 e2 e4
    subst this
    exact hj hi
  have up : ∀ {a : Addr} {o : HO}, H1 a = some o → (upd H1 L (.lst [])) a = some o := fun {a o} e => by rw [upd_ne (ne_of_none e n)]; exact e
  have G : Gr (OwA σ ρ1) F1 H1 F2 H2 := by
    refine ⟨I.gr.fr, fun a o e => ?_, fun a o e no => I.gr.keep a o (up e) fun z => z.elim (fun y => no (owSub a y)) (ne_of_none e n), fun a e => ?_⟩
    · rcases I.gr.new a o e with z | z
      · exact .inl z
      · right
        cases q : H1 a with
        | none => rfl
        | some u => rw [up q] at z; cases z
    · have z := I.gr.there a e
      cases q : H1 a with
      | none => rfl
      | some u => rw [up q] at z; cases z
  have cell : ∀ {i : Nat} {b : Bool} {d : D}, (restC ρ1 us ρ2)[i]? = some (.own b d) → (i ∈ us ∧ ρ1[i]? = some (.own b d)) ∨ (i ∉ us ∧ ρ2[i]? = some (.own b d) ∧ (wipe σ vs)[i]? = σ[i]? ∧ ∃ d', ρ1[i]? = some (.own b d')) := fun {i b d} e => by
    by_cases hi : i ∈ us
    · rw [restC_in len2 hi] at e; exact .inl ⟨hi, e⟩
    · rw [restC_out hi] at e
      obtain ⟨d', e'⟩ := I.sh.back e
      rw [wipeC_out hi] at e'
      exact .inr ⟨hi, e, wipe_outS fun z => hi (hv i z), d', e'⟩
  refine ⟨G, ⟨I.sd.sub, by rw [restC_len, len2, S1.len], fun i d e => ?_, fun i b d e => ?_, fun i j b d c e a h1 h2 h3 h4 => ?_⟩, ⟨by rw [restC_len, len2], fun i => ⟨fun c e n' => ?_, fun b d e => ?_⟩⟩, fun ⟨i, b, d, e1, e2⟩ => ?_⟩
  · by_cases hi : i ∈ us
    · rw [restC_in len2 hi] at e
      obtain ⟨v, h1, h2⟩ := S1.val i d e
      exact ⟨v, h1, h2.mono I.gr.fr⟩
    · rw [restC_out hi] at e
      obtain ⟨v, h1, h2⟩ := I.sd.val i d e
      exact ⟨v, by rw [← wipe_outS fun z => hi (hv i z)]; exact h1, h2⟩
  · rcases cell e with ⟨hi, e'⟩ | ⟨hi, e', es, _⟩
    · obtain ⟨a, h1, h2, h3⟩ := S1.own i b d e'
      obtain ⟨o, ho⟩ := h3.some
      have na : a ≠ L := ne_of_none ho n
      have kp : ∀ o, H1 a = some o → H2 a = some o := fun o q => I.gr.keep a o (up q) fun z => z.elim (hidden hi e' h1) na
      refine ⟨a, h1, ?_, h3.mono I.gr.fr kp⟩
      cases q : F2 a with
      | none => rfl
      | some u =>
        rcases I.gr.new a u q with z | z
        · rw [h2] at z; cases z
        · rw [up ho] at z; cases z
    · obtain ⟨a, h1, h2, h3⟩ := I.sd.own i b d e'
      exact ⟨a, by rw [← es]; exact h1, h2, h3⟩
  · have old : ∀ {i : Nat} {b : Bool} {d : D}, (restC ρ1 us ρ2)[i]? = some (.own b d) → ∃ d', ρ1[i]? = some (.own b d') := fun {i b d} e => by
      rcases cell e with ⟨_, e'⟩ | ⟨_, _, _, e'⟩
      · exact ⟨_, e'⟩
      · exact e'
    obtain ⟨d1, g1⟩ := old h1
    obtain ⟨d2, g2⟩ := old h2
    exact S1.sep i j b d1 c d2 a g1 g2 h3 h4
  · by_cases hi : i ∈ us
    · rw [restC_in len2 hi]; exact e
    · rw [restC_out hi]
      exact (I.sh.2 i).1 c (by rw [wipeC_out hi]; exact e) n'
  · by_cases hi : i ∈ us
    · rw [restC_in len2 hi]; exact ⟨d, e⟩
    · rw [restC_out hi]
      exact (I.sh.2 i).2 b d (by rw [wipeC_out hi]; exact e)
  · rcases cell e1 with ⟨hi, e'⟩ | ⟨hi, e', es, _⟩
    · obtain ⟨a, h1, h2, h3⟩ := S1.own i b d e'
      rw [e2] at h1
      cases h1
      obtain ⟨o, ho⟩ := h3.some
      rw [n] at ho; cases ho
    · exact I.dO ⟨i, b, d, e', by rw [es]; exact e2⟩
/-- what the walk needs, from the loop's state -/
theorem CInv.walk {os : Option Nat} {Sr : Addr → Prop} {G : Hp → Prop} (S1 : Sd K F1 H1 σ ρ1) (n : H1 L = none) (hv : ∀ i ∈ vs, i ∈ us) (ho : ∀ i, os = some i → i ∈ us)
    (hSr : ∀ a, Sr a → (H a = none ∧ ¬ OwA σ ρ1 a) ∨ ∃ i b d, os = some i ∧ ρ1[i]? = some (.own b d) ∧ σ[i]? = some (some (.ref a)))
    (hG : ∀ H2, Same F1 H2 → (∀ a o, Sr a → H1 a = some o → H2 a = some o) → G H2) (I : CInv K F1 (upd H1 L (.lst [])) (OwA (wipe σ vs) (wipeC ρ1 us)) (wipe σ vs) (wipeC ρ1 us) L F2 H2 ρ2 accv acc) : G H2 := by
  refine hG H2 (I.gr.fr.trans I.sd.sub) fun a o sr e => ?_
  have na : a ≠ L := ne_of_none e n
  refine I.gr.keep a o (by rw [upd_ne na]; exact e) fun z => z.elim (fun ⟨j, b', d', e3, e4⟩ => ?_) na
  have hj : j ∉ us := fun q => by cases wipeC_in q e3
  rw [wipeC_out hj] at e3
  rw [wipe_outS fun z => hj (hv j z)] at e4
  rcases hSr a sr with ⟨_, nO⟩ | ⟨i, b, d, z, e1, e2⟩
  · exact nO ⟨j, b', d', e3, e4⟩
  · have := S1.sep i j b d b' d' a e1 e3 e2 e4
    subst this
    exact hj (ho i z)
end
section
variable {X : Cx} {elt tg iter : Expr} {ifs : List Expr} {scope : Scope} {own : List (Str × Nat)} {pos : Pos} {fi : FI} {h : HT} {is vs : List Nat} {ft : FT} {fe : FE}
theorem lc_of {K : PySem.W.Frag} (hs : ∀ i ∈ is, i ∈ vs) {σ : L2.St} {H : Hp} {Q : VK} (c : canE K (fLc fi h ft fe vs) σ H Q) : tLc (canI K fi) (canG K h is) (canT K ft) (canE K fe) vs σ H Q := by
  obtain ⟨F, ρ, o, ρ', S, hf, k⟩ := c
  simp only [fLc, Option.bind_eq_some_iff] at hf
  obtain ⟨⟨ds, os, ρ1⟩, h1, ⟨acc', ρe⟩, h2, h3⟩ := hf
  cases h3
  refine ⟨F, ρ, ds, os, ρ1, S, h1, fun J F1 H1 G1 S1 s1 wk L nL => ?_⟩
  obtain ⟨Gc, Y, Sr, W, hSr, hG, hY⟩ := wk
  have hv : ∀ i ∈ vs, i ∈ vs ++ hsO os := fun i hi => List.mem_append_left _ hi
  have ho : ∀ i, os = some i → i ∈ vs ++ hsO os := fun i e => by subst e; exact List.mem_append_right _ (List.mem_singleton.mpr rfl)
  have hb : ∀ i ∈ vs, ∀ c, (wipeC ρ1 (vs ++ hsO os))[i]? = some c → c = .un := fun i hi c e => wipeC_in (hv i hi) e
  let Pn : Nat → Ce → List D → Prop := fun n ρ2 acc => lcGo h ft fe vs (ds.drop n) ρ2 acc = some (acc', ρe)
  refine lc_it W (fun n H2 => CNx K F1 (upd H1 L (.lst [])) (OwA (wipe σ vs) (wipeC ρ1 (vs ++ hsO os))) (wipe σ vs) (wipeC ρ1 (vs ++ hsO os)) L (Pn n) H2)
    ⟨F1, _, [], [], CInv.start S1 nL hv, by simpa [Pn] using h2⟩ (fun n H2 hn ⟨F2, ρ2, accv, acc, I, _⟩ => I.walk S1 nL hv ho hSr hG) (fun n x H2 H3 hn ⟨F2, ρ2, accv, acc, I, hP⟩ y => ?_) (fun H2 ⟨F2, ρ2, accv, acc, I, hP⟩ => ?_)
  · obtain ⟨d, hd, yr⟩ := hY n H2 x H3 (I.gr.fr.trans I.sd.sub) y
    replace hP : lcGo h ft fe vs (ds.drop n) ρ2 acc = some (acc', ρe) := hP
    rw [getElem?_drop0 hd] at hP
    simp only [lcGo, Option.bind_eq_some_iff] at hP
    obtain ⟨ρ3, e1, t, e2, e3⟩ := hP
    refine lc_turn (P := Pn (n + 1)) (vs := vs) I hb rfl hs yr ⟨ρ3, t, e1, e2, fun ht => ?_, fun ht => ?_⟩
    · rw [ht] at e3
      simp only [cond_true, Option.bind_eq_some_iff] at e3
      obtain ⟨q, e4, z, e5, e6⟩ := e3
      split at e6
      · rename_i hl
        exact ⟨q, z, e4, e5, hl, e6⟩
      · cases e6
    · rw [ht] at e3
      exact e3
  · replace hP : lcGo h ft fe vs (ds.drop ds.length) ρ2 acc = some (acc', ρe) := hP
    rw [List.drop_of_length_le (Nat.le_refl _)] at hP
    cases hP
    obtain ⟨G2, S2, s2, nO⟩ := I.fin S1 nL hv
    exact k _ F2 H2 (G1.trans (G2.weak fun a z => (OwA.shape s1).mp z)) S2 (s1.trans s2) ⟨L, rfl, G1.there L nL, I.dF, nO, .inl ⟨_, _, rfl, I.dH, I.rp⟩⟩
theorem ej_lc (hc : X.calm = true) (hN : X.N.Nodup) (hi : IJ X tg iter fi) (ok : BlkOk X.N X.env.scope scope own)
    (hg : ∀ (s : Shared) (H : Hp) (C : Addr) (cl : List (Str × Addr)) (fp : List Addr), GJ (X.blk s H scope (compEnvC scope cl C X.env) fp) tg h is) (ht : ∀ (s : Shared) (H : Hp) (C : Addr) (cl : List (Str × Addr)) (fp : List Addr), TsJ (X.blk s H scope (compEnvC scope cl C X.env) fp) ifs ft)
    (he : ∀ (s : Shared) (H : Hp) (C : Addr) (cl : List (Str × Addr)) (fp : List Addr), EJ (X.blk s H scope (compEnvC scope cl C X.env) fp) elt fe) (hvs : own.map (·.2) = vs) (hsub : ∀ i ∈ is, i ∈ vs) (hs : ∀ x, foldedSetIterable iter X.env x = pure x := by intro _; rfl) :
    EJ X (.ListComp elt [⟨tg, iter, ifs, 0⟩] scope pos) (fLc fi h ft fe vs) := by
  subst hvs
  exact PE.weak (pe_lc (g := canG X.K h is) (tt := canT X.K ft) (te := canE X.K fe) hc hN hi ok hg ht he hs) fun σ H Q c => lc_of hsub c
theorem sj_setLc {i : Nat} {y : Str} {py spos : Pos} (hc : X.calm = true) (hN : X.N.Nodup) (hy : X.N[i]? = some y) (hyl : X.env.scope.names.lookup y = some .local)
    (hsw : swapsWith (.ListComp elt [⟨tg, iter, ifs, 0⟩] scope pos) (some (.Name y py)) spos.line X.env = pure true) (hi : IJ X tg iter fi) (ok : BlkOk X.N X.env.scope scope own)
    (hg : ∀ (s : Shared) (H : Hp) (C : Addr) (cl : List (Str × Addr)) (fp : List Addr), GJ (X.blk s H scope (compEnvC scope cl C X.env) fp) tg h is) (ht : ∀ (s : Shared) (H : Hp) (C : Addr) (cl : List (Str × Addr)) (fp : List Addr), TsJ (X.blk s H scope (compEnvC scope cl C X.env) fp) ifs ft)
    (he : ∀ (s : Shared) (H : Hp) (C : Addr) (cl : List (Str × Addr)) (fp : List Addr), EJ (X.blk s H scope (compEnvC scope cl C X.env) fp) elt fe) (hvs : own.map (·.2) = vs) (hsub : ∀ i ∈ is, i ∈ vs) (hs : ∀ x, foldedSetIterable iter X.env x = pure x := by intro _; rfl) :
    SJ X (.Assign [.Name y py] (.ListComp elt [⟨tg, iter, ifs, 0⟩] scope pos) spos) (gSet i (fLc fi h ft fe vs)) := by
  subst hvs
  refine PS.weak (ps_setLc (g := canG X.K h is) (tt := canT X.K ft) (te := canE X.K fe) hc hN hy hyl hsw hi ok hg ht he hs) fun D σ H c => ?_
  exact lc_of hsub (gset_of c)
theorem sj_ownLc {i : Nat} {y : Str} {py spos : Pos} (hc : X.calm = true) (hN : X.N.Nodup) (hy : X.N[i]? = some y) (hyl : X.env.scope.names.lookup y = some .local)
    (hsw : swapsWith (.ListComp elt [⟨tg, iter, ifs, 0⟩] scope pos) (some (.Name y py)) spos.line X.env = pure true) (hi : IJ X tg iter fi) (ok : BlkOk X.N X.env.scope scope own)
    (hg : ∀ (s : Shared) (H : Hp) (C : Addr) (cl : List (Str × Addr)) (fp : List Addr), GJ (X.blk s H scope (compEnvC scope cl C X.env) fp) tg h is) (ht : ∀ (s : Shared) (H : Hp) (C : Addr) (cl : List (Str × Addr)) (fp : List Addr), TsJ (X.blk s H scope (compEnvC scope cl C X.env) fp) ifs ft)
    (he : ∀ (s : Shared) (H : Hp) (C : Addr) (cl : List (Str × Addr)) (fp : List Addr), EJ (X.blk s H scope (compEnvC scope cl C X.env) fp) elt fe) (hvs : own.map (·.2) = vs) (hsub : ∀ i ∈ is, i ∈ vs) (hs : ∀ x, foldedSetIterable iter X.env x = pure x := by intro _; rfl) :
    SJ X (.Assign [.Name y py] (.ListComp elt [⟨tg, iter, ifs, 0⟩] scope pos) spos) (gOwn i (fLc fi h ft fe vs)) := by
  subst hvs
  refine PS.weak (ps_setLc (g := canG X.K h is) (tt := canT X.K ft) (te := canE X.K fe) hc hN hy hyl hsw hi ok hg ht he hs) fun D σ H c => ?_
  exact lc_of hsub (gown_of c)
end
end DL

namespace DL
open PySem PySem.Spec L2
section
variable {ρ ρ' : Ce} {σ : L2.St} {vs us : List Nat}
theorem wipeC_get (vs : List Nat) (i : Nat) : (wipeC ρ vs)[i]? = if i ∈ vs then (ρ[i]?.map fun _ => Cell.un) else ρ[i]? := by
  by_cases h : i ∈ vs
  · rw [if_pos h]
    cases q : ρ[i]? with
    | none => rw [List.getElem?_eq_none (by rw [wipeC_len]; exact List.getElem?_eq_none_iff.mp q)]; rfl
    | some c =>
      have hl : i < (wipeC ρ vs).length := by rw [wipeC_len]; exact (List.getElem?_eq_some_iff.mp q).1
      rw [List.getElem?_eq_getElem hl, Option.map_some]
      have := wipeC_in (ρ := ρ) h (List.getElem?_eq_getElem hl)
      rw [this]
  · rw [if_neg h, wipeC_out h]
theorem wipeC_sub (h : ∀ i ∈ us, i ∈ vs) : wipeC (wipeC ρ us) vs = wipeC ρ vs := by
  apply List.ext_getElem?
  intro i
  rw [wipeC_get, wipeC_get, wipeC_get]
  by_cases a : i ∈ vs
  · rw [if_pos a, if_pos a]
    by_cases b : i ∈ us
    · rw [if_pos b]; cases ρ[i]? <;> rfl
    · rw [if_neg b]
  · rw [if_neg a, if_neg a, if_neg fun z => a (h i z)]
theorem wipe_get (vs : List Nat) (i : Nat) : (wipe σ vs)[i]? = if i ∈ vs then (σ[i]?.map fun _ => none) else σ[i]? := by
  induction vs with
  | nil => simp [wipe]
  | cons v vs ih =>
    show ((wipe σ vs).set v none)[i]? = _
    by_cases q : i = v
    · subst q
      rw [if_pos List.mem_cons_self]
      by_cases hl : i < σ.length
      · rw [List.getElem?_set_self (by rw [wipe_length]; exact hl), List.getElem?_eq_getElem hl]; rfl
      · rw [List.getElem?_eq_none (by rw [List.length_set, wipe_length]; omega), List.getElem?_eq_none (by omega)]; rfl
    · rw [List.getElem?_set_ne (Ne.symm q), ih]
      by_cases b : i ∈ vs
      · rw [if_pos b, if_pos (List.mem_cons_of_mem _ b)]
      · rw [if_neg b, if_neg fun z => b ((List.mem_cons.mp z).resolve_left q)]
theorem wipe_sub (h : ∀ i ∈ us, i ∈ vs) : wipe (wipe σ us) vs = wipe σ vs := by
  apply List.ext_getElem?
  intro i
  rw [wipe_get, wipe_get, wipe_get]
  by_cases a : i ∈ vs
  · rw [if_pos a, if_pos a]
    by_cases b : i ∈ us
    · rw [if_pos b]; cases σ[i]? <;> rfl
    · rw [if_neg b]
  · rw [if_neg a, if_neg a, if_neg fun z => a (h i z)]
theorem Shape.wipe (s : Shape ρ ρ') (vs : List Nat) : Shape (wipeC ρ vs) (wipeC ρ' vs) := by
  refine ⟨by rw [wipeC_len, wipeC_len, s.1], fun i => ⟨fun c e n => ?_, fun b d e => ?_⟩⟩
  · rw [wipeC_get] at e ⊢
    by_cases a : i ∈ vs
    · rw [if_pos a] at e ⊢
      cases q : ρ[i]? with
      | none => rw [q] at e; cases e
      | some c' =>
        rw [q] at e
        cases e
        have hl : i < ρ'.length := by rw [← s.1]; exact (List.getElem?_eq_some_iff.mp q).1
        rw [List.getElem?_eq_getElem hl]
        rfl
    · rw [if_neg a] at e ⊢
      exact (s.2 i).1 c e n
  · rw [wipeC_get] at e ⊢
    by_cases a : i ∈ vs
    · rw [if_pos a] at e
      cases q : ρ[i]? with
      | none => rw [q] at e; cases e
      | some c' => rw [q] at e; cases e
    · rw [if_neg a] at e ⊢
      exact (s.2 i).2 b d e
theorem wipe_back {ρ2 ρ3 : Ce} {is : List Nat} (hb : ∀ i ∈ vs, ∀ c, ρ2[i]? = some c → c = .un) (len : ρ3.length = ρ2.length) (out : ∀ i, i ∉ is → ρ3[i]? = ρ2[i]?) (hs : ∀ i ∈ is, i ∈ vs) : wipeC ρ3 vs = ρ2 := by
  apply List.ext_getElem?
  intro i
  rw [wipeC_get]
  by_cases a : i ∈ vs
  · rw [if_pos a]
    cases q : ρ2[i]? with
    | none => rw [List.getElem?_eq_none (by rw [len]; exact List.getElem?_eq_none_iff.mp q)]; rfl
    | some c =>
      have := hb i a c q
      subst this
      rw [List.getElem?_eq_getElem (by rw [len]; exact (List.getElem?_eq_some_iff.mp q).1)]
      rfl
  · rw [if_neg a]
    exact out i fun z => a (hs i z)
end
section
variable {K : PySem.W.Frag} {F1 H1 F2 H2 F3 H3 : Hp} {Ow : Addr → Prop} {σ σw : L2.St} {ρb ρ2 ρ6 : Ce} {L : Addr} {accv accv' : List V} {acc acc' : List D}
theorem CInv.next (I : CInv K F1 H1 Ow σw ρb L F2 H2 ρ2 accv acc) (S : Sd K F3 H3 σw ρ6) (G : Gr (fun a => OwA σw ρ2 a ∨ a = L) F2 H2 F3 H3) (dF : F3 L = none) (dH : H3 L = some (.lst accv')) (rp : RpL K F3 accv' acc') (s : Shape ρ2 ρ6) : CInv K F1 H1 Ow σw ρb L F3 H3 ρ6 accv' acc' :=
  ⟨S, I.gr.trans (G.weak fun a z => z.elim (fun y => .inl (I.ow a y)) .inr), dF, fun z => I.dO ((OwA.shape s).mp z), dH, rp, fun a z => I.ow a ((OwA.shape s).mp z), I.sh.trans s⟩
end
/-! ### two clauses -/
def lcGo2 (h : HT) (ft : FT) (fi1 : FI) (h1 : HT) (ft1 : FT) (fe : FE) (vs vs1 : List Nat) : List D → Ce → List D → Option (List D × Ce)
  | [], ρ, acc => some (acc, ρ)
  | d :: ds, ρ, acc => (h d ρ).bind fun ρ1 => (ft ρ1).bind fun t => cond t.1
      ((fi1 t.2).bind fun r => match r with
        | (ds1, none, ρ3) => (lcGo h1 ft1 fe vs1 ds1 (wipeC ρ3 vs1) acc).bind fun q => lcGo2 h ft fi1 h1 ft1 fe vs vs1 ds (wipeC q.2 vs) q.1
        | _ => none)
      (lcGo2 h ft fi1 h1 ft1 fe vs vs1 ds (wipeC t.2 vs) acc)
def fLc2 (fi : FI) (h : HT) (ft : FT) (fi1 : FI) (h1 : HT) (ft1 : FT) (fe : FE) (vs vs1 : List Nat) : FE := fun ρ => (fi ρ).bind fun r =>
  (lcGo2 h ft fi1 h1 ft1 fe vs vs1 r.1 (wipeC r.2.2 (vs ++ hsO r.2.1)) []).bind fun q => some (.new (.list q.1), restC r.2.2 (vs ++ hsO r.2.1) q.2)
section
variable {K : PySem.W.Frag} {F1 H1 : Hp} {Ow : Addr → Prop} {σ σw : L2.St} {ρb : Ce} {L : Addr} {h h1 : HT} {is is1 vs vs1 : List Nat} {ft ft1 : FT} {fi1 : FI} {fe : FE}
theorem lc_turn2 {P : Ce → List D → Prop} {F2 H2 H3 : Hp} {ρ2 : Ce} {accv : List V} {acc : List D} {d : D} {x : V} (I : CInv K F1 H1 Ow σw ρb L F2 H2 ρ2 accv acc) (hb : ∀ i ∈ vs, ∀ c, ρb[i]? = some c → c = .un) (ww : wipe σw vs = σw) (hs : ∀ i ∈ is, i ∈ vs) (hs1 : ∀ i ∈ is1, i ∈ vs1) (hvs : ∀ i ∈ vs1, i ∈ vs)
    (y : YR K F1 H2 x H3 d) (go : ∃ ρ1 t, h d ρ2 = some ρ1 ∧ ft ρ1 = some t ∧ (t.1 = true → ∃ ds1 ρ3 q, fi1 t.2 = some (ds1, none, ρ3) ∧ lcGo h1 ft1 fe vs1 ds1 (wipeC ρ3 vs1) acc = some q ∧ P (wipeC q.2 vs) q.1) ∧ (t.1 = false → P (wipeC t.2 vs) acc)) :
    canG K h is x σw H3 fun σ2 H4 => wipe σ2 vs = σw ∧ canT K ft σ2 H4 fun b H5 =>
      if b = true then canI K fi1 σ2 H5 fun J1 H6 => ∃ W1 : Nat → Nat → Hp → Prop, (∃ m, W1 0 m H6) ∧ ∀ j k H, W1 j k H →
        (J1.stop j H ∧ CNx K F1 H1 Ow σw ρb L P H) ∨ (J1.go j H ∧ ∃ Nx1 : Hp → Prop, (∀ H', Nx1 H' → ∃ k', k' < k ∧ W1 (j + 1) k' H') ∧ ∀ x H', J1.yld j H x H' → canG K h1 is1 x (wipe σ2 vs1) H' fun σ3 H7 => wipe σ3 vs1 = wipe σ2 vs1 ∧ canT K ft1 σ3 H7 fun b H8 =>
          if b = true then canE K fe σ3 H8 fun z H9 => ∃ accv', H9 L = some (.lst accv') ∧ accv'.length < sizeLine ∧ Nx1 (upd H9 L (.lst (accv' ++ [z]))) else Nx1 H8)
      else CNx K F1 H1 Ow σw ρb L P H5 := by
  obtain ⟨ρ1, t, e1, e2, hT, hF⟩ := go
  obtain ⟨F3, G3, S3, r3, s3⟩ := y.take (Ow := OwA σw ρ2) I.gr.fr I.sd
  refine ⟨F3, ρ2, d, ρ1, S3, r3, e1, fun σ2 tg => ⟨(tg.wipe hs).trans ww, ?_⟩⟩
  have wp2 : wipe σ2 vs = σw := (tg.wipe hs).trans ww
  have S1 := tg.sd S3
  obtain ⟨len1, out1⟩ := tg.out
  have hb2 : ∀ i ∈ vs, ∀ c, ρ2[i]? = some c → c = .un := fun i hi c e => by
    cases c with
    | own b d => obtain ⟨d', e'⟩ := I.sh.back e; cases hb i hi _ e'
    | un => rfl
    | val d =>
      have hl : i < ρb.length := by rw [I.sh.1]; exact (List.getElem?_eq_some_iff.mp e).1
      have e3 := List.getElem?_eq_getElem hl
      have e4 := hb i hi _ e3
      have e5 := (I.sh.2 i).1 _ e3 (fun b d z => by rw [e4] at z; cases z)
      rw [e, e4] at e5
      cases e5
  have wb : wipeC ρ1 vs = ρ2 := wipe_back hb2 len1 (fun i n => (out1 i n).1) hs
  have ow1 : ∀ a, OwA σ2 ρ1 a → OwA σw ρ2 a := fun a ⟨i, b, d, q1, q2⟩ => by
    by_cases hi : i ∈ is
    · exfalso
      -- a target's cell holds no object of its own
      have : ∀ {τ : L2.St} {ρ : Ce}, TgtR K F3 is σw ρ2 τ ρ → ∀ i ∈ vs, ∀ b d, ρ[i]? ≠ some (.own b d) := by
        intro τ ρ tg
        induction tg with
        | refl => intro i hi b d e; cases hb2 i hi _ e
        | @step τ ρ j v e _ hj _ ih =>
          intro i hi b d' q
          by_cases z : i = j
          · subst z
            by_cases hl : i < ρ.length
            · rw [List.getElem?_set_self hl] at q; cases q
            · rw [List.getElem?_eq_none (by rw [List.length_set]; omega)] at q; cases q
          · rw [List.getElem?_set_ne (Ne.symm z)] at q
            exact ih i hi b d' q
      exact this tg i (hs i hi) b d q1
    · exact ⟨i, b, d, (out1 i hi).1.symm.trans q1, (out1 i hi).2.symm.trans q2⟩
  refine ⟨F3, ρ1, t.1, t.2, S1, e2, fun F4 H4 G4 S4 s4 => ?_⟩
  have G34 : Gr (fun a => OwA σw ρ2 a ∨ a = L) F2 H2 F4 H4 := (G3.weak fun a z => .inl z).trans (G4.weak fun a z => .inl (ow1 a z))
  have keepL : ∀ {Fz Hz : Hp}, Gr (OwA σw ρ2) F2 H2 Fz Hz → Fz L = none ∧ Hz L = some (.lst accv) := fun {Fz Hz} G => by
    refine ⟨?_, G.keep L _ I.dH I.dO⟩
    cases q : Fz L with
    | none => rfl
    | some o =>
      rcases G.new L o q with z | z
      · rw [I.dF] at z; cases z
      · rw [I.dH] at z; cases z
  have G34' : Gr (OwA σw ρ2) F2 H2 F4 H4 := G3.trans (G4.weak fun a z => ow1 a z)
  cases ht : t.1 with
  | false =>
    refine L2.iteF ?_
    obtain ⟨f1, f2⟩ := keepL G34'
    have S6 : Sd K F4 H4 σw (wipeC t.2 vs) := by rw [← wp2]; exact S4.hide vs vs fun _ z => z
    have sh : Shape ρ2 (wipeC t.2 vs) := by rw [← wb]; exact s4.wipe vs
    exact ⟨F4, _, accv, acc, I.next S6 G34 f1 f2 (I.rp.mono G34.fr) sh, hF ht⟩
  | true =>
    refine L2.iteT ?_
    obtain ⟨ds1, ρ3, q, e3, e4, hP⟩ := hT ht
    refine ⟨F4, t.2, ds1, none, ρ3, S4, e3, fun J1 F5 H5 G5 S5 s5 wk => ?_⟩
    obtain ⟨Gc, Y, Sr, W, hSr, hG, hY⟩ := wk
    have s15 : Shape ρ1 ρ3 := s4.trans s5
    have G35' : Gr (OwA σw ρ2) F2 H2 F5 H5 := G34'.trans (G5.weak fun a z => ow1 a ((OwA.shape s4).mp z))
    obtain ⟨f1, f2⟩ := keepL G35'
    have ow5 : ∀ a, OwA (wipe σ2 vs1) (wipeC ρ3 vs1) a → OwA σ2 ρ3 a := fun a ⟨i, b, d, q1, q2⟩ => by
      have hi : i ∉ vs1 := fun q => by cases wipeC_in q q1
      exact ⟨i, b, d, (wipeC_out hi).symm.trans q1, (wipe_outS hi).symm.trans q2⟩
    have ow5' : ∀ a, OwA (wipe σ2 vs1) (wipeC ρ3 vs1) a → OwA σw ρ2 a := fun a z => ow1 a ((OwA.shape s15).mp (ow5 a z))
    let In := CInv K F5 H5 (OwA (wipe σ2 vs1) (wipeC ρ3 vs1)) (wipe σ2 vs1) (wipeC ρ3 vs1) L
    have I5 : In F5 H5 (wipeC ρ3 vs1) accv acc := ⟨S5.hide vs1 vs1 fun _ z => z, Gr.refl, f1, fun z => I.dO (ow5' L z), f2, I.rp.mono G35'.fr, fun a z => z, Shape.refl _⟩
    have hb1 : ∀ i ∈ vs1, ∀ c, (wipeC ρ3 vs1)[i]? = some c → c = .un := fun i hi c e => wipeC_in hi e
    let Pn : Nat → Ce → List D → Prop := fun n ρ acc => lcGo h1 ft1 fe vs1 (ds1.drop n) ρ acc = some q
    refine it_core W (Pv := fun n H => CNx K F5 H5 (OwA (wipe σ2 vs1) (wipeC ρ3 vs1)) (wipe σ2 vs1) (wipeC ρ3 vs1) L (Pn n) H)
      (Body := fun x H' Nx1 => canG K h1 is1 x (wipe σ2 vs1) H' fun σ3 H7 => wipe σ3 vs1 = wipe σ2 vs1 ∧ canT K ft1 σ3 H7 fun b H8 =>
          if b = true then canE K fe σ3 H8 fun z H9 => ∃ accv', H9 L = some (.lst accv') ∧ accv'.length < sizeLine ∧ Nx1 (upd H9 L (.lst (accv' ++ [z]))) else Nx1 H8)
      ⟨F5, _, accv, acc, I5, by simpa [Pn] using e4⟩ (fun n Hn hn ⟨Fn, ρn, av, ac, I6, _⟩ => ?_) (fun n x' Hn Hn' hn ⟨Fn, ρn, av, ac, I6, hPn⟩ y' => ?_) (fun Hn ⟨Fn, ρn, av, ac, I6, hPn⟩ => ?_)
    · refine hG Hn (I6.gr.fr.trans I6.sd.sub) fun a o sr e => ?_
      rcases hSr a sr with ⟨na, nO⟩ | ⟨i, b, d, z, _⟩
      · refine I6.gr.keep a o e fun z => z.elim (fun y => nO (ow5 a y)) fun z => ?_
        -- L stood ahead of the inner source
        subst z
        have := (keepL G34').2
        rw [na] at this
        cases this
      · cases z
    · obtain ⟨d', hd, yr⟩ := hY n Hn x' Hn' (I6.gr.fr.trans I6.sd.sub) y'
      replace hPn : lcGo h1 ft1 fe vs1 (ds1.drop n) ρn ac = some q := hPn
      rw [getElem?_drop0 hd] at hPn
      simp only [lcGo, Option.bind_eq_some_iff] at hPn
      obtain ⟨ρ7, g1, t7, g2, g3⟩ := hPn
      refine lc_turn (σ := σ2) (P := Pn (n + 1)) (vs := vs1) I6 hb1 rfl hs1 yr ⟨ρ7, t7, g1, g2, fun h7 => ?_, fun h7 => ?_⟩
      · rw [h7] at g3
        simp only [cond_true, Option.bind_eq_some_iff] at g3
        obtain ⟨q8, g4, z8, g5, g6⟩ := g3
        split at g6
        · rename_i hl
          exact ⟨q8, z8, g4, g5, hl, g6⟩
        · cases g6
      · rw [h7] at g3
        exact g3
    · replace hPn : lcGo h1 ft1 fe vs1 (ds1.drop ds1.length) ρn ac = some q := hPn
      rw [List.drop_of_length_le (Nat.le_refl _)] at hPn
      cases hPn
      have S6 : Sd K Fn Hn σw (wipeC ρn vs) := by
        have z := I6.sd.hide vs vs fun _ z => z
        rw [wipe_sub hvs, wp2] at z
        exact z
      have sh : Shape ρ2 (wipeC ρn vs) := by
        have z1 := s15.wipe vs
        have z2 := I6.sh.wipe vs
        rw [wipeC_sub hvs] at z2
        rw [← wb]
        exact z1.trans z2
      have Gz : Gr (fun a => OwA σw ρ2 a ∨ a = L) F2 H2 Fn Hn := (G35'.weak fun a z => .inl z).trans (I6.gr.weak fun a z => z.elim (fun y => .inl (ow5' a y)) .inr)
      exact ⟨Fn, _, av, _, I.next S6 Gz I6.dF I6.dH I6.rp sh, hP⟩
end
section
variable {X : Cx} {elt tg iter tg1 iter1 : Expr} {ifs ifs1 : List Expr} {scope : Scope} {own : List (Str × Nat)} {pos : Pos} {fi fi1 : FI} {h h1 : HT} {is is1 vs vs1 : List Nat} {ft ft1 : FT} {fe : FE}
theorem lc2_of {K : PySem.W.Frag} (hs : ∀ i ∈ is, i ∈ vs) (hs1 : ∀ i ∈ is1, i ∈ vs1) (hvs : ∀ i ∈ vs1, i ∈ vs) {σ : L2.St} {H : Hp} {Q : VK} (c : canE K (fLc2 fi h ft fi1 h1 ft1 fe vs vs1) σ H Q) :
    tLc2 (canI K fi) (canG K h is) (canT K ft) (canI K fi1) (canG K h1 is1) (canT K ft1) (canE K fe) vs vs1 σ H Q := by
  obtain ⟨F, ρ, o, ρ', S, hf, k⟩ := c
  simp only [fLc2, Option.bind_eq_some_iff] at hf
  obtain ⟨⟨ds, os, ρ1⟩, e1, ⟨acc', ρe⟩, e2, e3⟩ := hf
  cases e3
  refine ⟨F, ρ, ds, os, ρ1, S, e1, fun J F1 H1 G1 S1 s1 wk L nL => ?_⟩
  obtain ⟨Gc, Y, Sr, W, hSr, hG, hY⟩ := wk
  have hv : ∀ i ∈ vs, i ∈ vs ++ hsO os := fun i hi => List.mem_append_left _ hi
  have ho : ∀ i, os = some i → i ∈ vs ++ hsO os := fun i e => by subst e; exact List.mem_append_right _ (List.mem_singleton.mpr rfl)
  have hb : ∀ i ∈ vs, ∀ c, (wipeC ρ1 (vs ++ hsO os))[i]? = some c → c = .un := fun i hi c e => wipeC_in (hv i hi) e
  let Pn : Nat → Ce → List D → Prop := fun n ρ2 acc => lcGo2 h ft fi1 h1 ft1 fe vs vs1 (ds.drop n) ρ2 acc = some (acc', ρe)
  refine it_core W (Pv := fun n H2 => CNx K F1 (upd H1 L (.lst [])) (OwA (wipe σ vs) (wipeC ρ1 (vs ++ hsO os))) (wipe σ vs) (wipeC ρ1 (vs ++ hsO os)) L (Pn n) H2)
    (Body := fun x H' Nx => canG K h is x (wipe σ vs) H' fun σ2 H2 => wipe σ2 vs = wipe σ vs ∧ canT K ft σ2 H2 fun b H3 =>
      if b = true then canI K fi1 σ2 H3 fun J1 H4 => ∃ W1 : Nat → Nat → Hp → Prop, (∃ m, W1 0 m H4) ∧ ∀ j k H, W1 j k H →
        (J1.stop j H ∧ Nx H) ∨ (J1.go j H ∧ ∃ Nx1 : Hp → Prop, (∀ H', Nx1 H' → ∃ k', k' < k ∧ W1 (j + 1) k' H') ∧ ∀ x H', J1.yld j H x H' → canG K h1 is1 x (wipe σ2 vs1) H' fun σ3 H5 => wipe σ3 vs1 = wipe σ2 vs1 ∧ canT K ft1 σ3 H5 fun b H6 =>
          if b = true then canE K fe σ3 H6 fun y H7 => ∃ acc, H7 L = some (.lst acc) ∧ acc.length < sizeLine ∧ Nx1 (upd H7 L (.lst (acc ++ [y]))) else Nx1 H6)
      else Nx H3)
    ⟨F1, _, [], [], CInv.start S1 nL hv, by simpa [Pn] using e2⟩ (fun n H2 hn ⟨F2, ρ2, accv, acc, I, _⟩ => I.walk S1 nL hv ho hSr hG) (fun n x H2 H3 hn ⟨F2, ρ2, accv, acc, I, hP⟩ y => ?_) (fun H2 ⟨F2, ρ2, accv, acc, I, hP⟩ => ?_)
  · obtain ⟨d, hd, yr⟩ := hY n H2 x H3 (I.gr.fr.trans I.sd.sub) y
    replace hP : lcGo2 h ft fi1 h1 ft1 fe vs vs1 (ds.drop n) ρ2 acc = some (acc', ρe) := hP
    rw [getElem?_drop0 hd] at hP
    simp only [lcGo2, Option.bind_eq_some_iff] at hP
    obtain ⟨ρ3, g1, t, g2, g3⟩ := hP
    refine lc_turn2 (P := Pn (n + 1)) I hb (wipe_sub fun _ z => z) hs hs1 hvs yr ⟨ρ3, t, g1, g2, fun ht => ?_, fun ht => ?_⟩
    · rw [ht] at g3
      simp only [cond_true, Option.bind_eq_some_iff] at g3
      obtain ⟨⟨ds1, os1, ρ5⟩, g4, g5⟩ := g3
      cases os1 with
      | some i => cases g5
      | none =>
        simp only [Option.bind_eq_some_iff] at g5
        obtain ⟨q, g6, g7⟩ := g5
        exact ⟨ds1, ρ5, q, g4, g6, g7⟩
    · rw [ht] at g3
      exact g3
  · replace hP : lcGo2 h ft fi1 h1 ft1 fe vs vs1 (ds.drop ds.length) ρ2 acc = some (acc', ρe) := hP
    rw [List.drop_of_length_le (Nat.le_refl _)] at hP
    cases hP
    obtain ⟨G2, S2, s2, nO⟩ := I.fin S1 nL hv
    exact k _ F2 H2 (G1.trans (G2.weak fun a z => (OwA.shape s1).mp z)) S2 (s1.trans s2) ⟨L, rfl, G1.there L nL, I.dF, nO, .inl ⟨_, _, rfl, I.dH, I.rp⟩⟩
theorem ej_lc2 (hc : X.calm = true) (hN : X.N.Nodup) (hi : IJ X tg iter fi) (ok : BlkOk X.N X.env.scope scope own) (hvo : ∀ i ∈ vs1, i ∈ own.map (·.2))
    (hg : ∀ (s : Shared) (H : Hp) (C : Addr) (cl : List (Str × Addr)) (fp : List Addr), GJ (X.blk s H scope (compEnvC scope cl C X.env) fp) tg h is) (ht : ∀ (s : Shared) (H : Hp) (C : Addr) (cl : List (Str × Addr)) (fp : List Addr), TsJ (X.blk s H scope (compEnvC scope cl C X.env) fp) ifs ft)
    (hi1 : ∀ (s : Shared) (H : Hp) (C : Addr) (cl : List (Str × Addr)) (fp : List Addr), IJ (X.blk s H scope (compEnvC scope cl C X.env) fp) tg1 iter1 fi1)
    (hg1 : ∀ (s : Shared) (H : Hp) (C : Addr) (cl : List (Str × Addr)) (fp : List Addr), GJ (X.blk s H scope (compEnvC scope cl C X.env) fp) tg1 h1 is1)
    (ht1 : ∀ (s : Shared) (H : Hp) (C : Addr) (cl : List (Str × Addr)) (fp : List Addr), TsJ (X.blk s H scope (compEnvC scope cl C X.env) fp) ifs1 ft1)
    (he : ∀ (s : Shared) (H : Hp) (C : Addr) (cl : List (Str × Addr)) (fp : List Addr), EJ (X.blk s H scope (compEnvC scope cl C X.env) fp) elt fe) (hvs : own.map (·.2) = vs) (hsub : ∀ i ∈ is, i ∈ vs) (hsub1 : ∀ i ∈ is1, i ∈ vs1)
    (hs : ∀ x, foldedSetIterable iter X.env x = pure x := by intro _; rfl) (hs1 : ∀ env x, foldedSetIterable iter1 env x = pure x := by intro _ _; rfl) :
    EJ X (.ListComp elt [⟨tg, iter, ifs, 0⟩, ⟨tg1, iter1, ifs1, 0⟩] scope pos) (fLc2 fi h ft fi1 h1 ft1 fe vs vs1) := by
  subst hvs
  exact PE.weak (pe_lc2 (g := canG X.K h is) (tt := canT X.K ft) (wi1 := canI X.K fi1) (g1 := canG X.K h1 is1) (tt1 := canT X.K ft1) (te := canE X.K fe) hc hN hi ok hvo hg ht hi1 hg1 ht1 he hs hs1) fun σ H Q c => lc2_of hsub hsub1 hvo c
end
end DL

namespace DL
open PySem PySem.Spec L2
/-! ### {k: v for x in xs if ..}, the keys ints or texts -/
def keyK : Opd → Option Key
  | .frz d => keyD d
  | _ => none
def dcGo (h : HT) (ft : FT) (fk fe : FE) (vs : List Nat) : List D → Ce → List (D × D) → Option (List (D × D) × Ce)
  | [], ρ, acc => some (acc, ρ)
  | d :: ds, ρ, acc => (h d ρ).bind fun ρ1 => (ft ρ1).bind fun t => cond t.1
      ((fk t.2).bind fun w => (keyK w.1).bind fun kk => (fe w.2).bind fun q => (frD q.1).bind fun y => if acc.length < sizeLine then dcGo h ft fk fe vs ds (wipeC q.2 vs) (dPut acc (kD kk) y) else none)
      (dcGo h ft fk fe vs ds (wipeC t.2 vs) acc)
def fDc (fi : FI) (h : HT) (ft : FT) (fk fe : FE) (vs : List Nat) : FE := fun ρ => (fi ρ).bind fun r =>
  (dcGo h ft fk fe vs r.1 (wipeC r.2.2 (vs ++ hsO r.2.1)) []).bind fun q => some (.new (.dict q.1), restC r.2.2 (vs ++ hsO r.2.1) q.2)
structure DInv (K : PySem.W.Frag) (F1 H1 : Hp) (Ow : Addr → Prop) (σw : L2.St) (ρb : Ce) (L : Addr) (F H : Hp) (ρ : Ce) (accv : List (Key × V)) (acc : List (D × D)) : Prop where
  sd : Sd K F H σw ρ
  gr : Gr (fun a => Ow a ∨ a = L) F1 H1 F H
  dF : F L = none
  dO : ¬ OwA σw ρ L
  dH : H L = some (.dK accv)
  rp : RpK K F accv acc
  ow : ∀ a, OwA σw ρ a → Ow a
  sh : Shape ρb ρ
section
variable {K : PySem.W.Frag} {F1 H1 : Hp} {Ow : Addr → Prop} {σ σw : L2.St} {ρb : Ce} {L : Addr} {h : HT} {is vs : List Nat} {ft : FT} {fk fe : FE} {res : List D × Ce}
/-- what a turn is to reach -/
def DNx (K : PySem.W.Frag) (F1 H1 : Hp) (Ow : Addr → Prop) (σw : L2.St) (ρb : Ce) (L : Addr) (P : Ce → List (D × D) → Prop) (H : Hp) : Prop := ∃ F ρ accv acc, DInv K F1 H1 Ow σw ρb L F H ρ accv acc ∧ P ρ acc
/-- behind some expressions of a turn: back to the loop's cells -/
theorem DInv.after {F2 H2 F3 H3 : Hp} {ρ2 ρ3 ρ4 : Ce} {accv : List (Key × V)} {acc : List (D × D)} {σ2 : L2.St} (I : DInv K F1 H1 Ow σw ρb L F2 H2 ρ2 accv acc) (hb : ∀ i ∈ vs, ∀ c, ρb[i]? = some c → c = .un) (hw : wipe σ2 vs = σw) (hs : ∀ i ∈ is, i ∈ vs)
    (len3 : ρ3.length = ρ2.length) (out3 : ∀ i, i ∉ is → ρ3[i]? = ρ2[i]? ∧ σ2[i]? = σw[i]?) (noOwn : ∀ i ∈ vs, ∀ b d, ρ3[i]? ≠ some (.own b d)) (G : Gr (OwA σ2 ρ3) F2 H2 F3 H3) (S3 : Sd K F3 H3 σ2 ρ4) (s : Shape ρ3 ρ4) : DInv K F1 H1 Ow σw ρb L F3 H3 (wipeC ρ4 vs) accv acc := by
  have owOld : ∀ a, OwA σ2 ρ3 a → OwA σw ρ2 a := fun a ⟨i, b, d, e1, e2⟩ => by
    have hi : i ∉ vs := fun q => noOwn i q b d e1
    have hi' : i ∉ is := fun q => hi (hs i q)
    obtain ⟨o1, o2⟩ := out3 i hi'
    exact ⟨i, b, d, o1.symm.trans e1, o2.symm.trans e2⟩
  have nL : ¬ OwA σ2 ρ3 L := fun z => I.dO (owOld L z)
  have S4 : Sd K F3 H3 σw (wipeC ρ4 vs) := by rw [← hw]; exact S3.hide vs vs fun _ z => z
  have owNew : ∀ a, OwA σw (wipeC ρ4 vs) a → OwA σw ρ2 a := fun a ⟨i, b, d, e1, e2⟩ => by
    have hi : i ∉ vs := fun q => by cases wipeC_in q e1
    rw [wipeC_out hi] at e1
    obtain ⟨d', e3⟩ := s.back e1
    obtain ⟨o1, _⟩ := out3 i fun q => hi (hs i q)
    exact ⟨i, b, d', o1.symm.trans e3, e2⟩
  refine ⟨S4, I.gr.trans (G.weak fun a z => .inl (I.ow a (owOld a z))), ?_, fun z => I.dO (owNew L z), G.keep L _ I.dH nL, I.rp.mono G.fr, fun a z => I.ow a (owNew a z), ?_⟩
  · cases q : F3 L with
    | none => rfl
    | some o =>
      rcases G.new L o q with z | z
      · rw [I.dF] at z; cases z
      · rw [I.dH] at z; cases z
  · refine ⟨by rw [wipeC_len, ← s.1, len3, I.sh.1], fun i => ⟨fun c e n => ?_, fun b d e => ?_⟩⟩
    · by_cases hi : i ∈ vs
      · have := hb i hi c e
        subst this
        have hlt : i < (wipeC ρ4 vs).length := by
          rw [wipeC_len, ← s.1, len3, ← I.sh.1]
          exact (List.getElem?_eq_some_iff.mp e).1
        cases q : (wipeC ρ4 vs)[i]? with
        | none => rw [List.getElem?_eq_none_iff] at q; omega
        | some c' => rw [wipeC_in hi q]
      · rw [wipeC_out hi]
        refine (s.2 i).1 c ?_ n
        rw [(out3 i fun q => hi (hs i q)).1]
        exact (I.sh.2 i).1 c e n
    · have hi : i ∉ vs := fun q => by cases hb i q _ e
      rw [wipeC_out hi]
      obtain ⟨d1, e1⟩ := (I.sh.2 i).2 b d e
      rw [← (out3 i fun q => hi (hs i q)).1] at e1
      exact (s.2 i).2 b d1 e1
theorem dc_turn {P : Ce → List (D × D) → Prop} {F2 H2 H3 : Hp} {ρ2 : Ce} {accv : List (Key × V)} {acc : List (D × D)} {d : D} {x : V} (I : DInv K F1 H1 Ow σw ρb L F2 H2 ρ2 accv acc) (hb : ∀ i ∈ vs, ∀ c, ρb[i]? = some c → c = .un) (hσ : wipe σ vs = σw) (hs : ∀ i ∈ is, i ∈ vs)
    (y : YR K F1 H2 x H3 d) (go : ∃ ρ1 t, h d ρ2 = some ρ1 ∧ ft ρ1 = some t ∧ (t.1 = true → ∃ w kk q z, fk t.2 = some w ∧ keyK w.1 = some kk ∧ fe w.2 = some q ∧ frD q.1 = some z ∧ acc.length < sizeLine ∧ P (wipeC q.2 vs) (dPut acc (kD kk) z)) ∧ (t.1 = false → P (wipeC t.2 vs) acc)) :
    canG K h is x σw H3 fun σ2 H4 => wipe σ2 vs = σw ∧ canT K ft σ2 H4 fun b H5 =>
      if b = true then canE K fk σ2 H5 fun y H5' => canE K fe σ2 H5' fun z H6 => ∃ accv' kk, y = kV kk ∧ H6 L = some (.dK accv') ∧ accv'.length < sizeLine ∧ DNx K F1 H1 Ow σw ρb L P (upd H6 L (.dK (putK accv' kk z))) else DNx K F1 H1 Ow σw ρb L P H5 := by
  obtain ⟨ρ1, t, h1, h2, hT, hF⟩ := go
  obtain ⟨F3, G3, S3, r3, s3⟩ := y.take (Ow := OwA σw ρ2) I.gr.fr I.sd
  have ww : wipe σw vs = σw := by
    rw [← hσ]
    clear hσ
    have out : ∀ (us : List Nat) (i : Nat), i ∈ us → (wipe σ us)[i]? = some none ∨ (wipe σ us)[i]? = none := by
      intro us
      induction us with
      | nil => intro i hi; cases hi
      | cons u us ih =>
        intro i hi
        show ((wipe σ us).set u none)[i]? = _ ∨ _
        by_cases q : i = u
        · subst q
          by_cases hl : i < (wipe σ us).length
          · exact .inl (by rw [List.getElem?_set_self hl])
          · exact .inr (by show ((wipe σ us).set i none)[i]? = none; rw [List.getElem?_eq_none (by rw [List.length_set]; omega)])
        · rw [List.getElem?_set_ne (Ne.symm q)]
          show _ ∨ ((wipe σ us).set u none)[i]? = none
          rw [List.getElem?_set_ne (Ne.symm q)]
          exact ih i ((List.mem_cons.mp hi).resolve_left q)
    apply List.ext_getElem?
    intro i
    by_cases hi : i ∈ vs
    · have a1 : ∀ us : List Nat, i ∈ us → ∀ τ : L2.St, τ.length = σ.length → (wipe τ us)[i]? = if i < σ.length then some none else none := by
        intro us
        induction us with
        | nil => intro hi; cases hi
        | cons u us ih =>
          intro hi τ hl
          show ((wipe τ us).set u none)[i]? = _
          by_cases q : i = u
          · subst q
            by_cases hl2 : i < σ.length
            · rw [List.getElem?_set_self (by rw [wipe_length, hl]; exact hl2), if_pos hl2]
            · rw [List.getElem?_eq_none (by rw [List.length_set, wipe_length, hl]; omega), if_neg hl2]
          · rw [List.getElem?_set_ne (Ne.symm q)]
            exact ih ((List.mem_cons.mp hi).resolve_left q) τ hl
      rw [a1 vs hi _ (wipe_length σ vs), a1 vs hi σ rfl]
    · rw [wipe_outS hi]
  refine ⟨F3, ρ2, d, ρ1, S3, r3, h1, fun σ2 tg => ⟨(tg.wipe hs).trans ww, ?_⟩⟩
  have S1 := tg.sd S3
  obtain ⟨len1, out1⟩ := tg.out
  have noOwn : ∀ i ∈ vs, ∀ b d, ρ1[i]? ≠ some (.own b d) := by
    have base : ∀ i ∈ vs, ∀ b d, ρ2[i]? ≠ some (.own b d) := fun i hi b d e => by
      obtain ⟨d', e'⟩ := I.sh.back e
      cases hb i hi _ e'
    clear S1 len1 out1 h1 h2 hT hF
    induction tg with
    | refl => exact base
    | @step τ ρ j v e _ hj _ ih =>
      intro i hi b d' q
      by_cases z : i = j
      · subst z
        by_cases hl : i < ρ.length
        · rw [List.getElem?_set_self hl] at q; cases q
        · rw [List.getElem?_eq_none (by rw [List.length_set]; omega)] at q; cases q
      · rw [List.getElem?_set_ne (Ne.symm z)] at q
        exact ih i hi b d' q
  have ow1 : ∀ a, OwA σ2 ρ1 a → OwA σw ρ2 a := fun a ⟨i, b, d, e1, e2⟩ => by
    have hi : i ∉ is := fun q => noOwn i (hs i q) b d e1
    exact ⟨i, b, d, (out1 i hi).1.symm.trans e1, (out1 i hi).2.symm.trans e2⟩
  have I3 : DInv K F1 H1 Ow σw ρb L F3 H3 ρ2 accv acc := by
    refine ⟨S3, I.gr.trans (G3.weak fun a z => .inl (I.ow a z)), ?_, I.dO, G3.keep L _ I.dH I.dO, I.rp.mono G3.fr, I.ow, I.sh⟩
    cases q : F3 L with
    | none => rfl
    | some o =>
      rcases G3.new L o q with z | z
      · rw [I.dF] at z; cases z
      · rw [I.dH] at z; cases z
  have wp2 : wipe σ2 vs = σw := (tg.wipe hs).trans ww
  refine ⟨F3, ρ1, t.1, t.2, S1, h2, fun F4 H4 G4 S4 s4 => ?_⟩
  cases ht : t.1 with
  | false =>
    rw [if_neg Bool.false_ne_true]
    exact ⟨F4, _, accv, acc, I3.after (σ2 := σ2) hb wp2 hs len1 out1 noOwn G4 S4 s4, hF ht⟩
  | true =>
    rw [if_pos rfl]
    obtain ⟨⟨wo, wρ⟩, kk, q, z, hk1, hk2, h3, h4, hlen, hP⟩ := hT ht
    refine one S4 (x := wo) (ρ1 := wρ) hk1 fun yv F4' H4' G4' S4' s4' ok => ?_
    have ey : yv = kV kk := by
      cases wo with
      | frz d => cases keyD_eq hk2; exact kV_rp ok
      | own i => cases hk2
      | new d => cases hk2
    subst ey
    refine one S4' (x := q.1) (ρ1 := q.2) h3 fun v F5 H5 G5 S5 s5 ov => ?_
    obtain ⟨F6, G6, S6, r6, s6⟩ := ov.freeze S5 G5 h4
    have G46 : Gr (OwA σ2 ρ1) F3 H3 F6 H5 := (G4.trans (G4'.weak fun a y => (OwA.shape s4).mp y)).trans (G6.weak fun a y => (OwA.shape (s4.trans s4')).mp y)
    have I6 := I3.after (σ2 := σ2) hb wp2 hs len1 out1 noOwn G46 S6 ((s4.trans s4').trans s5)
    refine ⟨accv, kk, rfl, I6.dH, by rw [I6.rp.length]; exact hlen, F6, _, putK accv kk v, dPut acc (kD kk) z, ⟨?_, ?_, I6.dF, I6.dO, upd_same, I6.rp.put kk r6, I6.ow, I6.sh⟩, hP⟩
    · refine ⟨fun b o e => ?_, I6.sd.len, I6.sd.val, fun i b d e => ?_, I6.sd.sep⟩
      · have nb : b ≠ L := fun y => by subst y; rw [I6.dF] at e; cases e
        rw [upd_ne nb]; exact I6.sd.sub b o e
      · obtain ⟨a, e1, e2, e3⟩ := I6.sd.own i b d e
        have na : a ≠ L := fun y => I6.dO ⟨i, b, d, e, by rw [← y]; exact e1⟩
        exact ⟨a, e1, e2, e3.mono (Same.refl _) fun o y => by rw [upd_ne na]; exact y⟩
    · refine ⟨I6.gr.fr, I6.gr.new, fun a o e n => ?_, fun a e => ?_⟩
      · have na : a ≠ L := fun y => n (.inr y)
        rw [upd_ne na]; exact I6.gr.keep a o e n
      · by_cases na : a = L
        · subst na; rw [upd_same] at e; cases e
        · rw [upd_ne na] at e; exact I6.gr.there a e
end
section
variable {K : PySem.W.Frag} {F H F1 H1 F2 H2 : Hp} {σ : L2.St} {ρ ρ1 ρ2 : Ce} {L : Addr} {vs us : List Nat} {accv : List (Key × V)} {acc : List (D × D)}
/-- the start of a comprehension's loop -/
theorem DInv.start (S1 : Sd K F1 H1 σ ρ1) (n : H1 L = none) (hv : ∀ i ∈ vs, i ∈ us) : DInv K F1 (upd H1 L (.dK [])) (OwA (wipe σ vs) (wipeC ρ1 us)) (wipe σ vs) (wipeC ρ1 us) L F1 (upd H1 L (.dK [])) (wipeC ρ1 us) [] [] := by
  have S2 := S1.hide vs us hv
  exact ⟨S2.lay n, Gr.refl, (S1.fresh n).1, (S2.fresh n).2, upd_same, .nil, fun a z => z, Shape.refl _⟩
/-- behind it: the hidden cells are back -/
theorem DInv.fin (S1 : Sd K F1 H1 σ ρ1) (n : H1 L = none) (hv : ∀ i ∈ vs, i ∈ us) (I : DInv K F1 (upd H1 L (.dK [])) (OwA (wipe σ vs) (wipeC ρ1 us)) (wipe σ vs) (wipeC ρ1 us) L F2 H2 ρ2 accv acc) :
    Gr (OwA σ ρ1) F1 H1 F2 H2 ∧ Sd K F2 H2 σ (restC ρ1 us ρ2) ∧ Shape ρ1 (restC ρ1 us ρ2) ∧ ¬ OwA σ (restC ρ1 us ρ2) L := by
  have len2 : ρ2.length = ρ1.length := by rw [← I.sh.1, wipeC_len]
  have owSub : ∀ a, OwA (wipe σ vs) (wipeC ρ1 us) a → OwA σ ρ1 a := fun a ⟨i, b, d, e1, e2⟩ => by
    have hi : i ∉ us := fun q => by cases wipeC_in q e1
    exact ⟨i, b, d, (wipeC_out hi).symm.trans e1, (wipe_outS fun z => hi (hv i z)).symm.trans e2⟩
  have hidden : ∀ {i : Nat} {b : Bool} {d : D} {a : Addr}, i ∈ us → ρ1[i]? = some (.own b d) → σ[i]? = some (some (.ref a)) → ¬ OwA (wipe σ vs) (wipeC ρ1 us) a := fun {i b d a} hi e1 e2 ⟨j, b', d', e3, e4⟩ => by
    have hj : j ∉ us := fun q => by cases wipeC_in q e3
    rw [wipeC_out hj] at e3
    rw [wipe_outS fun z => hj (hv j z)] at e4
    have := S1.sep i j b d b' d' a e1 e3 e2 e4
    subst this
    exact hj hi
  have up : ∀ {a : Addr} {o : HO}, H1 a = some o → (upd H1 L (.dK [])) a = some o := fun {a o} e => by rw [upd_ne (ne_of_none e n)]; exact e
  have G : Gr (OwA σ ρ1) F1 H1 F2 H2 := by
    refine ⟨I.gr.fr, fun a o e => ?_, fun a o e no => I.gr.keep a o (up e) fun z => z.elim (fun y => no (owSub a y)) (ne_of_none e n), fun a e => ?_⟩
    · rcases I.gr.new a o e with z | z
      · exact .inl z
      · right
        cases q : H1 a with
        | none => rfl
        | some u => rw [up q] at z; cases z
    · have z := I.gr.there a e
      cases q : H1 a with
      | none => rfl
      | some u => rw [up q] at z; cases z
  have cell : ∀ {i : Nat} {b : Bool} {d : D}, (restC ρ1 us ρ2)[i]? = some (.own b d) → (i ∈ us ∧ ρ1[i]? = some (.own b d)) ∨ (i ∉ us ∧ ρ2[i]? = some (.own b d) ∧ (wipe σ vs)[i]? = σ[i]? ∧ ∃ d', ρ1[i]? = some (.own b d')) := fun {i b d} e => by
    by_cases hi : i ∈ us
    · rw [restC_in len2 hi] at e; exact .inl ⟨hi, e⟩
    · rw [restC_out hi] at e
      obtain ⟨d', e'⟩ := I.sh.back e
      rw [wipeC_out hi] at e'
      exact .inr ⟨hi, e, wipe_outS fun z => hi (hv i z), d', e'⟩
  refine ⟨G, ⟨I.sd.sub, by rw [restC_len, len2, S1.len], fun i d e => ?_, fun i b d e => ?_, fun i j b d c e a h1 h2 h3 h4 => ?_⟩, ⟨by rw [restC_len, len2], fun i => ⟨fun c e n' => ?_, fun b d e => ?_⟩⟩, fun ⟨i, b, d, e1, e2⟩ => ?_⟩
  · by_cases hi : i ∈ us
    · rw [restC_in len2 hi] at e
      obtain ⟨v, h1, h2⟩ := S1.val i d e
      exact ⟨v, h1, h2.mono I.gr.fr⟩
    · rw [restC_out hi] at e
      obtain ⟨v, h1, h2⟩ := I.sd.val i d e
      exact ⟨v, by rw [← wipe_outS fun z => hi (hv i z)]; exact h1, h2⟩
  · rcases cell e with ⟨hi, e'⟩ | ⟨hi, e', es, _⟩
    · obtain ⟨a, h1, h2, h3⟩ := S1.own i b d e'
      obtain ⟨o, ho⟩ := h3.some
      have na : a ≠ L := ne_of_none ho n
      have kp : ∀ o, H1 a = some o → H2 a = some o := fun o q => I.gr.keep a o (up q) fun z => z.elim (hidden hi e' h1) na
      refine ⟨a, h1, ?_, h3.mono I.gr.fr kp⟩
      cases q : F2 a with
      | none => rfl
      | some u =>
        rcases I.gr.new a u q with z | z
        · rw [h2] at z; cases z
        · rw [up ho] at z; cases z
    · obtain ⟨a, h1, h2, h3⟩ := I.sd.own i b d e'
      exact ⟨a, by rw [← es]; exact h1, h2, h3⟩
  · have old : ∀ {i : Nat} {b : Bool} {d : D}, (restC ρ1 us ρ2)[i]? = some (.own b d) → ∃ d', ρ1[i]? = some (.own b d') := fun {i b d} e => by
      rcases cell e with ⟨_, e'⟩ | ⟨_, _, _, e'⟩
      · exact ⟨_, e'⟩
      · exact e'
    obtain ⟨d1, g1⟩ := old h1
    obtain ⟨d2, g2⟩ := old h2
    exact S1.sep i j b d1 c d2 a g1 g2 h3 h4
  · by_cases hi : i ∈ us
    · rw [restC_in len2 hi]; exact e
    · rw [restC_out hi]
      exact (I.sh.2 i).1 c (by rw [wipeC_out hi]; exact e) n'
  · by_cases hi : i ∈ us
    · rw [restC_in len2 hi]; exact ⟨d, e⟩
    · rw [restC_out hi]
      exact (I.sh.2 i).2 b d (by rw [wipeC_out hi]; exact e)
  · rcases cell e1 with ⟨hi, e'⟩ | ⟨hi, e', es, _⟩
    · obtain ⟨a, h1, h2, h3⟩ := S1.own i b d e'
      rw [e2] at h1
      cases h1
      obtain ⟨o, ho⟩ := h3.some
      rw [n] at ho; cases ho
    · exact I.dO ⟨i, b, d, e', by rw [es]; exact e2⟩
/-- what the walk needs, from the loop's state -/
theorem DInv.walk {os : Option Nat} {Sr : Addr → Prop} {G : Hp → Prop} (S1 : Sd K F1 H1 σ ρ1) (n : H1 L = none) (hv : ∀ i ∈ vs, i ∈ us) (ho : ∀ i, os = some i → i ∈ us)
    (hSr : ∀ a, Sr a → (H a = none ∧ ¬ OwA σ ρ1 a) ∨ ∃ i b d, os = some i ∧ ρ1[i]? = some (.own b d) ∧ σ[i]? = some (some (.ref a)))
    (hG : ∀ H2, Same F1 H2 → (∀ a o, Sr a → H1 a = some o → H2 a = some o) → G H2) (I : DInv K F1 (upd H1 L (.dK [])) (OwA (wipe σ vs) (wipeC ρ1 us)) (wipe σ vs) (wipeC ρ1 us) L F2 H2 ρ2 accv acc) : G H2 := by
  refine hG H2 (I.gr.fr.trans I.sd.sub) fun a o sr e => ?_
  have na : a ≠ L := ne_of_none e n
  refine I.gr.keep a o (by rw [upd_ne na]; exact e) fun z => z.elim (fun ⟨j, b', d', e3, e4⟩ => ?_) na
  have hj : j ∉ us := fun q => by cases wipeC_in q e3
  rw [wipeC_out hj] at e3
  rw [wipe_outS fun z => hj (hv j z)] at e4
  rcases hSr a sr with ⟨_, nO⟩ | ⟨i, b, d, z, e1, e2⟩
  · exact nO ⟨j, b', d', e3, e4⟩
  · have := S1.sep i j b d b' d' a e1 e3 e2 e4
    subst this
    exact hj (ho i z)
end
section
variable {fi : FI} {h : HT} {is vs : List Nat} {ft : FT} {fk fe : FE}
theorem dc_of {K : PySem.W.Frag} (hs : ∀ i ∈ is, i ∈ vs) {σ : L2.St} {H : Hp} {Q : VK} (c : canE K (fDc fi h ft fk fe vs) σ H Q) : tDc (canI K fi) (canG K h is) (canT K ft) (canE K fk) (canE K fe) vs σ H Q := by
  obtain ⟨F, ρ, o, ρ', S, hf, k⟩ := c
  simp only [fDc, Option.bind_eq_some_iff] at hf
  obtain ⟨⟨ds, os, ρ1⟩, h1, ⟨acc', ρe⟩, h2, h3⟩ := hf
  cases h3
  refine ⟨F, ρ, ds, os, ρ1, S, h1, fun J F1 H1 G1 S1 s1 wk L nL => ?_⟩
  obtain ⟨Gc, Y, Sr, W, hSr, hG, hY⟩ := wk
  have hv : ∀ i ∈ vs, i ∈ vs ++ hsO os := fun i hi => List.mem_append_left _ hi
  have ho : ∀ i, os = some i → i ∈ vs ++ hsO os := fun i e => by subst e; exact List.mem_append_right _ (List.mem_singleton.mpr rfl)
  have hb : ∀ i ∈ vs, ∀ c, (wipeC ρ1 (vs ++ hsO os))[i]? = some c → c = .un := fun i hi c e => wipeC_in (hv i hi) e
  let Pn : Nat → Ce → List (D × D) → Prop := fun n ρ2 acc => dcGo h ft fk fe vs (ds.drop n) ρ2 acc = some (acc', ρe)
  refine it_core W (Pv := fun n H2 => DNx K F1 (upd H1 L (.dK [])) (OwA (wipe σ vs) (wipeC ρ1 (vs ++ hsO os))) (wipe σ vs) (wipeC ρ1 (vs ++ hsO os)) L (Pn n) H2)
    (Body := fun x H' Nx => canG K h is x (wipe σ vs) H' fun σ2 H2 => wipe σ2 vs = wipe σ vs ∧ canT K ft σ2 H2 fun b H3 =>
      if b = true then canE K fk σ2 H3 fun y H4 => canE K fe σ2 H4 fun z H5 => ∃ kvs k, y = kV k ∧ H5 L = some (.dK kvs) ∧ kvs.length < sizeLine ∧ Nx (upd H5 L (.dK (putK kvs k z))) else Nx H3)
    ⟨F1, _, [], [], DInv.start S1 nL hv, by simpa [Pn] using h2⟩ (fun n H2 hn ⟨F2, ρ2, accv, acc, I, _⟩ => I.walk S1 nL hv ho hSr hG) (fun n x H2 H3 hn ⟨F2, ρ2, accv, acc, I, hP⟩ y => ?_) (fun H2 ⟨F2, ρ2, accv, acc, I, hP⟩ => ?_)
  · obtain ⟨d, hd, yr⟩ := hY n H2 x H3 (I.gr.fr.trans I.sd.sub) y
    replace hP : dcGo h ft fk fe vs (ds.drop n) ρ2 acc = some (acc', ρe) := hP
    rw [getElem?_drop0 hd] at hP
    simp only [dcGo, Option.bind_eq_some_iff] at hP
    obtain ⟨ρ3, e1, t, e2, e3⟩ := hP
    refine dc_turn (P := Pn (n + 1)) (vs := vs) I hb rfl hs yr ⟨ρ3, t, e1, e2, fun ht => ?_, fun ht => ?_⟩
    · rw [ht] at e3
      simp only [cond_true, Option.bind_eq_some_iff] at e3
      obtain ⟨w, e4, kk, e5, q, e6, z, e7, e8⟩ := e3
      split at e8
      · rename_i hl
        exact ⟨w, kk, q, z, e4, e5, e6, e7, hl, e8⟩
      · cases e8
    · rw [ht] at e3
      exact e3
  · replace hP : dcGo h ft fk fe vs (ds.drop ds.length) ρ2 acc = some (acc', ρe) := hP
    rw [List.drop_of_length_le (Nat.le_refl _)] at hP
    cases hP
    obtain ⟨G2, S2, s2, nO⟩ := I.fin S1 nL hv
    exact k _ F2 H2 (G1.trans (G2.weak fun a z => (OwA.shape s1).mp z)) S2 (s1.trans s2) ⟨L, rfl, G1.there L nL, I.dF, nO, .inr (.inl ⟨_, _, rfl, I.dH, I.rp⟩)⟩
end
section
variable {X : Cx} {kx vx tg iter : Expr} {ifs : List Expr} {scope : Scope} {own : List (Str × Nat)} {pos : Pos} {fi : FI} {h : HT} {is vs : List Nat} {ft : FT} {fk fe : FE}
theorem ej_dc (hc : X.calm = true) (hN : X.N.Nodup) (hi : IJ X tg iter fi) (ok : BlkOk X.N X.env.scope scope own)
    (hg : ∀ (s : Shared) (H : Hp) (C : Addr) (cl : List (Str × Addr)) (fp : List Addr), GJ (X.blk s H scope (compEnvC scope cl C X.env) fp) tg h is) (ht : ∀ (s : Shared) (H : Hp) (C : Addr) (cl : List (Str × Addr)) (fp : List Addr), TsJ (X.blk s H scope (compEnvC scope cl C X.env) fp) ifs ft)
    (hk : ∀ (s : Shared) (H : Hp) (C : Addr) (cl : List (Str × Addr)) (fp : List Addr), EJ (X.blk s H scope (compEnvC scope cl C X.env) fp) kx fk)
    (he : ∀ (s : Shared) (H : Hp) (C : Addr) (cl : List (Str × Addr)) (fp : List Addr), EJ (X.blk s H scope (compEnvC scope cl C X.env) fp) vx fe) (hvs : own.map (·.2) = vs) (hsub : ∀ i ∈ is, i ∈ vs) (hs : ∀ x, foldedSetIterable iter X.env x = pure x := by intro _; rfl) :
    EJ X (.DictComp kx vx [⟨tg, iter, ifs, 0⟩] scope pos) (fDc fi h ft fk fe vs) := by
  subst hvs
  exact PE.weak (pe_dc (g := canG X.K h is) (tt := canT X.K ft) (tk := canE X.K fk) (tv := canE X.K fe) hc hN hi ok hg ht hk he hs) fun σ H Q c => dc_of hsub c
end
end DL

namespace DL
open PySem PySem.Spec L2

/-! ### calls of built-ins by their values -/
def derefs (ρ : Ce) : List Opd → Option (List D)
  | [] => some []
  | o :: os => (deref ρ o).bind fun d => (derefs ρ os).bind fun ds => some (d :: ds)
def fB (p : List D → Option Opd) (fa : FA) : FE := fun ρ => (fa ρ).bind fun r => (derefs r.2 r.1).bind fun ds => (p ds).bind fun o => some (o, r.2)
def CallD (K : PySem.W.Frag) (r : List V → Hp → VK → Prop) (p : List D → Option Opd) : Prop :=
  ∀ (F H : Hp) (σ : L2.St) (ρ : Ce) (vs : List V) (os : List Opd) (ds : List D) (o : Opd) (Q : VK), Sd K F H σ ρ → ArgsOk K F σ ρ vs os → derefs ρ os = some ds → p ds = some o →
    (∀ w F' H', Gr (OwA σ ρ) F H F' H' → Sd K F' H' σ ρ → OpOk K H F' H' σ ρ w o → Q w H') → r vs H Q
theorem cb_of {K : PySem.W.Frag} {r : List V → Hp → VK → Prop} {p : List D → Option Opd} (h : CallD K r p) {fa : FA} {σ : L2.St} {H : Hp} {Q : VK} (c : canE K (fB p fa) σ H Q) : tCB r (canA K fa) σ H Q := by
  obtain ⟨F, ρ, o, ρ', S, hf, k⟩ := c
  simp only [fB, Option.bind_eq_some_iff] at hf
  obtain ⟨⟨os, ρ1⟩, h1, ds, h2, z, h3, h4⟩ := hf
  cases h4
  refine ⟨F, ρ, os, ρ1, S, h1, fun vs F1 H1 G1 S1 s1 av => ?_⟩
  refine h F1 H1 σ ρ1 vs os ds _ Q S1 av h2 h3 fun w F2 H2 G2 S2 ow => ?_
  exact k w F2 H2 (G1.trans (G2.weak fun a z => (OwA.shape s1).mp z)) S2 s1 (ow.from G1.there)
theorem CallD.or {K : PySem.W.Frag} {r1 r2 : List V → Hp → VK → Prop} {p1 p2 : List D → Option Opd} (h1 : CallD K r1 p1) (h2 : CallD K r2 p2) : CallD K (fun x H Q => r1 x H Q ∨ r2 x H Q) (fun d => (p1 d).or (p2 d)) := by
  intro F H σ ρ vs os ds o Q S av hd hp k
  replace hp : (p1 ds).or (p2 ds) = some o := hp
  cases q : p1 ds with
  | none => rw [q, Option.none_or] at hp; exact .inr (h2 F H σ ρ vs os ds o Q S av hd hp k)
  | some z => rw [q, Option.some_or] at hp; exact .inl (h1 F H σ ρ vs os ds o Q S av hd (q.trans hp) k)
section
variable {K : PySem.W.Frag} {F H : Hp} {σ : L2.St} {ρ : Ce}
theorem arg1 {vs : List V} {os : List Opd} {d : D} (h : ArgsOk K F σ ρ vs os) (e : derefs ρ os = some [d]) : ∃ v o, vs = [v] ∧ OpOk K H F H σ ρ v o ∧ deref ρ o = some d := by
  match vs, os, h, e with
  | [v], [o], ⟨h1, _⟩, e =>
    simp only [derefs, Option.bind_eq_some_iff] at e
    obtain ⟨d', e1, ds, e2, e3⟩ := e
    cases e2
    cases e3
    exact ⟨v, o, rfl, h1.op, e1⟩
  | v :: w :: vs, o :: p :: os, h, e =>
    simp only [derefs, Option.bind_eq_some_iff] at e
    obtain ⟨d', e1, ds, ⟨d2, e4, ds2, e5, e6⟩, e3⟩ := e
    cases e6
    cases e3
  | [], [], _, e => cases e
theorem arg2 {vs : List V} {os : List Opd} {d e' : D} (h : ArgsOk K F σ ρ vs os) (e : derefs ρ os = some [d, e']) : ∃ v w o p, vs = [v, w] ∧ OpOk K H F H σ ρ v o ∧ deref ρ o = some d ∧ OpOk K H F H σ ρ w p ∧ deref ρ p = some e' := by
  match vs, os, h, e with
  | [v, w], [o, p], ⟨h1, h2, _⟩, e =>
    simp only [derefs, Option.bind_eq_some_iff] at e
    obtain ⟨d', e1, ds, ⟨d2, e4, ds2, e5, e6⟩, e3⟩ := e
    cases e5
    cases e6
    cases e3
    exact ⟨v, w, o, p, rfl, h1.op, e1, h2.op, e4⟩
  | [v], [o], _, e =>
    simp only [derefs, Option.bind_eq_some_iff] at e
    obtain ⟨d', e1, ds, e2, e3⟩ := e
    cases e2
    cases e3
  | v :: w :: u :: vs, o :: p :: q :: os, h, e =>
    simp only [derefs, Option.bind_eq_some_iff] at e
    obtain ⟨d', e1, ds, ⟨d2, e4, ds2, ⟨d3, e7, ds3, e8, e9⟩, e6⟩, e3⟩ := e
    cases e9
    cases e6
    cases e3
  | [], [], _, e => cases e
/-- a list or tuple operand as a sequence of values -/
def seqD : D → Option (List D)
  | .list ds => some ds
  | .tuple ds => some ds
  | _ => none
theorem OpOk.seq {H0 : Hp} {v : V} {o : Opd} {d : D} {ds : List D} (h : OpOk K H0 F H σ ρ v o) (S : Sd K F H σ ρ) (e : deref ρ o = some d) (q : seqD d = some ds) : ∃ a xs, v = .ref a ∧ (SqL K H a xs ∨ SqT K H a xs) ∧ RpL K F xs ds := by
  cases d with
  | list ds' =>
    cases q
    obtain ⟨a, xs, rfl, h1, h2⟩ := h.list S e
    exact ⟨a, xs, rfl, .inl (.inl (.inl h1)), h2⟩
  | tuple ds' =>
    cases q
    obtain ⟨a, xs, rfl, h1, h2⟩ := h.tuple S e
    exact ⟨a, xs, rfl, .inr (.inl (.inl (S.sub _ _ h1))), h2⟩
  | _ => cases q
/-! len -/
def pLen : List D → Option Opd
  | [.list ds] => some (.frz (.int ds.length))
  | [.tuple ds] => some (.frz (.int ds.length))
  | _ => none
theorem cd_len : CallD K (fun xs H Q => ∃ p ys, xs = [.ref p] ∧ (SqL K H p ys ∨ SqT K H p ys) ∧ Q (.int ys.length) H) pLen := by
  intro F H σ ρ vs os ds o Q S av hd hp k
  unfold pLen at hp
  split at hp
  · rename_i ds
    cases hp
    obtain ⟨v, o, rfl, h1, e⟩ := arg1 (H := H) av hd
    obtain ⟨a, xs, rfl, h2, h3⟩ := h1.seq S e (ds := ds) rfl
    exact ⟨a, xs, rfl, h2, by rw [h3.length]; exact k _ F H Gr.refl S (Rp.int _)⟩
  · rename_i ds
    cases hp
    obtain ⟨v, o, rfl, h1, e⟩ := arg1 (H := H) av hd
    obtain ⟨a, xs, rfl, h2, h3⟩ := h1.seq S e (ds := ds) rfl
    exact ⟨a, xs, rfl, h2, by rw [h3.length]; exact k _ F H Gr.refl S (Rp.int _)⟩
  · cases hp
def pLenK : List D → Option Opd
  | [.dict ((.none, _) :: _)] => none
  | [.dict es] => some (.frz (.int es.length))
  | _ => none
/-! list(x), tuple(x) -/
def pList : List D → Option Opd
  | [d] => (seqD d).map fun ds => .new (.list ds)
  | _ => none
theorem cd_list : CallD K (fun xs H Q => ∃ p ys, xs = [.ref p] ∧ (SqL K H p ys ∨ SqT K H p ys) ∧ ∀ l, H l = none → Q (.ref l) (upd H l (.lst ys))) pList := by
  intro F H σ ρ vs os ds o Q S av hd hp k
  unfold pList at hp
  split at hp
  · rename_i d
    obtain ⟨ds, hs, rfl⟩ := Option.map_eq_some_iff.mp hp
    obtain ⟨v, o, rfl, h1, e⟩ := arg1 (H := H) av hd
    obtain ⟨a, xs, rfl, h2, h3⟩ := h1.seq S e hs
    refine ⟨a, xs, rfl, h2, fun l nl => ?_⟩
    obtain ⟨G, S', ow⟩ := new_list (Ow := OwA σ ρ) S nl h3
    exact k _ _ _ G S' ow
  · cases hp
def pTuple : List D → Option Opd
  | [d] => (seqD d).map fun ds => .frz (.tuple ds)
  | _ => none
theorem cd_tuple : CallD K (fun xs H Q => ∃ p ys, xs = [.ref p] ∧ ((SqL K H p ys ∧ ∀ l, H l = none → Q (.ref l) (upd H l (.tup ys))) ∨ (SqT K H p ys ∧ Q (.ref p) H))) pTuple := by
  intro F H σ ρ vs os ds o Q S av hd hp k
  unfold pTuple at hp
  split at hp
  · rename_i d
    obtain ⟨ds, hs, rfl⟩ := Option.map_eq_some_iff.mp hp
    obtain ⟨v, o, rfl, h1, e⟩ := arg1 (H := H) av hd
    cases d with
    | list ds' =>
      cases hs
      obtain ⟨a, xs, rfl, h2, h3⟩ := h1.list S e
      refine ⟨a, xs, rfl, .inl ⟨.inl (.inl h2), fun l nl => ?_⟩⟩
      obtain ⟨F', G, S', r⟩ := new_tup (Ow := OwA σ ρ) S nl h3
      exact k _ _ _ G S' r
    | tuple ds' =>
      cases hs
      obtain ⟨a, xs, rfl, h2, h3⟩ := h1.tuple S e
      exact ⟨a, xs, rfl, .inr ⟨.inl (.inl (S.sub _ _ h2)), k _ F H Gr.refl S (Rp.tup h2 h3)⟩⟩
    | _ => cases hs
  · cases hp
/-! lists of ints -/
def intsD : List D → Option (List Int)
  | [] => some []
  | .int i :: r => (intsD r).map (i :: ·)
  | _ => none
theorem intsD_eq : ∀ {ds : List D} {ns : List Int}, intsD ds = some ns → ds = ns.map .int
  | [], _, h => by cases h; rfl
  | .int i :: r, ns, h => by
    obtain ⟨m, h1, rfl⟩ := Option.map_eq_some_iff.mp (show (intsD r).map (i :: ·) = some ns from h)
    rw [intsD_eq h1]; rfl
  | .none :: _, _, h => by cases h
  | .bool _ :: _, _, h => by cases h
  | .str _ :: _, _, h => by cases h
  | .list _ :: _, _, h => by cases h
  | .tuple _ :: _, _, h => by cases h
  | .dict _ :: _, _, h => by cases h
@[simp] theorem intsD_map : ∀ ns : List Int, intsD (ns.map .int) = some ns
  | [] => rfl
  | n :: ns => by show (intsD (ns.map .int)).map (n :: ·) = _; rw [intsD_map ns]; rfl
def maxI : List Int → Int
  | [] => 0
  | [x] => x
  | x :: y :: r => max x (maxI (y :: r))
theorem maxI_mem : ∀ {ns : List Int}, ns ≠ [] → maxI ns ∈ ns
  | [], h => (h rfl).elim
  | [x], _ => by simp [maxI]
  | x :: y :: r, _ => by
    have ih := maxI_mem (ns := y :: r) (by simp)
    show max x (maxI (y :: r)) ∈ _
    by_cases h : x ≤ maxI (y :: r)
    · rw [Int.max_eq_right h]; exact List.mem_cons_of_mem _ ih
    · rw [Int.max_eq_left (by omega)]; exact List.mem_cons_self
theorem maxI_ge : ∀ {ns : List Int} {y : Int}, y ∈ ns → y ≤ maxI ns
  | [x], y, h => by simp at h; subst h; simp [maxI]
  | x :: z :: r, y, h => by
    show y ≤ max x (maxI (z :: r))
    rcases List.mem_cons.mp h with e | e
    · subst e; omega
    · have := maxI_ge e; omega
theorem maxI_uniq {ns : List Int} {m : Int} (h : m ∈ ns) (g : ∀ y ∈ ns, y ≤ m) : m = maxI ns := by
  have h1 := maxI_ge h
  have h2 := g _ (maxI_mem (List.ne_nil_of_mem h))
  omega
def minI : List Int → Int
  | [] => 0
  | [x] => x
  | x :: y :: r => min x (minI (y :: r))
theorem minI_mem : ∀ {ns : List Int}, ns ≠ [] → minI ns ∈ ns
  | [], h => (h rfl).elim
  | [x], _ => by simp [minI]
  | x :: y :: r, _ => by
    have ih := minI_mem (ns := y :: r) (by simp)
    show min x (minI (y :: r)) ∈ _
    by_cases h : x ≤ minI (y :: r)
    · rw [Int.min_eq_left h]; exact List.mem_cons_self
    · rw [Int.min_eq_right (by omega)]; exact List.mem_cons_of_mem _ ih
theorem minI_le : ∀ {ns : List Int} {y : Int}, y ∈ ns → minI ns ≤ y
  | [x], y, h => by simp at h; subst h; simp [minI]
  | x :: z :: r, y, h => by
    show min x (minI (z :: r)) ≤ y
    rcases List.mem_cons.mp h with e | e
    · subst e; omega
    · have := minI_le e; omega
theorem minI_uniq {ns : List Int} {m : Int} (h : m ∈ ns) (g : ∀ y ∈ ns, m ≤ y) : m = minI ns := by
  have h1 := minI_le h
  have h2 := g _ (minI_mem (List.ne_nil_of_mem h))
  omega
def pMax : List D → Option Opd
  | [.list ds] => (intsD ds).bind fun ns => if ns = [] then none else some (.frz (.int (maxI ns)))
  | [.int i, .int j] => some (.frz (.int (max i j)))
  | _ => none
def pMin : List D → Option Opd
  | [.list ds] => (intsD ds).bind fun ns => if ns = [] then none else some (.frz (.int (minI ns)))
  | [.int i, .int j] => some (.frz (.int (min i j)))
  | _ => none
theorem ints_lst {H0 : Hp} {v : V} {o : Opd} {ds : List D} {ns : List Int} (h : OpOk K H0 F H σ ρ v o) (S : Sd K F H σ ρ) (e : deref ρ o = some (.list ds)) (q : intsD ds = some ns) : ∃ a, v = .ref a ∧ H a = some (.lst (ns.map V.int)) := by
  obtain ⟨a, xs, rfl, h1, h2⟩ := h.list S e
  rw [intsD_eq q] at h2
  rw [RpL.ints h2] at h1
  exact ⟨a, rfl, h1⟩
theorem cd_max : CallD K (fun vs H Q => rMax K vs H Q ∨ ∃ i j, vs = [.int i, .int j] ∧ Q (.int (if j > i then j else i)) H) pMax := by
  intro F H σ ρ vs os ds o Q S av hd hp k
  unfold pMax at hp
  split at hp
  · obtain ⟨ns, h1, h2⟩ := Option.bind_eq_some_iff.mp hp
    split at h2
    · cases h2
    · rename_i hne
      cases h2
      obtain ⟨v, o, rfl, h3, e⟩ := arg1 (H := H) av hd
      obtain ⟨a, rfl, h4⟩ := ints_lst h3 S e h1
      refine .inl ⟨a, ns, rfl, .inl (.inl h4), List.length_pos_iff.mpr hne, fun m hm hle => ?_⟩
      rw [maxI_uniq hm hle]
      exact k _ F H Gr.refl S (Rp.int _)
  · rename_i i j
    cases hp
    obtain ⟨v, w, o, p, rfl, h1, e1, h2, e2⟩ := arg2 (H := H) av hd
    refine .inr ⟨i, j, by rw [int_of h1 S e1, int_of h2 S e2], ?_⟩
    have : (if j > i then j else i) = max i j := by split <;> omega
    rw [this]
    exact k _ F H Gr.refl S (Rp.int _)
  · cases hp
theorem cd_min : CallD K (fun vs H Q => rMin K vs H Q ∨ ∃ i j, vs = [.int i, .int j] ∧ Q (.int (if j < i then j else i)) H) pMin := by
  intro F H σ ρ vs os ds o Q S av hd hp k
  unfold pMin at hp
  split at hp
  · obtain ⟨ns, h1, h2⟩ := Option.bind_eq_some_iff.mp hp
    split at h2
    · cases h2
    · rename_i hne
      cases h2
      obtain ⟨v, o, rfl, h3, e⟩ := arg1 (H := H) av hd
      obtain ⟨a, rfl, h4⟩ := ints_lst h3 S e h1
      refine .inl ⟨a, ns, rfl, .inl (.inl h4), List.length_pos_iff.mpr hne, fun m hm hle => ?_⟩
      rw [minI_uniq hm hle]
      exact k _ F H Gr.refl S (Rp.int _)
  · rename_i i j
    cases hp
    obtain ⟨v, w, o, p, rfl, h1, e1, h2, e2⟩ := arg2 (H := H) av hd
    refine .inr ⟨i, j, by rw [int_of h1 S e1, int_of h2 S e2], ?_⟩
    have : (if j < i then j else i) = min i j := by split <;> omega
    rw [this]
    exact k _ F H Gr.refl S (Rp.int _)
  · cases hp
/-! sorted: ints, a dict's int keys -/
def sortI (ns : List Int) : List Int := ns.mergeSort fun a b => decide (a ≤ b)
theorem sortI_perm (ns : List Int) : (sortI ns).Perm ns := List.mergeSort_perm ns _
theorem sortI_sorted (ns : List Int) : (sortI ns).Pairwise (· ≤ ·) := by
  have h := List.pairwise_mergeSort (le := fun a b : Int => decide (a ≤ b)) (fun a b c h1 h2 => by simp at *; omega) (fun a b => by simp; omega) ns
  exact h.imp fun h => of_decide_eq_true h
theorem sortI_uniq {ns ys : List Int} (p : ys.Perm ns) (s : ys.Pairwise (· ≤ ·)) : ys = sortI ns := PySem.W.ksm_same (p.trans (sortI_perm ns).symm) s (sortI_sorted ns)
def keysI : List (D × D) → Option (List Int)
  | [] => some []
  | (.int i, _) :: r => (keysI r).map (i :: ·)
  | _ => none
theorem keysI_eq : ∀ {es : List (D × D)} {ks : List Int}, keysI es = some ks → es.map (·.1) = ks.map .int
  | [], _, h => by cases h; rfl
  | (.int i, v) :: r, ks, h => by
    obtain ⟨m, h1, rfl⟩ := Option.map_eq_some_iff.mp (show (keysI r).map (i :: ·) = some ks from h)
    simp only [List.map_cons, keysI_eq h1]
  | (.none, _) :: _, _, h => by cases h
  | (.bool _, _) :: _, _, h => by cases h
  | (.str _, _) :: _, _, h => by cases h
  | (.list _, _) :: _, _, h => by cases h
  | (.tuple _, _) :: _, _, h => by cases h
  | (.dict _, _) :: _, _, h => by cases h
theorem RpK.keys : ∀ {kvs : List (Key × V)} {es : List (D × D)} {ks : List Int}, RpK K F kvs es → es.map (·.1) = ks.map .int → kvs.map (·.1) = ks.map Sum.inl
  | _, _, [], .nil, _ => rfl
  | _, _, _ :: _, .nil, h => by cases h
  | _, _, [], .cons _ _, h => by cases h
  | _, _, k :: ks, .cons (k := k') h t, e => by
    simp only [List.map_cons, List.cons.injEq] at e ⊢
    refine ⟨?_, RpK.keys t e.2⟩
    cases k' with
    | inl i => have := e.1; cases this; rfl
    | inr s => have := e.1; cases this
def pSort : List D → Option Opd
  | [.list ds] => (intsD ds).map fun ns => .new (.list ((sortI ns).map .int))
  | [.dict es] => (keysI es).bind fun ks => if ks.length < 64 then some (.new (.list ((sortI ks).map .int))) else none
  | _ => none
def rSortA (K : PySem.W.Frag) : List V → Hp → VK → Prop := fun xs H Q => rSortedI K xs H Q ∨ ∃ (a : Addr) (kvs : List (Key × V)) (ks : List Int), xs = [.ref a] ∧ Rd H a (.dK kvs) ∧ kvs.map (·.1) = ks.map Sum.inl ∧ ks.length < 64 ∧
    ∀ (ys : List Int) (p : Addr), ys.Perm ks → ys.Pairwise (· ≤ ·) → H p = none → Q (.ref p) (upd H p (.lst (ys.map V.int)))
theorem cr_sortA {X : Cx} (hc : X.calm = true) : CallR X (.builtin "sorted") (rSortA X.K) := CallR.or cr_sortedI (call_sortedDI hc)
theorem cd_sort : CallD K (rSortA K) pSort := by
  intro F H σ ρ vs os ds o Q S av hd hp k
  unfold pSort at hp
  split at hp
  · obtain ⟨ns, h1, rfl⟩ := Option.map_eq_some_iff.mp hp
    obtain ⟨v, o, rfl, h3, e⟩ := arg1 (H := H) av hd
    obtain ⟨a, rfl, h4⟩ := ints_lst h3 S e h1
    refine .inl ⟨a, ns, rfl, .inl (.inl h4), fun ys p pm st np => ?_⟩
    rw [sortI_uniq pm st]
    obtain ⟨G, S', ow⟩ := new_list (Ow := OwA σ ρ) S np (RpL.of_ints (K := K) (F := F) (sortI ns))
    exact k _ _ _ G S' ow
  · obtain ⟨ks, h1, h2⟩ := Option.bind_eq_some_iff.mp hp
    split at h2
    · rename_i hl
      cases h2
      obtain ⟨v, o, rfl, h3, e⟩ := arg1 (H := H) av hd
      obtain ⟨a, rfl, c⟩ := h3.dict S e
      rcases c with ⟨kvs, hH, r⟩ | ⟨kvs, es', rfl, hH, r⟩
      · refine .inr ⟨a, kvs, ks, rfl, .inl hH, r.keys (keysI_eq h1), hl, fun ys p pm st np => ?_⟩
        rw [sortI_uniq pm st]
        obtain ⟨G, S', ow⟩ := new_list (Ow := OwA σ ρ) S np (RpL.of_ints (K := K) (F := F) (sortI ks))
        exact k _ _ _ G S' ow
      · cases h1
    · cases h2
  · cases hp
/-! any, all, sum -/
def boolsD : List D → Option (List Bool)
  | [] => some []
  | .bool i :: r => (boolsD r).map (i :: ·)
  | _ => none
theorem boolsD_eq : ∀ {ds : List D} {ns : List Bool}, boolsD ds = some ns → ds = ns.map .bool
  | [], _, h => by cases h; rfl
  | .bool i :: r, ns, h => by
    obtain ⟨m, h1, rfl⟩ := Option.map_eq_some_iff.mp (show (boolsD r).map (i :: ·) = some ns from h)
    rw [boolsD_eq h1]; rfl
  | .none :: _, _, h => by cases h
  | .int _ :: _, _, h => by cases h
  | .str _ :: _, _, h => by cases h
  | .list _ :: _, _, h => by cases h
  | .tuple _ :: _, _, h => by cases h
  | .dict _ :: _, _, h => by cases h
@[simp] theorem boolsD_map : ∀ ns : List Bool, boolsD (ns.map .bool) = some ns
  | [] => rfl
  | n :: ns => by show (boolsD (ns.map .bool)).map (n :: ·) = _; rw [boolsD_map ns]; rfl
theorem RpL.bools : ∀ {v : List V} {ns : List Bool}, RpL K F v (ns.map .bool) → v = ns.map V.bl
  | _, [], .nil => rfl
  | _, n :: ns, .cons h r => by
    cases h
    rw [RpL.bools r]
    rfl
def pAny : List D → Option Opd
  | [.list ds] => (boolsD ds).map fun bs => .frz (.bool (bs.any id))
  | _ => none
def pAll : List D → Option Opd
  | [.list ds] => (boolsD ds).map fun bs => .frz (.bool (bs.all id))
  | _ => none
def pSum : List D → Option Opd
  | [.list ds] => (intsD ds).map fun ns => .frz (.int ns.sum)
  | _ => none
theorem bools_lst {H0 : Hp} {v : V} {o : Opd} {ds : List D} {ns : List Bool} (h : OpOk K H0 F H σ ρ v o) (S : Sd K F H σ ρ) (e : deref ρ o = some (.list ds)) (q : boolsD ds = some ns) : ∃ a, v = .ref a ∧ H a = some (.lst (ns.map V.bl)) := by
  obtain ⟨a, xs, rfl, h1, h2⟩ := h.list S e
  rw [boolsD_eq q] at h2
  rw [RpL.bools h2] at h1
  exact ⟨a, rfl, h1⟩
theorem cd_any : CallD K (rAny K) pAny := by
  intro F H σ ρ vs os ds o Q S av hd hp k
  unfold pAny at hp
  split at hp
  · obtain ⟨ns, h1, rfl⟩ := Option.map_eq_some_iff.mp hp
    obtain ⟨v, o, rfl, h3, e⟩ := arg1 (H := H) av hd
    obtain ⟨a, rfl, h4⟩ := bools_lst h3 S e h1
    exact ⟨a, ns, rfl, .inl (.inl h4), k _ F H Gr.refl S (Rp.bl _)⟩
  · cases hp
theorem cd_all : CallD K (rAll K) pAll := by
  intro F H σ ρ vs os ds o Q S av hd hp k
  unfold pAll at hp
  split at hp
  · obtain ⟨ns, h1, rfl⟩ := Option.map_eq_some_iff.mp hp
    obtain ⟨v, o, rfl, h3, e⟩ := arg1 (H := H) av hd
    obtain ⟨a, rfl, h4⟩ := bools_lst h3 S e h1
    exact ⟨a, ns, rfl, .inl (.inl h4), k _ F H Gr.refl S (Rp.bl _)⟩
  · cases hp
theorem cd_sum : CallD K (rSum K) pSum := by
  intro F H σ ρ vs os ds o Q S av hd hp k
  unfold pSum at hp
  split at hp
  · obtain ⟨ns, h1, rfl⟩ := Option.map_eq_some_iff.mp hp
    obtain ⟨v, o, rfl, h3, e⟩ := arg1 (H := H) av hd
    obtain ⟨a, rfl, h4⟩ := ints_lst h3 S e h1
    exact ⟨a, ns, rfl, .inl (.inl h4), k _ F H Gr.refl S (Rp.int _)⟩
  · cases hp
/-! abs, int, dict(d) -/
def pAbs : List D → Option Opd
  | [.int i] => some (.frz (.int (i.natAbs : Int)))
  | _ => none
theorem cd_abs : CallD K (fun xs H Q => ∃ i, xs = [.int i] ∧ Q (.int (if i < 0 then -i else i)) H) pAbs := by
  intro F H σ ρ vs os ds o Q S av hd hp k
  unfold pAbs at hp
  split at hp
  · rename_i i
    cases hp
    obtain ⟨v, o, rfl, h3, e⟩ := arg1 (H := H) av hd
    refine ⟨i, by rw [int_of h3 S e], ?_⟩
    have : (if i < 0 then -i else i) = (i.natAbs : Int) := by split <;> omega
    rw [this]
    exact k _ F H Gr.refl S (Rp.int _)
  · cases hp
def pInt : List D → Option Opd
  | [.int i] => some (.frz (.int i))
  | [.bool b] => some (.frz (.int (if b then 1 else 0)))
  | _ => none
theorem cd_int : CallD K (fun xs H Q => (∃ i, xs = [.int i] ∧ Q (.int i) H) ∨ ∃ k, xs = [.bl k] ∧ Q (.int (if k then 1 else 0)) H) pInt := by
  intro F H σ ρ vs os ds o Q S av hd hp k
  unfold pInt at hp
  split at hp
  · rename_i i
    cases hp
    obtain ⟨v, o, rfl, h3, e⟩ := arg1 (H := H) av hd
    exact .inl ⟨i, by rw [int_of h3 S e], k _ F H Gr.refl S (Rp.int _)⟩
  · rename_i i
    cases hp
    obtain ⟨v, o, rfl, h3, e⟩ := arg1 (H := H) av hd
    exact .inr ⟨i, by rw [bool_of h3 S e], k _ F H Gr.refl S (Rp.int _)⟩
  · cases hp
def pDict : List D → Option Opd
  | [.dict ((.none, _) :: _)] => none
  | [.dict es] => some (.new (.dict es))
  | _ => none
theorem cd_dict : CallD K (fun xs H Q => ∃ (a : Addr) (kvs : List (Key × V)), xs = [.ref a] ∧ Rd H a (.dK kvs) ∧ ∀ p, H p = none → Q (.ref p) (upd H p (.dK kvs))) pDict := by
  intro F H σ ρ vs os ds o Q S av hd hp k
  unfold pDict at hp
  split at hp
  · cases hp
  · rename_i es hn
    cases hp
    obtain ⟨v, o, rfl, h3, e⟩ := arg1 (H := H) av hd
    obtain ⟨a, rfl, c⟩ := h3.dict S e
    rcases c with ⟨kvs, hH, r⟩ | ⟨kvs, es', rfl, hH, r⟩
    · refine ⟨a, kvs, rfl, .inl hH, fun p np => ?_⟩
      obtain ⟨G, S', ow⟩ := new_dk (Ow := OwA σ ρ) S np r
      exact k _ _ _ G S' ow
    · exact (hn _ _ rfl).elim
  · cases hp
end
end DL

namespace DL
open PySem PySem.Spec L2
/-! ### several values at once, not frozen -/
def faCn (fe : FE) (fa : FA) : FA := fun ρ => (fe ρ).bind fun r => (fa r.2).bind fun q => some (r.1 :: q.1, q.2)
def NewIn (v : V) : List V → List Opd → Prop
  | w :: vs, o :: os => (∃ d, o = .new d ∧ w = v) ∨ NewIn v vs os
  | _, _ => False
def ArgsN (K : PySem.W.Frag) (H0 F H : Hp) (σ : L2.St) (ρ : Ce) : List V → List Opd → Prop
  | [], [] => True
  | v :: vs, o :: os => OpOk K H0 F H σ ρ v o ∧ (∀ d, o = .new d → ¬ NewIn v vs os) ∧ ArgsN K H0 F H σ ρ vs os
  | _, _ => False
def canAN (K : PySem.W.Frag) (f : FA) : TA := fun σ H Q => ∃ F ρ os ρ', Sd K F H σ ρ ∧ f ρ = some (os, ρ') ∧
  ∀ vs F' H', Gr (OwA σ ρ) F H F' H' → Sd K F' H' σ ρ' → Shape ρ ρ' → ArgsN K H F' H' σ ρ' vs os → Q vs H'
def AJN (X : Cx) (es : List Expr) (f : FA) : Prop := PA X es (canAN X.K f)
section
variable {K : PySem.W.Frag} {H0 H00 F H : Hp} {σ : L2.St} {ρ : Ce}
theorem ArgsN.from (k : ∀ a, H0 a = none → H00 a = none) : ∀ {vs : List V} {os : List Opd}, ArgsN K H0 F H σ ρ vs os → ArgsN K H00 F H σ ρ vs os
  | [], [], _ => True.intro
  | _ :: _, _ :: _, ⟨h1, h2, h3⟩ => ⟨h1.from k, h2, h3.from k⟩
  | [], _ :: _, h => h.elim
  | _ :: _, [], h => h.elim
theorem ArgsN.noIn {v : V} (h : ∀ a, v = .ref a → H0 a ≠ none) : ∀ {vs : List V} {os : List Opd}, ArgsN K H0 F H σ ρ vs os → ¬ NewIn v vs os
  | [], [], _, z => z
  | w :: vs, o :: os, ⟨h1, h2, h3⟩, z => by
    rcases z with ⟨d, e1, e2⟩ | z
    · subst e1 e2
      obtain ⟨a, q1, q2, _⟩ := h1
      exact h a q1 q2
    · exact ArgsN.noIn h h3 z
  | [], _ :: _, h, _ => h.elim
  | _ :: _, [], h, _ => h.elim
end
section
variable {X : Cx} {e : Expr} {es : List Expr} {fe : FE} {fa : FA} {pos p : Pos}
theorem ajn_nil : AJN X [] faN := PA.weak pa_nil fun σ H Q c => by
  obtain ⟨F, ρ, os, ρ', S, hf, k⟩ := c
  cases hf
  exact k [] F H Gr.refl S (Shape.refl ρ) True.intro
theorem ajn_cons (he : EJ X e fe) (ha : AJN X es fa) (hs : starEach (e :: es) X.env = (false, eval e X.env) :: starEach es X.env := by rfl) : AJN X (e :: es) (faCn fe fa) := by
  refine PA.weak (pa_cons he ha hs) fun σ H Q c => ?_
  obtain ⟨F, ρ, os, ρ', S, hf, k⟩ := c
  simp only [faCn, Option.bind_eq_some_iff] at hf
  obtain ⟨⟨x, ρ1⟩, h1, ⟨ys, ρ2⟩, h2, h3⟩ := hf
  cases h3
  refine one S h1 fun v F1 H1 G1 S1 s1 ov => ?_
  refine ⟨F1, ρ1, ys, ρ2, S1, h2, fun vs F2 H2 G2 S2 s2 os2 => k (v :: vs) F2 H2 (G1.trans (G2.weak fun a z => (OwA.shape s1).mp z)) S2 (s1.trans s2) ⟨ov.stay G2 s2, fun d e => ?_, os2.from G1.there⟩⟩
  subst e
  obtain ⟨a, rfl, _, _, _, t⟩ := ov
  refine os2.noIn fun b e => ?_
  cases e
  obtain ⟨o, ho⟩ := t.some
  rw [ho]; exact nofun
end
/-- slots are stored, one after another: as new objects of their own, or frozen -/
def asg : List (Nat × Bool) → List Opd → Ce → Option Ce
  | [], [], ρ => some ρ
  | (i, true) :: is, .new d :: os, ρ => asg is os (ρ.set i (.own false d))
  | (i, false) :: is, .new d :: os, ρ => asg is os (ρ.set i (.val d))
  | (i, false) :: is, .frz d :: os, ρ => asg is os (ρ.set i (.val d))
  | _, _, _ => none
def setAll : List (Nat × Bool) → List V → L2.St → L2.St
  | (i, _) :: is, v :: vs, σ => setAll is vs (σ.set i (some v))
  | _, _, σ => σ
/-- operands that are values alone -/
def OpV (K : PySem.W.Frag) (B : Bs) (F H : Hp) (σ : L2.St) (ρ : Ce) : List V → List Opd → Prop
  | [], [] => True
  | v :: vs, o :: os => (∀ i, o ≠ .own i) ∧ OpOk K B.H0 F H σ ρ v o ∧ (∀ d, o = .new d → ¬ NewIn v vs os) ∧ OpV K B F H σ ρ vs os
  | _, _ => False
section
variable {K : PySem.W.Frag} {B : Bs} {F F2 H : Hp} {σ σ2 : L2.St} {ρ ρ2 : Ce}
theorem OpV.move (s : Same F F2) (v : V) (hF : ∀ a, v ≠ .ref a → F a = none → F2 a = none) (hO : ∀ a, v ≠ .ref a → ¬ OwA σ ρ a → ¬ OwA σ2 ρ2 a) : ∀ {vs : List V} {os : List Opd}, OpV K B F H σ ρ vs os → ¬ NewIn v vs os → OpV K B F2 H σ2 ρ2 vs os
  | [], [], _, _ => True.intro
  | w :: vs, o :: os, ⟨h0, h1, h2, h3⟩, n => by
    refine ⟨h0, ?_, h2, OpV.move s v hF hO h3 fun z => n (.inr z)⟩
    cases o with
    | own i => exact (h0 i rfl).elim
    | frz d => exact Rp.mono s h1
    | new d =>
      obtain ⟨a, rfl, n0, nF, nO, t⟩ := h1
      have na : v ≠ .ref a := fun z => n (.inl ⟨d, rfl, z.symm⟩)
      exact ⟨a, rfl, n0, hF a na nF, hO a na nO, t.mono s fun _ z => z⟩
  | [], _ :: _, h, _ => h.elim
  | _ :: _, [], h, _ => h.elim
theorem asg_ok : ∀ {is : List (Nat × Bool)} {vs : List V} {os : List Opd} {F : Hp} {σ : L2.St} {ρ ρ' : Ce}, Ba K B F H σ ρ → OpV K B F H σ ρ vs os → asg is os ρ = some ρ' → ∃ F', Ba K B F' H (setAll is vs σ) ρ'
  | [], [], [], F, σ, ρ, ρ', A, _, h => by cases h; exact ⟨F, A⟩
  | [], v :: vs, [], F, σ, ρ, ρ', A, h, _ => h.elim
  | [], _, _ :: _, _, _, _, _, _, _, h => by cases h
  | (i, b) :: _, _, [], _, _, _, _, _, _, h => by cases b <;> cases h
  | _ :: _, [], _ :: _, _, _, _, _, _, h, _ => h.elim
  | (i, b) :: is, v :: vs, o :: os, F, σ, ρ, ρ', A, ⟨h0, h1, h2, h3⟩, h => by
    cases o with
    | own j => exact (h0 j rfl).elim
    | frz d =>
      cases b with
      | true => cases h
      | false =>
        have ow : ∀ a, OwA (σ.set i (some v)) (ρ.set i (.val d)) a → OwA σ ρ a := fun a ⟨j, b, e, e1, e2⟩ => by
          have hj : i ≠ j := fun q => by
            subst q
            by_cases hl : i < ρ.length
            · rw [List.getElem?_set_self hl] at e1; cases e1
            · rw [List.getElem?_eq_none (by rw [List.length_set]; omega)] at e1; cases e1
          rw [List.getElem?_set_ne hj] at e1 e2
          exact ⟨j, b, e, e1, e2⟩
        refine asg_ok (is := is) (vs := vs) (os := os) (A.set i h1) ?_ (show asg is os (ρ.set i (.val d)) = some ρ' from h)
        -- nothing new is touched
        have all : ∀ {vs : List V} {os : List Opd}, OpV K B F H σ ρ vs os → OpV K B F H (σ.set i (some v)) (ρ.set i (.val d)) vs os := by
          intro vs
          induction vs with
          | nil => intro os h; cases os with
            | nil => exact True.intro
            | cons _ _ => exact h.elim
          | cons w vs ih => intro os h; cases os with
            | nil => exact h.elim
            | cons o os =>
              obtain ⟨q0, q1, q2, q3⟩ := h
              refine ⟨q0, ?_, q2, ih q3⟩
              cases o with
              | own i => exact (q0 i rfl).elim
              | frz d => exact q1
              | new d =>
                obtain ⟨a, rfl, n0, nF, nO, t⟩ := q1
                exact ⟨a, rfl, n0, nF, fun z => nO (ow a z), t⟩
        exact all h3
    | new d =>
      obtain ⟨a, rfl, n0, nF, nO, t⟩ := h1
      cases b with
      | true =>
        refine asg_ok (is := is) (vs := vs) (os := os) (A.setOwn i n0 nF nO t) (h3.move (Same.refl F) (.ref a) (fun _ _ z => z) (fun c hc nc => ?_) (h2 d rfl)) (show asg is os (ρ.set i (.own false d)) = some ρ' from h)
        rintro ⟨j, b, e, e1, e2⟩
        by_cases hj : i = j
        · subst hj
          by_cases hl : i < σ.length
          · rw [List.getElem?_set_self hl] at e2; cases e2; exact hc rfl
          · rw [List.getElem?_eq_none (by rw [List.length_set]; omega)] at e2; cases e2
        · rw [List.getElem?_set_ne hj] at e1 e2
          exact nc ⟨j, b, e, e1, e2⟩
      | false =>
        have A2 := A.frz nF (.inl n0) nO
        refine asg_ok (is := is) (vs := vs) (os := os) (A2.set i (t.rp nF)) (h3.move (same_ovl nF) (.ref a) (fun c hc z => ?_) (fun c hc nc => ?_) (h2 d rfl)) (show asg is os (ρ.set i (.val d)) = some ρ' from h)
        · rw [ovl_ne (fun q => hc (by rw [q]))]; exact z
        · rintro ⟨j, b, e, e1, e2⟩
          by_cases hj : i = j
          · subst hj
            by_cases hl : i < σ.length
            · rw [List.getElem?_set_self hl] at e2; cases e2; exact hc rfl
            · rw [List.getElem?_eq_none (by rw [List.length_set]; omega)] at e2; cases e2
          · rw [List.getElem?_set_ne hj] at e1 e2
            exact nc ⟨j, b, e, e1, e2⟩
theorem opv_of : ∀ {is : List (Nat × Bool)} {vs : List V} {os : List Opd} {ρ1 ρ' : Ce}, ArgsN K B.H0 F H σ ρ vs os → asg is os ρ1 = some ρ' → OpV K B F H σ ρ vs os
  | _, [], [], _, _, _, _ => True.intro
  | (i, b) :: is, v :: vs, o :: os, ρ1, ρ', ⟨h1, h2, h3⟩, h => by
    cases o with
    | own j => cases b <;> cases h
    | frz d =>
      cases b with
      | true => cases h
      | false => exact ⟨nofun, h1, h2, opv_of h3 h⟩
    | new d =>
      cases b with
      | true => exact ⟨nofun, h1, h2, opv_of h3 h⟩
      | false => exact ⟨nofun, h1, h2, opv_of h3 h⟩
  | [], _ :: _, _ :: _, _, _, _, h => by cases h
  | _, [], _ :: _, _, _, h, _ => h.elim
  | _, _ :: _, [], _, _, h, _ => h.elim
end
def gTupS (is : List (Nat × Bool)) (fa : FA) : FS := fun ρ => (fa ρ).bind fun r => (asg is r.1 r.2).bind fun ρ' => some (.nx ρ')
section
variable {X : Cx} {fa : FA} {pos : Pos}
theorem gtup_use {K : PySem.W.Frag} {is : List (Nat × Bool)} {D : Ends} {σ : L2.St} {H : Hp} {R : List V → Hp → Prop} (c : canS K (gTupS is fa) D σ H) (k : ∀ vs H', D.nx (setAll is vs σ) H' → vs.length = is.length → R vs H') : canAN K fa σ H R := by
  obtain ⟨B, F, ρ, r, A, hg, p⟩ := c
  simp only [gTupS, Option.bind_eq_some_iff] at hg
  obtain ⟨⟨os, ρ1⟩, h1, ρ2, h2, h3⟩ := hg
  cases h3
  refine ⟨F, ρ, os, ρ1, A.sd, h1, fun vs F1 H1 G1 S1 s1 av => ?_⟩
  have A1 := A.expr G1 S1 s1
  have av' : ArgsN K B.H0 F1 H1 σ ρ1 vs os := av.from A.there0
  obtain ⟨F2, A2⟩ := asg_ok A1 (opv_of av' h2) h2
  refine k vs H1 (p F2 H1 _ A2) ?_
  have len : ∀ (is : List (Nat × Bool)) (vs : List V) (os : List Opd) (ρ1 : Ce), ArgsN K B.H0 F1 H1 σ ρ1 vs os → ∀ ρ, asg is os ρ = some ρ2 → vs.length = is.length := by
    intro is
    induction is with
    | nil => intro vs os ρ1 h ρ q; cases os with
      | nil => cases vs with
        | nil => rfl
        | cons _ _ => exact h.elim
      | cons _ _ => cases q
    | cons i is ih => intro vs os ρ1 h ρ q; cases os with
      | nil => obtain ⟨j, b⟩ := i; cases b <;> cases q
      | cons o os => cases vs with
        | nil => exact h.elim
        | cons v vs =>
          obtain ⟨j, b⟩ := i
          have ih' := fun ρ => ih vs os ρ1 h.2.2 ρ
          cases o with
          | own j => cases b <;> cases q
          | frz d =>
            cases b with
            | true => cases q
            | false => exact congrArg (· + 1) (ih' _ q)
          | new d =>
            cases b with
            | true => exact congrArg (· + 1) (ih' _ q)
            | false => exact congrArg (· + 1) (ih' _ q)
  exact len is vs os ρ1 av' ρ1 h2
theorem sj_par {i j : Nat} {x y : Str} {a b : Expr} {px py pt : Pos} {kt k2 pt2} {bi bj : Bool} (hc : X.calm = true) (hN : X.N.Nodup) (hi : X.N[i]? = some x) (hj : X.N[j]? = some y) (hij : i ≠ j)
    (hx : X.env.scope.names.lookup x = some .local) (hy : X.env.scope.names.lookup y = some .local) (ha : AJN X [a, b] fa)
    (hw : swappedStores [.Tuple [.Name x px, .Name y py] kt pt] (.Tuple [a, b] k2 pt2) X.env = pure (some [x, y]))
    (hs : swapsWithSole [.Tuple [.Name x px, .Name y py] kt pt] (.Tuple [a, b] k2 pt2) pos.line X.env = pure false := by rfl) :
    SJ X (.Assign [.Tuple [.Name x px, .Name y py] kt pt] (.Tuple [a, b] k2 pt2) pos) (gTupS [(i, bi), (j, bj)] fa) :=
  PS.weak (ps_par hc hN hi hj hij hx hy ha hw hs) fun D σ H c => gtup_use c fun vs H' q l => by
    match vs, l, q with
    | [v, w], _, q => exact ⟨v, w, rfl, q⟩
theorem sj_par3 {i j l : Nat} {x y z : Str} {a b c : Expr} {px py pz pt : Pos} {kt k2 pt2} {bi bj bl : Bool} (hc : X.calm = true) (hN : X.N.Nodup) (hi : X.N[i]? = some x) (hj : X.N[j]? = some y) (hl : X.N[l]? = some z) (hij : i ≠ j) (hil : i ≠ l) (hjl : j ≠ l)
    (hx : X.env.scope.names.lookup x = some .local) (hy : X.env.scope.names.lookup y = some .local) (hz : X.env.scope.names.lookup z = some .local) (ha : AJN X [a, b, c] fa)
    (hw : swappedStores [.Tuple [.Name x px, .Name y py, .Name z pz] kt pt] (.Tuple [a, b, c] k2 pt2) X.env = pure (some [x, y, z]))
    (hs : swapsWithSole [.Tuple [.Name x px, .Name y py, .Name z pz] kt pt] (.Tuple [a, b, c] k2 pt2) pos.line X.env = pure false := by rfl) :
    SJ X (.Assign [.Tuple [.Name x px, .Name y py, .Name z pz] kt pt] (.Tuple [a, b, c] k2 pt2) pos) (gTupS [(i, bi), (j, bj), (l, bl)] fa) :=
  PS.weak (ps_par3 hc hN hi hj hl hij hil hjl hx hy hz ha hw hs) fun D σ H c => gtup_use c fun vs H' q l => by
    match vs, l, q with
    | [u, v, w], _, q => exact ⟨u, v, w, rfl, q⟩
theorem gNs_all {H : Hp} {Q : L2.St → Hp → Prop} : ∀ {is : List (Nat × Bool)} {vs : List V} {σ : L2.St}, vs.length = is.length → Q (setAll is vs σ) H → gNs (is.map (·.1)) vs σ H Q
  | [], [], σ, _, q => ⟨rfl, q⟩
  | [], _ :: _, _, h, _ => by cases h
  | _ :: _, [], _, h, _ => by cases h
  | (i, b) :: is, v :: vs, σ, h, q => ⟨v, vs, rfl, gNs_all (is := is) (Nat.succ.inj h) q⟩
/-- .. by way of a tuple (names that are cells; constants) -/
theorem sj_tup {es vs : List Expr} {kt k2 : Nat} {pt pt2 : Pos} {is : List (Nat × Bool)} {n : Nat} (hc : X.calm = true) (h : PGs X es (gNs (is.map (·.1)))) (hn : (assignEach es X.env).length = n) (hl : is.length = n) (ha : AJN X vs fa)
    (hb : n ≤ 1000) (hst : (assignEach es X.env).findIdx? (·.1) = none := by rfl) (hs : swapsWithSole [.Tuple es kt pt] (.Tuple vs k2 pt2) pos.line X.env = pure false := by rfl)
    (hw : swappedStores [.Tuple es kt pt] (.Tuple vs k2 pt2) X.env = pure none := by rfl) (h1 : (assignEach [.Tuple es kt pt] X.env).map (·.2) = [assign (.Tuple es kt pt) X.env] := by rfl) :
    SJ X (.Assign [.Tuple es kt pt] (.Tuple vs k2 pt2) pos) (gTupS is fa) := by
  refine PS.weak (ps_asg (pe_tup ha) (pg_tup hc h hn hst) hs hw h1) fun D σ H c => ?_
  -- the tuple's own object is nobody's
  obtain ⟨B, F, ρ, r, A, hg, p⟩ := c
  simp only [gTupS, Option.bind_eq_some_iff] at hg
  obtain ⟨⟨os, ρ1⟩, h1', ρ2, h2, h3⟩ := hg
  cases h3
  refine ⟨F, ρ, os, ρ1, A.sd, h1', fun vs F1 H1 G1 S1 s1 av => ?_⟩
  have A1 := A.expr G1 S1 s1
  have av' : ArgsN X.K B.H0 F1 H1 σ ρ1 vs os := av.from A.there0
  have o1 := opv_of av' h2
  have lenv : vs.length = is.length := by
    have : ∀ (is : List (Nat × Bool)) (vs : List V) (os : List Opd) (ρ ρ2 : Ce), OpV X.K B F1 H1 σ ρ1 vs os → asg is os ρ = some ρ2 → vs.length = is.length := by
      intro is
      induction is with
      | nil => intro vs os ρ ρ2 h q; cases os with
        | nil => cases vs with
          | nil => rfl
          | cons _ _ => exact h.elim
        | cons _ _ => cases q
      | cons i is ih => intro vs os ρ ρ2 h q; cases os with
        | nil => obtain ⟨j, b⟩ := i; cases b <;> cases q
        | cons o os => cases vs with
          | nil => exact h.elim
          | cons v vs =>
            obtain ⟨j, b⟩ := i
            cases o with
            | own j => cases b <;> cases q
            | frz d =>
              cases b with
              | true => cases q
              | false => exact congrArg (· + 1) (ih vs os _ _ h.2.2.2 q)
            | new d =>
              cases b with
              | true => exact congrArg (· + 1) (ih vs os _ _ h.2.2.2 q)
              | false => exact congrArg (· + 1) (ih vs os _ _ h.2.2.2 q)
    exact this is vs os ρ1 ρ2 o1 h2
  refine ⟨by rw [lenv, hl]; exact Nat.le_trans hb (by decide), fun q nq => ?_⟩
  have A2 : Ba X.K B F1 (upd H1 q (.tup vs)) σ ρ1 := A1.expr (Gr.laid nq) (S1.lay nq) (Shape.refl ρ1)
  have o2 : OpV X.K B F1 (upd H1 q (.tup vs)) σ ρ1 vs os := by
    have : ∀ {ws : List V} {os : List Opd}, OpV X.K B F1 H1 σ ρ1 ws os → OpV X.K B F1 (upd H1 q (.tup vs)) σ ρ1 ws os := by
      intro ws
      induction ws with
      | nil => intro os h; cases os with
        | nil => exact True.intro
        | cons _ _ => exact h.elim
      | cons w ws ih => intro os h; cases os with
        | nil => exact h.elim
        | cons o os =>
          obtain ⟨q0, q1, q2, q3⟩ := h
          refine ⟨q0, ?_, q2, ih q3⟩
          cases o with
          | own i => exact (q0 i rfl).elim
          | frz d => exact q1
          | new d =>
            obtain ⟨a, rfl, n0, nF, nO, t⟩ := q1
            exact ⟨a, rfl, n0, nF, nO, t.mono (Same.refl _) fun o e => by rw [upd_ne (ne_of_none e nq)]; exact e⟩
    exact this o1
  obtain ⟨F2, A3⟩ := asg_ok A2 o2 h2
  exact ⟨q, vs, rfl, .inl (.inl upd_same), by rw [lenv, hl], gNs_all lenv (p F2 _ _ A3)⟩
end
end DL

namespace DL
open PySem PySem.Spec L2
/-! ### x[i] -/
def pIx : D → D → Option Opd
  | .list ds, .int i => (atI ds i).map .frz
  | .tuple ds, .int i => (atI ds i).map .frz
  | .dict es, k => if fitK es k = true then (dLook es k).map .frz else none
  | _, _ => none
def rIxA (K : PySem.W.Frag) : R2 := fun x y H Q => rIxL K x y H Q ∨ rIxT K x y H Q ∨ ∃ a v, x = .ref a ∧ DGet H a y (some v) ∧ Q v H
theorem ix_dict {X : Cx} (hu : X.A.units + 1 < cLine) : IxR X (fun x y H Q => ∃ a v, x = .ref a ∧ DGet H a y (some v) ∧ Q v H) := by
  intro value slice pins s σ H x y v u Q I rx ry h hs
  obtain ⟨a, w, rfl, g, q⟩ := h
  cases rx
  have ty := dict_typeIs I g
  unfold PyProof.Rows.subscriptTail
  refine wpAny_bind ?_
  rw [getitemInPython_of_ne ty.not_modules]
  refine wpAny_bind (wpAny_specialOf ty PySem.F.slot_dict_getitem.lookup ?_)
  have fin : wpAny (model X.prog X.w) X.A (subscripted slice false (.ref a) u) (fun r s₃ => wpAny (model X.prog X.w) X.A (letTemporaryGo value (.ref a) r >>= fun _ => pure r) (EP X pins σ Q) X.xe s₃) X.xe s := by
    rw [hs]
    exact wpAny_operating (d_getItem hu I g ry fun w' s3 I3 rw' => wpAny_bind (wpAny_letTemporaryGo (wpAny_pure ⟨w, H, I3, rw', q⟩)))
  first
    | exact wpAny_pure (wpAny_bind fin)
    | exact wpAny_bind (wpAny_pure (wpAny_bind fin))
    | exact wpAny_bind fin
theorem ix_all {X : Cx} (hu : X.A.units + 1 < cLine) : IxR X (rIxA X.K) := ix_list.or (ix_tup.or (ix_dict hu))
section
variable {K : PySem.W.Frag}
theorem atI_rp {F : Hp} {xs : List V} {ds : List D} (r : RpL K F xs ds) {i : Int} {d : D} (h : atI ds i = some d) : ∃ v, atI xs i = some v ∧ Rp K F v d := by
  obtain ⟨j, h1, h2⟩ := Option.bind_eq_some_iff.mp h
  obtain ⟨v, h3, h4⟩ := r.getD h2
  exact ⟨v, by unfold atI; rw [r.length, h1]; exact h3, h4⟩
theorem r2_ix : R2D K (rIxA K) pIx := by
  intro F H H0 σ ρ v u x y d e o Q S ov ou hd he hp k
  unfold pIx at hp
  split at hp
  · rename_i ds i
    obtain ⟨z, h1, rfl⟩ := Option.map_eq_some_iff.mp hp
    obtain ⟨a, xs, rfl, ha, r⟩ := ov.list S hd
    obtain ⟨w, h2, h3⟩ := atI_rp r h1
    exact .inl ⟨a, xs, i, w, rfl, int_of ou S he, .inl (.inl ha), h2, k _ F H Gr.refl S h3⟩
  · rename_i ds i
    obtain ⟨z, h1, rfl⟩ := Option.map_eq_some_iff.mp hp
    obtain ⟨a, xs, rfl, ha, r⟩ := ov.tuple S hd
    obtain ⟨w, h2, h3⟩ := atI_rp r h1
    exact .inr (.inl ⟨a, xs, i, w, rfl, int_of ou S he, .inl (.inl (S.sub _ _ ha)), h2, k _ F H Gr.refl S h3⟩)
  · rename_i es
    split at hp
    · rename_i hf
      obtain ⟨z, h1, rfl⟩ := Option.map_eq_some_iff.mp hp
      obtain ⟨a, o, rfl, g, r⟩ := dget_of ov ou S hd he hf
      rw [h1] at r
      cases o with
      | none => exact r.elim
      | some w => exact .inr (.inr ⟨a, w, rfl, g, k _ F H Gr.refl S r⟩)
    · cases hp
  · cases hp
end
section
variable {X : Cx} {a b : Expr} {pos : Pos} {fa fb : FE}
theorem ej_ix (hu : X.A.units + 1 < cLine) (ha : EJ X a fa) (hb : EJ X b fb) (hs : PlainIx b := by intro _ _; rfl) : EJ X (.Subscript a b pos) (f2 pIx fa fb) :=
  PE.weak (pe_ix (ix_all hu) ha hb hs) fun _ _ _ c => r2_of r2_ix c
end
/-! ### slices -/
abbrev FO := Ce → Option (Option Int × Ce)
def canO (K : PySem.W.Frag) (f : FO) : TO := fun σ H Q => ∃ F ρ b ρ', Sd K F H σ ρ ∧ f ρ = some (b, ρ') ∧ ∀ F' H', Gr (OwA σ ρ) F H F' H' → Sd K F' H' σ ρ' → Shape ρ ρ' → Q b H'
def OJ (X : Cx) (e : Option Expr) (f : FO) : Prop := PO X e (canO X.K f)
def fo0 : FO := fun ρ => some (none, ρ)
def fo1 (fe : FE) : FO := fun ρ => (fe ρ).bind fun r => match r.1 with
  | .frz (.int i) => some (some i, r.2)
  | _ => none
theorem PO.weak {X : Cx} {e : Option Expr} {t t' : TO} (h : PO X e t) (k : ∀ σ H Q, t' σ H Q → t σ H Q) : PO X e t' := ⟨fun pins s σ H Q I q => h.run pins s σ H Q I (k σ H Q q)⟩
section
variable {X : Cx} {e : Expr} {fe : FE}
theorem oj_none : OJ X none fo0 := PO.weak po_none fun σ H Q c => by
  obtain ⟨F, ρ, b, ρ', S, hf, k⟩ := c
  cases hf
  exact k F H Gr.refl S (Shape.refl ρ)
theorem oj_some (h : EJ X e fe) : OJ X (some e) (fo1 fe) := PO.weak (po_some h) fun σ H Q c => by
  obtain ⟨F, ρ, b, ρ', S, hf, k⟩ := c
  simp only [fo1, Option.bind_eq_some_iff] at hf
  obtain ⟨⟨x, ρ1⟩, h1, h2⟩ := hf
  split at h2
  · rename_i i e
    cases h2
    simp only at e
    subst e
    refine one S h1 fun v F1 H1 G1 S1 s1 ov => ?_
    cases ov
    exact ⟨i, rfl, k F1 H1 G1 S1 s1⟩
  · cases h2
end
/-- a part of a list -/
def cutD (ds : List D) (lo hi : Option Int) : List D := (ds.drop (HT.sIx ds.length 0 lo)).take (HT.sIx ds.length ds.length hi - HT.sIx ds.length 0 lo)
def pSl (d : D) (lo hi : Option Int) : Option Opd := match d with
  | .list ds => some (.new (.list (cutD ds lo hi)))
  | .tuple ds => some (.frz (.tuple (cutD ds lo hi)))
  | _ => none
def rSlB (K : PySem.W.Frag) : V → Option Int → Option Int → Hp → VK → Prop := fun x lo hi H Q => rSlL K x lo hi H Q ∨ rSlA K x lo hi H Q
def fSl (fa : FE) (fl fh : FO) : FE := fun ρ => (fa ρ).bind fun r => (fl r.2).bind fun l => (fh l.2).bind fun h => (deref h.2 r.1).bind fun d => (pSl d l.1 h.1).bind fun o => some (o, h.2)
theorem cut_rp {K : PySem.W.Frag} {F : Hp} {xs : List V} {ds : List D} (r : RpL K F xs ds) (lo hi : Option Int) : RpL K F (cutV xs lo hi) (cutD ds lo hi) := by
  unfold cutV cutD
  rw [r.length]
  exact (r.drop _).take _
theorem ej_sl {X : Cx} {a : Expr} {lo hi : Option Expr} {p2 pos : Pos} {fa : FE} {fl fh : FO} (ha : EJ X a fa) (hl : OJ X lo fl) (hh : OJ X hi fh) : EJ X (.Subscript a (.Slice lo hi none p2) pos) (fSl fa fl fh) := by
  refine PE.weak (pe_slice (r := rSlB X.K) (SlR.or sl_list sl_tupA) ha hl hh) fun σ H Q c => ?_
  obtain ⟨F, ρ, o, ρ', S, hf, k⟩ := c
  simp only [fSl, Option.bind_eq_some_iff] at hf
  obtain ⟨⟨x, ρ1⟩, h1, ⟨l, ρ2⟩, h2, ⟨h, ρ3⟩, h3, d, hd, z, hz, h4⟩ := hf
  cases h4
  refine one S h1 fun v F1 H1 G1 S1 s1 ov => ⟨F1, ρ1, l, ρ2, S1, h2, fun F2 H2 G2 S2 s2 => ⟨F2, ρ2, h, ρ3, S2, h3, fun F3 H3 G3 S3 s3 => ?_⟩⟩
  have o3 := (ov.stay G2 s2).stay G3 s3
  have G' : Gr (OwA σ ρ) F H F3 H3 := (G1.trans (G2.weak fun a z => (OwA.shape s1).mp z)).trans (G3.weak fun a z => (OwA.shape (s1.trans s2)).mp z)
  have sh := (s1.trans s2).trans s3
  unfold pSl at hz
  split at hz
  · rename_i ds
    cases hz
    obtain ⟨a, xs, rfl, ha, r⟩ := o3.list S3 hd
    refine .inl ⟨a, xs, rfl, .inl (.inl ha), fun p np => ?_⟩
    obtain ⟨G4, S4, o4⟩ := new_list (Ow := OwA σ ρ) S3 np (cut_rp r l h)
    exact k _ _ _ (G'.trans G4) S4 sh (o4.from G'.there)
  · rename_i ds
    cases hz
    obtain ⟨a, xs, rfl, ha, r⟩ := o3.tuple S3 hd
    refine .inr ⟨a, xs, rfl, .inl (.inl (S3.sub _ _ ha)), fun e => ?_, fun e p np => ?_⟩
    · have : cutD ds l h = ds := by
        unfold cutD
        rw [← r.length, e.1, e.2, List.drop_zero, Nat.sub_zero, r.length, List.take_length]
      rw [this] at k
      exact k _ F3 H3 G' S3 sh (Rp.tup ha r)
    · obtain ⟨F4, G4, S4, r4⟩ := new_tup (Ow := OwA σ ρ) S3 np (cut_rp r l h)
      exact k _ _ _ (G'.trans G4) S4 sh r4
  · cases hz
def fRev (fa : FE) : FE := fun ρ => (fa ρ).bind fun r => match deref r.2 r.1 with
  | some (.list ds) => some (.new (.list ds.reverse), r.2)
  | _ => none
theorem ej_rev {X : Cx} {a : Expr} {k : Nat} {p1 p2 p3 pos : Pos} {fa : FE} (ha : EJ X a fa) : EJ X (.Subscript a (.Slice none none (some (.UnaryOp .USub (.Constant (.int 1) k p1) p2)) p3) pos) (fRev fa) := by
  refine PE.weak (pe_revL ha) fun σ H Q c => ?_
  obtain ⟨F, ρ, o, ρ', S, hf, kk⟩ := c
  simp only [fRev, Option.bind_eq_some_iff] at hf
  obtain ⟨⟨x, ρ1⟩, h1, h2⟩ := hf
  split at h2
  · rename_i ds e
    cases h2
    refine one S h1 fun v F1 H1 G1 S1 s1 ov => ?_
    obtain ⟨a, xs, rfl, ha, r⟩ := ov.list S1 e
    refine ⟨a, xs, rfl, .inl (.inl ha), fun p np => ?_⟩
    obtain ⟨G2, S2, o2⟩ := new_list (Ow := OwA σ ρ) S1 np r.reverse
    exact kk _ _ _ (G1.trans G2) S2 s1 (o2.from G1.there)
  · cases h2
/-! ### methods that change a slot's own object -/
/-- the object of a slot's own is replaced -/
theorem Sd.put {K : PySem.W.Frag} {F H : Hp} {σ : L2.St} {ρ : Ce} (S : Sd K F H σ ρ) {i : Nat} {b : Bool} {w w' : D} {u : Addr} {o : HO} (hi : ρ[i]? = some (.own b w)) (hu : σ[i]? = some (some (.ref u))) (hF : F u = none) (t : Top K F (upd H u o) u w') :
    Sd K F (upd H u o) σ (ρ.set i (.own b w')) ∧ Shape ρ (ρ.set i (.own b w')) ∧ Gr (OwA σ ρ) F H F (upd H u o) := by
  refine S.chg hi hu ⟨Same.refl F, fun _ _ e => .inl e, fun a o e n => by rw [upd_ne n]; exact e, fun a e => ?_⟩ (fun a o e => ?_) hF t
  · by_cases q : a = u
    · subst q; rw [upd_same] at e; cases e
    · rw [upd_ne q] at e; exact e
  · rw [upd_ne (ne_of_none e hF)]; exact S.sub a o e
def tyD (T : String) : D → Bool
  | .list _ => T == "list"
  | .dict _ => T == "dict"
  | _ => false
/-- a method of a slot's own object: what it gives, what the object holds then -/
def OwnM (K : PySem.W.Frag) (r : V → List V → Hp → VK → Prop) (m : D → List D → Option (D × D)) : Prop :=
  ∀ (F H : Hp) (u : Addr) (w : D) (vs : List V) (ds : List D) (z w' : D) (Q : VK), Same F H → F u = none → Top K F H u w → RpL K F vs ds → m w ds = some (z, w') → (∀ v o, Top K F (upd H u o) u w' → Rp K F v z → Q v (upd H u o)) → r (.ref u) vs H Q
def fM (T : String) (m : D → List D → Option (D × D)) (fo : FE) (fa : FA) : FE := fun ρ => (fo ρ).bind fun r => match r.1 with
  | .own i => match (r.2[i]? : Option Cell) with
    | some (.own _ w0) => if tyD T w0 = true then (fa r.2).bind fun q => match (q.2[i]? : Option Cell) with
      | some (.own b w) => (frzs q.1).bind fun ds => (m w ds).bind fun z => some (.frz z.1, q.2.set i (.own b z.2))
      | _ => none
      else none
    | _ => none
  | _ => none
theorem own_top {K : PySem.W.Frag} {H0 F H : Hp} {σ : L2.St} {ρ : Ce} {v : V} {i : Nat} {b : Bool} {w : D} (h : OpOk K H0 F H σ ρ v (.own i)) (S : Sd K F H σ ρ) (e : ρ[i]? = some (.own b w)) : ∃ a, v = .ref a ∧ σ[i]? = some (some (.ref a)) ∧ F a = none ∧ Top K F H a w := by
  obtain ⟨h1, _⟩ := h
  obtain ⟨a, q1, q2, q3⟩ := S.own i b _ e
  rw [h1] at q1
  cases q1
  exact ⟨a, rfl, h1, q2, q3⟩
theorem ty_top {K : PySem.W.Frag} {F H : Hp} {a : Addr} {w : D} {T : String} (t : Top K F H a w) (h : tyD T w = true) : tyV K T (.ref a) H := by
  rcases t with ⟨xs, ds, rfl, h1, r⟩ | ⟨xs, ds, rfl, h1, r⟩ | ⟨xs, ds, rfl, h1, r⟩
  · have e : T = "list" := by simpa [tyD] using h
    exact .inl ⟨e, xs, .inl (.inl h1)⟩
  · have e : T = "dict" := by simpa [tyD] using h
    exact .inr (.inr (.inl ⟨e, .inl ⟨xs, h1⟩⟩))
  · have e : T = "dict" := by simpa [tyD] using h
    exact .inr (.inr (.inl ⟨e, .inr ⟨xs, h1⟩⟩))
theorem bm_of {K : PySem.W.Frag} {T : String} {r : V → List V → Hp → VK → Prop} {m : D → List D → Option (D × D)} (hm : OwnM K r m) {fo : FE} {fa : FA} {σ : L2.St} {H : Hp} {Q : VK} (c : canE K (fM T m fo fa) σ H Q) : tBM K T r (canE K fo) (canA K fa) σ H Q := by
  obtain ⟨F, ρ, oo, ρ', S, hf, k⟩ := c
  simp only [fM, Option.bind_eq_some_iff] at hf
  obtain ⟨⟨x, ρ1⟩, h1, h2⟩ := hf
  split at h2
  · rename_i i e1
    simp only at e1
    subst e1
    split at h2
    · rename_i b0 w0 e2
      simp only at e2
      split at h2
      · rename_i hty
        simp only [Option.bind_eq_some_iff] at h2
        obtain ⟨⟨ys, ρ2⟩, h3, h4⟩ := h2
        split at h4
        · rename_i b w e3
          simp only [Option.bind_eq_some_iff] at h4 e3
          obtain ⟨ds, h5, ⟨z, w'⟩, h6, h7⟩ := h4
          cases h7
          refine one S h1 fun v F1 H1 G1 S1 s1 ov => ?_
          obtain ⟨u, rfl, q1, q2, q3⟩ := own_top ov S1 e2
          refine ⟨ty_top q3 hty, F1, ρ1, ys, ρ2, S1, h3, fun vs F2 H2 G2 S2 s2 av => ?_⟩
          obtain ⟨u', p1, p2, p3⟩ := S2.own i b w e3
          rw [q1] at p1
          cases p1
          refine hm F2 H2 u w vs ds z w' Q S2.sub p2 p3 (av.frz h5) h6 fun v o t r => ?_
          obtain ⟨S3, s3, G3⟩ := S2.put e3 q1 p2 t
          exact k v F2 _ ((G1.trans (G2.weak fun a z => (OwA.shape s1).mp z)).trans (G3.weak fun a z => (OwA.shape (s1.trans s2)).mp z)) S3 ((s1.trans s2).trans s3) r
        · cases h4
      · cases h2
    · cases h2
  · cases h2
theorem bm0_of {K : PySem.W.Frag} {T : String} {r : V → List V → Hp → VK → Prop} {m : D → List D → Option (D × D)} (hm : OwnM K r m) {fo : FE} {σ : L2.St} {H : Hp} {Q : VK} (c : canE K (fM T m fo faN) σ H Q) : tBM0 K T r (canE K fo) σ H Q := by
  obtain ⟨F, ρ, oo, ρ', S, hf, k⟩ := c
  simp only [fM, Option.bind_eq_some_iff] at hf
  obtain ⟨⟨x, ρ1⟩, h1, h2⟩ := hf
  split at h2
  · rename_i i e1
    simp only at e1
    subst e1
    split at h2
    · rename_i b0 w0 e2
      simp only at e2
      split at h2
      · rename_i hty
        simp only [Option.bind_eq_some_iff, faN] at h2
        obtain ⟨⟨ys, ρ2⟩, h3, h4⟩ := h2
        cases h3
        split at h4
        · rename_i b w e3
          simp only [Option.bind_eq_some_iff] at h4 e3
          obtain ⟨ds, h5, ⟨z, w'⟩, h6, h7⟩ := h4
          cases h7
          cases h5
          refine one S h1 fun v F1 H1 G1 S1 s1 ov => ?_
          obtain ⟨u, rfl, q1, q2, q3⟩ := own_top ov S1 e3
          refine ⟨ty_top q3 (by rw [e2] at e3; cases e3; exact hty), hm F1 H1 u w [] [] z w' Q S1.sub q2 q3 .nil h6 fun v o t r => ?_⟩
          obtain ⟨S3, s3, G3⟩ := S1.put e3 q1 q2 t
          exact k v F1 _ (G1.trans (G3.weak fun a z => (OwA.shape s1).mp z)) S3 (s1.trans s3) r
        · cases h4
      · cases h2
    · cases h2
  · cases h2
def mApp : D → List D → Option (D × D)
  | .list ds, [d] => if ds.length < sizeLine then some (.none, .list (ds ++ [d])) else none
  | _, _ => none
def mExt : D → List D → Option (D × D)
  | .list ds, [.list es] => if ds.length + es.length ≤ sizeLine then some (.none, .list (ds ++ es)) else none
  | _, _ => none
def mPop : D → List D → Option (D × D)
  | .list ds, [] => ds[ds.length - 1]?.map fun d => (d, .list ds.dropLast)
  | _, _ => none
def mPopAt : D → List D → Option (D × D)
  | .list ds, [.int i] => if -(2 ^ 63) ≤ i ∧ i < 2 ^ 63 then (seqIndex? i ds.length).bind fun k => ds[k]?.map fun d => (d, .list (ds.eraseIdx k)) else none
  | _, _ => none
section
variable {K : PySem.W.Frag}
theorem top_list {F H : Hp} {u : Addr} {ds : List D} (t : Top K F H u (.list ds)) : ∃ xs, H u = some (.lst xs) ∧ RpL K F xs ds := by
  rcases t with ⟨xs, ds', e, h1, r⟩ | ⟨xs, ds', e, h1, r⟩ | ⟨xs, ds', e, h1, r⟩
  · cases e; exact ⟨xs, h1, r⟩
  · cases e
  · cases e
theorem om_append : OwnM K rAppend mApp := by
  intro F H u w vs ds z w' Q s nF t r hm k
  unfold mApp at hm
  split at hm
  · split at hm
    · rename_i es d hl
      cases hm
      obtain ⟨xs, h1, r1⟩ := top_list t
      cases r with | cons rv r0 =>
      cases r0
      exact ⟨u, xs, _, rfl, rfl, h1, by rw [r1.length]; exact hl, k _ _ (.inl ⟨_, _, rfl, upd_same, r1.append (.cons rv .nil)⟩) Rp.non⟩
    · cases hm
  · cases hm
theorem om_extend : OwnM K rExtend mExt := by
  intro F H u w vs ds z w' Q s nF t r hm k
  unfold mExt at hm
  split at hm
  · split at hm
    · rename_i es d hl
      cases hm
      obtain ⟨xs, h1, r1⟩ := top_list t
      cases r with | cons rv r0 =>
      cases r0
      cases rv with | lst hb rb =>
      exact ⟨u, _, xs, _, rfl, rfl, h1, s _ _ hb, by rw [r1.length, rb.length]; exact hl, k _ _ (.inl ⟨_, _, rfl, upd_same, r1.append rb⟩) Rp.non⟩
    · cases hm
  · cases hm
theorem RpL.dropLast {F : Hp} {v : List V} {d : List D} (h : RpL K F v d) : RpL K F v.dropLast d.dropLast := by
  rw [List.dropLast_eq_take, List.dropLast_eq_take, h.length]
  exact h.take _
theorem RpL.eraseIdx {F : Hp} : ∀ {v : List V} {d : List D} (i : Nat), RpL K F v d → RpL K F (v.eraseIdx i) (d.eraseIdx i)
  | _, _, _, .nil => .nil
  | _, _, 0, .cons _ r => r
  | _, _, i + 1, .cons h r => .cons h (RpL.eraseIdx i r)
theorem om_pop : OwnM K rPop mPop := by
  intro F H u w vs ds z w' Q s nF t r hm k
  unfold mPop at hm
  split at hm
  · obtain ⟨d, h2, h3⟩ := Option.map_eq_some_iff.mp hm
    cases h3
    obtain ⟨xs, h1, r1⟩ := top_list t
    cases r
    obtain ⟨x, h4, h5⟩ := r1.getD h2
    exact ⟨u, xs, x, rfl, rfl, h1, by rw [r1.length]; exact h4, k _ _ (.inl ⟨_, _, rfl, upd_same, r1.dropLast⟩) h5⟩
  · cases hm
theorem om_popAt : OwnM K rPopAt mPopAt := by
  intro F H u w vs ds z w' Q s nF t r hm k
  unfold mPopAt at hm
  split at hm
  · split at hm
    · rename_i hi
      obtain ⟨j, h2, h3⟩ := Option.bind_eq_some_iff.mp hm
      obtain ⟨d, h4, h5⟩ := Option.map_eq_some_iff.mp h3
      cases h5
      obtain ⟨xs, h1, r1⟩ := top_list t
      cases r with | cons rv r0 =>
      cases r0
      cases rv
      obtain ⟨x, h6, h7⟩ := r1.getD h4
      exact ⟨u, xs, _, j, x, rfl, rfl, h1, hi.1, hi.2, by rw [r1.length]; exact h2, h6, k _ _ (.inl ⟨_, _, rfl, upd_same, r1.eraseIdx j⟩) h7⟩
    · cases hm
  · cases hm
end
section
variable {X : Cx} {o e : Expr} {es : List Expr} {pos apos cpos : Pos} {fo fe : FE} {fa : FA}
theorem ej_append (ho : EJ X o fo) (ha : AJ X (e :: es) fa) (hbase : attributeBase o "append" X.env (eval o X.env) = eval o X.env := by rfl)
    (hfew : ((backTo cpos (starEach (e :: es) X.env)).all (fun x => !x.1) && (backToKw cpos (keywordEach [] X.env)).all (fun x => x.1.isSome) && decide ((e :: es).length + ([] : List Keyword).length + (if ([] : List Keyword).isEmpty then 0 else 1) < 30)) = true := by rfl)
    (hline : (apos.endLine == cpos.line) = true := by rfl) (hs : starEach (e :: es) X.env = (false, eval e X.env) :: starEach es X.env := by rfl) (hplain : (backTo cpos (starEach es X.env)).any (·.1) = false := by rfl) :
    EJ X (.Call (.Attribute o "append" apos) (e :: es) [] cpos) (fM "list" mApp fo fa) :=
  PE.weak (pe_bm PySem.F.plainAttrs_list PySem.F.slot_list_append PySem.F.type_list_append mt_append ho ha hbase hfew hline hs hplain) fun σ H Q c => bm_of om_append c
theorem ej_extend (ho : EJ X o fo) (ha : AJ X (e :: es) fa) (hbase : attributeBase o "extend" X.env (eval o X.env) = eval o X.env := by rfl)
    (hfew : ((backTo cpos (starEach (e :: es) X.env)).all (fun x => !x.1) && (backToKw cpos (keywordEach [] X.env)).all (fun x => x.1.isSome) && decide ((e :: es).length + ([] : List Keyword).length + (if ([] : List Keyword).isEmpty then 0 else 1) < 30)) = true := by rfl)
    (hline : (apos.endLine == cpos.line) = true := by rfl) (hs : starEach (e :: es) X.env = (false, eval e X.env) :: starEach es X.env := by rfl) (hplain : (backTo cpos (starEach es X.env)).any (·.1) = false := by rfl) :
    EJ X (.Call (.Attribute o "extend" apos) (e :: es) [] cpos) (fM "list" mExt fo fa) :=
  PE.weak (pe_bm PySem.F.plainAttrs_list PySem.F.slot_list_extend PySem.F.type_list_extend mt_extend ho ha hbase hfew hline hs hplain) fun σ H Q c => bm_of om_extend c
theorem ej_popAt (ho : EJ X o fo) (ha : AJ X (e :: es) fa) (hbase : attributeBase o "pop" X.env (eval o X.env) = eval o X.env := by rfl)
    (hfew : ((backTo cpos (starEach (e :: es) X.env)).all (fun x => !x.1) && (backToKw cpos (keywordEach [] X.env)).all (fun x => x.1.isSome) && decide ((e :: es).length + ([] : List Keyword).length + (if ([] : List Keyword).isEmpty then 0 else 1) < 30)) = true := by rfl)
    (hline : (apos.endLine == cpos.line) = true := by rfl) (hs : starEach (e :: es) X.env = (false, eval e X.env) :: starEach es X.env := by rfl) (hplain : (backTo cpos (starEach es X.env)).any (·.1) = false := by rfl) :
    EJ X (.Call (.Attribute o "pop" apos) (e :: es) [] cpos) (fM "list" mPopAt fo fa) :=
  PE.weak (pe_bm PySem.F.plainAttrs_list PySem.F.slot_list_pop PySem.F.type_list_pop mt_popAt ho ha hbase hfew hline hs hplain) fun σ H Q c => bm_of om_popAt c
end
end DL

namespace DL
open PySem PySem.Spec L2
/-! ### dict methods: get, pop -/
def fGet (fo fe fx : FE) : FE := fun ρ => (fo ρ).bind fun r => match deref r.2 r.1 with
  | some (.dict _) => (fe r.2).bind fun q => (frD q.1).bind fun _ => (fx q.2).bind fun x => (deref x.2 r.1).bind fun d => (deref x.2 q.1).bind fun k => match d with
    | .dict es => if fitK es k = true then match dLook es k with
      | some v => some (.frz v, x.2)
      | none => some (x.1, x.2)
      else none
    | _ => none
  | _ => none
section
variable {X : Cx} {o e f : Expr} {apos cpos : Pos} {fo fe fx : FE}
theorem isD_of {K : PySem.W.Frag} {H0 F H : Hp} {σ : L2.St} {ρ : Ce} {v : V} {x : Opd} {es : List (D × D)} (h : OpOk K H0 F H σ ρ v x) (S : Sd K F H σ ρ) (e : deref ρ x = some (.dict es)) : ∃ a, v = .ref a ∧ IsD H a := by
  obtain ⟨a, rfl, c⟩ := h.dict S e
  rcases c with ⟨kvs, hH, r⟩ | ⟨kvs, es', rfl, hH, r⟩
  · exact ⟨a, rfl, .inl ⟨kvs, .inl hH⟩⟩
  · exact ⟨a, rfl, .inr ⟨kvs, .inl hH⟩⟩
theorem ej_get2 (hu : X.A.units + 1 < cLine) (ho : EJ X o fo) (he : EJ X e fe) (hf : EJ X f fx) (m : M2 X o "get" apos e f cpos := by exact ⟨rfl, rfl, rfl, rfl⟩) : EJ X (.Call (.Attribute o "get" apos) [e, f] [] cpos) (fGet fo fe fx) := by
  refine PE.weak (pe_dget2 hu ho he hf m) fun σ H Q c => ?_
  obtain ⟨F, ρ, oo, ρ', S, hf, k⟩ := c
  simp only [fGet, Option.bind_eq_some_iff] at hf
  obtain ⟨⟨x, ρ1⟩, h1, h2⟩ := hf
  split at h2
  · rename_i es0 e0
    simp only [Option.bind_eq_some_iff] at h2
    obtain ⟨⟨y, ρ2⟩, h3, yd, h4, ⟨z, ρ3⟩, h5, d, h6, kd, h7, h8⟩ := h2
    refine one S h1 fun v F1 H1 G1 S1 s1 ov => ?_
    obtain ⟨a, rfl, hd⟩ := isD_of ov S1 e0
    refine ⟨a, rfl, hd, one S1 h3 fun u F2 H2 G2 S2 s2 ou => one S2 h5 fun w F3 H3 G3 S3 s3 ow => ?_⟩
    have G' : Gr (OwA σ ρ) F H F3 H3 := (G1.trans (G2.weak fun a z => (OwA.shape s1).mp z)).trans (G3.weak fun a z => (OwA.shape (s1.trans s2)).mp z)
    have sh := (s1.trans s2).trans s3
    have ov3 := (ov.stay G2 s2).stay G3 s3
    have ou3 := ou.stay G3 s3
    split at h8
    · rename_i es
      split at h8
      · rename_i hk
        obtain ⟨a', oo', e1, g, r⟩ := dget_of (H0 := H) (σ := σ) ov3 (ou3.from fun a z => (G1.there a z)) S3 h6 h7 hk
        cases e1
        refine ⟨oo', g, ?_⟩
        split at h8
        · rename_i vd e2
          cases h8
          rw [e2] at r
          cases oo' with
          | none => exact r.elim
          | some vv => exact k vv F3 H3 G' S3 sh r
        · rename_i e2
          cases h8
          rw [e2] at r
          cases oo' with
          | none => exact k w F3 H3 G' S3 sh (ow.from fun a z => G1.there a (G2.there a z))
          | some vv => exact r.elim
      · cases h8
    · cases h8
  · cases h2
/-- d.get(k) -/
theorem ej_get1 (hu : X.A.units + 1 < cLine) (ho : EJ X o fo) (he : EJ X e fe) (m : M1 X o "get" apos e cpos := by exact ⟨rfl, rfl, rfl, rfl⟩) : EJ X (.Call (.Attribute o "get" apos) [e] [] cpos) (fGet fo fe (fC .none)) := by
  refine PE.weak (pe_dget1 hu ho he m) fun σ H Q c => ?_
  obtain ⟨F, ρ, oo, ρ', S, hf, k⟩ := c
  simp only [fGet, Option.bind_eq_some_iff] at hf
  obtain ⟨⟨x, ρ1⟩, h1, h2⟩ := hf
  split at h2
  · rename_i es0 e0
    simp only [Option.bind_eq_some_iff, fC] at h2
    obtain ⟨⟨y, ρ2⟩, h3, yd, h4, ⟨z, ρ3⟩, h5, d, h6, kd, h7, h8⟩ := h2
    cases h5
    refine one S h1 fun v F1 H1 G1 S1 s1 ov => ?_
    obtain ⟨a, rfl, hd⟩ := isD_of ov S1 e0
    refine ⟨a, rfl, hd, one S1 h3 fun u F2 H2 G2 S2 s2 ou => ?_⟩
    have G' : Gr (OwA σ ρ) F H F2 H2 := G1.trans (G2.weak fun a z => (OwA.shape s1).mp z)
    have sh := s1.trans s2
    have ov3 := ov.stay G2 s2
    split at h8
    · rename_i es
      split at h8
      · rename_i hk
        obtain ⟨a', oo', e1, g, r⟩ := dget_of (H0 := H) (σ := σ) ov3 (ou.from fun a z => (G1.there a z)) S2 h6 h7 hk
        cases e1
        refine ⟨oo', g, ?_⟩
        split at h8
        · rename_i vd e2
          cases h8
          rw [e2] at r
          cases oo' with
          | none => exact r.elim
          | some vv => exact k vv F2 H2 G' S2 sh r
        · rename_i e2
          cases h8
          rw [e2] at r
          cases oo' with
          | none => exact k _ F2 H2 G' S2 sh Rp.non
          | some vv => exact r.elim
      · cases h8
    · cases h8
  · cases h2
/-- d.pop(k) of a slot's own dict, the key there -/
def fDPop (fo fe : FE) : FE := fun ρ => (fo ρ).bind fun r => match r.1 with
  | .own i => match (r.2[i]? : Option Cell) with
    | some (.own _ (.dict _)) => (fe r.2).bind fun q => (keyK q.1).bind fun k => match (q.2[i]? : Option Cell) with
      | some (.own b (.dict es)) => if fitK es (kD k) = true then (dLook es (kD k)).bind fun v => some (.frz v, q.2.set i (.own b (.dict (dDrop es (kD k))))) else none
      | _ => none
    | _ => none
  | _ => none
theorem ej_dpop (ho : EJ X o fo) (he : EJ X e fe) (m : M1 X o "pop" apos e cpos := by exact ⟨rfl, rfl, rfl, rfl⟩) : EJ X (.Call (.Attribute o "pop" apos) [e] [] cpos) (fDPop fo fe) := by
  refine PE.weak (pe_dpop1 ho he m) fun σ H Q c => ?_
  obtain ⟨F, ρ, oo, ρ', S, hf, k⟩ := c
  simp only [fDPop, Option.bind_eq_some_iff] at hf
  obtain ⟨⟨x, ρ1⟩, h1, h2⟩ := hf
  split at h2
  · rename_i i e1
    simp only at e1
    subst e1
    split at h2
    · rename_i b0 es0 e2
      simp only [Option.bind_eq_some_iff] at h2
      obtain ⟨⟨y, ρ2⟩, h3, kk, h4, h5⟩ := h2
      split at h5
      · rename_i b es e3
        split at h5
        · rename_i hk
          simp only [Option.bind_eq_some_iff] at h5
          obtain ⟨vd, h6, h7⟩ := h5
          cases h7
          refine one S h1 fun v F1 H1 G1 S1 s1 ov => ?_
          obtain ⟨u, rfl, q1, q2, q3⟩ := own_top ov S1 e2
          have isd : IsD H1 u := by
            rcases q3 with ⟨xs, ds, e, h1, r⟩ | ⟨xs, ds, e, h1, r⟩ | ⟨xs, ds, e, h1, r⟩
            · cases e
            · exact .inl ⟨xs, .inl h1⟩
            · exact .inr ⟨xs, .inl h1⟩
          refine ⟨u, rfl, isd, one S1 h3 fun w F2 H2 G2 S2 s2 ow => ?_⟩
          simp only at e3
          obtain ⟨u', p1, p2, p3⟩ := S2.own i b _ e3
          rw [q1] at p1
          cases p1
          have ew : w = kV kk := by
            cases y with
            | frz d => cases keyD_eq h4; exact kV_rp ow
            | own i => cases h4
            | new d => cases h4
          rcases p3 with ⟨xs, ds, e, h8, r⟩ | ⟨xs, ds, e, h8, r⟩ | ⟨xs, ds, e, h8, r⟩
          · cases e
          · cases e
            have lk := r.look kk
            rw [h6] at lk
            cases hv : valV xs kk with
            | none => rw [hv] at lk; exact lk.elim
            | some vv =>
              rw [hv] at lk
              refine ⟨xs, kk, vv, h8, ew, hv, ?_⟩
              obtain ⟨S3, s3, G3⟩ := S2.put (o := .dK (dropK xs kk)) (w' := .dict (dDrop es (kD kk))) e3 q1 p2 (.inr (.inl ⟨_, _, rfl, upd_same, r.drop kk⟩))
              exact k vv F2 _ ((G1.trans (G2.weak fun a z => (OwA.shape s1).mp z)).trans (G3.weak fun a z => (OwA.shape (s1.trans s2)).mp z)) S3 ((s1.trans s2).trans s3) lk
          · cases e
            exfalso
            cases kk <;> exact absurd hk Bool.false_ne_true
        · cases h5
      · cases h5
    · cases h2
  · cases h2
end
/-! ### x[i] = e, of a slot's own list or dict -/
def putD : D → Opd → D → Option D
  | .list ds, .frz (.int i), v => (ixN ds.length i).map fun j => .list (ds.set j v)
  | .dict es, .frz k, v => if fitK es k = true ∧ es.length < sizeLine then some (.dict (dPut es k v)) else none
  | _, _, _ => none
def gPut (fc fx fv : FE) : FS := fun ρ => (fv ρ).bind fun r => (frD r.1).bind fun v => (fc r.2).bind fun c => (fx c.2).bind fun x => match c.1 with
  | .own i => match (x.2[i]? : Option Cell) with
    | some (.own b w) => (putD w x.1 v).bind fun w' => some (.nx (x.2.set i (.own b w')))
    | _ => none
  | _ => none
def rSetA : TSet := fun o i v H Q => rSetL o i v H Q ∨ ∃ a H', o = .ref a ∧ DPut H a i v H' ∧ Q H'
theorem set_all {X : Cx} (hu : X.A.units + 1 < cLine) : PSet X rSetA := by
  intro pins s σ H o i v ov iv u Q I ro ri rv h
  rcases h with h | ⟨a, H', rfl, g, q⟩
  · exact set_list pins s σ H o i v ov iv u Q I ro ri rv h
  · cases ro
    exact d_setItem hu I g ri rv fun s' I' => ⟨H', I', q⟩
section
variable {X : Cx} {o i e : Expr} {pos pos' : Pos} {fo fx fe : FE}
theorem Ba.put {K : PySem.W.Frag} {B : Bs} {F H : Hp} {σ : L2.St} {ρ : Ce} (A : Ba K B F H σ ρ) {i : Nat} {b : Bool} {w w' : D} {u : Addr} {o : HO} (hi : ρ[i]? = some (.own b w)) (hu : σ[i]? = some (some (.ref u))) (hF : F u = none) (t : Top K F (upd H u o) u w') : Ba K B F (upd H u o) σ (ρ.set i (.own b w')) := by
  obtain ⟨S, s, G⟩ := A.sd.put hi hu hF t
  exact A.expr G S s
theorem canE_B' {K : PySem.W.Frag} {B : Bs} {F H : Hp} {σ : L2.St} {ρ ρ1 : Ce} {x : Opd} {Q : VK} (A : Ba K B F H σ ρ) (h : fe ρ = some (x, ρ1))
    (k : ∀ v F' H', Ba K B F' H' σ ρ1 → OpOk K B.H0 F' H' σ ρ1 v x → Same F F' → Q v H') : canE K fe σ H Q :=
  ⟨F, ρ, x, ρ1, A.sd, h, fun v F' H' G S s o => k v F' H' (A.expr G S s) (o.from A.there0) G.fr⟩
theorem putD_use {K : PySem.W.Frag} {F H : Hp} {u : Addr} {w w' v : D} {x : Opd} {xv zv : V} {Q : Hp → Prop} {H0 : Hp} {σ : L2.St} {ρ : Ce} (hs : Same F H) (t : Top K F H u w) (hp : putD w x v = some w') (hx : OpOk K H0 F H σ ρ xv x) (rz : Rp K F zv v) (hF : F u = none)
    (k : ∀ o, Top K F (upd H u o) u w' → Q (upd H u o)) : rSetA (.ref u) xv zv H Q := by
  unfold putD at hp
  split at hp
  · rename_i ds i
    obtain ⟨j, h1, rfl⟩ := Option.map_eq_some_iff.mp hp
    obtain ⟨xs, h2, r⟩ := top_list t
    cases hx
    refine .inl ⟨u, xs, i, j, rfl, rfl, h2, by rw [r.length]; exact h1, k _ (.inl ⟨_, _, rfl, upd_same, r.set j rz⟩)⟩
  · rename_i es kd
    split at hp
    · rename_i hc
      cases hp
      obtain ⟨hk, hl⟩ := hc
      rcases t with ⟨xs, ds, e, h8, r⟩ | ⟨xs, ds, e, h8, r⟩ | ⟨xs, ds, e, h8, r⟩
      · cases e
      · cases e
        have hk2 : ∃ kk, keyD kd = some kk := by
          unfold fitK at hk
          split at hk
          · rename_i z es2
            obtain ⟨k', e⟩ := r.hd rfl
            exfalso
            cases k' <;> exact nomatch e
          · exact Option.isSome_iff_exists.mp hk
        obtain ⟨kk, ek⟩ := hk2
        cases keyD_eq ek
        have eu : xv = kV kk := kV_rp hx
        subst eu
        exact .inr ⟨u, _, rfl, DPut.k h8 (by rw [r.length]; exact hl), k _ (.inr (.inl ⟨_, _, rfl, upd_same, r.put kk rz⟩))⟩
      · cases e
        obtain ⟨ks, rfl, kk, ek⟩ : ∃ ks, kd = .tuple ks ∧ ∃ kk, keysD ks = some kk := by
          simp only [fitK] at hk
          split at hk
          · exact ⟨_, rfl, Option.isSome_iff_exists.mp hk⟩
          · cases hk
        cases keysD_eq ek
        cases hx with | tup hb rb =>
        cases kVs_rp rb
        refine .inr ⟨u, _, rfl, DPut.t h8 (hs _ _ hb) (by rw [r.length]; simp only [List.length_cons] at hl; omega), k _ (.inr (.inr ⟨_, _, ?_, upd_same, r.put kk rz⟩))⟩
        rw [dPut_mark]
    · cases hp
  · cases hp
theorem put_of {K : PySem.W.Frag} {D : Ends} {σ : L2.St} {H : Hp} (c : canS K (gPut fo fx fe) D σ H) : tAsg (canE K fe) (gSub (canE K fo) (canE K fx) rSetA) D σ H := by
  obtain ⟨B, F, ρ, r, A, hg, p⟩ := c
  simp only [gPut, Option.bind_eq_some_iff] at hg
  obtain ⟨⟨z, ρ1⟩, h1, v, h2, ⟨oo, ρ2⟩, h3, ⟨x, ρ3⟩, h4, h5⟩ := hg
  split at h5
  · rename_i i e1
    simp only at e1
    subst e1
    split at h5
    · rename_i b w e2
      simp only [Option.bind_eq_some_iff] at h5 e2
      obtain ⟨w', h6, h7⟩ := h5
      cases h7
      refine canE_B A h1 fun zv F0 H0 A0 oz => ?_
      obtain ⟨F1, A1, rz, _⟩ := oz.freezeB A0 h2
      refine canE_B' A1 h3 fun cv F2 H2 A2 oc s12 => ?_
      refine ⟨F2, ρ2, x, ρ3, A2.sd, h4, fun xv F3 H3 G3 S3 s3 ox => ?_⟩
      have A3 := A2.expr G3 S3 s3
      have oc3 := oc.stay G3 s3
      obtain ⟨u, rfl, q1, q2, q3⟩ := own_top oc3 S3 e2
      exact putD_use S3.sub q3 h6 ox ((rz.mono s12).mono G3.fr) q2 fun o t => p _ _ _ (A3.put e2 q1 q2 t)
    · cases h5
  · cases h5
theorem sj_put (hu : X.A.units + 1 < cLine) (he : EJ X e fe) (ho : EJ X o fo) (hi : EJ X i fx)
    (ha : ∀ v, assign (.Subscript o i pos') X.env v = (do
      let ov ← holding [v] (eval o X.env)
      let iv ← holding [v, ov] (eval i X.env)
      standAt pos'
      holding [v, ov, iv] (setItem ov iv v)
      release [v, ov, iv] []) := by intro _; rfl) (hs : swapsWithSole [.Subscript o i pos'] e pos.line X.env = pure false := by rfl) (hw : swappedStores [.Subscript o i pos'] e X.env = pure none := by rfl)
    (h1 : (assignEach [.Subscript o i pos'] X.env).map (·.2) = [assign (.Subscript o i pos') X.env] := by rfl) : SJ X (.Assign [.Subscript o i pos'] e pos) (gPut fo fx fe) :=
  PS.weak (ps_asg he (pg_sub ho hi (set_all hu) ha) hs hw h1) fun _ _ _ c => put_of c
end
end DL

namespace DL
open PySem PySem.Spec L2
/-! ### while, with so much fuel -/
def goW (ft : FT) (g : FS) : Nat → Ce → Option Rs
  | 0, _ => none
  | n + 1, ρ => (ft ρ).bind fun t => cond t.1 ((g t.2).bind fun r => match r with
      | .nx ρ2 => goW ft g n ρ2
      | .ct ρ2 => goW ft g n ρ2
      | .bk ρ2 => some (.nx ρ2)
      | .rt o ρ2 => some (.rt o ρ2)) (some (.nx t.2))
section
variable {X : Cx} {c : Expr} {body : List Stmt} {ft : FT} {g : FS} {pos : Pos}
theorem sj_while (n : Nat) (hp : PassesOwn (model X.prog X.w) X.A X.env X.xe) (hc : TJ X c ft) (hb : SsJ X body g) : SJ X (.While c body [] pos) (goW ft g n) := by
  refine PS.weak (ps_while hp hc hb) fun D σ H cc => ?_
  obtain ⟨B, F, ρ, r, A, hf, p⟩ := cc
  refine ⟨fun k σ2 H2 => ∃ F2 ρ2, Ba X.K B F2 H2 σ2 ρ2 ∧ goW ft g k ρ2 = some r, ⟨n, F, ρ, A, hf⟩, ?_⟩
  rintro k σ2 H2 ⟨F2, ρ2, A2, h2⟩
  cases k with
  | zero => cases h2
  | succ k =>
    simp only [goW, Option.bind_eq_some_iff] at h2
    obtain ⟨⟨t, ρ3⟩, h3, h4⟩ := h2
    refine ⟨F2, ρ2, t, ρ3, A2.sd, h3, fun F3 H3 G3 S3 s3 => ?_⟩
    have A3 := A2.expr G3 S3 s3
    cases t with
    | false =>
      cases h4
      refine L2.iteF ?_
      exact p F3 H3 σ2 A3
    | true =>
      refine L2.iteT ?_
      simp only [cond_true, Option.bind_eq_some_iff] at h4
      obtain ⟨q, h5, h6⟩ := h4
      refine ⟨fun σ4 H4 => ∃ F4 ρ4, Ba X.K B F4 H4 σ4 ρ4 ∧ goW ft g k ρ4 = some r, fun σ4 H4 z => ⟨k, Nat.lt_succ_self _, z⟩, B, F3, ρ3, q, A3, h5, ?_⟩
      cases q with
      | nx ρ5 => exact fun F5 H5 σ5 A5 => ⟨F5, ρ5, A5, h6⟩
      | ct ρ5 => exact fun F5 H5 σ5 A5 => ⟨F5, ρ5, A5, h6⟩
      | bk ρ5 => cases h6; exact fun F5 H5 σ5 A5 => p F5 H5 σ5 A5
      | rt o ρ5 => cases h6; exact fun F5 H5 σ5 v A5 ov => p F5 H5 σ5 v A5 ov
end
/-! ### calls of own defs -/
/-- a def that stands in the module -/
structure Df (K : PySem.W.Frag) (mg : Str → Option Value) (x : Str) (f : Addr) (fd : FuncData) (ps : List Str) : Prop where
  kp : PySem.W.keepIn K (.ref f) = true
  bi : Binds K fd ps []
  gm : mg x = some (.ref f)
section
variable {X : Cx} {e : Expr} {es : List Expr} {fa : FA} {p pos : Pos} {f : Addr} {fd : FuncData} {ps : List Str} {x : Str} {k n : Nat}
theorem ej_callP {fn : Fn} (D : Df X.K X.mg x f fd ps) (G : FnOk X.prog X.w X.K X.mg X.base CX0 k f fd ps (spP X.K n fn)) (hr : Room k X.A) (hn : ∀ ds r, fn ds = some r → ds.length = n) (ha : AJ X (e :: es) fa) (hg : Gl X x := by rfl) (hdb : (x == ("__debug__" : Str)) = false := by decide)
    (he : starEach (e :: es) X.env = (false, eval e X.env) :: starEach es X.env := by rfl) (hpl : (backTo pos (starEach es X.env)).any (·.1) = false := by rfl) : EJ X (.Call (.Name x p) (e :: es) [] pos) (fCall fn fa) :=
  PE.weak (pe_call G hr hg D.gm D.kp D.bi .nil pass0 ha hdb he hpl) fun _ _ _ c => call_ofP (E := E0) hn c
theorem ej_callN {fn : Fn} (D : Df X.K X.mg x f fd ps) (G : FnOk X.prog X.w X.K X.mg X.base CX0 k f fd ps (spN X.K n fn)) (hr : Room k X.A) (hn : ∀ ds r, fn ds = some r → ds.length = n) (ha : AJ X (e :: es) fa) (hg : Gl X x := by rfl) (hdb : (x == ("__debug__" : Str)) = false := by decide)
    (he : starEach (e :: es) X.env = (false, eval e X.env) :: starEach es X.env := by rfl) (hpl : (backTo pos (starEach es X.env)).any (·.1) = false := by rfl) : EJ X (.Call (.Name x p) (e :: es) [] pos) (fCallN fn fa) :=
  PE.weak (pe_call G hr hg D.gm D.kp D.bi .nil pass0 ha hdb he hpl) fun _ _ _ c => call_ofN (E := E0) hn c
theorem ej_callU {fn : FnU} (D : Df X.K X.mg x f fd ps) (G : FnOk X.prog X.w X.K X.mg X.base CX0 k f fd ps (spU X.K n fn)) (hr : Room k X.A) (hn : ∀ w ds r, fn w ds = some r → ds.length + 1 = n) (ha : AJ X (e :: es) fa) (hg : Gl X x := by rfl) (hdb : (x == ("__debug__" : Str)) = false := by decide)
    (he : starEach (e :: es) X.env = (false, eval e X.env) :: starEach es X.env := by rfl) (hpl : (backTo pos (starEach es X.env)).any (·.1) = false := by rfl) : EJ X (.Call (.Name x p) (e :: es) [] pos) (fCallU fn fa) :=
  PE.weak (pe_call G hr hg D.gm D.kp D.bi .nil pass0 ha hdb he hpl) fun _ _ _ c => call_ofU (E := E0) hn c
end
/-- a def's reading as a function of its arguments -/
def fnP (N n : Nat) (g : FS) : Fn := fun ds => if ds.length = n then (g (cells N ds)).bind endD else none
def fnN (N n : Nat) (g : FS) : Fn := fun ds => if ds.length = n then (g (cells N ds)).bind endN else none
def fnU (N n : Nat) (g : FS) : FnU := fun w ds => if ds.length + 1 = n then (g (cellsU N w ds)).bind endU else none
theorem fnP_len {N n : Nat} {g : FS} (ds : List D) (r : D) (h : fnP N n g ds = some r) : ds.length = n := by
  unfold fnP at h; split at h
  · assumption
  · cases h
theorem fnN_len {N n : Nat} {g : FS} (ds : List D) (r : D) (h : fnN N n g ds = some r) : ds.length = n := by
  unfold fnN at h; split at h
  · assumption
  · cases h
theorem fnU_len {N n : Nat} {g : FS} (w : D) (ds : List D) (r : D × D) (h : fnU N n g w ds = some r) : ds.length + 1 = n := by
  unfold fnU at h; split at h
  · assumption
  · cases h
section
variable {P : Program} {w : World} {K : PySem.W.Frag} {mg : Str → Option Value} {base : Heap}
open PyProof.Rows (envOfC)
theorem okP {x qual : Str} {st : Stmt} {f : Addr} {fd : FuncData} {N ps : List Str} {k n : Nat} {g : FS} (F : Fun K x qual st f fd) (S : FnScope N ps (defScope st)) (hn : ps.length = n) (hNn : n ≤ N.length)
    (hbody : ∀ (cdv : Value) (A : Around) (outer : List Env) (s : Shared) (H : Hp) (E : XK), Room k (A.deeper (envOfC qual (defScope st) s.heap.objs.size f cdv)) → SsJ (cxOf CX0 P w K mg base N qual (defScope st) f cdv A outer s H E).nox (defBody st) g) :
    FnOk P w K mg base CX0 (k + 1) f fd ps (spP K n (fnP N.length n g)) :=
  fn_ok F S hn hNn fun cdv A outer s H E hr => ⟨g, hbody cdv A outer s H E hr, fun ds r hd h => by unfold fnP at h; rw [if_pos hd] at h; exact h⟩
theorem okN {x qual : Str} {st : Stmt} {f : Addr} {fd : FuncData} {N ps : List Str} {k n : Nat} {g : FS} (F : Fun K x qual st f fd) (S : FnScope N ps (defScope st)) (hn : ps.length = n) (hNn : n ≤ N.length)
    (hbody : ∀ (cdv : Value) (A : Around) (outer : List Env) (s : Shared) (H : Hp) (E : XK), Room k (A.deeper (envOfC qual (defScope st) s.heap.objs.size f cdv)) → SsJ (cxOf CX0 P w K mg base N qual (defScope st) f cdv A outer s H E).nox (defBody st) g) :
    FnOk P w K mg base CX0 (k + 1) f fd ps (spN K n (fnN N.length n g)) :=
  fn_okN F S hn hNn fun cdv A outer s H E hr => ⟨g, hbody cdv A outer s H E hr, fun ds r hd h => by unfold fnN at h; rw [if_pos hd] at h; exact h⟩
theorem okU {x qual : Str} {st : Stmt} {f : Addr} {fd : FuncData} {N ps : List Str} {k n : Nat} {g : FS} (F : Fun K x qual st f fd) (S : FnScope N ps (defScope st)) (hn : ps.length = n + 1) (hNn : n + 1 ≤ N.length)
    (hbody : ∀ (cdv : Value) (A : Around) (outer : List Env) (s : Shared) (H : Hp) (E : XK), Room k (A.deeper (envOfC qual (defScope st) s.heap.objs.size f cdv)) → SsJ (cxOf CX0 P w K mg base N qual (defScope st) f cdv A outer s H E).nox (defBody st) g) :
    FnOk P w K mg base CX0 (k + 1) f fd ps (spU K (n + 1) (fnU N.length (n + 1) g)) :=
  fn_okU F S hn hNn fun cdv A outer s H E hr => ⟨g, hbody cdv A outer s H E hr, fun wd ds r w' hd h => by unfold fnU at h; rw [if_pos (by omega)] at h; exact h⟩
end
/-! ### built-ins -/
section
variable {X : Cx} {e : Expr} {es : List Expr} {fa : FA} {p pos : Pos}
theorem ej_bi {x : Str} {id : String} {r : List V → Hp → VK → Prop} {pr : List D → Option Opd} (hc : CallR X (.builtin id) r) (cd : CallD X.K r pr) (hg : Gl X x) (hm : X.mg x = none) (hv : bootBuiltins x = some (.builtin id)) (ha : AJ X (e :: es) fa) (hn : x ≠ "__name__") (hdb : (x == ("__debug__" : Str)) = false)
    (he : starEach (e :: es) X.env = (false, eval e X.env) :: starEach es X.env := by rfl) (hpl : (backTo pos (starEach es X.env)).any (·.1) = false := by rfl) : EJ X (.Call (.Name x p) (e :: es) [] pos) (fB pr fa) :=
  PE.weak (pe_callB hc hg hm hv ha hn hdb he hpl) fun _ _ _ c => cb_of cd c
theorem ej_bt {x : Str} {id : String} {r : List V → Hp → VK → Prop} {pr : List D → Option Opd} (hc : CallR X (.type id) r) (cd : CallD X.K r pr) (hg : Gl X x) (hm : X.mg x = none) (hv : bootBuiltins x = some (.type id)) (ha : AJ X (e :: es) fa) (hn : x ≠ "__name__") (hdb : (x == ("__debug__" : Str)) = false)
    (he : starEach (e :: es) X.env = (false, eval e X.env) :: starEach es X.env := by rfl) (hpl : (backTo pos (starEach es X.env)).any (·.1) = false := by rfl) : EJ X (.Call (.Name x p) (e :: es) [] pos) (fB pr fa) :=
  PE.weak (pe_callTy hc hg hm hv ha hn hdb he hpl) fun _ _ _ c => cb_of cd c
theorem ej_len (hm : X.mg "len" = none) (ha : AJ X (e :: es) fa) (hg : Gl X "len" := by rfl) (he : starEach (e :: es) X.env = (false, eval e X.env) :: starEach es X.env := by rfl) (hpl : (backTo pos (starEach es X.env)).any (·.1) = false := by rfl) : EJ X (.Call (.Name "len" p) (e :: es) [] pos) (fB pLen fa) :=
  ej_bi call_len_seq cd_len hg hm (by decide +kernel) ha (by decide) (by decide) he hpl
theorem ej_list (hm : X.mg "list" = none) (ha : AJ X (e :: es) fa) (hg : Gl X "list" := by rfl) (he : starEach (e :: es) X.env = (false, eval e X.env) :: starEach es X.env := by rfl) (hpl : (backTo pos (starEach es X.env)).any (·.1) = false := by rfl) : EJ X (.Call (.Name "list" p) (e :: es) [] pos) (fB pList fa) :=
  ej_bt call_list_of cd_list hg hm (by decide +kernel) ha (by decide) (by decide) he hpl
theorem ej_tuple (hm : X.mg "tuple" = none) (ha : AJ X (e :: es) fa) (hg : Gl X "tuple" := by rfl) (he : starEach (e :: es) X.env = (false, eval e X.env) :: starEach es X.env := by rfl) (hpl : (backTo pos (starEach es X.env)).any (·.1) = false := by rfl) : EJ X (.Call (.Name "tuple" p) (e :: es) [] pos) (fB pTuple fa) :=
  ej_bt call_tuple_of cd_tuple hg hm (by decide +kernel) ha (by decide) (by decide) he hpl
theorem ej_max (hc : X.calm = true) (hm : X.mg "max" = none) (ha : AJ X (e :: es) fa) (hg : Gl X "max" := by rfl) (he : starEach (e :: es) X.env = (false, eval e X.env) :: starEach es X.env := by rfl) (hpl : (backTo pos (starEach es X.env)).any (·.1) = false := by rfl) : EJ X (.Call (.Name "max" p) (e :: es) [] pos) (fB pMax fa) :=
  ej_bi (CallR.or (cr_max hc) (call_max2 hc)) cd_max hg hm (by decide +kernel) ha (by decide) (by decide) he hpl
theorem ej_min (hc : X.calm = true) (hm : X.mg "min" = none) (ha : AJ X (e :: es) fa) (hg : Gl X "min" := by rfl) (he : starEach (e :: es) X.env = (false, eval e X.env) :: starEach es X.env := by rfl) (hpl : (backTo pos (starEach es X.env)).any (·.1) = false := by rfl) : EJ X (.Call (.Name "min" p) (e :: es) [] pos) (fB pMin fa) :=
  ej_bi (CallR.or (cr_min hc) (call_min2 hc)) cd_min hg hm (by decide +kernel) ha (by decide) (by decide) he hpl
theorem ej_sorted (hc : X.calm = true) (hm : X.mg "sorted" = none) (ha : AJ X (e :: es) fa) (hg : Gl X "sorted" := by rfl) (he : starEach (e :: es) X.env = (false, eval e X.env) :: starEach es X.env := by rfl) (hpl : (backTo pos (starEach es X.env)).any (·.1) = false := by rfl) : EJ X (.Call (.Name "sorted" p) (e :: es) [] pos) (fB pSort fa) :=
  ej_bi (cr_sortA hc) cd_sort hg hm (by decide +kernel) ha (by decide) (by decide) he hpl
theorem ej_any (hc : X.calm = true) (hm : X.mg "any" = none) (ha : AJ X (e :: es) fa) (hg : Gl X "any" := by rfl) (he : starEach (e :: es) X.env = (false, eval e X.env) :: starEach es X.env := by rfl) (hpl : (backTo pos (starEach es X.env)).any (·.1) = false := by rfl) : EJ X (.Call (.Name "any" p) (e :: es) [] pos) (fB pAny fa) :=
  ej_bi (cr_any hc) cd_any hg hm (by decide +kernel) ha (by decide) (by decide) he hpl
theorem ej_all (hc : X.calm = true) (hm : X.mg "all" = none) (ha : AJ X (e :: es) fa) (hg : Gl X "all" := by rfl) (he : starEach (e :: es) X.env = (false, eval e X.env) :: starEach es X.env := by rfl) (hpl : (backTo pos (starEach es X.env)).any (·.1) = false := by rfl) : EJ X (.Call (.Name "all" p) (e :: es) [] pos) (fB pAll fa) :=
  ej_bi (cr_all hc) cd_all hg hm (by decide +kernel) ha (by decide) (by decide) he hpl
theorem ej_sum (hc : X.calm = true) (hm : X.mg "sum" = none) (ha : AJ X (e :: es) fa) (hg : Gl X "sum" := by rfl) (he : starEach (e :: es) X.env = (false, eval e X.env) :: starEach es X.env := by rfl) (hpl : (backTo pos (starEach es X.env)).any (·.1) = false := by rfl) : EJ X (.Call (.Name "sum" p) (e :: es) [] pos) (fB pSum fa) :=
  ej_bi (cr_sum hc) cd_sum hg hm (by decide +kernel) ha (by decide) (by decide) he hpl
theorem ej_abs (hm : X.mg "abs" = none) (ha : AJ X (e :: es) fa) (hg : Gl X "abs" := by rfl) (he : starEach (e :: es) X.env = (false, eval e X.env) :: starEach es X.env := by rfl) (hpl : (backTo pos (starEach es X.env)).any (·.1) = false := by rfl) : EJ X (.Call (.Name "abs" p) (e :: es) [] pos) (fB pAbs fa) :=
  ej_bi call_abs cd_abs hg hm (by decide +kernel) ha (by decide) (by decide) he hpl
theorem ej_toInt (hm : X.mg "int" = none) (ha : AJ X (e :: es) fa) (hg : Gl X "int" := by rfl) (he : starEach (e :: es) X.env = (false, eval e X.env) :: starEach es X.env := by rfl) (hpl : (backTo pos (starEach es X.env)).any (·.1) = false := by rfl) : EJ X (.Call (.Name "int" p) (e :: es) [] pos) (fB pInt fa) :=
  ej_bt call_int1 cd_int hg hm (by decide +kernel) ha (by decide) (by decide) he hpl
theorem ej_dict (hm : X.mg "dict" = none) (ha : AJ X (e :: es) fa) (hg : Gl X "dict" := by rfl) (he : starEach (e :: es) X.env = (false, eval e X.env) :: starEach es X.env := by rfl) (hpl : (backTo pos (starEach es X.env)).any (·.1) = false := by rfl) : EJ X (.Call (.Name "dict" p) (e :: es) [] pos) (fB pDict fa) :=
  ej_bt call_dictD cd_dict hg hm (by decide +kernel) ha (by decide) (by decide) he hpl
end
/-! ### operators of several kinds -/
def pIsB : D → D → Option Opd
  | .bool a, .bool b => some (.frz (.bool (decide (a = b))))
  | .none, .bool _ => some (.frz (.bool false))
  | .int _, .bool _ => some (.frz (.bool false))
  | _, _ => none
def pNotB : D → D → Option Opd
  | .bool a, .bool b => some (.frz (.bool (!decide (a = b))))
  | .none, .bool _ => some (.frz (.bool true))
  | .int _, .bool _ => some (.frz (.bool true))
  | _, _ => none
def rIsB (neg : Bool) : R2 := fun x y H Q => ∃ b, y = .bl b ∧ ((∃ a, x = .bl a ∧ Q (.bl (if neg then !decide (a = b) else decide (a = b))) H) ∨ ((x = .non ∨ ∃ i, x = .int i) ∧ Q (.bl neg) H))
theorem op_isB {X : Cx} : OpR X (compareOp .Is) (rIsB false) := by
  intro pins s σ H x y v u Q I rx ry h
  obtain ⟨b, rfl, h⟩ := h
  cases ry
  rcases h with ⟨a, rfl, q⟩ | ⟨rfl | ⟨i, rfl⟩, q⟩
  · cases rx
    refine wpAny_is_plain rfl ?_
    refine fin_bl I q ?_
    cases a <;> cases b <;> rfl
  · cases rx
    exact wpAny_is_plain rfl (fin_bl I q rfl)
  · obtain ⟨t, rfl⟩ := rx
    exact wpAny_is_plain rfl (fin_bl I q rfl)
theorem op_notB {X : Cx} : OpR X (compareOp .IsNot) (rIsB true) := by
  intro pins s σ H x y v u Q I rx ry h
  obtain ⟨b, rfl, h⟩ := h
  cases ry
  rcases h with ⟨a, rfl, q⟩ | ⟨rfl | ⟨i, rfl⟩, q⟩
  · cases rx
    refine wpAny_isNot_plain rfl ?_
    refine fin_bl I q ?_
    cases a <;> cases b <;> rfl
  · cases rx
    exact wpAny_isNot_plain rfl (fin_bl I q rfl)
  · obtain ⟨t, rfl⟩ := rx
    exact wpAny_isNot_plain rfl (fin_bl I q rfl)
theorem r2_isB {K : PySem.W.Frag} : R2D K (rIsB false) pIsB := by
  intro F H H0 σ ρ v u x y d e o Q S ov ou hd he hp k
  unfold pIsB at hp
  split at hp
  · cases hp
    exact ⟨_, bool_of ou S he, .inl ⟨_, bool_of ov S hd, k _ F H Gr.refl S (Rp.bl _)⟩⟩
  · cases hp
    exact ⟨_, bool_of ou S he, .inr ⟨.inl ((non_iff ov S hd).mpr rfl), k _ F H Gr.refl S (Rp.bl _)⟩⟩
  · cases hp
    exact ⟨_, bool_of ou S he, .inr ⟨.inr ⟨_, int_of ov S hd⟩, k _ F H Gr.refl S (Rp.bl _)⟩⟩
  · cases hp
theorem r2_notB {K : PySem.W.Frag} : R2D K (rIsB true) pNotB := by
  intro F H H0 σ ρ v u x y d e o Q S ov ou hd he hp k
  unfold pNotB at hp
  split at hp
  · cases hp
    exact ⟨_, bool_of ou S he, .inl ⟨_, bool_of ov S hd, k _ F H Gr.refl S (Rp.bl _)⟩⟩
  · cases hp
    exact ⟨_, bool_of ou S he, .inr ⟨.inl ((non_iff ov S hd).mpr rfl), k _ F H Gr.refl S (Rp.bl _)⟩⟩
  · cases hp
    exact ⟨_, bool_of ou S he, .inr ⟨.inr ⟨_, int_of ov S hd⟩, k _ F H Gr.refl S (Rp.bl _)⟩⟩
  · cases hp
def rAddU (K : PySem.W.Frag) : R2 := fun x y H Q => rI0 (fun i j => .int (i + j)) x y H Q ∨ (rCat x y H Q ∨ (rCatA K x y H Q ∨ rCatStr x y H Q))
theorem op_addU {X : Cx} : OpR X (binaryOp .Add) (rAddU X.K) := OpR.or op_add (OpR.or op_cat (OpR.or op_catA op_add_str))
theorem r2_addU {K : PySem.W.Frag} : R2D K (rAddU K) pAdd := R2D.or (r2_I0 fun i j F => .int _) (R2D.or r2_cat (R2D.or r2_catT r2_catS))
def rMulU : R2 := fun x y H Q => rI CMul (fun i j => .int (i * j)) x y H Q ∨ rRep x y H Q
theorem op_mulU {X : Cx} : OpR X (binaryOp .Mult) rMulU := OpR.or op_mul op_rep
theorem r2_mulU {K : PySem.W.Frag} : R2D K rMulU pMul := R2D.or (r2_I fun i j z h => by
  unfold gMul at h
  split at h
  · rename_i c
    cases h
    exact ⟨c, fun F => .int _⟩
  · cases h) r2_rep
def pLt : D → D → Option Opd := pI fun i j => some (.bool (decide (i < j)))
def pLe : D → D → Option Opd := pI fun i j => some (.bool (decide (i ≤ j)))
def pGt : D → D → Option Opd := pI fun i j => some (.bool (decide (j < i)))
def pGe : D → D → Option Opd := pI fun i j => some (.bool (decide (j ≤ i)))
section
variable {K : PySem.W.Frag}
theorem r2_lt : R2D K (rI0 fun i j => .bl (decide (i < j))) pLt := r2_I0 fun i j F => .bl _
theorem r2_le : R2D K (rI0 fun i j => .bl (decide (i ≤ j))) pLe := r2_I0 fun i j F => .bl _
theorem r2_gt : R2D K (rI0 fun i j => .bl (decide (j < i))) pGt := r2_I0 fun i j F => .bl _
theorem r2_ge : R2D K (rI0 fun i j => .bl (decide (j ≤ i))) pGe := r2_I0 fun i j F => .bl _
end
section
variable {X : Cx} {a b : Expr} {pos : Pos} {fa fb : FE}
theorem ej_addU (ha : EJ X a fa) (hb : EJ X b fb) : EJ X (.BinOp a .Add b pos) (f2 pAdd fa fb) := ej_op op_addU r2_addU ha hb
theorem ej_mulU (ha : EJ X a fa) (hb : EJ X b fb) : EJ X (.BinOp a .Mult b pos) (f2 pMul fa fb) := ej_op op_mulU r2_mulU ha hb
theorem ej_lt (ha : EJ X a fa) (hb : EJ X b fb) (hm : behindInMarks .Lt b = false := by rfl) : EJ X (.Compare a [.Lt] [b] pos) (f2 pLt fa fb) := ej_cmp op_lt r2_lt ha hb hm
theorem tj_lt (ha : EJ X a fa) (hb : EJ X b fb) (hm : behindInMarks .Lt b = false := by rfl) : TJ X (.Compare a [.Lt] [b] pos) (fT (f2 pLt fa fb)) := tj_cmp op_lt r2_lt ha hb hm
theorem ej_le (ha : EJ X a fa) (hb : EJ X b fb) (hm : behindInMarks .LtE b = false := by rfl) : EJ X (.Compare a [.LtE] [b] pos) (f2 pLe fa fb) := ej_cmp op_le r2_le ha hb hm
theorem tj_le (ha : EJ X a fa) (hb : EJ X b fb) (hm : behindInMarks .LtE b = false := by rfl) : TJ X (.Compare a [.LtE] [b] pos) (fT (f2 pLe fa fb)) := tj_cmp op_le r2_le ha hb hm
theorem ej_gt (ha : EJ X a fa) (hb : EJ X b fb) (hm : behindInMarks .Gt b = false := by rfl) : EJ X (.Compare a [.Gt] [b] pos) (f2 pGt fa fb) := ej_cmp op_gt r2_gt ha hb hm
theorem tj_gt (ha : EJ X a fa) (hb : EJ X b fb) (hm : behindInMarks .Gt b = false := by rfl) : TJ X (.Compare a [.Gt] [b] pos) (fT (f2 pGt fa fb)) := tj_cmp op_gt r2_gt ha hb hm
theorem ej_ge (ha : EJ X a fa) (hb : EJ X b fb) (hm : behindInMarks .GtE b = false := by rfl) : EJ X (.Compare a [.GtE] [b] pos) (f2 pGe fa fb) := ej_cmp op_ge r2_ge ha hb hm
theorem tj_ge (ha : EJ X a fa) (hb : EJ X b fb) (hm : behindInMarks .GtE b = false := by rfl) : TJ X (.Compare a [.GtE] [b] pos) (fT (f2 pGe fa fb)) := tj_cmp op_ge r2_ge ha hb hm
theorem ej_eq (hu : X.A.units + 64 < cLine) (ha : EJ X a fa) (hb : EJ X b fb) (hm : behindInMarks .Eq b = false := by rfl) : EJ X (.Compare a [.Eq] [b] pos) (f2 pEq fa fb) := ej_cmp (op_eqD hu) r2_eq ha hb hm
theorem tj_eq (hu : X.A.units + 64 < cLine) (ha : EJ X a fa) (hb : EJ X b fb) (hm : behindInMarks .Eq b = false := by rfl) : TJ X (.Compare a [.Eq] [b] pos) (fT (f2 pEq fa fb)) := tj_cmp (op_eqD hu) r2_eq ha hb hm
theorem ej_ne (hu : X.A.units + 64 < cLine) (ha : EJ X a fa) (hb : EJ X b fb) (hm : behindInMarks .NotEq b = false := by rfl) : EJ X (.Compare a [.NotEq] [b] pos) (f2 pNe fa fb) := ej_cmp (op_neD hu) r2_ne ha hb hm
theorem tj_ne (hu : X.A.units + 64 < cLine) (ha : EJ X a fa) (hb : EJ X b fb) (hm : behindInMarks .NotEq b = false := by rfl) : TJ X (.Compare a [.NotEq] [b] pos) (fT (f2 pNe fa fb)) := tj_cmp (op_neD hu) r2_ne ha hb hm
theorem ej_in (hu : X.A.units + 65 < cLine) (ha : EJ X a fa) (hb : EJ X b fb) (hm : behindInMarks .In b = false := by rfl) : EJ X (.Compare a [.In] [b] pos) (f2 pIn fa fb) := ej_cmp (op_inA hu) r2_in ha hb hm
theorem tj_in (hu : X.A.units + 65 < cLine) (ha : EJ X a fa) (hb : EJ X b fb) (hm : behindInMarks .In b = false := by rfl) : TJ X (.Compare a [.In] [b] pos) (fT (f2 pIn fa fb)) := tj_cmp (op_inA hu) r2_in ha hb hm
theorem ej_notIn (hu : X.A.units + 65 < cLine) (ha : EJ X a fa) (hb : EJ X b fb) (hm : behindInMarks .NotIn b = false := by rfl) : EJ X (.Compare a [.NotIn] [b] pos) (f2 pNotIn fa fb) := ej_cmp (op_notInA hu) r2_notIn ha hb hm
theorem tj_notIn (hu : X.A.units + 65 < cLine) (ha : EJ X a fa) (hb : EJ X b fb) (hm : behindInMarks .NotIn b = false := by rfl) : TJ X (.Compare a [.NotIn] [b] pos) (fT (f2 pNotIn fa fb)) := tj_cmp (op_notInA hu) r2_notIn ha hb hm
theorem ej_isN (ha : EJ X a fa) (hb : EJ X b fb) (hm : behindInMarks .Is b = false := by rfl) : EJ X (.Compare a [.Is] [b] pos) (f2 pIsN fa fb) := ej_cmp op_isN r2_isN ha hb hm
theorem tj_isN (ha : EJ X a fa) (hb : EJ X b fb) (hm : behindInMarks .Is b = false := by rfl) : TJ X (.Compare a [.Is] [b] pos) (fT (f2 pIsN fa fb)) := tj_cmp op_isN r2_isN ha hb hm
theorem ej_notN (ha : EJ X a fa) (hb : EJ X b fb) (hm : behindInMarks .IsNot b = false := by rfl) : EJ X (.Compare a [.IsNot] [b] pos) (f2 pNotN fa fb) := ej_cmp op_notN r2_notN ha hb hm
theorem tj_notN (ha : EJ X a fa) (hb : EJ X b fb) (hm : behindInMarks .IsNot b = false := by rfl) : TJ X (.Compare a [.IsNot] [b] pos) (fT (f2 pNotN fa fb)) := tj_cmp op_notN r2_notN ha hb hm
theorem ej_isB (ha : EJ X a fa) (hb : EJ X b fb) (hm : behindInMarks .Is b = false := by rfl) : EJ X (.Compare a [.Is] [b] pos) (f2 pIsB fa fb) := ej_cmp op_isB r2_isB ha hb hm
theorem tj_isB (ha : EJ X a fa) (hb : EJ X b fb) (hm : behindInMarks .Is b = false := by rfl) : TJ X (.Compare a [.Is] [b] pos) (fT (f2 pIsB fa fb)) := tj_cmp op_isB r2_isB ha hb hm
theorem ej_notB (ha : EJ X a fa) (hb : EJ X b fb) (hm : behindInMarks .IsNot b = false := by rfl) : EJ X (.Compare a [.IsNot] [b] pos) (f2 pNotB fa fb) := ej_cmp op_notB r2_notB ha hb hm
theorem tj_notB (ha : EJ X a fa) (hb : EJ X b fb) (hm : behindInMarks .IsNot b = false := by rfl) : TJ X (.Compare a [.IsNot] [b] pos) (fT (f2 pNotB fa fb)) := tj_cmp op_notB r2_notB ha hb hm
end
end DL

/-! sorted of tuples of ints, of any lengths but none empty -/
namespace DL
open PySem PySem.Spec L2 PyProof.Rows
def lexL : List Int → List Int → Bool
  | [], [] => false
  | [], _ :: _ => true
  | _ :: _, [] => false
  | x :: a, y :: b => if x = y then lexL a b else decide (x < y)
theorem lexL_asym : ∀ a b : List Int, lexL a b = true → lexL b a = false
  | [], [], h => by cases h
  | [], _ :: _, _ => rfl
  | _ :: _, [], h => by cases h
  | x :: a, y :: b, h => by
    unfold lexL at h ⊢
    by_cases e : x = y
    · rw [if_pos e] at h
      rw [if_pos e.symm]
      exact lexL_asym a b h
    · rw [if_neg e] at h
      rw [if_neg (Ne.symm e)]
      have := of_decide_eq_true h
      exact decide_eq_false (by omega)
theorem lexL_tr : ∀ a b c : List Int, lexL b a = false → lexL c b = false → lexL c a = false
  | [], [], _, _, h => h
  | [], _ :: _, [], _, _ => rfl
  | [], y :: b, z :: c, h1, h2 => rfl
  | x :: a, [], _, h1, _ => by cases h1
  | x :: a, y :: b, [], h1, h2 => by cases h2
  | x :: a, y :: b, z :: c, h1, h2 => by
    unfold lexL at h1 h2 ⊢
    by_cases e1 : y = x
    · rw [if_pos e1] at h1
      by_cases e2 : z = y
      · rw [if_pos e2] at h2
        rw [if_pos (e2.trans e1)]
        exact lexL_tr a b c h1 h2
      · rw [if_neg e2] at h2
        rw [if_neg (by omega), ← e1]
        exact h2
    · rw [if_neg e1] at h1
      have g1 := of_decide_eq_false h1
      by_cases e2 : z = y
      · rw [if_neg (by omega), e2]; exact h1
      · rw [if_neg e2] at h2
        have g2 := of_decide_eq_false h2
        rw [if_neg (by omega)]
        exact decide_eq_false (by omega)
theorem lexL_anti : ∀ a b : List Int, lexL a b = false → lexL b a = false → a = b
  | [], [], _, _ => rfl
  | [], _ :: _, h, _ => by cases h
  | _ :: _, [], _, h => by cases h
  | x :: a, y :: b, h1, h2 => by
    unfold lexL at h1 h2
    by_cases e : x = y
    · subst e
      rw [if_pos rfl] at h1 h2
      rw [lexL_anti a b h1 h2]
    · rw [if_neg e] at h1
      rw [if_neg (Ne.symm e)] at h2
      have := of_decide_eq_false h1
      have := of_decide_eq_false h2
      omega
theorem lexL_tot (a b : List Int) : lexL a b = false ∨ lexL b a = false := by
  cases h : lexL a b with
  | false => exact .inl rfl
  | true => exact .inr (lexL_asym a b h)
/-- the walk over two such tuples: what it says -/
def lexZ (fin : Bool) : List Int → List Int → Bool
  | x :: a, y :: b => if x = y then lexZ fin a b else decide (x < y)
  | _, _ => fin
theorem lexZ_eq : ∀ a b : List Int, lexZ (decide (a.length < b.length)) a b = lexL a b
  | [], [] => rfl
  | [], _ :: b => by simp [lexZ, lexL]
  | _ :: _, [] => by simp [lexZ, lexL]
  | x :: a, y :: b => by
    unfold lexZ lexL
    have : decide ((x :: a).length < (y :: b).length) = decide (a.length < b.length) := by simp
    rw [this, lexZ_eq a b]
section
variable {prog : Program} {w : World} {A : Around} {E : Value → Shared → Prop} {s : Shared} {Q : Bool → Shared → Prop}
theorem lex_any {b fin : Bool} {xs ys : List Value} {ns ms : List Int} (i : Nat) (hx : IntsAre xs ns) (hy : IntsAre ys ms) (h : Q (lexZ fin ns ms) s) : PySem.W.KatLex prog w A b fin Q (xs.zip ys) i s := by
  induction hx generalizing ys ms i with
  | nil => exact PySem.W.kat_nil h
  | @cons p t xs ns hx ih =>
    cases hy with
    | nil => exact PySem.W.kat_nil h
    | @cons q u ys ms hy =>
      show PySem.W.KatLex prog w A b fin Q ((Value.int p t, Value.int q u) :: xs.zip ys) i s
      refine PySem.W.kat_cons (wpAny_eqBool_int ?_)
      unfold lexZ at h
      by_cases e : p = q
      · subst e
        rw [beq_self_eq_true]
        rw [if_pos rfl] at h
        refine PySem.W.kat_yes ?_
        first
          | exact ih (i + 1) hy h
          | exact ih _ _ (i + 1) hy h
      · rw [show (p == q) = false from beq_eq_false_iff_ne.mpr e]
        rw [if_neg e] at h
        exact PySem.W.kat_no (TS.oneLt_ints _ h)
theorem firsts_any {h : Heap} : ∀ vs : List Value, (∀ v ∈ vs, ∃ ns, TS.TupInts h v ns ∧ ns ≠ []) → ∃ fs, PySem.W.KatTups h vs fs ∧ fs.length = vs.length ∧ ∀ f, f ∈ fs → ∃ n t, f = Value.int n t
  | [], _ => ⟨[], PySem.W.KatTups.nil, rfl, fun f hf => by simp at hf⟩
  | v :: vs, x => by
    obtain ⟨fs, k, hl, hi⟩ := firsts_any vs fun u hu => x u (List.mem_cons_of_mem _ hu)
    obtain ⟨ns, ⟨a, xs, rfl, ⟨o, ho, hc, n, hdt⟩, i⟩, hn⟩ := x v (List.mem_cons_self ..)
    obtain ⟨y, ys, e⟩ : ∃ y ys, xs.toList = y :: ys := by
      cases q : xs.toList with
      | nil =>
        rw [q] at i
        have l := i.length
        rw [List.length_nil] at l
        exact (hn (List.length_eq_zero_iff.mp l.symm)).elim
      | cons y ys => exact ⟨y, ys, rfl⟩
    obtain ⟨m, t, hy⟩ := i.all y (by rw [e]; exact List.mem_cons_self ..)
    refine ⟨y :: fs, PySem.W.KatTups.cons ho hc hdt ?_ k, by simp [hl], ?_⟩
    · have z := congrArg (fun l : List Value => l[0]?) e
      simpa using z
    · intro f hf
      rcases List.mem_cons.mp hf with rfl | hf
      · exact ⟨m, t, hy⟩
      · exact hi f hf
/-- what is sorted: tuples of ints, k says which -/
def TupsK (h : Heap) (k : Value → List Int) (vs : List Value) : Prop := ∀ v ∈ vs, TS.TupInts h v (k v) ∧ k v ≠ []
theorem TupsK.keeps {h h' : Heap} {k : Value → List Int} {vs : List Value} (x : TupsK h k vs) (kp : ∀ b o, h.get? b = some o → o.cls = .type "tuple" → h'.get? b = some o) : TupsK h' k vs := fun v hv => ⟨(x v hv).1.keeps kp, (x v hv).2⟩
theorem swo_lexL (k : Value → List Int) : SrtO.Swo fun v u => lexL (k v) (k u) := ⟨fun x y => lexL_asym _ _, fun x y z => lexL_tr _ _ _⟩
theorem tups_sortable {a : Addr} {vs : List Value} {k : Value → List Int} (h0 : 0 < vs.length) (hp : TupsK s.heap k vs) (ha : ∀ o, s.heap.get? a = some o → o.cls ≠ .type "tuple") : SrtO.SortableO prog w A s a vs fun v u => lexL (k v) (k u) := by
  intro h' keep
  have hp' : TupsK h' k vs := hp.keeps fun b o e c => keep b o (fun z => by subst z; exact ha o e c) e
  obtain ⟨fs, h1, h2, h3⟩ := firsts_any vs fun v hm => ⟨_, hp' v hm⟩
  refine ⟨tuples' true, fun Q E hq => ?_, fun p q hm hm' => ?_⟩
  · refine PySem.W.kat_kind (T := .type "int") h1 (by omega) (fun f hm => ?_) (by rfl) ?_
    · obtain ⟨x, t, rfl⟩ := h3 f hm
      exact PySem.W.Looks.now
    · have e : (Value.type "int" != Value.type "tuple") = true := by first | decide +kernel | rfl | decide
      rw [e]
      exact hq
  · obtain ⟨⟨a1, xs, e1, ⟨o, ho, hc, n, hd⟩, i⟩, _⟩ := hp' _ hm
    obtain ⟨⟨a2, ys, e2, ⟨o2, ho2, hc2, n2, hd2⟩, i2⟩, _⟩ := hp' _ hm'
    show wpAny (model prog w) A (keyLt' (tuples' true) p.1 q.1) (fun r s' => s' = { s with heap := h' } ∧ r = lexL (k p.1) (k q.1)) (fun _ _ => False) { s with heap := h' }
    rw [e1, e2] at *
    refine PySem.W.kat_lt ho hd ho2 hd2 (lex_any 0 i i2 ⟨rfl, ?_⟩)
    have z1 : xs.size = (k (.ref a1)).length := by rw [← Array.length_toList, i.length]
    have z2 : ys.size = (k (.ref a2)).length := by rw [← Array.length_toList, i2.length]
    rw [z1, z2, lexZ_eq]
/-- sorted(l) -/
theorem sorted_tupsK {l : Addr} {vs : List Value} {k : Value → List Int} {Q : Value → Shared → Prop} (hl : s.heap.IsList l vs.toArray) (hz : vs.length ≤ sizeLine) (hp : TupsK s.heap k vs)
    (h : ∀ (h' : Heap) (d : Addr) (out : List Value), SrtO.Srtd (fun v u => lexL (k v) (k u)) out → out.Perm vs → (∀ b o, s.heap.get? b = some o → h'.get? b = some o) → s.heap.objs.size ≤ d → (∃ n, h'.get? d = some (seqObj "list" out.toArray n)) → Q (.ref d) { s with heap := h' }) :
    wpAny (model prog w) A (call (.builtin "sorted") [.ref l]) Q E s := by
  refine SrtO.sorted_ord (swo_lexL k) hl hz (fun h2 h₁ a ha kk => ?_) fun out hs hb => ?_
  · refine tups_sortable (s := { s with heap := h₁ }) (by omega) (hp.keeps fun b o e _ => (kk b o e).2) fun o e => ?_
    have e' : some o = some (seqObj "list" vs.toArray 0) := e.symm.trans ha
    cases e'
    intro c
    exact absurd (Value.type.inj c) (by decide)
  · exact h _ _ out hs hb.perm (fun b o e => sortedAll_old e) (Nat.le_succ _) (sortedAll_at s.heap vs out.toArray)
end
end DL

namespace DL
open PySem PySem.Spec L2 PyProof.Rows
/-! ### as rules -/
def rSortTL (K : PySem.W.Frag) : List V → Hp → VK → Prop := fun vs H Q => ∃ (a : Addr) (xs : List V) (k : V → List Int), vs = [V.ref a] ∧ SqL K H a xs ∧ (∀ x ∈ xs, ∃ t, x = V.ref t ∧ H t = some (.tup ((k x).map V.int)) ∧ k x ≠ []) ∧
  ∀ ys p, SrtO.Srtd (fun v u => lexL (k v) (k u)) ys → ys.Perm xs → H p = none → Q (.ref p) (upd H p (.lst ys))
section
variable {X : Cx} {pins : List (Addr × Obj)} {σ : L2.St} {H : Hp} {s : Shared}
theorem tupsK_of (I : Inv X pins σ H s) {xs : List V} {its : List Value} {k : V → List Int} (rv : Vals xs its) (hx : ∀ x ∈ xs, ∃ t, x = V.ref t ∧ H t = some (.tup ((k x).map V.int)) ∧ k x ≠ []) : xs = its.map backV ∧ (∀ u ∈ its, ∃ a, u = Value.ref a) ∧ TupsK s.heap (fun u => k (backV u)) its := by
  obtain ⟨e1, e2⟩ := refs_back rv fun x m => by
    obtain ⟨t, e, _⟩ := hx x m
    exact ⟨t, e⟩
  refine ⟨e1, e2, fun v hv => ?_⟩
  obtain ⟨t, rfl⟩ := e2 v hv
  have hm : V.ref t ∈ xs := by rw [e1]; exact List.mem_map.mpr ⟨_, hv, rfl⟩
  obtain ⟨t', e, ht, hn⟩ := hx _ hm
  cases e
  refine ⟨?_, hn⟩
  exact tupI_raw I (.inl (.inl ht))
theorem cr_sortTL : CallR X (.builtin "sorted") (rSortTL X.K) := by
  intro pins s σ H vs us Q I r h
  obtain ⟨a, xs, k, rfl, hs, hx, q⟩ := h
  obtain ⟨its, rv, hl, hz⟩ := I.list hs
  obtain ⟨u, rfl, ru⟩ := vals1 r
  obtain rfl : u = Value.ref a := ru
  obtain ⟨e1, e2, e3⟩ := tupsK_of I rv hx
  refine sorted_tupsK hl.isList (by rw [← rv.length]; exact hz) e3 fun h' d out h1 h2 kp hd hn => ?_
  have h3 : ∀ u ∈ out, ∃ a, u = Value.ref a := fun u hu => e2 u (h2.mem_iff.mp hu)
  obtain ⟨n, hn⟩ := hn
  have hb : (out.map backV).Perm xs := by rw [e1]; exact h2.map backV
  refine ⟨.ref d, upd H d (.lst (out.map backV)), I.laid (t' := s.toks) kp hd ⟨?_, out, n, vals_back h3, hn⟩, rfl, q _ d (SrtO.srtd_map (f := backV) (lt := fun v u => lexL (k v) (k u)) h1) hb (I.hok.fresh hd)⟩
  rw [hb.length_eq]
  exact hz
end
/-- a tuple of ints as data -/
def tupD (ns : List Int) : D := .tuple (ns.map .int)
def tupsI : List D → Option (List (List Int))
  | [] => some []
  | .tuple ds :: r => (intsD ds).bind fun ns => if ns = [] then none else (tupsI r).map (ns :: ·)
  | _ => none
theorem tupsI_eq : ∀ {ds : List D} {nss : List (List Int)}, tupsI ds = some nss → ds = nss.map tupD ∧ ∀ ns ∈ nss, ns ≠ []
  | [], _, h => by cases h; exact ⟨rfl, fun _ h => by cases h⟩
  | .tuple es :: r, nss, h => by
    obtain ⟨ns, h1, h2⟩ := Option.bind_eq_some_iff.mp (show ((intsD es).bind fun ns => if ns = [] then none else (tupsI r).map (ns :: ·)) = some nss from h)
    split at h2
    · cases h2
    · rename_i hn
      obtain ⟨m, h3, rfl⟩ := Option.map_eq_some_iff.mp h2
      obtain ⟨e1, e2⟩ := tupsI_eq h3
      refine ⟨by rw [intsD_eq h1, e1]; rfl, fun q hq => ?_⟩
      rcases List.mem_cons.mp hq with z | z
      · rw [z]; exact hn
      · exact e2 q z
  | .none :: _, _, h => by cases h
  | .bool _ :: _, _, h => by cases h
  | .int _ :: _, _, h => by cases h
  | .str _ :: _, _, h => by cases h
  | .list _ :: _, _, h => by cases h
  | .dict _ :: _, _, h => by cases h
theorem tupsI_map : ∀ {nss : List (List Int)}, (∀ ns ∈ nss, ns ≠ []) → tupsI (nss.map tupD) = some nss
  | [], _ => rfl
  | ns :: nss, h => by
    show ((intsD (ns.map .int)).bind fun ns => if ns = [] then none else (tupsI (nss.map tupD)).map (ns :: ·)) = _
    rw [intsD_map, tupsI_map fun q hq => h q (List.mem_cons_of_mem _ hq)]
    simp [h ns List.mem_cons_self]
def sortL (nss : List (List Int)) : List (List Int) := nss.mergeSort fun a b => !lexL b a
theorem sortL_perm (nss : List (List Int)) : (sortL nss).Perm nss := List.mergeSort_perm nss _
theorem sortL_srt (nss : List (List Int)) : (sortL nss).Pairwise fun a b => lexL b a = false := by
  have h := List.pairwise_mergeSort (le := fun a b : List Int => !lexL b a) (fun a b c h1 h2 => by simp at *; exact lexL_tr _ _ _ h1 h2) (fun a b => by rcases lexL_tot a b with h | h <;> simp [h]) nss
  exact h.imp fun h => by simpa using h
theorem perm_sorted_eq : ∀ {l m : List (List Int)}, l.Perm m → (l.Pairwise fun a b => lexL b a = false) → (m.Pairwise fun a b => lexL b a = false) → l = m
  | [], m, p, _, _ => (List.Perm.eq_nil p.symm).symm
  | x :: l, [], p, _, _ => absurd p.length_eq (by simp)
  | x :: l, y :: m, p, h1, h2 => by
    have rf : ∀ a : List Int, lexL a a = false := fun a => (lexL_tot a a).elim id id
    have e : x = y := by
      have a1 : lexL y x = false := by
        rcases List.mem_cons.mp (p.mem_iff.mpr (List.mem_cons_self (a := y) (l := m))) with e | hy
        · rw [e]; exact rf x
        · exact (List.pairwise_cons.mp h1).1 y hy
      have a2 : lexL x y = false := by
        rcases List.mem_cons.mp (p.mem_iff.mp (List.mem_cons_self (a := x) (l := l))) with e | hy
        · rw [e]; exact rf y
        · exact (List.pairwise_cons.mp h2).1 x hy
      exact lexL_anti x y a2 a1
    subst e
    rw [perm_sorted_eq p.cons_inv (List.pairwise_cons.mp h1).2 (List.pairwise_cons.mp h2).2]
theorem sortL_uniq {nss ys : List (List Int)} (p : ys.Perm nss) (h : ys.Pairwise fun a b => lexL b a = false) : ys = sortL nss := perm_sorted_eq (p.trans (sortL_perm nss).symm) h (sortL_srt nss)
section
variable {K : PySem.W.Frag} {F H : Hp} {σ : L2.St} {ρ : Ce}
/-- the ints of a tuple that F holds -/
def intsV : List V → List Int
  | [] => []
  | .int i :: r => i :: intsV r
  | _ :: r => intsV r
theorem intsV_map : ∀ ns : List Int, intsV (ns.map V.int) = ns
  | [] => rfl
  | n :: ns => by show n :: intsV (ns.map V.int) = _; rw [intsV_map ns]
def kF (F : Hp) : V → List Int
  | .ref a => match F a with
    | some (.tup vs) => intsV vs
    | _ => []
  | _ => []
theorem kF_rp {v : V} {ns : List Int} (r : Rp K F v (tupD ns)) : ∃ t, v = .ref t ∧ F t = some (.tup (ns.map V.int)) ∧ kF F v = ns := by
  cases r with
  | @tup a xs _ h r =>
    have e := RpL.ints r
    subst e
    refine ⟨a, rfl, h, ?_⟩
    simp only [kF, h]
    exact intsV_map ns
theorem kF_map : ∀ {xs : List V} {nss : List (List Int)}, RpL K F xs (nss.map tupD) → xs.map (kF F) = nss ∧ ∀ x ∈ xs, ∃ t, x = V.ref t ∧ F t = some (.tup ((kF F x).map V.int)) ∧ kF F x ∈ nss
  | _, [], .nil => ⟨rfl, fun _ h => by cases h⟩
  | x :: xs, ns :: nss, .cons h r => by
    obtain ⟨t, e, ht, hk⟩ := kF_rp h
    obtain ⟨e1, e2⟩ := kF_map r
    refine ⟨by rw [List.map_cons, hk, e1], fun y hy => ?_⟩
    rcases List.mem_cons.mp hy with z | z
    · subst z
      exact ⟨t, e, by rw [hk]; exact ht, by rw [hk]; exact List.mem_cons_self⟩
    · obtain ⟨t, a, b, c⟩ := e2 y z
      exact ⟨t, a, b, List.mem_cons_of_mem _ c⟩
theorem rp_back : ∀ {ys : List V}, (∀ y ∈ ys, ∃ t, y = V.ref t ∧ F t = some (.tup ((kF F y).map V.int))) → RpL K F ys ((ys.map (kF F)).map tupD)
  | [], _ => .nil
  | y :: ys, h => by
    obtain ⟨t, e, ht⟩ := h y List.mem_cons_self
    refine .cons ?_ (rp_back fun z hz => h z (List.mem_cons_of_mem _ hz))
    show Rp K F y (tupD (kF F y))
    rw [e] at ht ⊢
    exact .tup ht (RpL.of_ints _)
/-- what such a sorting leaves -/
theorem sorted_rp {xs ys : List V} {nss : List (List Int)} (r : RpL K F xs (nss.map tupD)) (p : ys.Perm xs) (s : SrtO.Srtd (fun v u => lexL (kF F v) (kF F u)) ys) : RpL K F ys ((sortL nss).map tupD) := by
  obtain ⟨e1, e2⟩ := kF_map r
  have q := rp_back (K := K) (F := F) (ys := ys) fun y hy => let ⟨t, a, b, _⟩ := e2 y (p.mem_iff.mp hy); ⟨t, a, b⟩
  have : ys.map (kF F) = sortL nss := sortL_uniq (by rw [← e1]; exact p.map _) (List.pairwise_map.mpr s)
  rw [this] at q
  exact q
def pSortT : List D → Option Opd
  | [.list ds] => (tupsI ds).map fun nss => .new (.list ((sortL nss).map tupD))
  | _ => none
theorem cd_sortT : CallD K (rSortTL K) pSortT := by
  intro F H σ ρ vs os ds o Q S av hd hp k
  unfold pSortT at hp
  split at hp
  · obtain ⟨nss, h1, rfl⟩ := Option.map_eq_some_iff.mp hp
    obtain ⟨v, o, rfl, h3, e⟩ := arg1 (H := H) av hd
    obtain ⟨a, xs, rfl, h4, r⟩ := h3.list S e
    obtain ⟨e1, e2⟩ := tupsI_eq h1
    rw [e1] at r
    obtain ⟨g1, g2⟩ := kF_map r
    refine ⟨a, xs, kF F, rfl, .inl (.inl h4), fun x hx => ?_, fun ys p st pm np => ?_⟩
    · obtain ⟨t, q1, q2, q3⟩ := g2 x hx
      exact ⟨t, q1, S.sub _ _ q2, e2 _ q3⟩
    · obtain ⟨G, S', ow⟩ := new_list (Ow := OwA σ ρ) S np (sorted_rp r pm st)
      exact k _ _ _ G S' ow
  · cases hp
def rSortU2 (K : PySem.W.Frag) : List V → Hp → VK → Prop := fun vs H Q => rSortA K vs H Q ∨ rSortTL K vs H Q
def pSortU (ds : List D) : Option Opd := (pSort ds).or (pSortT ds)
theorem cr_sortU {X : Cx} (hc : X.calm = true) : CallR X (.builtin "sorted") (rSortU2 X.K) := CallR.or (cr_sortA hc) cr_sortTL
theorem cd_sortU : CallD K (rSortU2 K) pSortU := CallD.or cd_sort cd_sortT
end
section
variable {X : Cx} {e : Expr} {es : List Expr} {fa : FA} {p pos : Pos}
theorem ej_sortedU (hc : X.calm = true) (hm : X.mg "sorted" = none) (ha : AJ X (e :: es) fa) (hg : Gl X "sorted" := by rfl) (he : starEach (e :: es) X.env = (false, eval e X.env) :: starEach es X.env := by rfl) (hpl : (backTo pos (starEach es X.env)).any (·.1) = false := by rfl) : EJ X (.Call (.Name "sorted" p) (e :: es) [] pos) (fB pSortU fa) :=
  ej_bi (cr_sortU hc) cd_sortU hg hm (by decide +kernel) ha (by decide) (by decide) he hpl
end
end DL

namespace DL
open PySem PySem.Spec L2 PyProof.Rows
/-! ### sorted(d.values()), the values tuples of ints -/
def tSortVals (td : TE) : TE := fun σ H Q => td σ H fun x H1 => ∃ (a : Addr) (kvs : List (Key × V)) (k : V → List Int), x = V.ref a ∧ H1 a = some (.dK kvs) ∧ (∀ x ∈ kvs.map (·.2), ∃ t, x = V.ref t ∧ H1 t = some (.tup ((k x).map V.int)) ∧ k x ≠ []) ∧
  ∀ ys p, SrtO.Srtd (fun v u => lexL (k v) (k u)) ys → ys.Perm (kvs.map (·.2)) → H1 p = none → Q (.ref p) (upd H1 p (.lst ys))
theorem kv_vals {κ : Type} : ∀ {kvs : List (κ × V)} {vs : List (κ × Value)}, KV kvs vs → Vals (kvs.map (·.2)) (vs.map (·.2)) := fun {kvs vs} r => by
  unfold KV at r
  induction r with
  | nil => exact .nil
  | cons h t ih => exact .cons h.2 ih
section
variable {X : Cx} {o : Expr} {p pos apos mpos : Pos} {td : TE}
theorem pe_sortVals (hc : X.calm = true) (hg : Gl X "sorted") (hm : X.mg "sorted" = none) (hd : PE X o td) (hbase : attributeBase o "values" X.env (eval o X.env) = eval o X.env := by rfl) (hline : (apos.endLine == mpos.line) = true := by rfl)
    (hse : starEach [Expr.Call (.Attribute o "values" apos) [] [] mpos] X.env = [(false, eval (Expr.Call (.Attribute o "values" apos) [] [] mpos) X.env)] := by rfl) :
    PE X (.Call (.Name "sorted" p) [.Call (.Attribute o "values" apos) [] [] mpos] [] pos) (tSortVals td) := by
  refine ⟨fun pins s σ H Q I h => ?_⟩
  refine wpAny_Call_Name_kw (ld_blt I hg hm (u := .builtin "sorted") (by first | rfl | decide +kernel) ?_ (by first | decide +kernel | decide) (by first | decide +kernel | decide))
  rw [hse]
  refine PySem.callWith_builtin1 (wpAny_Call_method0_late hbase hline (thn (hd.run pins s σ H _ I h) fun v s1 ⟨x, H1, I1, r1, a, kvs, k, ex, ha, hx, q⟩ => ?_))
  subst ex
  obtain rfl : v = Value.ref a := r1
  obtain ⟨hlen, hsys, vs, rel, dof⟩ := dk_of I1.hok ha
  obtain ⟨ep, dat⟩ := dof.dictAt
  have dat' := dat
  obtain ⟨ob, es, ho, ex, hdat, hko, hpr, hnd⟩ := dat'
  refine ⟨"dict", "dict.values", F.plainAttrs_dict, F.slot_dict_values, F.type_dict_values, ⟨ob, ho, ex.1⟩, fun b e => ?_, Calls.callWith_builtin rfl (PySem.evalArgs_none ?_)⟩
  · cases e
    exact ⟨ob, ho, ex.2.1⟩
  refine call_meetsIn F.slot_dict_values ⟨ob, ho, ex.1⟩ F.entry_dict_values (F.args_dict_values_1 _) (meets_dict_values (mixKind X.prog X.w) a hsys) ⟨⟨vs, dof⟩, ?_⟩
  have k1 : ∀ b u, s1.heap.get? b = some u → (s1.heap.push { cls := .type "dict_values", data := .fields #[.ref a] }).get? b = some u := fun b u e => Heap.get?_push_of_some _ e
  have dat1 : (s1.heap.push { cls := .type "dict_values", data := .fields #[.ref a] }).DictAt (mixKind X.prog X.w) a vs ep := dat.keep k1
  have hlv : vs.length ≤ sizeLine := by rw [← KV.length rel]; exact hlen
  refine Calls.call_function_entry PyProof.Rows.kind_sorted PyProof.Rows.plain_sorted PyProof.Rows.entry_sorted (PyProof.Rows.args_sorted1 _) ?_
  unfold Builtin.«sorted»
  refine wpAny_bind (m := checkCount "sorted" 1 1 _) (wpAny_pure ?_)
  refine wpAny_bind (PySem.W.kdu_collect (A := X.A.in1) (PySem.W.kdl_values (knd := mixKind X.prog X.w) (r := s1.heap.objs.size) (d := a) (kvs := vs) (ep := ep)) (I1.ok.hd hc) ⟨⟨_, Heap.get?_push_size _ rfl, rfl, rfl⟩, dat1⟩ hlv fun h' tk acc hk hacc => ?_)
  have hal : acc.toList.length = vs.length := by rw [Array.length_toList, hacc.1]
  have hev : acc.toList = vs.map (·.2) := PySem.W.kdl_vals_eq acc.toList hal fun j v e => hacc.2 j v (by rw [← Array.getElem?_toList]; exact e)
  have I2 : Inv X pins σ H1 { s1 with heap := h', toks := tk } := I1.kept fun b u e => hk b u (k1 b u e)
  have rv : Vals (kvs.map (·.2)) acc.toList := by rw [hev]; exact kv_vals rel
  obtain ⟨e1, e2, e3⟩ := tupsK_of I2 rv hx
  have hsz : acc.toList.length ≤ sizeLine := by rw [hal]; exact hlv
  refine wpAny_bind (wpAny_newList ?_ hsz)
  have hoL : (h'.push (seqObj "list" acc.toList.toArray 0)).get? h'.objs.size = some (seqObj "list" acc.toList.toArray 0) := Heap.get?_push_size _ rfl
  show wpAny _ _ _ _ _ { s1 with heap := h'.push (seqObj "list" acc.toList.toArray 0), toks := tk }
  refine wpAny_bind (wpAny_holding (wpAny_call_entry PyProof.Rows.slot_list_sort ⟨_, hoL, rfl⟩ PyProof.Rows.entry_list_sort
    (SrtO.list_sort_ord (s := { s1 with heap := h'.push (seqObj "list" acc.toList.toArray 0), toks := tk }) (swo_lexL fun u => k (backV u)) hoL hsz (fun h2 => ?_) fun out hs hb => ⟨_, rfl, ?_⟩) (PyProof.Rows.args_list_sort _)))
  · refine tups_sortable (by omega) (e3.keeps fun b o e _ => Heap.get?_push_of_some _ e) fun o e => ?_
    have e' : some o = some (seqObj "list" acc.toList.toArray 0) := e.symm.trans hoL
    cases e'
    intro c
    exact absurd (Value.type.inj c) (by decide)
  · have h3 : ∀ u ∈ out, ∃ a, u = Value.ref a := fun u hu => e2 u (hb.perm.mem_iff.mp hu)
    have hp : (out.map backV).Perm (kvs.map (·.2)) := by rw [e1]; exact hb.perm.map backV
    obtain ⟨e', he'⟩ := PyProof.Rows.sortedHeap_at (vs := acc.toList) (out := out.toArray) hoL
    have hlen2 : (out.map backV).length ≤ sizeLine := by rw [hp.length_eq, List.length_map]; exact hlen
    refine wpAny_pure ⟨_, rfl, .ref h'.objs.size, upd H1 h'.objs.size (.lst (out.map backV)), I2.laid (t' := tk) (fun b u e => ?_) (Nat.le_refl _)
      (show ObjOk X.prog X.w _ _ _ (.lst (out.map backV)) from ⟨hlen2, out, e', vals_back h3, he'⟩), rfl, q _ _ (SrtO.srtd_map (f := backV) (lt := fun v u => lexL (k v) (k u)) hs) hp (I2.hok.fresh (Nat.le_refl _))⟩
    have hb : b < h'.objs.size := Heap.lt_size e
    rw [PyProof.Rows.sortedHeap_old (Nat.ne_of_lt hb) (by rw [size_push']; exact Nat.lt_succ_of_lt hb)]
    exact Heap.get?_push_of_some _ e
end
def isK : List (D × D) → Bool
  | (.none, _) :: _ => false
  | _ => true
def fSortV (fd : FE) : FE := fun ρ => (fd ρ).bind fun r => match deref r.2 r.1 with
  | some (.dict es) => if isK es = true then (tupsI (es.map (·.2))).map fun nss => (.new (.list ((sortL nss).map tupD)), r.2) else none
  | _ => none
theorem RpK.vals {K : PySem.W.Frag} {F : Hp} : ∀ {kvs : List (Key × V)} {es : List (D × D)}, RpK K F kvs es → RpL K F (kvs.map (·.2)) (es.map (·.2))
  | _, _, .nil => .nil
  | _, _, .cons h t => .cons h (RpK.vals t)
section
variable {X : Cx} {o : Expr} {p pos apos mpos : Pos} {fd : FE}
theorem ej_sortV (hc : X.calm = true) (hm : X.mg "sorted" = none) (hd : EJ X o fd) (hg : Gl X "sorted" := by rfl) (hbase : attributeBase o "values" X.env (eval o X.env) = eval o X.env := by rfl) (hline : (apos.endLine == mpos.line) = true := by rfl)
    (hse : starEach [Expr.Call (.Attribute o "values" apos) [] [] mpos] X.env = [(false, eval (Expr.Call (.Attribute o "values" apos) [] [] mpos) X.env)] := by rfl) :
    EJ X (.Call (.Name "sorted" p) [.Call (.Attribute o "values" apos) [] [] mpos] [] pos) (fSortV fd) := by
  refine PE.weak (pe_sortVals hc hg hm hd hbase hline hse) fun σ H Q c => ?_
  obtain ⟨F, ρ, oo, ρ', S, hf, k⟩ := c
  simp only [fSortV, Option.bind_eq_some_iff] at hf
  obtain ⟨⟨x, ρ1⟩, h1, h2⟩ := hf
  split at h2
  · rename_i es e0
    split at h2
    · rename_i hk
      obtain ⟨nss, h3, h4⟩ := Option.map_eq_some_iff.mp h2
      cases h4
      refine one S h1 fun v F1 H1 G1 S1 s1 ov => ?_
      obtain ⟨a, rfl, c⟩ := ov.dict S1 e0
      rcases c with ⟨kvs, hH, r⟩ | ⟨kvs, es', rfl, hH, r⟩
      · have rv := r.vals
        obtain ⟨e1, e2⟩ := tupsI_eq h3
        rw [e1] at rv
        obtain ⟨g1, g2⟩ := kF_map rv
        refine ⟨a, kvs, kF F1, rfl, hH, fun x hx => ?_, fun ys p st pm np => ?_⟩
        · obtain ⟨t, q1, q2, q3⟩ := g2 x hx
          exact ⟨t, q1, S1.sub _ _ q2, e2 _ q3⟩
        · obtain ⟨G, S', ow⟩ := new_list (Ow := OwA σ ρ) S1 np (sorted_rp rv pm st)
          exact k _ _ _ (G1.trans G) S' s1 (ow.from G1.there)
      · cases hk
    · cases h2
  · cases h2
end
end DL

namespace DL
open PySem PySem.Spec L2 PyProof.Rows
/-! ### sorted(set(xs)), xs a list of ints -/
abbrev newSet (w : World) : Obj := { cls := .type "set", dict := none, data := .set #[] 0 (.fresh 0 0 (!w.params.followText "set-order")) }
section
variable {P : Program} {w : World} {A : Around} {E : Value → Shared → Prop} {s : Shared}
set_option maxRecDepth 100000 in
set_option maxHeartbeats 3200000 in
theorem call_set_listI {l : Addr} {items : Array Value} (ns : List Int) {Q : Value → Shared → Prop} (hh : A.handled = none) (hl : s.heap.IsList l items) (hit : IntsAre items.toList ns) (hb : ns.length + 1 < scanBound)
    (h : ∀ (h' : Heap) (tk c : Nat), SetR w h' s.heap.objs.size (fun j => decide (j ∈ ns)) c → c ≤ ns.length → (∀ b o, s.heap.get? b = some o → h'.get? b = some o) → Q (.ref s.heap.objs.size) { s with heap := h', toks := tk }) :
    wpAny (model P w) A (call (.type "set") [.ref l]) Q E s := by
  have zi : items.size = ns.length := by
    have q := IntsAre.length hit
    rwa [Array.length_toList] at q
  obtain ⟨c0, tl, hmro⟩ := F.called_set.mro
  have g1 := F.called_set.made
  have g2 := F.called_set.sub
  refine wpAny_call (codeAny_of_tree ?_)
  show wpAny _ _ (callAny (.type "set") _) _ _ _
  refine wpAny_pure ⟨Code.quiet_builtin _ (by decide +kernel), codeAny_builtin F.entry_type_call ?_⟩
  rw [Around.under_plain (weight_type_call_type "set" [.ref l] []) rfl]
  have g3 := F.called_set.notType
  have g4 := F.called_set.canCreate
  have g5 := F.typeCall_set_1 (.ref l)
  repeat (any_goals (first | assumption | wp_step))
  refine codeAny_mono (code_set_led1 (.ref l) (E := E) (Q₁ := fun obj s₁ => obj = .ref s.heap.objs.size ∧ s₁ = { s with heap := s.heap.push (newSet w) }) ⟨rfl, rfl⟩) fun r s₁ hr => ?_
  cases r with
  | error e => exact hr
  | ok fl =>
    cases fl with
    | ret obj =>
      obtain ⟨rfl, rfl⟩ := hr
      have hS : (s.heap.push (newSet w)).get? s.heap.objs.size = some (newSet w) := Heap.get?_push_size _ rfl
      have hT : Shared.TypeIs { s with heap := s.heap.push (newSet w) } (.ref s.heap.objs.size) "set" := ⟨_, hS, rfl⟩
      have g6 := F.called_set.init.lookup
      have g7 := F.called_set.init.bind (.ref s.heap.objs.size)
      repeat (any_goals (first | assumption | wp_step))
      refine codeAny_mono (codeAny_call_builtin (R := wants (fun r s₂ => r = .none ∧ ∃ h' tk c, s₂ = { s with heap := h', toks := tk } ∧ SetR w h' s.heap.objs.size (fun j => decide (j ∈ ns)) c ∧ c ≤ ns.length ∧
          (∀ b o, s.heap.get? b = some o → h'.get? b = some o)) E) F.called_set.init.plain F.entry_set_init (check_set_init_1 hT ?_)) fun r₂ s₂ hr₂ => ?_
      · obtain ⟨⟨ocls, odict, odata, oslots⟩, hol, hcl, nl, hdl⟩ := hl
        simp only at hcl hdl
        subst hcl; subst hdl
        have hol2 : (s.heap.push (newSet w)).get? l = some { cls := .type "list", dict := odict, data := .seq items nl, slots := oslots } := Heap.get?_push_of_some _ hol
        have g8 := F.sub_list_set
        have g9 := F.sub_list_frozenset
        have g10 : (Value.type "list" == Value.type "dict") = false := by decide
        have hl1 : (s.heap.push (newSet w)).IsList l items := ⟨_, hol2, rfl, nl, rfl⟩
        unfold Builtin.«set.__init__» noKeywords Builtin.Frozenset.updateFrom
        generalize hPI : pyIter = PI
        wp_walk
        subst hPI
        refine wpAny_pyIter_list hl1 ?_
        refine wpAny_bind (wpAny_runValue ?_)
        have lt : l < s.heap.objs.size := Heap.lt_size hol
        have hh3 : A.in1.in1.in1.handled = none := by simp [hh]
        have z2 : (s.heap.push (newSet w)).objs.size = s.heap.objs.size + 1 := Heap.size_push ..
        have nI : l ≠ (s.heap.push (newSet w)).objs.size := by rw [z2]; exact Nat.ne_of_lt (Nat.lt_succ_of_lt lt)
        have nS : s.heap.objs.size ∉ [(s.heap.push (newSet w)).objs.size, l] := by
          rw [z2]; simp only [List.mem_cons, List.mem_singleton, List.not_mem_nil, or_false, not_or]; exact ⟨Nat.ne_of_lt (Nat.lt_succ_self _), Nat.ne_of_gt lt⟩
        have hval : ∀ (i : Nat) (v : Value), items[i]? = some v → ∃ k t, ns[i]? = some k ∧ v = .int k t := fun i v hv => by
          have hi : i < ns.length := by rw [← zi]; exact (Array.getElem?_eq_some_iff.mp hv).1
          obtain ⟨t, e⟩ := PyProof.Rows.IntsAre.int_at hit i v (by rw [Array.getElem?_toList]; exact hv)
          refine ⟨ns[i], t, List.getElem?_eq_getElem hi, ?_⟩
          rw [e, List.getD_eq_getElem?_getD, List.getElem?_eq_getElem hi] <;> rfl
        refine set_update_ints ((Walks.list hh3 _ l nI items).toS) s.heap.objs.size nS ns zi hb hval (items.size - 0) 0 _ (by omega) (Nat.zero_le _)
          ⟨⟨_, Heap.get?_push_size _ rfl, rfl, rfl⟩, (hl1.push _)⟩ ?hS0 ?hR
        case hS0 => exact ⟨0, Nat.le_refl 0, setR_new_at (Heap.get?_push_of_some _ hS)⟩
        case hR =>
          intro s' c' hm hc' hS'
          obtain ⟨h', g2, d', tk', os'⟩ := s'
          cases (show g2 = s.gens from hm.gens)
          cases (show d' = s.drawn from hm.drawn)
          cases (show os' = s.os from hm.os)
          show wpAny _ _ _ _ _ _
          refine wpAny_pure ?_
          show wpAny _ _ (ret Value.none) _ _ _
          rw [zi] at hc'
          refine wpAny_pure ⟨rfl, h', tk', c', rfl, hS', hc', fun b o e => ?_⟩
          have hb0 : b < s.heap.objs.size := Heap.lt_size e
          refine hm.heap b o ?_ (Heap.get?_push_of_some _ (Heap.get?_push_of_some _ e))
          simp only [List.mem_cons, List.mem_singleton, List.not_mem_nil, or_false, not_or]
          exact ⟨Nat.ne_of_lt hb0, by rw [z2]; exact Nat.ne_of_lt (Nat.lt_succ_of_lt hb0)⟩
      · cases r₂ with
        | error e => exact hr₂
        | ok fl₂ =>
          cases fl₂ with
          | ret r =>
            obtain ⟨rfl, h', tk, c', rfl, hS', hc', hk'⟩ := hr₂
            repeat (any_goals (first | assumption | wp_step))
            exact h _ _ _ hS' hc' hk'
          | _ => exact hr₂.elim
    | _ => exact hr.elim
end
end DL

namespace DL
open PySem PySem.Spec L2 PyProof.Rows
def tSortSet (K : PySem.W.Frag) (ta : TE) : TE := fun σ H Q => ta σ H fun x H1 => ∃ (l : Addr) (ns : List Int), x = V.ref l ∧ SqL K H1 l (ns.map V.int) ∧ ns.length < 64 ∧
  ∀ (ms : List Int) (p : Addr), ms.Pairwise (· < ·) → (∀ k : Int, k ∈ ms ↔ k ∈ ns) → H1 p = none → Q (.ref p) (upd H1 p (.lst (ms.map V.int)))
section
variable {X : Cx}
theorem pe_sortSet {a : Expr} {ta : TE} {p p2 q pos : Pos} (hc : X.calm = true) (hg : Gl X "sorted") (hm : X.mg "sorted" = none) (hg2 : Gl X "set") (hm2 : X.mg "set" = none) (ha : PE X a ta)
    (na : starEach [a] X.env = (false, eval a X.env) :: starEach [] X.env := by rfl) : PE X (.Call (.Name "sorted" p) [.Call (.Name "set" p2) [a] [] q] [] pos) (tSortSet X.K ta) := by
  refine ⟨fun pins s σ H Q I h => ?_⟩
  refine Call_ (ld_blt I hg hm PyProof.Rows.boot_sorted ?_)
  refine PyProof.Rows.callWith_builtin1 (PyProof.Rows.args_cons ?_ rfl) rfl rfl
  refine Call_ (ld_blt I hg2 hm2 PyProof.Rows.boot_set ?_)
  refine PyProof.Rows.callWith_type1 (PyProof.Rows.args_cons (thn (ha.run pins s σ H _ I h) fun v s1 ⟨x, H1, I1, r1, q1⟩ => PyProof.Rows.args_nil ?_) na) na rfl
  obtain ⟨l, ns, rfl, hq, h1, q1⟩ := q1
  cases r1
  obtain ⟨its, r, pl, hz⟩ := I1.list hq
  refine call_set_listI ns (I1.ok.hd hc) pl.isList (by simpa using r.ints) (by unfold scanBound; omega) fun h' tk c hS hc' hk => ?_
  refine PyProof.Rows.args_nil ?_
  have I2 : Inv X pins σ H1 { s1 with heap := h', toks := tk } := I1.kept hk
  refine sorted_set hS (I2.ok.hd hc) (by omega) fun s' p out cc ms k g o hp hg hi hs hm hl => ?_
  have hlen : (ms.map V.int).length ≤ sizeLine := by rw [List.length_map, hl, sizeLine_eq]; omega
  have hn : H1 p = none := I2.hok.fresh hp
  have J : Inv X pins σ (upd H1 p (.lst (ms.map V.int))) s' :=
    I2.call' (ch := []) o (Un.laid k hp hn) (I2.hok.laid k hp (show ObjOk X.prog X.w _ _ _ (.lst (ms.map V.int)) from ⟨hlen, out.toList, cc, vals_of_ints hi, hg⟩)) (by rw [g]; exact I2.bare) (fun _ z => nomatch z)
  exact ⟨.ref p, _, J, rfl, q1 ms p hs (fun k => (hm k).trans decide_eq_true_iff) hn⟩
end
/-- ascending, each once -/
def dedupI : List Int → List Int
  | [] => []
  | [x] => [x]
  | x :: y :: r => if x = y then dedupI (y :: r) else x :: dedupI (y :: r)
def setI (ns : List Int) : List Int := dedupI (sortI ns)
theorem dedupI_mem : ∀ {ns : List Int} {k : Int}, k ∈ dedupI ns ↔ k ∈ ns
  | [], _ => Iff.rfl
  | [x], _ => Iff.rfl
  | x :: y :: r, k => by
    unfold dedupI
    split
    · rename_i e
      rw [dedupI_mem, e]
      simp
    · rw [List.mem_cons, dedupI_mem, List.mem_cons (a := k) (b := x)]
theorem dedupI_asc : ∀ {ns : List Int}, ns.Pairwise (· ≤ ·) → (dedupI ns).Pairwise (· < ·)
  | [], _ => List.Pairwise.nil
  | [x], _ => List.pairwise_singleton _ _
  | x :: y :: r, h => by
    obtain ⟨h1, h2⟩ := List.pairwise_cons.mp h
    unfold dedupI
    split
    · exact dedupI_asc h2
    · rename_i e
      refine List.pairwise_cons.mpr ⟨fun z hz => ?_, dedupI_asc h2⟩
      have hz' := dedupI_mem.mp hz
      have a := h1 y List.mem_cons_self
      rcases List.mem_cons.mp hz' with q | q
      · omega
      · have := (List.pairwise_cons.mp h2).1 z q
        omega
theorem setI_mem {ns : List Int} {k : Int} : k ∈ setI ns ↔ k ∈ ns := dedupI_mem.trans (sortI_perm ns).mem_iff
theorem setI_asc (ns : List Int) : (setI ns).Pairwise (· < ·) := dedupI_asc (sortI_sorted ns)
theorem asc_uniq : ∀ {a b : List Int}, a.Pairwise (· < ·) → b.Pairwise (· < ·) → (∀ k, k ∈ a ↔ k ∈ b) → a = b
  | [], [], _, _, _ => rfl
  | [], y :: b, _, _, h => by have := (h y).mpr List.mem_cons_self; cases this
  | x :: a, [], _, _, h => by have := (h x).mp List.mem_cons_self; cases this
  | x :: a, y :: b, ha, hb, h => by
    obtain ⟨a1, a2⟩ := List.pairwise_cons.mp ha
    obtain ⟨b1, b2⟩ := List.pairwise_cons.mp hb
    have e : x = y := by
      rcases List.mem_cons.mp ((h x).mp List.mem_cons_self) with e | e
      · exact e
      · rcases List.mem_cons.mp ((h y).mpr List.mem_cons_self) with e' | e'
        · exact e'.symm
        · have := a1 _ e'
          have := b1 _ e
          omega
    subst e
    rw [asc_uniq a2 b2 fun k => ⟨fun hk => ?_, fun hk => ?_⟩]
    · rcases List.mem_cons.mp ((h k).mp (List.mem_cons_of_mem _ hk)) with e | e
      · have := a1 k hk; omega
      · exact e
    · rcases List.mem_cons.mp ((h k).mpr (List.mem_cons_of_mem _ hk)) with e | e
      · have := b1 k hk; omega
      · exact e
def fSortSet (fa : FE) : FE := fun ρ => (fa ρ).bind fun r => match deref r.2 r.1 with
  | some (.list ds) => (intsD ds).bind fun ns => if ns.length < 64 then some (.new (.list ((setI ns).map .int)), r.2) else none
  | _ => none
section
variable {X : Cx} {a : Expr} {fa : FE} {p p2 q pos : Pos}
theorem ej_sortSet (hc : X.calm = true) (hm : X.mg "sorted" = none) (hm2 : X.mg "set" = none) (ha : EJ X a fa) (hg : Gl X "sorted" := by rfl) (hg2 : Gl X "set" := by rfl)
    (na : starEach [a] X.env = (false, eval a X.env) :: starEach [] X.env := by rfl) : EJ X (.Call (.Name "sorted" p) [.Call (.Name "set" p2) [a] [] q] [] pos) (fSortSet fa) := by
  refine PE.weak (pe_sortSet hc hg hm hg2 hm2 ha na) fun σ H Q c => ?_
  obtain ⟨F, ρ, oo, ρ', S, hf, k⟩ := c
  simp only [fSortSet, Option.bind_eq_some_iff] at hf
  obtain ⟨⟨x, ρ1⟩, h1, h2⟩ := hf
  split at h2
  · rename_i ds e0
    obtain ⟨ns, h3, h4⟩ := Option.bind_eq_some_iff.mp h2
    split at h4
    · rename_i hl
      cases h4
      refine one S h1 fun v F1 H1 G1 S1 s1 ov => ?_
      obtain ⟨a, rfl, hH⟩ := ints_lst ov S1 e0 h3
      refine ⟨a, ns, rfl, .inl (.inl hH), hl, fun ms p st mem np => ?_⟩
      rw [asc_uniq st (setI_asc ns) fun k => (mem k).trans setI_mem.symm]
      obtain ⟨G, S', ow⟩ := new_list (Ow := OwA σ ρ) S1 np (RpL.of_ints (K := X.K) (F := F1) (setI ns))
      exact k _ _ _ (G1.trans G) S' s1 (ow.from G1.there)
    · cases h4
  · cases h2
end
end DL

namespace DL
open PySem PySem.Spec L2
/-! ### isinstance -/
def tyN : D → String
  | .none => "NoneType"
  | .bool _ => "bool"
  | .int _ => "int"
  | .str _ => "str"
  | .list _ => "list"
  | .tuple _ => "tuple"
  | .dict _ => "dict"
theorem OpOk.tyx {K : PySem.W.Frag} {H0 F H : Hp} {σ : L2.St} {ρ : Ce} {v : V} {x : Opd} {d : D} (h : OpOk K H0 F H σ ρ v x) (S : Sd K F H σ ρ) (e : deref ρ x = some d) : TyX K H v (.type (tyN d)) := by
  cases d with
  | none => cases frz_of h S e ⟨fun _ z => (by cases z), fun _ z => (by cases z)⟩; exact .base .non
  | bool b => cases frz_of h S e ⟨fun _ z => (by cases z), fun _ z => (by cases z)⟩; exact .base (.bl b)
  | int i => cases frz_of h S e ⟨fun _ z => (by cases z), fun _ z => (by cases z)⟩; exact .base (.int i)
  | str x => cases frz_of h S e ⟨fun _ z => (by cases z), fun _ z => (by cases z)⟩; exact .base (.str x)
  | list ds =>
    obtain ⟨a, xs, rfl, ha, r⟩ := h.list S e
    exact .base (.lst ha)
  | tuple ds =>
    obtain ⟨a, xs, rfl, ha, r⟩ := h.tuple S e
    exact .base (.tup (S.sub _ _ ha))
  | dict es =>
    obtain ⟨a, rfl, c⟩ := h.dict S e
    rcases c with ⟨kvs, hH, r⟩ | ⟨kvs, es', rfl, hH, r⟩
    · exact .base (.dK hH)
    · exact .base (.dT hH)
/-- is it of this type; a bool is an int -/
def isD (T : String) (d : D) : Bool := tyN d == T || (T == "int" && tyN d == "bool")
/-- a type that the answers are known of -/
structure TyK (T : String) : Prop where
  non : kitB "NoneType" T = some (isD T .none)
  bl : kitB "bool" T = some (isD T (.bool true))
  int : kitB "int" T = some (isD T (.int 0))
  str : kitB "str" T = some (isD T (.str Str.empty))
  lst : kitB "list" T = some (isD T (.list []))
  tup : kitB "tuple" T = some (isD T (.tuple []))
  dic : kitB "dict" T = some (isD T (.dict []))
theorem TyK.ok {T : String} (k : TyK T) (d : D) : kitB (tyN d) T = some (isD T d) := by
  cases d with
  | none => exact k.non
  | bool b => exact k.bl
  | int i => exact k.int
  | str s => exact k.str
  | list ds => exact k.lst
  | tuple ds => exact k.tup
  | dict es => exact k.dic
theorem tk_int : TyK "int" := by constructor <;> first | rfl | decide +kernel | kernel_rfl
theorem tk_bool : TyK "bool" := by constructor <;> first | rfl | decide +kernel | kernel_rfl
theorem tk_str : TyK "str" := by constructor <;> first | rfl | decide +kernel | kernel_rfl
theorem tk_list : TyK "list" := by constructor <;> first | rfl | decide +kernel | kernel_rfl
theorem tk_tuple : TyK "tuple" := by constructor <;> first | rfl | decide +kernel | kernel_rfl
def tTy (T : String) : TE := fun _ H Q => Q (.ty T) H
def fIs (f : D → Bool) (fe : FE) : FE := fun ρ => (fe ρ).bind fun r => (deref r.2 r.1).bind fun d => some (.frz (.bool (f d)), r.2)
section
variable {X : Cx} {e : Expr} {fe : FE} {p p2 p3 pos : Pos} {T U : String}
theorem pe_tyN {x : Str} (hg : Gl X x) (hm : X.mg x = none) (hv : bootBuiltins x = some (.type T)) (hn : x ≠ "__name__" := by decide) (hdb : (x == ("__debug__" : Str)) = false := by decide) : PE X (.Name x p) (tTy T) :=
  ⟨fun pins s σ H Q I h => ld_blt I hg hm hv ⟨.ty T, H, I, rfl, h⟩ hn hdb⟩
theorem ej_isi {x : Str} (k : TyK T) (hm : X.mg "isinstance" = none) (hm2 : X.mg x = none) (he : EJ X e fe) (hv : bootBuiltins x = some (.type T)) (hg : Gl X "isinstance" := by rfl) (hg2 : Gl X x := by rfl) (hn : x ≠ "__name__" := by decide) (hdb : (x == ("__debug__" : Str)) = false := by decide)
    (hs : starEach [e, .Name x p2] X.env = (false, eval e X.env) :: starEach [.Name x p2] X.env := by rfl) (hpl : (backTo pos (starEach [.Name x p2] X.env)).any (·.1) = false := by rfl) : EJ X (.Call (.Name "isinstance" p) [e, .Name x p2] [] pos) (fIs (isD T) fe) := by
  refine PE.weak (pe_callB call_isi hg hm PyProof.Rows.boot_isinstance (pa_cons he (pa_cons (pe_tyN hg2 hm2 hv hn hdb) pa_nil) hs) (by decide) (by decide) hs hpl) fun σ H Q c => ?_
  obtain ⟨F, ρ, o, ρ', S, hf, kk⟩ := c
  simp only [fIs, Option.bind_eq_some_iff] at hf
  obtain ⟨⟨y, ρ1⟩, h1, d, h2, h3⟩ := hf
  cases h3
  refine one S h1 fun v F1 H1 G1 S1 s1 ov => ?_
  exact ⟨v, .ty T, _, _, _, rfl, .ty T, ov.tyx S1 h2, kit_ty (k.ok d), kk _ F1 H1 G1 S1 s1 (Rp.bl _)⟩
theorem ej_isi2 {x y : Str} {k2 : Nat} (k : TyK T) (kU : TyK U) (hm : X.mg "isinstance" = none) (hm2 : X.mg x = none) (hm3 : X.mg y = none) (he : EJ X e fe) (hv : bootBuiltins x = some (.type T)) (hv2 : bootBuiltins y = some (.type U)) (hg : Gl X "isinstance" := by rfl) (hg2 : Gl X x := by rfl) (hg3 : Gl X y := by rfl)
    (hn : x ≠ "__name__" := by decide) (hdb : (x == ("__debug__" : Str)) = false := by decide) (hn2 : y ≠ "__name__" := by decide) (hdb2 : (y == ("__debug__" : Str)) = false := by decide) {pt : Pos}
    (hs : starEach [e, .Tuple [.Name x p2, .Name y p3] k2 pt] X.env = (false, eval e X.env) :: starEach [.Tuple [.Name x p2, .Name y p3] k2 pt] X.env := by rfl) (hpl : (backTo pos (starEach [.Tuple [.Name x p2, .Name y p3] k2 pt] X.env)).any (·.1) = false := by rfl) :
    EJ X (.Call (.Name "isinstance" p) [e, .Tuple [.Name x p2, .Name y p3] k2 pt] [] pos) (fIs (fun d => isD T d || isD U d) fe) := by
  refine PE.weak (pe_callB call_isiT hg hm PyProof.Rows.boot_isinstance (pa_cons he (pa_cons (pe_tup (pa_cons (pe_tyN hg2 hm2 hv hn hdb) (pa_cons (pe_tyN hg3 hm3 hv2 hn2 hdb2) pa_nil))) pa_nil) hs) (by decide) (by decide) hs hpl) fun σ H Q c => ?_
  obtain ⟨F, ρ, o, ρ', S, hf, kk⟩ := c
  simp only [fIs, Option.bind_eq_some_iff] at hf
  obtain ⟨⟨z, ρ1⟩, h1, d, h2, h3⟩ := hf
  cases h3
  refine one S h1 fun v F1 H1 G1 S1 s1 ov => ⟨by show 2 ≤ sizeLine; decide, fun q nq => ?_⟩
  have Gq : Gr (OwA σ ρ) F1 H1 F1 (upd H1 q (.tup [.ty T, .ty U])) := Gr.laid nq
  have Gq1 : Gr (OwA σ ρ1) F1 H1 F1 (upd H1 q (.tup [.ty T, .ty U])) := Gr.laid nq
  have S2 := S1.lay (o := .tup [.ty T, .ty U]) nq
  have ov2 := ov.stay Gq1 (Shape.refl ρ1)
  refine ⟨v, q, _, _, [.type T, .type U], _, rfl, upd_same, .cons (.ty T) (.cons (.ty U) .nil), ov2.tyx S2 h2, kitAny_cons (kit_ty (k.ok d)) (fun e => kitAny_cons (kit_ty (kU.ok d)) (fun e2 => ?_) (fun e2 => ?_)) (fun e => ?_), kk _ F1 _ (G1.trans Gq) S2 s1 (Rp.bl _)⟩
  · show _ = some (isD T d || isD U d)
    rw [e, e2]; exact kitAny_nil
  · show (isD T d || isD U d) = true
    rw [e2, Bool.or_true]
  · show (isD T d || isD U d) = true
    rw [e, Bool.true_or]
/-! ### {} -/
def fDNew : FE := fun ρ => some (.new (.dict []), ρ)
def fDNewT : FE := fun ρ => some (.new (.dict [(.none, .none)]), ρ)
theorem ej_dnew : EJ X (.Dict [] [] pos) fDNew := PE.weak pe_dnewK fun σ H Q c p np => by
  obtain ⟨F, ρ, o, ρ', S, hf, k⟩ := c
  cases hf
  obtain ⟨G, S', ow⟩ := new_dk (Ow := OwA σ ρ) S np (zs := []) (ds := []) .nil
  exact k _ _ _ G S' (Shape.refl ρ) ow
theorem ej_dnewT : EJ X (.Dict [] [] pos) fDNewT := PE.weak pe_dnewT fun σ H Q c p np => by
  obtain ⟨F, ρ, o, ρ', S, hf, k⟩ := c
  cases hf
  obtain ⟨G, S', ow⟩ := new_dt (Ow := OwA σ ρ) S np (zs := []) (ds := []) .nil
  exact k _ _ _ G S' (Shape.refl ρ) ow
end
end DL

namespace DL
open PySem PySem.Spec L2
abbrev pSub : D → D → Option Opd := pI fun i j => some (.int (i - j))
/-! ### d[k], x = (v, w) -/
def gPutSet (i : Nat) (fc fx : FE) (fa : FA) : FS := fun ρ => (fa ρ).bind fun r => match r.1 with
  | [.frz v, .frz w] => (fc r.2).bind fun c => (fx c.2).bind fun x => match c.1 with
    | .own j => match (x.2[j]? : Option Cell) with
      | some (.own b o) => (putD o x.1 v).bind fun o' => some (.nx ((x.2.set j (.own b o')).set i (.val w)))
      | _ => none
    | _ => none
  | _ => none
section
variable {X : Cx} {o ix : Expr} {x : Str} {i : Nat} {vs : List Expr} {fo fx : FE} {fa : FA} {ps px pt pt2 pos : Pos} {kt k2 : Nat}
theorem sj_putSet (hu : X.A.units + 1 < cLine) (hc : X.calm = true) (hN : X.N.Nodup) (hi : X.N[i]? = some x) (hx : Loc X.env.scope x) (ha : AJ X vs fa) (ho : EJ X o fo) (hix : EJ X ix fx)
    (hf : X.fn x = true ∨ X.env.scope.names.lookup x = some .local := by first | exact .inl rfl | exact .inr rfl | assumption)
    (hasg : ∀ v, assign (.Subscript o ix ps) X.env v = (do
      let ov ← holding [v] (eval o X.env)
      let iv ← holding [v, ov] (eval ix X.env)
      standAt ps
      holding [v, ov, iv] (setItem ov iv v)
      release [v, ov, iv] []) := by intro _; rfl)
    (hp1 : (assignEach [.Subscript o ix ps, .Name x px] X.env).map (·.2) = assign (.Subscript o ix ps) X.env :: (assignEach [.Name x px] X.env).map (·.2) := by rfl)
    (hn : (assignEach [.Subscript o ix ps, .Name x px] X.env).length = 2 := by rfl)
    (hst : (assignEach [.Subscript o ix ps, .Name x px] X.env).findIdx? (·.1) = none := by rfl) (hs : swapsWithSole [.Tuple [.Subscript o ix ps, .Name x px] kt pt] (.Tuple vs k2 pt2) pos.line X.env = pure false := by rfl)
    (hw : swappedStores [.Tuple [.Subscript o ix ps, .Name x px] kt pt] (.Tuple vs k2 pt2) X.env = pure none := by rfl) (h1 : (assignEach [.Tuple [.Subscript o ix ps, .Name x px] kt pt] X.env).map (·.2) = [assign (.Tuple [.Subscript o ix ps, .Name x px] kt pt) X.env] := by rfl) :
    SJ X (.Assign [.Tuple [.Subscript o ix ps, .Name x px] kt pt] (.Tuple vs k2 pt2) pos) (gPutSet i fo fx fa) := by
  refine PS.weak (ps_asg (pe_tup ha) (pg_tup hc (pgs_cons (pg_sub ho hix (set_all hu) hasg) (pgs_cons (pg_name hN hi hx hf) pgs_nil) hp1) hn hst) hs hw h1) fun D σ H c => ?_
  obtain ⟨B, F, ρ, r, A, hg, p⟩ := c
  simp only [gPutSet, Option.bind_eq_some_iff] at hg
  obtain ⟨⟨os, ρ1⟩, g1, g2⟩ := hg
  split at g2
  · rename_i v w e
    simp only at e
    subst e
    simp only [Option.bind_eq_some_iff] at g2
    obtain ⟨⟨c1, ρ2⟩, g3, ⟨x1, ρ3⟩, g4, g5⟩ := g2
    split at g5
    · rename_i j e1
      simp only at e1
      subst e1
      split at g5
      · rename_i b w0 e2
        simp only [Option.bind_eq_some_iff] at g5 e2
        obtain ⟨w', g6, g7⟩ := g5
        cases g7
        refine ⟨F, ρ, _, ρ1, A.sd, g1, fun us F1 H1 G1 S1 s1 av => ?_⟩
        obtain ⟨v1, v2, rfl, r1, r2⟩ : ∃ v1 v2, us = [v1, v2] ∧ Rp X.K F1 v1 v ∧ Rp X.K F1 v2 w := by
          match us, av with
          | [a, b], ⟨h1, h2, _⟩ => exact ⟨a, b, rfl, h1, h2⟩
        refine ⟨by show 2 ≤ sizeLine; decide, fun q nq => ⟨q, [v1, v2], rfl, .inl (.inl upd_same), rfl, ?_⟩⟩
        have A1 := A.expr G1 S1 s1
        have A2 : Ba X.K B F1 (upd H1 q (.tup [v1, v2])) σ ρ1 := A1.expr (Gr.laid nq) (S1.lay nq) (Shape.refl ρ1)
        refine ⟨v1, [v2], rfl, ?_⟩
        refine canE_B' A2 g3 fun cv F2 H2 A3 oc s12 => ?_
        refine ⟨F2, ρ2, x1, ρ3, A3.sd, g4, fun xv F3 H3 G3 S3 s3 ox => ?_⟩
        have A4 := A3.expr G3 S3 s3
        have oc3 := oc.stay G3 s3
        obtain ⟨u, rfl, q1, q2, q3⟩ := own_top oc3 S3 e2
        exact putD_use S3.sub q3 g6 ox ((r1.mono s12).mono G3.fr) q2 fun o t => ⟨v2, [], rfl, rfl, p _ _ _ ((A4.put e2 q1 q2 t).set i ((r2.mono s12).mono G3.fr))⟩
      · cases g5
    · cases g5
  · cases g2
end
end DL
theorem L2.Room.units65 {k : Nat} {A : PySem.Around} (r : L2.Room k A) : A.units + 65 < PySem.cLine := by have := r.un; omega

namespace DL
open PySem PySem.Spec L2
/-! ### a for over what stands already -/
theorem for_run {K : PySem.W.Frag} {H F1 H1 : Hp} {σ : L2.St} {ρ1 : Ce} {B : Bs} {D : Ends} {h : HT} {is : List Nat} {g : FS} {J : It} {ds : List PyData} {r : Rs} (A1 : Ba K B F1 H1 σ ρ1) (hH : ∀ a, H1 a = none → H a = none) (hB : ∀ a, H a = none → B.H0 a = none) (wk : WalkOk K H F1 H1 σ ρ1 none J ds) (h2 : goFor h g ds ρ1 = some r) (p : PostS K B D r) :
    ∃ W : Nat → Nat → L2.St → Hp → Prop, (∃ m, W 0 m σ H1) ∧ ∀ i m σ H, W i m σ H →
      (J.stop i H ∧ D.nx σ H) ∨ (J.go i H ∧ ∃ N : L2.St → Hp → Prop, (∀ σ' H', N σ' H' → ∃ m', m' < m ∧ W (i + 1) m' σ' H') ∧ ∀ x H', J.yld i H x H' → canG K h is x σ H' fun σ2 H2 => canS K g { D with nx := N, ct := N, bk := D.nx } σ2 H2) := by
  obtain ⟨Gc, Y, Sr, W, hSr, hG, hY⟩ := wk
  have A1' := A1.re
  refine for_it W (fun k σ2 H2 => ∃ F2 ρ2, Ba K (reB B F1 H1 σ ρ1) F2 H2 σ2 ρ2 ∧ goFor h g (ds.drop k) ρ2 = some r) ⟨F1, ρ1, A1', by simpa using h2⟩ (fun k σ2 H2 hk ⟨F2, ρ2, A2, _⟩ => ?_) (fun k x σ2 H2 H3 hk ⟨F2, ρ2, A2, q2⟩ y => ?_) (fun σ2 H2 ⟨F2, ρ2, A2, q2⟩ => ?_)
  · refine hG H2 (A2.fr0.trans A2.sd.sub) fun a o sr e => ?_
    rcases hSr a sr with ⟨n, nO⟩ | ⟨i, b, d, z, _⟩
    · refine A2.keep0 a o e (fun z => A1.wf0 a (.inl z) (hB a n)) fun z => ?_
      rcases z with z | ⟨i, d, h1, h2⟩
      · exact A1.wf0 a (.inr z) (hB a n)
      · exact nO ⟨i, false, d, h1, h2⟩
    · cases z
  · obtain ⟨d, hd, yr⟩ := hY k H2 x H3 (A2.fr0.trans A2.sd.sub) y
    obtain ⟨F3, G3, S3, r3, s3⟩ := yr.take (Ow := OwA σ2 ρ2) A2.fr0 A2.sd
    have A3 := A2.expr G3 S3 (Shape.refl ρ2)
    rw [getElem?_drop0 hd] at q2
    simp only [goFor, Option.bind_eq_some_iff] at q2
    obtain ⟨ρ4, e4, rr, e5, e6⟩ := q2
    refine ⟨F3, ρ2, d, ρ4, S3, r3, e4, fun σ4 t4 => ?_⟩
    refine ⟨_, F3, ρ4, rr, t4.ba A3, e5, ?_⟩
    cases rr with
    | nx ρ5 => exact fun F5 H5 σ5 A5 => ⟨F5, ρ5, A5, e6⟩
    | ct ρ5 => exact fun F5 H5 σ5 A5 => ⟨F5, ρ5, A5, e6⟩
    | bk ρ5 =>
      cases e6
      exact fun F5 H5 σ5 A5 => p F5 H5 σ5 (A1.back A5)
    | rt o ρ5 =>
      cases e6
      exact fun F5 H5 σ5 v A5 ov => p F5 H5 σ5 v (A1.back A5) (OpOk.back A1 ov)
  · rw [List.drop_of_length_le (Nat.le_refl _)] at q2
    cases q2
    exact p F2 H2 σ2 (A1.back A2)
/-! ### the cells of the script -/
/-- a script, its first number alone: the list that is made of it -/
def spCells (K : PySem.W.Frag) : Sp := fun vs H Q _ => ∃ (a : Addr) (ns : List Int), vs = [.ref a, .int 1] ∧ SqL K H a (ns.map V.int) ∧ ns.length ≤ 63 ∧
  ∀ p H' (zs : List Int), (∀ b o, H b = some o → H' b = some o) → H p = none → H' p = some (.lst (zs.map V.int)) → zs ≠ [] → Q (.ref p) H'
theorem cutV_map (ns : List Int) (lo hi : Option Int) : ∃ ms : List Int, cutV (ns.map V.int) lo hi = ms.map V.int ∧ ms.length ≤ ns.length := by
  unfold cutV
  refine ⟨(ns.drop _).take _, by rw [List.map_take, List.map_drop], ?_⟩
  rw [List.length_take, List.length_drop]
  omega
/-- its loop's body, the names in the order script, many, cells, k, cell, at -/
def gCellsB : FS := gSeq (gSet 5 (f2 (pI gMod) (fB pInt (faC (fN 3) faN)) (fB pLen (faC (fN 2) faN)))) (gPut (fN 2) (fN 5) (f2 pAdd (f2 pIx (fN 2) (fN 5)) (f2 pMul (fN 4) (f2 pAdd (fN 3) (fC (.int 2))))))
theorem ixN_in {n : Nat} {i : Int} (h0 : 0 ≤ i) (h1 : i < n) : ixN n i = some i.toNat := by
  unfold ixN; rw [if_pos h0, if_pos h1]
theorem atI_in {α : Type} {xs : List α} {i : Int} (h0 : 0 ≤ i) (h1 : i < xs.length) : ∃ x, xs[i.toNat]? = some x ∧ atI xs i = some x := by
  unfold atI
  rw [ixN_in h0 h1, Option.bind_some]
  exact ⟨_, List.getElem?_eq_getElem (by omega), List.getElem?_eq_getElem (by omega)⟩
theorem cells_loop : ∀ (ms : List Int) (k : Nat) (zs : List Int) (c3 c4 c5 : Cell), k + ms.length ≤ 100 → zs ≠ [] → ∃ (zs' : List Int) (d3 d4 d5 : Cell), zs' ≠ [] ∧
    goFor (hT [3, 4]) gCellsB (enumD k (ms.map .int)) [.un, .val (.int 1), .own false (.list (zs.map .int)), c3, c4, c5] = some (.nx [.un, .val (.int 1), .own false (.list (zs'.map .int)), d3, d4, d5])
  | [], k, zs, c3, c4, c5, _, hz => ⟨zs, c3, c4, c5, hz, rfl⟩
  | m :: ms, k, zs, c3, c4, c5, hk, hz => by
    have hl : 0 < (zs.length : Int) := by have := List.length_pos_iff.mpr hz; omega
    have h0 : 0 ≤ (k : Int) % (zs.length : Int) := Int.emod_nonneg _ (by omega)
    have h1 : (k : Int) % (zs.length : Int) < zs.length := Int.emod_lt_of_pos _ hl
    obtain ⟨z, hz1, hz2⟩ := atI_in (xs := zs.map PyData.int) (i := (k : Int) % (zs.length : Int)) h0 (by simpa using h1)
    obtain ⟨y, hy, rfl⟩ := List.mem_map.mp (List.mem_of_getElem? hz1)
    have hm : gMul m ((k : Int) + 2) = some (.int (m * ((k : Int) + 2))) := gMul_ok (.inr (by simp at hk; omega))
    obtain ⟨zs', d3, d4, d5, hn, ih⟩ := cells_loop ms (k + 1) (zs.set ((k : Int) % (zs.length : Int)).toNat (y + m * ((k : Int) + 2))) (.val (.int k)) (.val (.int m)) (.val (.int ((k : Int) % (zs.length : Int)))) (by simp at hk; omega) (by
      intro q
      have := congrArg List.length q
      simp at this
      exact hz this)
    refine ⟨zs', d3, d4, d5, hn, ?_⟩
    have hx : ixN zs.length ((k : Int) % (zs.length : Int)) = some ((k : Int) % (zs.length : Int)).toNat := ixN_in h0 h1
    simp only [List.map_cons, enumD, goFor, hT, hSet, List.set_cons_succ, List.set_cons_zero, Option.bind_some, gCellsB, gSeq, gSet, f2, fB, faC, faN, fN, List.getElem?_cons_succ, List.getElem?_cons_zero, argO, derefs, deref, pInt, pLen, frD, pI, gMod,
      List.length_map, if_pos hl, Option.map_some, gPut, pIx, hz2, fC, pAdd, pMul, hm, Option.some_or, putD, hx]
    rw [← ih]
    simp only [List.map_set]
    rfl
section
variable {K : PySem.W.Frag} {H : Hp} {a : Addr} {ns : List Int}
theorem cells_or (hS : SqL K H a (ns.map V.int)) (hl : ns.length ≤ 63) {R : VK} (k : ∀ p H1 (zs : List Int), (∀ b o, H b = some o → H1 b = some o) → H p = none → H1 p = some (.lst (zs.map V.int)) → zs ≠ [] → R (.ref p) H1) :
    tOrT K (tCB (fun xs H Q => ∃ p ys, xs = [.ref p] ∧ (SqL K H p ys ∨ SqT K H p ys) ∧ ∀ l, H l = none → Q (.ref l) (upd H l (.lst ys))) (tCons (tSl (rSlL K) (tVar 0) tNoPart (tPart (tVar 1))) tNil)) (tLst (tCons (tC (.int 0)) tNil)) (start ["script", "many", "cells", "k", "cell", "at"] [.ref a, .int 1]) H R := by
  refine ⟨.ref a, rfl, .int 1, rfl, 1, rfl, a, _, rfl, hS, fun p np => ?_⟩
  obtain ⟨ms, em, lm⟩ := cutV_map ns none (some 1)
  rw [em]
  refine ⟨p, _, rfl, .inl (.inl (.inl upd_same)), fun l nl => ?_⟩
  have nHl : H l = none := by
    by_cases e : l = p
    · rw [e, upd_same] at nl; cases nl
    · rw [upd_ne e] at nl; exact nl
  have kp1 : ∀ b o, H b = some o → (upd (upd H p (.lst (ms.map V.int))) l (.lst (ms.map V.int))) b = some o := fun b o e => by
    rw [upd_ne (ne_of_none e nHl), upd_ne (ne_of_none e np)]; exact e
  refine ⟨!(ms.map V.int).isEmpty, .inl ⟨_, .inl (.inl upd_same), rfl⟩, ?_⟩
  cases ms with
  | cons m ms => exact L2.iteT (k l _ (m :: ms) kp1 nHl upd_same (by simp))
  | nil =>
    refine L2.iteF ⟨by show 1 ≤ sizeLine; decide, fun q nq => ?_⟩
    have nHq : H q = none := by
      cases e : H q with
      | none => rfl
      | some o => rw [kp1 q o e] at nq; cases nq
    exact k q _ [0] (fun b o e => by rw [upd_ne (ne_of_none e nHq)]; exact kp1 b o e) nHq upd_same (by simp)
theorem cells_for {H1 : Hp} {p : Addr} {zs : List Int} {D : Ends} (hS : SqL K H a (ns.map V.int)) (hl : ns.length ≤ 63) (kp : ∀ b o, H b = some o → H1 b = some o) (np : H p = none) (hp : H1 p = some (.lst (zs.map V.int))) (hz : zs ≠ [])
    (k : ∀ σ' H' x (zs' : List Int), σ'[2]? = some (some (.ref x)) → H x = none → (∀ b o, H b = some o → H' b = some o) → H' x = some (.lst (zs'.map V.int)) → zs' ≠ [] → D.nx σ' H') :
    tFor (iEnum K (tCons (tSl (rSlL K) (tVar 0) (tPart (tVar 1)) (tPart (tC (.int 63)))) tNil)) (canG K (hT [3, 4]) [3, 4]) (canS K gCellsB) D ((start ["script", "many", "cells", "k", "cell", "at"] [.ref a, .int 1]).set 2 (some (.ref p))) H1 := by
  have hS1 : SqL K H1 a (ns.map V.int) := Same.seq (fun b o e => kp b o e) hS
  refine ⟨.ref a, rfl, .int 1, rfl, 1, rfl, 63, rfl, a, _, rfl, hS1, fun l nl => ?_⟩
  obtain ⟨ms, em, lm⟩ := cutV_map ns (some 1) (some 63)
  rw [em]
  refine ⟨l, _, rfl, .inl (.inl upd_same), ?_⟩
  have ro : RpL K (fun _ => none) (zs.map V.int) (zs.map PyData.int) := RpL.of_ints zs
  let σ1 : L2.St := (start ["script", "many", "cells", "k", "cell", "at"] [.ref a, .int 1]).set 2 (some (.ref p))
  let ρ1 : Ce := [.un, .val (.int 1), .own false (.list (zs.map .int)), .un, .un, .un]
  have own : ∀ (i : Nat) b d, ρ1[i]? = some (.own b d) → i = 2 ∧ b = false ∧ d = .list (zs.map .int) := fun i b d h => by
    match i, h with
    | 2, h => cases h; exact ⟨rfl, rfl, rfl⟩
    | 0, h => cases h
    | 1, h => cases h
    | 3, h => cases h
    | 4, h => cases h
    | 5, h => cases h
    | n + 6, h => cases h
  have A : Ba K (bs0 (fun _ => none) H (fun _ => False) 0) (fun _ => none) H1 σ1 ρ1 := by
    refine ⟨⟨(fun b o e => by cases e), rfl, fun i d h => ?_, fun i b d h => ?_, fun i j b d c e x h1 h2 _ _ => (own i b d h1).1.trans (own j c e h2).1.symm⟩, fun _ _ e => e, fun _ _ e => .inl e, fun b o e _ _ => kp b o e, fun b e => ?_, fun i b d x h1 h2 => ?_, fun i d h => ?_, fun x z => (z.elim id id).elim⟩
    · match i, h with
      | 1, h => cases h; exact ⟨.int 1, rfl, .int 1⟩
      | 0, h => cases h
      | 2, h => cases h
      | 3, h => cases h
      | 4, h => cases h
      | 5, h => cases h
      | n + 6, h => cases h
    · obtain ⟨rfl, rfl, rfl⟩ := own i b d h
      exact ⟨p, rfl, rfl, .inl ⟨_, _, rfl, hp, ro⟩⟩
    · show H b = none
      cases q : H b with
      | none => rfl
      | some o => rw [kp b o q] at e; cases e
    · obtain ⟨rfl, rfl, rfl⟩ := own i b d h1
      cases (show some (some (V.ref p)) = some (some (.ref x)) from h2)
      exact .inr ⟨rfl, .inr np⟩
    · obtain ⟨_, z, _⟩ := own i true d h
      cases z
  obtain ⟨zs', d3, d4, d5, hz', hg⟩ := cells_loop ms 0 zs .un .un .un (by omega) hz
  have nF : ∀ x, ¬ OwA σ1 ρ1 x ∨ x = p := fun x => by
    by_cases e : x = p
    · exact .inr e
    · refine .inl fun ⟨i, b, d, h1, h2⟩ => ?_
      obtain ⟨rfl, rfl, rfl⟩ := own i b d h1
      cases (show some (some (V.ref p)) = some (some (.ref x)) from h2)
      exact e rfl
  have A2 : Ba K (bs0 (fun _ => none) H (fun _ => False) 0) (fun _ => none) (upd H1 l (.lst (ms.map V.int))) σ1 ρ1 := A.expr (Gr.laid nl) (A.sd.lay nl) (Shape.refl ρ1)
  have wk : WalkOk K H1 (fun _ => none) (upd H1 l (.lst (ms.map V.int))) σ1 ρ1 none (Ite K l) (enumD 0 (ms.map .int)) := by
    have rm : RpL K (fun _ => none) (ms.map V.int) (ms.map PyData.int) := RpL.of_ints ms
    have nO : ¬ OwA σ1 ρ1 l := (nF l).elim id fun e => by rw [e, hp] at nl; cases nl
    refine walk_src upd_same (.inr (.inl ⟨nl, nO⟩)) (by rw [enumD_len, ← rm.length]; exact walk_enum) fun i H2 y H3 s2 q => ?_
    obtain ⟨T, z1, z2, e1, e2, e3, e4, e5⟩ := q
    cases e4
    obtain ⟨d, g1, g2⟩ := rm.get e5
    exact ⟨.tuple [.int i, d], by rw [enumD_get, g1]; simp, .inr ⟨T, _, z2, _, d, e1, e2, e3, .int _, g2, rfl⟩⟩
  refine for_run (B := bs0 (fun _ => none) H (fun _ => False) 0) (H := H1) A2 (fun x e => ?_) (fun x e => ?_) wk hg fun F' H' σ' A' => ?_
  · by_cases q : x = l
    · rw [q]; exact nl
    · rw [upd_ne q] at e; exact e
  · show H x = none
    cases q : H x with
    | none => rfl
    | some o => rw [kp x o q] at e; cases e
  · obtain ⟨x, q1, q2, q3⟩ := A'.sd.own 2 false _ rfl
    obtain ⟨xs, h1, r⟩ := top_list q3
    rw [RpL.ints r] at h1
    refine k σ' H' x zs' q1 ((A'.own0 2 false _ x rfl q1).elim (fun z => nomatch z.1) fun z => z.2.elim False.elim id) (fun b o e => A'.keep0 b o e id id) h1 hz'
end
end DL

namespace DL
open PySem PySem.Spec L2
/-! ### the law's own def, behind its first line -/
def cellsL (n : Nat) (urn : D) : Ce := .un :: .own false urn :: List.replicate (n - 2) .un
def spLaw (K : PySem.W.Frag) : Sp := fun vs H Q _ => ∃ (a : Addr) (ns : List Int), vs = [.ref a] ∧ SqL K H a (ns.map V.int) ∧ ns.length ≤ 63 ∧ ∀ H', Q (.bl true) H'
theorem SsJ_run {X : Cx} {st : List Stmt} {g : FS} (h : SsJ X st g) : PSs X st (canS X.K g) := h
/-- urn = _law_box(_law_cells(script, 1), 0) -/
theorem law_urn {K : PySem.W.Frag} {H : Hp} {a : Addr} {ns : List Int} {fb : Fn} {E E' : XK} {σ : L2.St} {Q : VK} (hσ : σ[0]? = some (some (.ref a))) (hS : SqL K H a (ns.map V.int)) (hl : ns.length ≤ 63)
    (k : ∀ (zs : List Int), zs ≠ [] → ∃ urn, fb [.list (zs.map .int), .int 0] = some urn ∧ ∀ u F2 H2, Same F2 H2 → F2 u = none → Top K F2 H2 u urn → Q (.ref u) H2) :
    tCall (spN K 2 fb) [] E (tCons (tCall (spCells K) [] E' (tCons (tVar 0) (tCons (tC (.int 1)) tNil))) (tCons (tC (.int 0)) tNil)) σ H Q := by
  refine ⟨.ref a, hσ, a, ns, rfl, hS, hl, fun p H1 zs kp np hp hz => ?_⟩
  obtain ⟨urn, h1, h2⟩ := k zs hz
  refine ⟨rfl, fun b => if b = p then H1 p else none, [.list (zs.map .int), .int 0], urn, fun b o e => ?_, .cons (.lst (by show (if p = p then _ else _) = _; rw [if_pos rfl]; exact hp) (RpL.of_ints zs)) (.cons (.int 0) .nil), h1, fun u F2 H2 _ s2 nu nF t => h2 u F2 H2 s2 nF t⟩
  by_cases q : b = p
  · subst q
    have e' : (if b = b then H1 b else none) = some o := e
    rw [if_pos rfl] at e'; exact e'
  · have e' : (if b = p then H1 p else none) = some o := e
    rw [if_neg q] at e'; cases e'
theorem law_rest {K : PySem.W.Frag} {H2 F2 : Hp} {u a : Addr} {urn : D} {N : List Str} (hN : 2 ≤ N.length) (s2 : Same F2 H2) (nF : F2 u = none) (t : Top K F2 H2 u urn) {g : FS} (hg : (g (cellsL N.length urn)).bind endD = some (.bool true)) {Q : VK} (q : ∀ H', Q (.bl true) H') {D : Ends} (hD : D.rt = Q) :
    canS K g D ((start N [.ref a]).set 1 (some (.ref u))) H2 := by
  obtain ⟨rs, h1, h2⟩ := Option.bind_eq_some_iff.mp hg
  have own : ∀ (i : Nat) b d, (cellsL N.length urn)[i]? = some (.own b d) → i = 1 ∧ b = false ∧ d = urn := fun i b d h => by
    match i, h with
    | 0, h => cases h
    | 1, h => cases h; exact ⟨rfl, rfl, rfl⟩
    | i + 2, h =>
      have h' : (List.replicate (N.length - 2) Cell.un)[i]? = some (.own b d) := h
      rw [List.getElem?_replicate] at h'
      split at h' <;> cases h'
  have hs : ((start N [.ref a]).set 1 (some (.ref u)))[1]? = some (some (.ref u)) := by
    rw [List.getElem?_set_self]
    unfold L2.start
    simp
    omega
  have S : Sd K F2 H2 ((start N [.ref a]).set 1 (some (.ref u))) (cellsL N.length urn) := by
    refine ⟨s2, ?_, fun i d h => ?_, fun i b d h => ?_, fun i j b d c e x h1 h2 _ _ => (own i b d h1).1.trans (own j c e h2).1.symm⟩
    · unfold cellsL L2.start; simp; omega
    · match i, h with
      | 0, h => cases h
      | 1, h => cases h
      | i + 2, h =>
        have h' : (List.replicate (N.length - 2) Cell.un)[i]? = some (.val d) := h
        rw [List.getElem?_replicate] at h'
        split at h' <;> cases h'
    · obtain ⟨rfl, rfl, rfl⟩ := own i b d h
      exact ⟨u, hs, nF, t⟩
  let B : Bs := ⟨F2, fun b => if b = u then none else H2 b, fun _ => False, fun _ => False, fun _ => 0⟩
  have A : Ba K B F2 H2 ((start N [.ref a]).set 1 (some (.ref u))) (cellsL N.length urn) := by
    refine ⟨S, Same.refl F2, fun _ _ e => .inl e, fun b o e _ _ => ?_, fun b e => ?_, fun i b d x h1 h2 => ?_, fun i d h => ?_, fun x z => (z.elim id id).elim⟩
    · have e' : (if b = u then none else H2 b) = some o := e
      by_cases z : b = u
      · rw [if_pos z] at e'; cases e'
      · rw [if_neg z] at e'; exact e'
    · show (if b = u then none else H2 b) = none
      by_cases z : b = u
      · rw [if_pos z]
      · rw [if_neg z]; exact e
    · obtain ⟨rfl, rfl, rfl⟩ := own i b d h1
      rw [hs] at h2
      cases h2
      exact .inr ⟨rfl, .inr (if_pos rfl)⟩
    · obtain ⟨_, z, _⟩ := own i true d h
      cases z
  refine ⟨B, F2, _, rs, A, h1, ?_⟩
  cases rs with
  | nx ρ' => cases h2
  | bk ρ' => cases h2
  | ct ρ' => cases h2
  | rt o ρ' =>
    intro F' H' σ' v A' ov
    obtain ⟨F3, ρ3, A3, r3, _⟩ := ov.res A' h2
    cases r3
    rw [hD]
    exact q H'
end DL

namespace DL
open PySem PySem.Spec L2
/-! ### names of the module -/
theorem ej_globI {X : Cx} {x : Str} {i : Int} {pos : Pos} (hm : ∃ t, X.mg x = some (.int i t)) (hg : Gl X x := by rfl) (hd : (x == ("__debug__" : Str)) = false := by decide) : EJ X (.Name x pos) (fC (.int i)) := by
  obtain ⟨t, hm⟩ := hm
  exact ej_c (pe_glob hg hm (show RelV (.int i) (.int i t) from ⟨t, rfl⟩) hd) fun _ => .int i
theorem ej_globS {X : Cx} {x s : Str} {pos : Pos} (hm : ∃ t, X.mg x = some (.str s t)) (hg : Gl X x := by rfl) (hd : (x == ("__debug__" : Str)) = false := by decide) : EJ X (.Name x pos) (fC (.str s)) := by
  obtain ⟨t, hm⟩ := hm
  exact ej_c (pe_glob hg hm (show RelV (.str s) (.str s t) from ⟨t, rfl⟩) hd) fun _ => .str s
/-! ### tuple(range(a, b)) -/
theorem rngD_map (a : Int) : ∀ n : Nat, rngD a 1 n = ((List.range n).map fun (k : Nat) => a + (k : Int)).map .int := by
  intro n
  induction n generalizing a with
  | zero => rfl
  | succ n ih =>
    rw [List.range_succ_eq_map]
    show PyData.int a :: rngD (a + 1) 1 n = _
    rw [ih (a + 1)]
    simp only [List.map_cons, List.map_map]
    congr 1
    · simp
    · refine List.map_congr_left fun k _ => ?_
      show PyData.int _ = PyData.int _
      congr 1
      show a + 1 + (k : Int) = a + ((k + 1 : Nat) : Int)
      omega
def fTupRg (fa fb : FE) : FE := fun ρ => (fa ρ).bind fun r => (fb r.2).bind fun q => match r.1, q.1 with
  | .frz (.int i), .frz (.int j) => if okR i = true ∧ okR j = true ∧ (j - i).toNat ≤ 100000 then some (.frz (.tuple (rngD i 1 (j - i).toNat)), q.2) else none
  | _, _ => none
theorem ej_tupRg {X : Cx} {a b : Expr} {fa fb : FE} {p p2 pos pos2 : Pos} (hc : X.calm = true) (hm : X.mg "tuple" = none) (hm2 : X.mg "range" = none) (ha : EJ X a fa) (hb : EJ X b fb) (hg : Gl X "tuple" := by rfl) (hg2 : Gl X "range" := by rfl)
    (na : starEach [a, b] X.env = (false, eval a X.env) :: starEach [b] X.env := by rfl) (nb : starEach [b] X.env = (false, eval b X.env) :: starEach [] X.env := by rfl) (hp : (backTo pos2 (starEach [b] X.env)).any (·.1) = false := by rfl)
    (nc : starEach [.Call (.Name "range" p2) [a, b] [] pos2] X.env = (false, eval (.Call (.Name "range" p2) [a, b] [] pos2) X.env) :: starEach [] X.env := by rfl) :
    EJ X (.Call (.Name "tuple" p) [.Call (.Name "range" p2) [a, b] [] pos2] [] pos) (fTupRg fa fb) := by
  refine PE.weak (pe_tupRg hc hg hm (prg_2 hg2 hm2 ha hb na nb hp) nc) fun σ H Q c => ?_
  obtain ⟨F, ρ, o, ρ', S, hf, k⟩ := c
  simp only [fTupRg, Option.bind_eq_some_iff] at hf
  obtain ⟨⟨x, ρ1⟩, h1, ⟨y, ρ2⟩, h2, h3⟩ := hf
  split at h3
  · rename_i i j e1 e2
    simp only at e1 e2
    subst e1 e2
    split at h3
    · rename_i hz
      cases h3
      refine two S h1 h2 fun v u F1 H1 G1 S1 s1 ov ou => ?_
      refine ⟨i, j, int_of ov S1 rfl, int_of ou S1 rfl, ?_, fun q nq => ?_⟩
      · have b1 := okR_of hz.1
        have b2 := okR_of hz.2.1
        exact ⟨b1.1, b1.2, b2.1, b2.2, Nat.le_trans hz.2.2 (by decide)⟩
      · have r : RpL X.K F1 (rgV i j) (rngD i 1 (j - i).toNat) := by
          rw [rngD_map]
          have := RpL.of_ints (K := X.K) (F := F1) ((List.range (j - i).toNat).map fun (k : Nat) => i + (k : Int))
          rw [List.map_map] at this
          exact this
        obtain ⟨F2, G2, S2, o2⟩ := new_tup (Ow := OwA σ ρ) S1 nq r
        exact k _ _ _ (G1.trans G2) S2 s1 o2
    · cases h3
  · cases h3
/-! ### a, b = e -/
def gUnp (h : HT) (fe : FE) : FS := fun ρ => (fe ρ).bind fun r => (frD r.1).bind fun d => (h d r.2).bind fun ρ' => some (.nx ρ')
theorem gunp_of {K : PySem.W.Frag} {h : HT} {is : List Nat} {fe : FE} {D : Ends} {σ : L2.St} {H : Hp} (c : canS K (gUnp h fe) D σ H) : tAsg (canE K fe) (canG K h is) D σ H := by
  obtain ⟨B, F, ρ, r, A, hg, p⟩ := c
  simp only [gUnp, Option.bind_eq_some_iff] at hg
  obtain ⟨⟨x, ρ1⟩, h1, d, h2, ρ', h3, h4⟩ := hg
  cases h4
  refine canE_B A h1 fun v F' H' A' o => ?_
  obtain ⟨F2, A2, r2, _⟩ := o.freezeB A' h2
  exact ⟨F2, ρ1, d, ρ', A2.sd, r2, h3, fun σ' t => p F2 H' σ' (t.ba A2)⟩
theorem sj_unp {X : Cx} {tg e : Expr} {h : HT} {is : List Nat} {fe : FE} {pos : Pos} (he : EJ X e fe) (hg : GJ X tg h is) (hs : swapsWithSole [tg] e pos.line X.env = pure false := by rfl) (hw : swappedStores [tg] e X.env = pure none := by rfl)
    (h1 : (assignEach [tg] X.env).map (·.2) = [assign tg X.env] := by rfl) : SJ X (.Assign [tg] e pos) (gUnp h fe) :=
  PS.weak (ps_asg he hg hs hw h1) fun _ _ _ c => gunp_of c
end DL

/-! sorted of tuples of ints, of any lengths, empty ones too -/
namespace DL
open PySem PySem.Spec L2 PyProof.Rows
theorem lexLt_eq : ∀ a b : List Int, HT.lexLt a b = lexL a b
  | [], [] => rfl
  | [], _ :: _ => rfl
  | _ :: _, [] => rfl
  | x :: a, y :: b => by
    show (if x = y then HT.lexLt a b else decide (x < y)) = if x = y then lexL a b else decide (x < y)
    rw [lexLt_eq a b]
section
variable {prog : Program} {w : World} {A : Around} {E : Value → Shared → Prop} {s : Shared}
theorem tupE_lt1 {v u : Value} {ns ms : List Int} {Q : Bool → Shared → Prop} (hu : A.units < cLine) (hv : TS.TupInts s.heap v ns) (hw : TS.TupInts s.heap u ms) (h : Q (lexL ns ms) s) : wpAny (model prog w) A (keyLt' oneType' v u) Q E s := by
  obtain ⟨a, xs, rfl, ⟨⟨cls, dd, data, sl⟩, ho, hc, n, hd⟩, i1⟩ := hv
  obtain ⟨b, ys, rfl, ⟨⟨cls2, dd2, data2, sl2⟩, ho2, hc2, n2, hd2⟩, i2⟩ := hw
  simp only at hc hd hc2 hd2
  subst hc hd hc2 hd2
  rw [keyLt'_oneType, oneLt'_eq]
  simp only [if_true]
  refine wpAny_bind (wpAny_cRoomFor hu ?_)
  refine wpAny_bind (wpAny_callSpecialIfBound?_slot (name := "__lt__") ⟨_, ho, rfl⟩ PySem.F.slot_tuple_lt (call_meets PySem.F.slot_tuple_lt ⟨_, ho, rfl⟩ PySem.F.entry_tuple_lt (PySem.F.args_tuple_lt_2 _ _) (HT.tuple_lt_ints a b xs ys n n2 dd dd2 sl sl2 ns ms i1 i2) ⟨ho, ho2, ?_⟩))
  exact wpAny_truthy_bool (by rw [lexLt_eq]; exact h)
theorem tupE_lt0 {v u : Value} {ns ms : List Int} {Q : Bool → Shared → Prop} (hu : A.units < cLine) (hv : TS.TupInts s.heap v ns) (hw : TS.TupInts s.heap u ms) (h : Q (lexL ns ms) s) : wpAny (model prog w) A (keyLt' general' v u) Q E s := by
  obtain ⟨a, xs, rfl, t1, i1⟩ := hv
  obtain ⟨b, ys, rfl, t2, i2⟩ := hw
  show wpAny (model prog w) A (oneLt' false (.ref a) (.ref b)) Q E s
  rw [oneLt'_eq]
  simp only [Bool.false_eq_true, if_false]
  refine wpAny_bind (show wpAny (model prog w) A (compareOp .Lt (.ref a) (.ref b)) _ E s from HT.lt_tupInts t1 t2 i1 i2 hu ?_)
  exact wpAny_truthy_bool (by rw [lexLt_eq]; exact h)
theorem firstsE {k : Value → List Int} : ∀ vs : List Value, (∀ v ∈ vs, TS.TupInts s.heap v (k v)) → ∃ fs : List (Option Value), (∀ (M : Model) (A : Around) (E : Value → Shared → Prop) (Q : List (Option Value) → Shared → Prop), Q fs s → wpAny M A (vs.mapM firstOfTuple') Q E s) ∧
    (fs.all (·.isSome) = true → ∀ v ∈ vs, k v ≠ [])
  | [], _ => ⟨[], fun M A E Q h => by rw [List.mapM_nil]; exact wpAny_pure h, fun _ => nofun⟩
  | v :: vs, hp => by
    obtain ⟨fs, h1, h2⟩ := firstsE vs fun u hu => hp u (List.mem_cons_of_mem _ hu)
    obtain ⟨a, xs, rfl, ⟨o, ho, hc, n, hd⟩, i⟩ := hp v List.mem_cons_self
    refine ⟨xs[0]? :: fs, fun M A E Q h => ?_, fun hall u hu => ?_⟩
    · rw [List.mapM_cons]
      refine wpAny_bind ?_
      rw [PySem.W.kas_first_eq]
      refine wpAny_bind (PySem.W.Looks.here (show PySem.W.Looks M s.heap (typeOf (.ref a)) o.cls from (PySem.W.Looks.ld ho).andThen .now) ?_)
      rw [hc, if_neg (by first | decide | simp)]
      refine wpAny_bind (PyProof.Rows.listItems_at ho hd (wpAny_pure ?_))
      exact wpAny_bind (h1 M A E (fun bs s' => wpAny M A (pure (xs[0]? :: bs)) Q E s') (wpAny_pure h))
    · rw [List.all_cons, Bool.and_eq_true] at hall
      rcases List.mem_cons.mp hu with rfl | hu
      · intro z
        have l := i.length
        rw [z, List.length_nil, Array.length_toList] at l
        rw [Array.getElem?_eq_none (by omega)] at hall
        cases hall.1
      · exact h2 hall.2 u hu
theorem kindE {k : Value → List Int} {vs : List Value} (h2 : 2 ≤ vs.length) (hp : ∀ v ∈ vs, TS.TupInts s.heap v (k v)) (he : ¬ ∀ v ∈ vs, k v ≠ []) :
    ∃ κ, (κ = general' ∨ κ = oneType') ∧ ∀ (Q : SortKind → Shared → Prop) (E : Value → Shared → Prop), Q κ s → wpAny (model prog w) A (keyKind' vs.toArray) Q E s := by
  obtain ⟨fs, h1, h3⟩ := firstsE vs hp
  have hall : ¬ fs.toArray.all (fun x => x.isSome) = true := fun z => he (h3 (by simpa using z))
  have ty : ∀ v ∈ vs, PySem.W.Looks (model prog w) s.heap (typeOf v) (.type "tuple") := fun v hv => by
    obtain ⟨a, xs, rfl, ⟨o, ho, hc, n, hd⟩, i⟩ := hp v hv
    rw [← hc]
    exact (PySem.W.Looks.ld ho).andThen .now
  by_cases c : (fs.toArray[0]?.bind id).isSome = true
  · refine ⟨general', .inl rfl, fun Q E hq => ?_⟩
    rw [keyKind'_eq, List.mapM_toArray, map_eq_pure_bind]
    refine wpAny_bind (wpAny_bind (h1 _ _ _ _ (wpAny_pure ?_)))
    rw [if_neg hall, if_pos c]
    exact wpAny_pure hq
  · refine ⟨oneType', .inr rfl, fun Q E hq => ?_⟩
    obtain ⟨v₁, v₂, rest, rfl⟩ : ∃ v₁ v₂ rest, vs = v₁ :: v₂ :: rest := by
      match vs, h2 with
      | [], h2 => simp at h2
      | [_], h2 => simp at h2
      | v₁ :: v₂ :: rest, _ => exact ⟨v₁, v₂, rest, rfl⟩
    rw [keyKind'_eq, List.mapM_toArray, map_eq_pure_bind]
    refine wpAny_bind (wpAny_bind (h1 _ _ _ _ (wpAny_pure ?_)))
    rw [if_neg hall, if_neg c]
    rw [oneTypeOnly'_eq, List.mapM_toArray, map_eq_pure_bind]
    refine wpAny_bind (wpAny_bind (wpAny_bind (PySem.W.kas_mapM (r := .type "tuple") _ (fun v hv Q' hq => (ty v hv).here hq) (wpAny_pure ?_))))
    have hall2 : ((List.map (fun _ => Value.type "tuple") (v₁ :: v₂ :: rest)).toArray.all fun x => x == Value.type "tuple") = true := by
      simp only [List.all_toArray, List.all_map, List.all_eq_true]
      intro _ _
      rfl
    have h0 : (List.map (fun _ => Value.type "tuple") (v₁ :: v₂ :: rest)).toArray[0]? = some (Value.type "tuple") := by simp
    rw [h0]
    simp only [hall2, if_true]
    exact wpAny_pure (wpAny_pure hq)
theorem tupsE_sortable {a : Addr} {vs : List Value} {k : Value → List Int} (h2 : 2 ≤ vs.length) (hu : A.units < cLine) (hp : ∀ v ∈ vs, TS.TupInts s.heap v (k v)) (ha : ∀ o, s.heap.get? a = some o → o.cls ≠ .type "tuple") : SrtO.SortableO prog w A s a vs fun v u => lexL (k v) (k u) := by
  by_cases he : ∀ v ∈ vs, k v ≠ []
  · exact tups_sortable (by omega) (fun v hv => ⟨hp v hv, he v hv⟩) ha
  intro h' keep
  have hp' : ∀ v ∈ vs, TS.TupInts h' v (k v) := fun v hv => (hp v hv).keeps fun b o e c => keep b o (fun z => by subst z; exact ha o e c) e
  obtain ⟨κ, hκ, h3⟩ := kindE (prog := prog) (w := w) (A := A) (s := { s with heap := h' }) h2 hp' he
  refine ⟨κ, h3, fun p q hm hm' => ?_⟩
  rcases hκ with rfl | rfl
  · exact tupE_lt0 (s := { s with heap := h' }) hu (hp' _ hm) (hp' _ hm') ⟨rfl, rfl⟩
  · exact tupE_lt1 (s := { s with heap := h' }) hu (hp' _ hm) (hp' _ hm') ⟨rfl, rfl⟩
theorem sorted_tupsE {l : Addr} {vs : List Value} {k : Value → List Int} {Q : Value → Shared → Prop} (hu : A.units + 65 < cLine) (hl : s.heap.IsList l vs.toArray) (hz : vs.length ≤ sizeLine) (hp : ∀ v ∈ vs, TS.TupInts s.heap v (k v))
    (h : ∀ (h' : Heap) (d : Addr) (out : List Value), SrtO.Srtd (fun v u => lexL (k v) (k u)) out → out.Perm vs → (∀ b o, s.heap.get? b = some o → h'.get? b = some o) → s.heap.objs.size ≤ d → (∃ n, h'.get? d = some (seqObj "list" out.toArray n)) → Q (.ref d) { s with heap := h' }) :
    wpAny (model prog w) A (call (.builtin "sorted") [.ref l]) Q E s := by
  refine SrtO.sorted_ord (swo_lexL k) hl hz (fun h2 h₁ a ha kk => ?_) fun out hs hb => ?_
  · refine tupsE_sortable (s := { s with heap := h₁ }) h2 (by show A.units + 1 + 1 < cLine; omega) (fun v hv => (hp v hv).keeps fun b o e _ => (kk b o e).2) fun o e => ?_
    have e' : some o = some (seqObj "list" vs.toArray 0) := e.symm.trans ha
    cases e'
    intro c
    exact absurd (Value.type.inj c) (by decide)
  · exact h _ _ out hs hb.perm (fun b o e => sortedAll_old e) (Nat.le_succ _) (sortedAll_at s.heap vs out.toArray)
end
/-! ### as a rule -/
def rSortTE (K : PySem.W.Frag) : List V → Hp → VK → Prop := fun vs H Q => ∃ (a : Addr) (xs : List V) (k : V → List Int), vs = [V.ref a] ∧ SqL K H a xs ∧ (∀ x ∈ xs, ∃ t, x = V.ref t ∧ H t = some (.tup ((k x).map V.int))) ∧
  ∀ ys p, SrtO.Srtd (fun v u => lexL (k v) (k u)) ys → ys.Perm xs → H p = none → Q (.ref p) (upd H p (.lst ys))
section
variable {X : Cx}
theorem cr_sortTE (hu : X.A.units + 65 < cLine) : CallR X (.builtin "sorted") (rSortTE X.K) := by
  intro pins s σ H vs us Q I r h
  obtain ⟨a, xs, k, rfl, hs, hx, q⟩ := h
  obtain ⟨its, rv, hl, hz⟩ := I.list hs
  obtain ⟨u, rfl, ru⟩ := vals1 r
  obtain rfl : u = Value.ref a := ru
  obtain ⟨e1, e2⟩ := refs_back rv fun x m => by
    obtain ⟨t, e, _⟩ := hx x m
    exact ⟨t, e⟩
  have e3 : ∀ v ∈ its, TS.TupInts s.heap v (k (backV v)) := fun v hv => by
    obtain ⟨t, rfl⟩ := e2 v hv
    have hm : V.ref t ∈ xs := by rw [e1]; exact List.mem_map.mpr ⟨_, hv, rfl⟩
    obtain ⟨t', e, ht⟩ := hx _ hm
    cases e
    exact tupI_raw I (.inl (.inl ht))
  refine sorted_tupsE hu hl.isList (by rw [← rv.length]; exact hz) e3 fun h' d out h1 h2 kp hd hn => ?_
  have h3 : ∀ u ∈ out, ∃ a, u = Value.ref a := fun u hu => e2 u (h2.mem_iff.mp hu)
  obtain ⟨n, hn⟩ := hn
  have hb : (out.map backV).Perm xs := by rw [e1]; exact h2.map backV
  refine ⟨.ref d, upd H d (.lst (out.map backV)), I.laid (t' := s.toks) kp hd ⟨?_, out, n, vals_back h3, hn⟩, rfl, q _ d (SrtO.srtd_map (f := backV) (lt := fun v u => lexL (k v) (k u)) h1) hb (I.hok.fresh hd)⟩
  rw [hb.length_eq]
  exact hz
end
def tupsE : List D → Option (List (List Int))
  | [] => some []
  | .tuple ds :: r => (intsD ds).bind fun ns => (tupsE r).map (ns :: ·)
  | _ => none
theorem tupsE_eq : ∀ {ds : List D} {nss : List (List Int)}, tupsE ds = some nss → ds = nss.map tupD
  | [], _, h => by cases h; rfl
  | .tuple es :: r, nss, h => by
    obtain ⟨ns, h1, h2⟩ := Option.bind_eq_some_iff.mp (show ((intsD es).bind fun ns => (tupsE r).map (ns :: ·)) = some nss from h)
    obtain ⟨m, h3, rfl⟩ := Option.map_eq_some_iff.mp h2
    rw [intsD_eq h1, tupsE_eq h3]; rfl
  | .none :: _, _, h => by cases h
  | .bool _ :: _, _, h => by cases h
  | .int _ :: _, _, h => by cases h
  | .str _ :: _, _, h => by cases h
  | .list _ :: _, _, h => by cases h
  | .dict _ :: _, _, h => by cases h
theorem tupsE_map : ∀ nss : List (List Int), tupsE (nss.map tupD) = some nss
  | [] => rfl
  | ns :: nss => by
    show ((intsD (ns.map .int)).bind fun ns => (tupsE (nss.map tupD)).map (ns :: ·)) = _
    rw [intsD_map, tupsE_map nss]; rfl
def pSortE : List D → Option Opd
  | [.list ds] => (tupsE ds).map fun nss => .new (.list ((sortL nss).map tupD))
  | _ => none
theorem cd_sortE {K : PySem.W.Frag} : CallD K (rSortTE K) pSortE := by
  intro F H σ ρ vs os ds o Q S av hd hp k
  unfold pSortE at hp
  split at hp
  · obtain ⟨nss, h1, rfl⟩ := Option.map_eq_some_iff.mp hp
    obtain ⟨v, o, rfl, h3, e⟩ := arg1 (H := H) av hd
    obtain ⟨a, xs, rfl, h4, r⟩ := h3.list S e
    have e1 := tupsE_eq h1
    rw [e1] at r
    obtain ⟨g1, g2⟩ := kF_map r
    refine ⟨a, xs, kF F, rfl, .inl (.inl h4), fun x hx => ?_, fun ys p st pm np => ?_⟩
    · obtain ⟨t, q1, q2, q3⟩ := g2 x hx
      exact ⟨t, q1, S.sub _ _ q2⟩
    · obtain ⟨G, S', ow⟩ := new_list (Ow := OwA σ ρ) S np (sorted_rp r pm st)
      exact k _ _ _ G S' ow
  · cases hp
theorem ej_sortedE {X : Cx} {e : Expr} {es : List Expr} {fa : FA} {p pos : Pos} (hu : X.A.units + 65 < cLine) (hm : X.mg "sorted" = none) (ha : AJ X (e :: es) fa) (hg : Gl X "sorted" := by rfl) (he : starEach (e :: es) X.env = (false, eval e X.env) :: starEach es X.env := by rfl) (hpl : (backTo pos (starEach es X.env)).any (·.1) = false := by rfl) : EJ X (.Call (.Name "sorted" p) (e :: es) [] pos) (fB pSortE fa) :=
  ej_bi (cr_sortTE hu) cd_sortE hg hm (by decide +kernel) ha (by decide) (by decide) he hpl
end DL

namespace DL
open PySem PySem.Spec L2
/-- def links_of(chains): -/
def g_links_of : FS := gSeq (gOwn 1 (fDNew)) (gSeq (gFor (fSeq (fN 0)) (hN 2) (gFor (fZip (faC (f2 pAdd (fLst (faC (fC (.int 0)) (faN))) (fB pList (faC (fN 2) (faN)))) (faC (fN 2) (faN)))) (hT [3, 4]) (gPut (fN 1) (fN 4) (fN 3)))) (gRet (fN 1)))
def fn_links_of : Fn := fnP 5 1 g_links_of
/-- def chains_from_links(links): -/
def g_chains_from_links : FS := gSeq (gOwn 1 (fDNew)) (gSeq (gFor (fSeq (fB pSortU (faC (fN 0) (faN)))) (hN 2) (gSeq (gSet 3 (f2 pIx (fN 0) (fN 2))) (gPut (fN 1) (fN 2) (f2 pAdd (fIf (fT (f2 pGt (fN 3) (fC (.int 0)))) (fDPop (fN 1) (fN 3)) (fTup (faN))) (fTup (faC (fN 2) (faN))))))) (gRet (fB pTuple (faC (fSortV (fN 1)) (faN)))))
def fn_chains_from_links : Fn := fnP 4 1 g_chains_from_links
/-- def linked_visit(links, rank): -/
def g_linked_visit : FS := gSeq (gTupS [(2, true), (3, false)] (faCn (fB pDict (faC (fN 0) (faN))) (faCn (fGet (fN 0) (fN 1) (fN 1)) (faN)))) (gSeq (gPut (fN 2) (fN 1) (fC (.int 0))) (gSeq (gFor (fSeq (fB pSortU (faC (fN 0) (faN)))) (hN 4) (gIf (fAnd (fT (f2 pGt (fN 4) (fN 1))) (fT (f2 pLt (f2 pIx (fN 0) (fN 4)) (fN 3)))) (gPutSet 3 (fN 2) (fN 4) (faC (fN 3) (faC (f2 pIx (fN 0) (fN 4)) (faN)))) (gNil))) (gRet (fN 2))))
def fn_linked_visit : Fn := fnP 5 2 g_linked_visit
/-- def leaver(room, rank): -/
def g_leaver : FS := gSeq (gSet 2 (fLc (fSeq (fN 0)) (hN 3) (fT (f2 pGt (fN 3) (fN 1))) (fN 3) [3])) (gRet (fIf (fOr (fT (f2 pIn (fN 1) (fN 0))) (fT (f2 pEq (fB pLen (faC (fN 2) (faN))) (fC (.int 0))))) (fC .none) (f2 pIx (fN 2) (fC (.int 0)))))
def fn_leaver : Fn := fnP 4 2 g_leaver
/-- def entered(room, rank): -/
def g_entered : FS := gSeq (gSet 2 (fCall fn_leaver (faC (fN 0) (faC (fN 1) (faN))))) (gRet (fB pTuple (faC (fB pSortU (faC (fDc (fSeq (f2 pAdd (fB pList (faC (fN 0) (faN))) (fLst (faC (fN 1) (faN))))) (hN 3) (fT (f2 pNe (fN 3) (fN 2))) (fN 3) (fC (.bool true)) [3]) (faN))) (faN))))
def fn_entered : Fn := fnP 4 2 g_entered
/-- def rooms_along(room, visits): -/
def g_rooms_along : FS := gSeq (gOwn 2 (fLst (faC (fB pTuple (faC (fN 0) (faN))) (faN)))) (gSeq (gFor (fSeq (fN 1)) (hN 3) (gEx (fM "list" mApp (fN 2) (faC (fCall fn_entered (faC (f2 pIx (fN 2) (fNeg (fC (.int 1)))) (faC (fN 3) (faN)))) (faN))))) (gRet (fN 2)))
def fn_rooms_along : Fn := fnP 4 2 g_rooms_along
/-- def room_after(room, visits): -/
def g_room_after : FS := gRet (f2 pIx (fCall fn_rooms_along (faC (fN 0) (faC (fN 1) (faN)))) (fNeg (fC (.int 1))))
def fn_room_after : Fn := fnP 2 2 g_room_after
/-- def people_up_to(room, rank): -/
def g_people_up_to : FS := gRet (fB pLen (faC (fLc (fSeq (fN 0)) (hN 2) (fT (f2 pLe (fN 2) (fN 1))) (fN 2) [2]) (faN)))
def fn_people_up_to : Fn := fnP 3 2 g_people_up_to
/-- def chains_of(visits): -/
def g_chains_of : FS := gSeq (gSet 1 (fDNew)) (gSeq (gFor (fSeq (fN 0)) (hN 2) (gSet 1 (fCall fn_linked_visit (faC (fN 1) (faC (fN 2) (faN)))))) (gRet (fCall fn_chains_from_links (faC (fN 1) (faN)))))
def fn_chains_of : Fn := fnP 3 1 g_chains_of
/-- def meeting(chains, low, high): -/
def g_meeting : FS := gRet (fB pLen (faC (fLc (fSeq (fN 0)) (hN 3) (fT (fB pAny (faC (fLc (fSeq (fN 3)) (hN 4) (fYes) (fCh pLe pLe (fN 1) (fN 4) (fN 2)) [4]) (faN)))) (fN 3) [3]) (faN)))
def fn_meeting : Fn := fnP 5 3 g_meeting
/-- def ranks_in(chains): -/
def g_ranks_in : FS := gRet (fB pSortU (faC (fLc2 (fSeq (fN 0)) (hN 1) (fYes) (fSeq (fN 1)) (hN 2) (fYes) (fN 2) [1, 2] [2]) (faN)))
def fn_ranks_in : Fn := fnP 3 1 g_ranks_in
/-- def visits_for(chains): -/
def g_visits_for : FS := gSeq (gOwn 1 (fLst (faN))) (gSeq (gFor (fSeq (fRev (fLst (faC (fC (.int 0)) (fStar (fCall fn_ranks_in (faC (fN 0) (faN))) (faN)))))) (hN 2) (gSeq (gSet 3 (fLc (fSeq (fN 0)) (hN 4) (fYes) (fSl (fLc (fSeq (fN 4)) (hN 5) (fT (f2 pGt (fN 5) (fN 2))) (fN 5) [5]) (fo0) (fo1 (fC (.int 1)))) [4])) (gEx (fM "list" mExt (fN 1) (faC (fB pSortU (faC (fLc2 (fSeq (fN 3)) (hN 6) (fYes) (fSeq (fN 6)) (hN 5) (fYes) (fN 5) [6, 5] [5]) (faN))) (faN)))))) (gRet (fN 1)))
def fn_visits_for : Fn := fnP 7 1 g_visits_for
/-- def followed(first, second): -/
def g_followed : FS := gSeq (gSet 2 (fCall fn_links_of (faC (fN 0) (faN)))) (gSeq (gFor (fSeq (fCall fn_visits_for (faC (fN 1) (faN)))) (hN 3) (gSet 2 (fCall fn_linked_visit (faC (fN 2) (faC (fN 3) (faN)))))) (gRet (fCall fn_chains_from_links (faC (fN 2) (faN)))))
def fn_followed : Fn := fnP 4 2 g_followed
/-- def result(chains, room): -/
def g_result : FS := gSeq (gOwn 2 (fLst (faN))) (gSeq (gFor (fSeq (fB pSortU (faC (fDc (fSeq (f2 pAdd (fCall fn_ranks_in (faC (fN 0) (faN))) (fB pList (faC (fN 1) (faN))))) (hN 3) (fYes) (fN 3) (fC (.bool true)) [3]) (faN)))) (hN 3) (gSeq (gSet 4 (f2 pAdd (fLst (faC (fC (.int 0)) (faN))) (fLc (fSeq (fN 1)) (hN 5) (fT (f2 pLe (fN 5) (fN 3))) (fN 5) [5]))) (gIf (fT (f2 pGt (fB pMax (faC (fLc (fSeq (fN 4)) (hN 5) (fYes) (f2 pAdd (fCall fn_people_up_to (faC (fN 1) (faC (fN 5) (faN)))) (fCall fn_meeting (faC (fN 0) (faC (f2 pAdd (fN 5) (fC (.int 1))) (faC (fN 3) (faN)))))) [5]) (faN))) (fB pLen (faC (fN 2) (faN))))) (gEx (fM "list" mApp (fN 2) (faC (fN 3) (faN)))) (gNil)))) (gRet (fB pTuple (faC (fN 2) (faN)))))
def fn_result : Fn := fnP 6 2 g_result
/-- def longest_ends(visits, low, high): -/
def g_longest_ends : FS := gSeq (gOwn 3 (fLst (faN))) (gSeq (gFor (fEnum (fN 0)) (hT [4, 5]) (gSeq (gSet 6 (fLc (fRng (faC (fN 4) (faN))) (hN 7) (fT (f2 pLt (f2 pIx (fN 0) (fN 7)) (fN 5))) (f2 pIx (fN 3) (fN 7)) [7])) (gEx (fM "list" mApp (fN 3) (faC (fIf (fT (fCh pLe pLe (fN 1) (fN 5) (fN 2))) (f2 pAdd (fC (.int 1)) (fB pMax (faC (f2 pAdd (fN 6) (fLst (faC (fC (.int 0)) (faN)))) (faN)))) (fC (.int 0))) (faN)))))) (gRet (fN 3)))
def fn_longest_ends : Fn := fnP 8 3 g_longest_ends
/-- def longest(visits, low, high): -/
def g_longest : FS := gRet (fB pMax (faC (f2 pAdd (fCall fn_longest_ends (faC (fN 0) (faC (fN 1) (faC (fN 2) (faN))))) (fLst (faC (fC (.int 0)) (faN)))) (faN)))
def fn_longest : Fn := fnP 3 3 g_longest
/-- def longest_choice(visits, low, high): -/
def g_longest_choice : FS := gSeq (gSet 3 (fCall fn_longest_ends (faC (fN 0) (faC (fN 1) (faC (fN 2) (faN)))))) (gSeq (gTupS [(4, true), (5, false), (6, false)] (faCn (fLst (faN)) (faCn (fB pMax (faC (f2 pAdd (fN 3) (fLst (faC (fC (.int 0)) (faN)))) (faN))) (faCn (f2 pAdd (fN 2) (fC (.int 1))) (faN))))) (gSeq (gFor (fRng (faC (f2 pSub (fB pLen (faC (fN 0) (faN))) (fC (.int 1))) (faC (fNeg (fC (.int 1))) (faC (fNeg (fC (.int 1))) (faN))))) (hN 7) (gIf (fAnd (fT (f2 pGt (fN 5) (fC (.int 0)))) (fAnd (fT (f2 pEq (f2 pIx (fN 3) (fN 7)) (fN 5))) (fT (f2 pLt (f2 pIx (fN 0) (fN 7)) (fN 6))))) (gSeq (gEx (fM "list" mApp (fN 4) (faC (fN 7) (faN)))) (gTupS [(5, false), (6, false)] (faCn (f2 pSub (fN 5) (fC (.int 1))) (faCn (f2 pIx (fN 0) (fN 7)) (faN))))) (gNil))) (gRet (fRev (fN 4)))))
def fn_longest_choice : Fn := fnP 8 3 g_longest_choice
/-- def restricted(chains, low, high): -/
def g_restricted : FS := gSeq (gSet 3 (fLc (fSeq (fN 0)) (hN 4) (fYes) (fB pTuple (faC (fLc (fSeq (fN 4)) (hN 5) (fT (fCh pLe pLe (fN 1) (fN 5) (fN 2))) (fN 5) [5]) (faN))) [4])) (gRet (fB pTuple (faC (fB pSortU (faC (fLc (fSeq (fN 3)) (hN 6) (fT (f2 pGt (fB pLen (faC (fN 6) (faN))) (fC (.int 0)))) (fN 6) [6]) (faN))) (faN))))
def fn_restricted : Fn := fnP 7 3 g_restricted
/-- def do_same(first, second): -/
def g_do_same : FS := gRet (f2 pEq (fCall fn_chains_of (faC (fN 0) (faN))) (fCall fn_chains_of (faC (fN 1) (faN))))
def fn_do_same : Fn := fnP 2 2 g_do_same
/-- def repetitions(chains): -/
def g_repetitions : FS := gSeq (gOwn 1 (fLst (faC (fTup (faN)) (faN)))) (gSeq (goW (fT (f2 pNe (fCall fn_followed (faC (f2 pIx (fN 1) (fNeg (fC (.int 1)))) (faC (fN 0) (faN)))) (f2 pIx (fN 1) (fNeg (fC (.int 1)))))) (gEx (fM "list" mApp (fN 1) (faC (fCall fn_followed (faC (f2 pIx (fN 1) (fNeg (fC (.int 1)))) (faC (fN 0) (faN)))) (faN)))) 1000) (gRet (fN 1)))
def fn_repetitions : Fn := fnP 2 1 g_repetitions
/-- def repeated(chains, many): -/
def g_repeated : FS := gSeq (gSet 2 (fCall fn_repetitions (faC (fN 0) (faN)))) (gRet (f2 pIx (fN 2) (fB pMin (faC (fN 1) (faC (f2 pSub (fB pLen (faC (fN 2) (faN))) (fC (.int 1))) (faN))))))
def fn_repeated : Fn := fnP 3 2 g_repeated
/-- def room_after_many(room, visits, many): -/
def g_room_after_many : FS := gRet (fCall fn_result (faC (fCall fn_repeated (faC (fCall fn_chains_of (faC (fN 1) (faN))) (faC (fN 2) (faN)))) (faC (fN 0) (faN))))
def fn_room_after_many : Fn := fnP 3 3 g_room_after_many
/-- def _law_take(urn, below): -/
def g__law_take : FS := gSeq (gIf (fT (f2 pGt (f2 pIx (fN 0) (fC (.int 0))) (fC (.int 0)))) (gSeq (gSet 2 (f2 (pI gMod) (fB pInt (faC (f2 pIx (fN 0) (fC (.int 0))) (faN))) (fN 1))) (gSeq (gPut (fN 0) (fC (.int 0)) (f2 (pI gDiv) (f2 pIx (fN 0) (fC (.int 0))) (fN 1))) (gRet (fN 2)))) (gNil)) (gSeq (gPut (fN 0) (fC (.int 2)) (f2 pAdd (f2 pIx (fN 0) (fC (.int 2))) (fC (.int 1)))) (gSeq (gSet 3 (f2 (pI gMod) (fB pInt (faC (f2 pMul (f2 pAdd (f2 pIx (fN 0) (fC (.int 1))) (f2 pMul (fC (.int 48271)) (f2 pIx (fN 0) (fC (.int 2))))) (f2 pAdd (fC (.int 39373)) (f2 pIx (fN 0) (fC (.int 2))))) (faN))) (fC (.int 2147483647)))) (gSeq (gSet 4 (f2 pAdd (f2 (pI gMod) (fB pInt (faC (fN 3) (faN))) (fC (.int 40009))) (fC (.int 7)))) (gSeq (gSet 5 (f2 (pI gMod) (fB pInt (faC (f2 pMul (f2 pAdd (f2 pAdd (fN 3) (f2 pIx (fN 0) (fC (.int 2)))) (f2 (pI gDiv) (f2 pIx (fN 0) (fC (.int 1))) (fC (.int 1000003)))) (fN 4)) (faN))) (fC (.int 2147483629)))) (gRet (f2 (pI gMod) (fB pInt (faC (f2 (pI gDiv) (f2 (pI gMod) (fB pInt (faC (f2 pAdd (f2 pMul (fN 5) (fC (.int 48271))) (fN 3)) (faN))) (fC (.int 2147483587))) (fC (.int 64))) (faN))) (fN 1)))))))
def fn__law_take : FnU := fnU 6 2 g__law_take
/-- def _law_same(got, goal): -/
def g__law_same (r : Fn) : FS := gSeq (gIf (fT (fIs (fun d => isD "list" d || isD "tuple" d) (fN 1))) (gSeq (gIf (fOr (fT (f2 pNe (fIs (isD "list") (fN 0)) (fIs (isD "list") (fN 1)))) (fT (f2 pNe (fIs (isD "tuple") (fN 0)) (fIs (isD "tuple") (fN 1))))) (gRet (fC (.bool false))) (gNil)) (gRet (fAndV (f2 pEq (fB pLen (faC (fN 0) (faN))) (fB pLen (faC (fN 1) (faN)))) (fB pAll (faC (fLc (fZip (faC (fN 0) (faC (fN 1) (faN)))) (hT [2, 3]) (fYes) (fCall r (faC (fN 2) (faC (fN 3) (faN)))) [2, 3]) (faN)))))) (gNil)) (gSeq (gIf (fOr (fT (f2 pIsN (fN 1) (fC .none))) (fT (fIs (fun d => isD "bool" d || isD "str" d) (fN 1)))) (gRet (fAndV (f2 pEq (fN 0) (fN 1)) (fAndV (f2 pEq (fIs (isD "str") (fN 0)) (fIs (isD "str") (fN 1))) (fAndV (f2 pEq (fIs (isD "bool") (fN 0)) (fIs (isD "bool") (fN 1))) (f2 pEq (f2 pIsN (fN 0) (fC .none)) (f2 pIsN (fN 1) (fC .none))))))) (gNil)) (gRet (fAndV (fIs (isD "int") (fN 0)) (fAndV (fNotV (fIs (isD "bool") (fN 0))) (f2 pEq (fN 0) (fN 1))))))
def fa__law_same : Nat → Fn
  | 0 => fun _ => none
  | k + 1 => fnP 4 2 (g__law_same (fa__law_same k))
theorem fl__law_same : ∀ (k : Nat) (ds : List D) (r : D), fa__law_same k ds = some r → ds.length = 2
  | 0, _, _, h => by cases h
  | k + 1, _, _, h => fnP_len _ _ h
def fn__law_same : Fn := fa__law_same 8
/-- def _law_list(urn, size, most): -/
def g__law_list : FS := gRet (fLc (fRng (faC (fCallU fn__law_take (faC (fN 0) (faC (f2 pAdd (fN 2) (fC (.int 1))) (faN)))) (faN))) (hN 3) (fYes) (f2 pAdd (fC (.int 1)) (fCallU fn__law_take (faC (fN 0) (faC (fN 1) (faN))))) [3])
def fn__law_list : FnU := fnU 4 3 g__law_list
/-- def _law_rise(row, low, high): -/
def g__law_rise : FS := gSeq (gOwn 3 (fLst (faN))) (gSeq (gFor (fSeq (fN 0)) (hN 4) (gIf (fT (fCh pLe pLe (fN 1) (fN 4) (fN 2))) (gEx (fM "list" mApp (fN 3) (faC (fTup (faC (fN 4) (faC (f2 pAdd (fC (.int 1)) (fB pMax (faC (f2 pAdd (fLst (faC (fC (.int 0)) (faN))) (fLc (fSeq (fN 3)) (hT [5, 6]) (fT (f2 pLt (fN 5) (fN 4))) (fN 6) [5, 6])) (faN)))) (faN)))) (faN)))) (gNil))) (gRet (fB pMax (faC (f2 pAdd (fLst (faC (fC (.int 0)) (faN))) (fLc (fSeq (fN 3)) (hT [5, 6]) (fYes) (fN 6) [5, 6])) (faN)))))
def fn__law_rise : Fn := fnP 7 3 g__law_rise
/-- the lists without an ascent: the first that takes it, or a new one -/
def insP (row : List Int) (k rank : Int) : List (List Int) → List (List Int)
  | [] => [[k]]
  | p :: ps => if rank ≤ row.getD ((p.getLast?).getD 0).toNat 0 then (p ++ [k]) :: ps else p :: insP row k rank ps
def partGo (row : List Int) (lo hi : Int) : Int → List Int → List (List Int) → List (List Int)
  | _, [], ps => ps
  | k, r :: rs, ps => partGo row lo hi (k + 1) rs (if lo ≤ r ∧ r ≤ hi then insP row k r ps else ps)
def partedI (row : List Int) (lo hi : Int) : List (List Int) := partGo row lo hi 0 row []
def listD (ns : List Int) : D := .list (ns.map .int)
def fn__law_parted : Fn := fun ds => match ds with
  | [.list rs, .int lo, .int hi] => (intsD rs).bind fun row => if row.length ≤ 1000 then some (.list ((partedI row lo hi).map listD)) else none
  | _ => none
theorem fl__law_parted (ds : List D) (r : D) (h : fn__law_parted ds = some r) : ds.length = 3 := by
  unfold fn__law_parted at h
  split at h
  · rfl
  · cases h
end DL

namespace DL
open PySem PySem.Spec L2
/-! ### evaluation -/
theorem sz1 : (0 + 1 ≤ sizeLine) = True := eq_true (by decide)
theorem sz2 : (0 + 1 + 1 ≤ sizeLine) = True := eq_true (by decide)
theorem sz3 : (0 + 1 + 1 + 1 ≤ sizeLine) = True := eq_true (by decide)
theorem sz5 : (0 + 1 + 1 + 1 + 1 + 1 ≤ sizeLine) = True := eq_true (by decide)
theorem sz0 : (0 ≤ sizeLine) = True := eq_true (by decide)
theorem pI_ii (g : Int → Int → Option D) (i j : Int) : pI g (.int i) (.int j) = (g i j).map .frz := rfl
theorem pLt_ii (i j : Int) : pLt (.int i) (.int j) = some (.frz (.bool (decide (i < j)))) := rfl
theorem pLe_ii (i j : Int) : pLe (.int i) (.int j) = some (.frz (.bool (decide (i ≤ j)))) := rfl
theorem pGt_ii (i j : Int) : pGt (.int i) (.int j) = some (.frz (.bool (decide (j < i)))) := rfl
theorem pGe_ii (i j : Int) : pGe (.int i) (.int j) = some (.frz (.bool (decide (j ≤ i)))) := rfl
theorem pAdd_ii (i j : Int) : pAdd (.int i) (.int j) = some (.frz (.int (i + j))) := rfl
theorem pLen_l (ds : List D) : pLen [.list ds] = some (.frz (.int ds.length)) := rfl
theorem pLen_t (ds : List D) : pLen [.tuple ds] = some (.frz (.int ds.length)) := rfl
theorem pList_l (ds : List D) : pList [.list ds] = some (.new (.list ds)) := rfl
theorem pList_t (ds : List D) : pList [.tuple ds] = some (.new (.list ds)) := rfl
theorem pTuple_l (ds : List D) : pTuple [.list ds] = some (.frz (.tuple ds)) := rfl
theorem pTuple_t (ds : List D) : pTuple [.tuple ds] = some (.frz (.tuple ds)) := rfl
local macro_rules
  | `(tactic| walk_at "dl_ev") => `(tactic| try simp only [Option.bind_some, gSeq, gSet, gOwn, gRet, gIf, gEx, gPut, gPutSet, gTupS, asg, fN, fC, fB, f2, faC, faCn, faN, fT, fNot, fAnd, fOr, fAndV, fOrV, fNotV, fIf, fCh, fLst, fTup, frzs, argO, derefs, deref, frD, fNeg, fM, fSl, fo0, fo1, fRev, gNil, osOf,
      List.getElem?_cons_succ, List.getElem?_cons_zero, List.set_cons_succ, List.set_cons_zero, cond_true, cond_false, endD, endN, endU, resD, pLen_l, pLen_t, pLt_ii, pLe_ii, pGt_ii, pGe_ii, pAdd_ii, pI_ii, pList_l, pList_t, pTuple_l, pTuple_t, Option.map_some, List.length_map, List.length_cons, List.length_nil, sz0, sz1, sz2, sz3, sz5, if_true])
theorem lcGo_pure {h : HT} {ft : FT} {fe : FE} {vs : List Nat} {ρ : Ce} (t : D → Bool) (f : D → D) : ∀ (ds acc : List D), (∀ d ∈ ds, ∃ ρ1 ρ2, h d ρ = some ρ1 ∧ ft ρ1 = some (t d, ρ2) ∧ (t d = true → ∃ o ρ3, fe ρ2 = some (o, ρ3) ∧ frD o = some (f d) ∧ wipeC ρ3 vs = ρ) ∧ (t d = false → wipeC ρ2 vs = ρ)) →
    acc.length + ds.length ≤ sizeLine → lcGo h ft fe vs ds ρ acc = some (acc ++ (ds.filter t).map f, ρ)
  | [], acc, _, _ => by simp [lcGo]
  | d :: ds, acc, H, hl => by
    obtain ⟨ρ1, ρ2, h1, h2, hT, hF⟩ := H d List.mem_cons_self
    have ih := fun acc' => lcGo_pure t f ds acc' fun x hx => H x (List.mem_cons_of_mem _ hx)
    simp only [List.length_cons] at hl
    simp only [lcGo, h1, h2, Option.bind_some]
    cases ht : t d with
    | true =>
      obtain ⟨o, ρ3, h3, h4, h5⟩ := hT ht
      simp only [cond_true, h3, Option.bind_some, h4, h5]
      rw [if_pos (by omega), ih _ (by rw [List.length_append, List.length_singleton]; omega), List.filter_cons_of_pos ht]
      simp
    | false =>
      simp only [cond_false, hF ht]
      rw [ih _ (by omega), List.filter_cons_of_neg (by rw [ht]; decide)]
/-- a comprehension over a value that is not of a slot's own -/
theorem fLc_pure {fi : FI} {h : HT} {ft : FT} {fe : FE} {vs : List Nat} {ρ0 ρ1 ρ : Ce} {ds : List D} (t : D → Bool) (f : D → D) (hi : fi ρ0 = some (ds, none, ρ1)) (hw : wipeC ρ1 vs = ρ)
    (H : ∀ d ∈ ds, ∃ ρ1 ρ2, h d ρ = some ρ1 ∧ ft ρ1 = some (t d, ρ2) ∧ (t d = true → ∃ o ρ3, fe ρ2 = some (o, ρ3) ∧ frD o = some (f d) ∧ wipeC ρ3 vs = ρ) ∧ (t d = false → wipeC ρ2 vs = ρ)) (hl : ds.length ≤ sizeLine) (hr : restC ρ1 vs ρ = ρ1) :
    fLc fi h ft fe vs ρ0 = some (.new (.list ((ds.filter t).map f)), ρ1) := by
  unfold fLc
  rw [hi, Option.bind_some]
  simp only [hsO, List.append_nil, hw]
  rw [lcGo_pure t f ds [] H (by simpa using hl), Option.bind_some, List.nil_append, hr]
theorem fnP_at {N n : Nat} {g : FS} {ds : List D} (ρ : Ce) (hl : ds.length = n) (hρ : cells N ds = ρ) : fnP N n g ds = (g ρ).bind endD := by
  unfold fnP; rw [if_pos hl, hρ]
theorem fnN_at {N n : Nat} {g : FS} {ds : List D} (ρ : Ce) (hl : ds.length = n) (hρ : cells N ds = ρ) : fnN N n g ds = (g ρ).bind endN := by
  unfold fnN; rw [if_pos hl, hρ]
theorem fnU_at {N n : Nat} {g : FS} {w : D} {ds : List D} (ρ : Ce) (hl : ds.length + 1 = n) (hρ : cellsU N w ds = ρ) : fnU N n g w ds = (g ρ).bind endU := by
  unfold fnU; rw [if_pos hl, hρ]
abbrev iT (ns : List Int) : D := .tuple (ns.map .int)
abbrev iL (ns : List Int) : D := .list (ns.map .int)
theorem size_ge {n : Nat} (h : n ≤ 100000) : n ≤ sizeLine := Nat.le_trans h (by decide)
theorem filter_ints (p : Int → Bool) (t : D → Bool) (h : ∀ i, t (.int i) = p i) : ∀ ns : List Int, (ns.map PyData.int).filter t = (ns.filter p).map PyData.int
  | [] => rfl
  | n :: ns => by
    rw [List.map_cons, List.filter_cons, h, List.filter_cons, filter_ints p t h ns]
    cases p n <;> rfl
/-- the comprehension's items that are ints -/
def tI (p : Int → Bool) : D → Bool
  | .int i => p i
  | _ => false
def fI (f : Int → D) : D → D
  | .int i => f i
  | _ => .none
theorem map_ints (f : Int → D) : ∀ ns : List Int, (ns.map PyData.int).map (fI f) = ns.map f
  | [] => rfl
  | n :: ns => by rw [List.map_cons, List.map_cons, map_ints f ns]; rfl
/-- a comprehension over ints -/
theorem fLc_ints {fi : FI} {h : HT} {ft : FT} {fe : FE} {vs : List Nat} {ρ0 ρ1 : Ce} {ns : List Int} (ρ : Ce) (p : Int → Bool) (f : Int → D) (hi : fi ρ0 = some (ns.map .int, none, ρ1)) (hw : wipeC ρ1 vs = ρ)
    (H : ∀ i ∈ ns, ∃ ρ1 ρ2, h (.int i) ρ = some ρ1 ∧ ft ρ1 = some (p i, ρ2) ∧ (p i = true → ∃ o ρ3, fe ρ2 = some (o, ρ3) ∧ frD o = some (f i) ∧ wipeC ρ3 vs = ρ) ∧ (p i = false → wipeC ρ2 vs = ρ)) (hl : ns.length ≤ 100000) (hr : restC ρ1 vs ρ = ρ1) :
    fLc fi h ft fe vs ρ0 = some (.new (.list ((ns.filter p).map f)), ρ1) := by
  rw [fLc_pure (tI p) (fI f) hi hw (fun d hd => ?_) (by simpa using size_ge hl) hr]
  · rw [filter_ints p (tI p) fun _ => rfl, map_ints]
  · obtain ⟨i, hi, rfl⟩ := List.mem_map.mp hd
    exact H i hi
theorem fn_people {room : List Int} {r : Int} (hl : room.length ≤ 100000) : fn_people_up_to [iT room, .int r] = some (.int (room.filter (fun x => decide (x ≤ r))).length) := by
  unfold fn_people_up_to
  refine Eq.trans (fnP_at [.val (iT room), .val (.int r), .un] rfl rfl) ?_
  simp only [g_people_up_to, gRet, fB, faC, faN]
  rw [fLc_ints [.val (iT room), .val (.int r), .un] (fun x => decide (x ≤ r)) .int rfl rfl (fun i hi => ⟨_, _, rfl, rfl, fun _ => ⟨_, _, rfl, rfl, rfl⟩, fun _ => rfl⟩) hl rfl]
  walk_at "dl_ev"
/-- who leaves -/
def leaverI (room : List Int) (r : Int) : Option Int := if r ∈ room then none else (room.filter (fun x => decide (r < x))).head?
def optI : Option Int → D
  | some i => .int i
  | none => .none
theorem any_eqv (ns : List Int) (r : Int) : (ns.map PyData.int).any (fun z => PyData.eqv z (.int r)) = decide (r ∈ ns) := by
  induction ns with
  | nil => rfl
  | cons n ns ih =>
    rw [List.map_cons, List.any_cons, ih]
    show (decide (n = r) || _) = _
    by_cases h : n = r
    · simp [h]
    · simp [h, Ne.symm h]
theorem flat_ints (ns : List Int) : (ns.map PyData.int).all flatD = true := by
  induction ns with
  | nil => rfl
  | cons n ns ih => rw [List.map_cons, List.all_cons, ih]; rfl
theorem pIn_ints (ns : List Int) (r : Int) : pIn (.int r) (iT ns) = some (.frz (.bool (decide (r ∈ ns)))) := by
  unfold pIn inD
  simp only [flatD, flat_ints, any_eqv, and_self, if_true, Option.map_some]
theorem atI_map {α β : Type} (f : α → β) (xs : List α) (i : Int) : atI (xs.map f) i = (atI xs i).map f := by
  unfold atI
  rw [List.length_map]
  cases ixN xs.length i with
  | none => rfl
  | some j => show (xs.map f)[j]? = _; rw [List.getElem?_map]; rfl
theorem pIx_li (ns : List Int) (i : Int) : pIx (iL ns) (.int i) = (atI ns i).map fun x => .frz (.int x) := by
  show (atI (ns.map PyData.int) i).map Opd.frz = _
  rw [atI_map, Option.map_map]; rfl
theorem atI_0 {α : Type} (x : α) (xs : List α) : atI (x :: xs) 0 = some x := atI_nat (j := 0) rfl
theorem pEq_ii (i j : Int) : pEq (.int i) (.int j) = some (.frz (.bool (decide (i = j)))) := rfl
theorem pNe_ii (i j : Int) : pNe (.int i) (.int j) = some (.frz (.bool (!decide (i = j)))) := rfl
theorem pNe_in (i : Int) : pNe (.int i) .none = some (.frz (.bool true)) := rfl
theorem fn_leaver_eq {room : List Int} {r : Int} (hl : room.length ≤ 100000) : fn_leaver [iT room, .int r] = some (optI (leaverI room r)) := by
  unfold fn_leaver
  refine Eq.trans (fnP_at [.val (iT room), .val (.int r), .un, .un] rfl rfl) ?_
  simp only [g_leaver, gSeq, gSet]
  rw [fLc_ints [.val (iT room), .val (.int r), .un, .un] (fun x => decide (r < x)) .int rfl rfl (fun i hi => ⟨_, _, rfl, rfl, fun _ => ⟨_, _, rfl, rfl, rfl⟩, fun _ => rfl⟩) hl rfl]
  walk_at "dl_ev"
  rw [pIn_ints]
  unfold leaverI
  by_cases h : r ∈ room
  · simp only [h, decide_true, if_true]
    walk_at "dl_ev"
    rfl
  · simp only [h, decide_false, if_false]
    cases hf : room.filter (fun x => decide (r < x)) with
    | nil => rfl
    | cons x xs =>
      walk_at "dl_ev"
      rw [pEq_ii, decide_eq_false (by simp; omega)]
      walk_at "dl_ev"
      rw [pIx_li, atI_0]
      rfl
/-! ### dicts of ints as keys -/
def keysOf (es : List (D × D)) (ks : List Int) : Prop := es.map (·.1) = ks.map .int
theorem keysI_of : ∀ {es : List (D × D)} {ks : List Int}, keysOf es ks → keysI es = some ks
  | [], [], _ => rfl
  | [], _ :: _, h => by cases h
  | _ :: _, [], h => by cases h
  | (d, v) :: es, k :: ks, h => by
    obtain ⟨h1, h2⟩ := List.cons.inj h
    simp only at h1
    subst h1
    show (keysI es).map (k :: ·) = _
    rw [keysI_of h2]; rfl
/-- first occurrences, behind those that stand already -/
def addK (ks : List Int) (k : Int) : List Int := if k ∈ ks then ks else ks ++ [k]
theorem dPut_keys {es : List (D × D)} {ks : List Int} {k : Int} {v : D} (h : keysOf es ks) : keysOf (dPut es (.int k) v) (addK ks k) := by
  have hany : (es.any fun p => PyData.eqv p.1 (.int k)) = decide (k ∈ ks) := by
    have e : (es.any fun p => PyData.eqv p.1 (.int k)) = (es.map (·.1)).any fun z => PyData.eqv z (.int k) := by rw [List.any_map]; rfl
    rw [e, h, any_eqv]
  unfold dPut addK
  rw [hany]
  by_cases c : k ∈ ks
  · rw [if_pos (decide_eq_true c), if_pos c]
    unfold keysOf at h ⊢
    rw [← h, List.map_map]
    apply List.map_congr_left
    intro p _
    show (if _ then _ else _ : D × D).1 = p.1
    split <;> rfl
  · rw [if_neg (by simpa using c), if_neg c]
    unfold keysOf at h ⊢
    rw [List.map_append, h, List.map_append]; rfl
def addsK (ks : List Int) (l : List Int) : List Int := l.foldl addK ks
theorem addsK_mem : ∀ (l ks : List Int) (x : Int), x ∈ addsK ks l ↔ x ∈ ks ∨ x ∈ l
  | [], ks, x => by simp [addsK]
  | k :: l, ks, x => by
    show x ∈ addsK (addK ks k) l ↔ _
    rw [addsK_mem l]
    unfold addK
    split
    · rename_i h
      constructor
      · rintro (h1 | h1)
        · exact .inl h1
        · exact .inr (List.mem_cons_of_mem _ h1)
      · rintro (h1 | h1)
        · exact .inl h1
        · rcases List.mem_cons.mp h1 with e | h1
          · subst e; exact .inl h
          · exact .inr h1
    · simp [or_assoc]
theorem addsK_nodup : ∀ (l ks : List Int), ks.Nodup → (addsK ks l).Nodup
  | [], ks, h => h
  | k :: l, ks, h => by
    refine addsK_nodup l _ ?_
    unfold addK
    split
    · exact h
    · rename_i hk
      exact List.nodup_append.mpr ⟨h, List.nodup_cons.mpr ⟨by simp, List.nodup_nil⟩, fun a ha b hb e => by
        have : b = k := by simpa using hb
        subst this; subst e; exact hk ha⟩
theorem addsK_len : ∀ (l ks : List Int), (addsK ks l).length ≤ ks.length + l.length
  | [], ks => Nat.le_refl _
  | k :: l, ks => by
    have := addsK_len l (addK ks k)
    have h2 : (addK ks k).length ≤ ks.length + 1 := by
      unfold addK; split
      · omega
      · simp
    show (addsK (addK ks k) l).length ≤ _
    simp only [List.length_cons]; omega
/-- {x: .. for x in ints if ..} -/
theorem dcGo_ints {h : HT} {ft : FT} {fk fe : FE} {vs : List Nat} {ρ : Ce} (p : Int → Bool) (f : Int → D) : ∀ (ns : List Int) (acc : List (D × D)) (ks : List Int), keysOf acc ks → (∀ i ∈ ns, ∃ ρ1 ρ2, h (.int i) ρ = some ρ1 ∧ ft ρ1 = some (p i, ρ2) ∧ (p i = true → ∃ ρ3 o ρ4, fk ρ2 = some (.frz (.int i), ρ3) ∧ fe ρ3 = some (o, ρ4) ∧ frD o = some (f i) ∧ wipeC ρ4 vs = ρ) ∧ (p i = false → wipeC ρ2 vs = ρ)) →
    ks.length + ns.length ≤ 100000 → ∃ es, dcGo h ft fk fe vs (ns.map .int) ρ acc = some (es, ρ) ∧ keysOf es (addsK ks (ns.filter p))
  | [], acc, ks, hk, _, _ => ⟨acc, rfl, hk⟩
  | n :: ns, acc, ks, hk, H, hl => by
    obtain ⟨ρ1, ρ2, h1, h2, hT, hF⟩ := H n List.mem_cons_self
    simp only [List.length_cons] at hl
    have H' := fun x hx => H x (List.mem_cons_of_mem n hx)
    simp only [List.map_cons, dcGo, h1, h2, Option.bind_some]
    cases ht : p n with
    | true =>
      obtain ⟨ρ3, o, ρ4, h3, h4, h5, h6⟩ := hT ht
      have hle : acc.length = ks.length := by have := congrArg List.length hk; simpa using this
      have : (addK ks n).length ≤ ks.length + 1 := by
        unfold addK; split
        · omega
        · simp
      obtain ⟨es, e1, e2⟩ := dcGo_ints p f ns (dPut acc (.int n) (f n)) (addK ks n) (dPut_keys hk) H' (by omega)
      refine ⟨es, ?_, ?_⟩
      · simp only [cond_true, h3, Option.bind_some, keyK, keyD, h4, h5, h6]
        rw [if_pos (by rw [hle]; exact Nat.lt_of_lt_of_le (by omega : ks.length < 100001) (by decide))]
        exact e1
      · rw [List.filter_cons_of_pos ht]; exact e2
    | false =>
      simp only [cond_false, hF ht]
      obtain ⟨es, e1, e2⟩ := dcGo_ints p f ns acc ks hk H' (by omega)
      exact ⟨es, e1, by rw [List.filter_cons_of_neg (by rw [ht]; decide)]; exact e2⟩
theorem fDc_ints {fi : FI} {h : HT} {ft : FT} {fk fe : FE} {vs : List Nat} {ρ0 ρ1 : Ce} {ns : List Int} (ρ : Ce) (p : Int → Bool) (f : Int → D) (hi : fi ρ0 = some (ns.map .int, none, ρ1)) (hw : wipeC ρ1 vs = ρ)
    (H : ∀ i ∈ ns, ∃ ρ1 ρ2, h (.int i) ρ = some ρ1 ∧ ft ρ1 = some (p i, ρ2) ∧ (p i = true → ∃ ρ3 o ρ4, fk ρ2 = some (.frz (.int i), ρ3) ∧ fe ρ3 = some (o, ρ4) ∧ frD o = some (f i) ∧ wipeC ρ4 vs = ρ) ∧ (p i = false → wipeC ρ2 vs = ρ)) (hl : ns.length ≤ 100000) (hr : restC ρ1 vs ρ = ρ1) :
    ∃ es, fDc fi h ft fk fe vs ρ0 = some (.new (.dict es), ρ1) ∧ keysOf es (addsK [] (ns.filter p)) := by
  obtain ⟨es, e1, e2⟩ := dcGo_ints p f ns [] [] rfl H (by simpa using hl)
  refine ⟨es, ?_, e2⟩
  unfold fDc
  rw [hi, Option.bind_some]
  simp only [hsO, List.append_nil, hw]
  rw [e1, Option.bind_some, hr]
/-- sorted({..}) -/
theorem pSortU_dict {es : List (D × D)} {l : List Int} (h : keysOf es (addsK [] l)) (hl : l.length < 64) : pSortU [.dict es] = some (.new (iL (setI l))) := by
  have hs : sortI (addsK [] l) = setI l := asc_uniq (by
      have h1 := sortI_sorted (addsK [] l)
      have h2 : (sortI (addsK [] l)).Nodup := ((sortI_perm _).nodup_iff).mpr (addsK_nodup l [] List.nodup_nil)
      exact (h1.and h2).imp fun ⟨a, b⟩ => by omega) (setI_asc l) fun k => by
    rw [(sortI_perm _).mem_iff, addsK_mem, setI_mem]; simp
  have := addsK_len l []
  simp only [pSortU, pSort, keysI_of h, Option.bind_some]
  rw [if_pos (by simp at this; omega), hs]
  rfl
/-- the room behind a visit -/
def enteredI (room : List Int) (r : Int) : List Int := setI ((room ++ [r]).filter fun x => decide (some x ≠ leaverI room r))
theorem pAdd_ll (a b : List Int) (h : a.length + b.length ≤ 100000) : pAdd (iL a) (iL b) = some (.new (iL (a ++ b))) := by
  unfold pAdd
  simp only [pI, pCat, List.length_map, Option.none_or]
  rw [if_pos (size_ge h), Option.some_or, ← List.map_append]
theorem pNe_opt (x : Int) (o : Option Int) : pNe (.int x) (optI o) = some (.frz (.bool (decide (some x ≠ o)))) := by
  cases o with
  | none => rfl
  | some y =>
    show some (Opd.frz (.bool (!decide (x = y)))) = _
    congr 3
    by_cases h : x = y <;> simp [h]
theorem fDc_use {α : Type} {fi : FI} {h : HT} {ft : FT} {fk fe : FE} {vs : List Nat} {ρ0 ρ1 : Ce} {ns : List Int} {k : Opd × Ce → Option α} {c : Option α} (ρ : Ce) (p : Int → Bool) (f : Int → D) (hi : fi ρ0 = some (ns.map .int, none, ρ1)) (hw : wipeC ρ1 vs = ρ)
    (H : ∀ i ∈ ns, ∃ ρ1 ρ2, h (.int i) ρ = some ρ1 ∧ ft ρ1 = some (p i, ρ2) ∧ (p i = true → ∃ ρ3 o ρ4, fk ρ2 = some (.frz (.int i), ρ3) ∧ fe ρ3 = some (o, ρ4) ∧ frD o = some (f i) ∧ wipeC ρ4 vs = ρ) ∧ (p i = false → wipeC ρ2 vs = ρ)) (hl : ns.length ≤ 100000) (hr : restC ρ1 vs ρ = ρ1)
    (kk : ∀ es, keysOf es (addsK [] (ns.filter p)) → k (.new (.dict es), ρ1) = c) : (fDc fi h ft fk fe vs ρ0).bind k = c := by
  obtain ⟨es, h1, h2⟩ := fDc_ints ρ p f hi hw H hl hr
  rw [h1, Option.bind_some]
  exact kk es h2
theorem ft_ne {i : Nat} {x : Int} {o : Option Int} {ρ : Ce} {fa fb : FE} (ha : fa ρ = some (.frz (.int x), ρ)) (hb : fb ρ = some (.frz (optI o), ρ)) : fT (f2 pNe fa fb) ρ = some (decide (some x ≠ o), ρ) := by
  unfold fT f2
  rw [ha, Option.bind_some]
  simp only [hb, Option.bind_some, deref, pNe_opt]
theorem fn_entered_eq {room : List Int} {r : Int} (hl : room.length < 63) : fn_entered [iT room, .int r] = some (iT (enteredI room r)) := by
  unfold fn_entered
  refine Eq.trans (fnP_at [.val (iT room), .val (.int r), .un, .un] rfl rfl) ?_
  simp only [g_entered, gSeq, gSet, fCall, gRet, fB, faC, faN, Option.bind_assoc]
  walk_at "dl_ev"
  rw [fn_leaver_eq (by omega)]
  walk_at "dl_ev"
  simp only [Option.bind_assoc]
  refine fDc_use (ns := room ++ [r]) (ρ1 := [.val (iT room), .val (.int r), .val (optI (leaverI room r)), .un]) [.val (iT room), .val (.int r), .val (optI (leaverI room r)), .un] (fun x => decide (some x ≠ leaverI room r)) (fun _ => .bool true) ?_ rfl (fun i hi => ⟨_, _, rfl, ft_ne (i := 0) rfl rfl, fun _ => ⟨_, _, _, rfl, rfl, rfl, rfl⟩, fun _ => rfl⟩) (by simp; omega) rfl fun es hk => ?_
  · walk_at "dl_ev"
    simp only [fSeq]
    walk_at "dl_ev"
    have e : pAdd (.list (room.map .int)) (.list [.int r]) = some (.new (iL (room ++ [r]))) := pAdd_ll room [r] (by simp; omega)
    rw [e]
    rfl
  · walk_at "dl_ev"
    rw [pSortU_dict hk (by have := List.length_filter_le (fun x => decide (some x ≠ leaverI room r)) (room ++ [r]); simp at this ⊢; omega)]
    rfl
/-- a for over a value: what is so behind each part of it -/
theorem goFor_pre {h : HT} {g : FS} (P : List D → Ce → Prop) (ds : List D) (H : ∀ (pre : List D) (d : D) (post : List D) (ρ : Ce), ds = pre ++ d :: post → P pre ρ → ∃ ρ1 ρ2, h d ρ = some ρ1 ∧ (g ρ1 = some (.nx ρ2) ∨ g ρ1 = some (.ct ρ2)) ∧ P (pre ++ [d]) ρ2) :
    ∀ (post pre : List D) (ρ : Ce), ds = pre ++ post → P pre ρ → ∃ ρ', goFor h g post ρ = some (.nx ρ') ∧ P ds ρ'
  | [], pre, ρ, e, hp => ⟨ρ, rfl, by rw [e, List.append_nil]; exact hp⟩
  | d :: post, pre, ρ, e, hp => by
    obtain ⟨ρ1, ρ2, h1, h2, h3⟩ := H pre d post ρ e hp
    obtain ⟨ρ', e1, e2⟩ := goFor_pre P ds H post (pre ++ [d]) ρ2 (by rw [e, List.append_assoc]; rfl) h3
    refine ⟨ρ', ?_, e2⟩
    simp only [goFor, h1, Option.bind_some]
    rcases h2 with h2 | h2 <;> simp only [h2, Option.bind_some, e1]
/-- over ints -/
theorem goFor_ints {h : HT} {g : FS} (P : List Int → Ce → Prop) (ns : List Int) (ρ : Ce) (hp : P [] ρ) (H : ∀ (pre : List Int) (i : Int) (post : List Int) (ρ : Ce), ns = pre ++ i :: post → P pre ρ → ∃ ρ1 ρ2, h (.int i) ρ = some ρ1 ∧ (g ρ1 = some (.nx ρ2) ∨ g ρ1 = some (.ct ρ2)) ∧ P (pre ++ [i]) ρ2) :
    ∃ ρ', goFor h g (ns.map .int) ρ = some (.nx ρ') ∧ P ns ρ' := by
  obtain ⟨ρ', e1, pre, e2, e3⟩ := goFor_pre (h := h) (g := g) (fun ds ρ => ∃ pre : List Int, ds = pre.map .int ∧ P pre ρ) (ns.map .int) (fun pre d post ρ e hp => by
    obtain ⟨pre', rfl, hp'⟩ := hp
    obtain ⟨a, b, e1, e2, e3⟩ := List.map_eq_append_iff.mp e
    obtain ⟨x, y, rfl, rfl, rfl⟩ := List.map_eq_cons_iff.mp e3
    have : a = pre' := (List.map_inj_right (fun _ _ h => by cases h; rfl)).mp e2
    subst this
    obtain ⟨ρ1, ρ2, h1, h2, h3⟩ := H a x y ρ e1 hp'
    exact ⟨ρ1, ρ2, h1, h2, a ++ [x], by rw [List.map_append]; rfl, h3⟩) (ns.map .int) [] ρ rfl ⟨[], rfl, hp⟩
  have : ns = pre := (List.map_inj_right (fun _ _ h => by cases h; rfl)).mp e2
  subst this
  exact ⟨ρ', e1, e3⟩
theorem goFor_use {α : Type} {h : HT} {g : FS} (P : List Int → Ce → Prop) {ns : List Int} {ρ : Ce} {k : Rs → Option α} {c : Option α} (hp : P [] ρ) (H : ∀ (pre : List Int) (i : Int) (post : List Int) (ρ : Ce), ns = pre ++ i :: post → P pre ρ → ∃ ρ1 ρ2, h (.int i) ρ = some ρ1 ∧ (g ρ1 = some (.nx ρ2) ∨ g ρ1 = some (.ct ρ2)) ∧ P (pre ++ [i]) ρ2)
    (kk : ∀ ρ', P ns ρ' → k (.nx ρ') = c) : (goFor h g (ns.map .int) ρ).bind k = c := by
  obtain ⟨ρ', e1, e2⟩ := goFor_ints P ns ρ hp H
  rw [e1, Option.bind_some]
  exact kk ρ' e2
/-- the rooms along a list -/
def roomI (room : List Int) (v : List Int) : List Int := v.foldl enteredI room
def roomsI (room : List Int) : List Int → List (List Int)
  | [] => [room]
  | r :: v => room :: roomsI (enteredI room r) v
theorem roomsI_last (v : List Int) : ∀ room, ∃ xs, roomsI room v = xs ++ [roomI room v] ∧ xs.length = v.length := by
  induction v with
  | nil => intro room; exact ⟨[], rfl, rfl⟩
  | cons r v ih =>
    intro room
    obtain ⟨xs, h1, h2⟩ := ih (enteredI room r)
    exact ⟨room :: xs, by show room :: roomsI (enteredI room r) v = _; rw [h1]; rfl, by simp [h2]⟩
theorem roomsI_snoc (v : List Int) (r : Int) : ∀ room, roomsI room (v ++ [r]) = roomsI room v ++ [enteredI (roomI room v) r] := by
  induction v with
  | nil => intro room; rfl
  | cons x v ih =>
    intro room
    show room :: roomsI (enteredI room x) (v ++ [r]) = _
    rw [ih]; rfl
theorem dedupI_len : ∀ ns : List Int, (dedupI ns).length ≤ ns.length
  | [] => Nat.le_refl _
  | [x] => Nat.le_refl _
  | x :: y :: r => by
    unfold dedupI
    have := dedupI_len (y :: r)
    split
    · simp only [List.length_cons] at this ⊢; omega
    · simp only [List.length_cons] at this ⊢; omega
theorem enteredI_len (room : List Int) (r : Int) : (enteredI room r).length ≤ room.length + 1 := by
  unfold enteredI setI
  refine Nat.le_trans (dedupI_len _) ?_
  rw [(sortI_perm _).length_eq]
  exact Nat.le_trans (List.length_filter_le _ _) (by simp)
theorem roomI_len (v : List Int) : ∀ room : List Int, (roomI room v).length ≤ room.length + v.length := by
  induction v with
  | nil => intro room; exact Nat.le_refl _
  | cons r v ih =>
    intro room
    have h1 := ih (enteredI room r)
    have h2 := enteredI_len room r
    show (roomI (enteredI room r) v).length ≤ _
    simp only [List.length_cons]; omega
theorem roomI_snoc (room v : List Int) (r : Int) : roomI room (v ++ [r]) = enteredI (roomI room v) r := by
  unfold roomI; rw [List.foldl_append]; rfl
theorem pIx_last {xs : List D} {x : D} : pIx (.list (xs ++ [x])) (.int (-1)) = some (.frz x) := by
  show (atI (xs ++ [x]) (-1)).map Opd.frz = _
  rw [atI_last]; rfl
theorem fn_rooms_eq {room v : List Int} (hl : room.length + v.length < 60) : fn_rooms_along [iT room, iL v] = some (.list ((roomsI room v).map iT)) := by
  unfold fn_rooms_along
  refine Eq.trans (fnP_at [.val (iT room), .val (iL v), .un, .un] rfl rfl) ?_
  simp only [g_rooms_along, gSeq, gOwn, gFor, fSeq]
  walk_at "dl_ev"
  simp only [Option.bind_assoc]
  refine goFor_use (fun pre ρ => ∃ c3, ρ = [.val (iT room), .val (iL v), .own false (.list ((roomsI room pre).map iT)), c3]) ⟨.un, rfl⟩ (fun pre i post ρ e hp => ?_) fun ρ' hp => ?_
  · obtain ⟨c3, rfl⟩ := hp
    obtain ⟨xs, hx, hxl⟩ := roomsI_last pre room
    have hpl : pre.length < v.length := by rw [e]; simp
    refine ⟨_, [.val (iT room), .val (iL v), .own false (.list ((roomsI room (pre ++ [i])).map iT)), .val (.int i)], rfl, .inl ?_, ⟨_, rfl⟩⟩
    have hlen : (roomsI room pre).length < sizeLine := by rw [hx]; simp; exact Nat.lt_of_lt_of_le (by omega : xs.length + 1 < 100000) (by decide)
    have hr := roomI_len pre room
    simp only [gEx, fM, fN, faC, faN, fCall, f2]
    walk_at "dl_ev"
    have hp : pIx (.list ((roomsI room pre).map iT)) (.int (-1)) = some (.frz (iT (roomI room pre))) := by rw [hx, List.map_append]; exact pIx_last
    rw [if_pos (show tyD "list" (PyData.list (List.map iT (roomsI room pre))) = true from rfl), hp]
    walk_at "dl_ev"
    rw [fn_entered_eq (by omega)]
    walk_at "dl_ev"
    simp only [mApp, List.length_map]
    rw [if_pos hlen]
    walk_at "dl_ev"
    rw [roomsI_snoc, List.map_append]
    rfl
  · obtain ⟨c3, rfl⟩ := hp
    walk_at "dl_ev"
theorem fn_room_eq {room v : List Int} (hl : room.length + v.length < 60) : fn_room_after [iT room, iL v] = some (iT (roomI room v)) := by
  unfold fn_room_after
  refine Eq.trans (fnP_at [.val (iT room), .val (iL v)] rfl rfl) ?_
  simp only [g_room_after, gRet, fCall, f2, faC, faN, Option.bind_assoc]
  walk_at "dl_ev"
  rw [fn_rooms_eq hl]
  walk_at "dl_ev"
  obtain ⟨xs, hx, _⟩ := roomsI_last v room
  rw [hx, List.map_append, List.map_singleton, pIx_last]
  rfl
end DL

namespace DL
open PySem PySem.Spec L2
local macro_rules
  | `(tactic| walk_at "dl_ev") => `(tactic| try simp only [Option.bind_some, gSeq, gSet, gOwn, gRet, gIf, gEx, gPut, gPutSet, gTupS, asg, fN, fC, fB, f2, faC, faCn, faN, fT, fNot, fAnd, fOr, fAndV, fOrV, fNotV, fIf, fCh, fLst, fTup, frzs, argO, derefs, deref, frD, fNeg, fM, fSl, fo0, fo1, fRev, gNil, osOf,
      List.getElem?_cons_succ, List.getElem?_cons_zero, List.set_cons_succ, List.set_cons_zero, cond_true, cond_false, endD, endN, endU, resD, pLen_l, pLen_t, pLt_ii, pLe_ii, pGt_ii, pGe_ii, pAdd_ii, pI_ii, pList_l, pList_t, pTuple_l, pTuple_t, Option.map_some, List.length_map, List.length_cons, List.length_nil, sz0, sz1, sz2, sz3, sz5, if_true])
/-! ### dicts of ints -/
def dI (es : List (Int × Int)) : List (D × D) := es.map fun p => (.int p.1, .int p.2)
def lookI (es : List (Int × Int)) (k : Int) : Option Int := (es.find? fun p => decide (p.1 = k)).map (·.2)
def putI {α : Type} (es : List (Int × α)) (k : Int) (v : α) : List (Int × α) := if (es.any fun p => decide (p.1 = k)) = true then es.map (fun p => if p.1 = k then (p.1, v) else p) else es ++ [(k, v)]
theorem dLook_dI (es : List (Int × Int)) (k : Int) : dLook (dI es) (.int k) = (lookI es k).map .int := by
  unfold dLook lookI dI
  induction es with
  | nil => rfl
  | cons p es ih =>
    simp only [List.map_cons, List.find?_cons]
    have e : PyData.eqv (.int p.1) (.int k) = decide (p.1 = k) := rfl
    rw [e]
    cases h : decide (p.1 = k) with
    | true => rfl
    | false => exact ih
theorem dPut_dI (es : List (Int × Int)) (k v : Int) : dPut (dI es) (.int k) (.int v) = dI (putI es k v) := by
  have e : ∀ p : Int × Int, PyData.eqv (.int p.1) (.int k) = decide (p.1 = k) := fun _ => rfl
  unfold dPut putI
  have ha : ((dI es).any fun p => PyData.eqv p.1 (.int k)) = es.any fun p => decide (p.1 = k) := by
    unfold dI; rw [List.any_map]; rfl
  rw [ha]
  split
  · unfold dI
    rw [List.map_map, List.map_map]
    apply List.map_congr_left
    intro p _
    show (if PyData.eqv (.int p.1) (.int k) = true then _ else _) = _
    rw [e p]
    by_cases h : p.1 = k
    · simp [h]
    · simp [h]
  · unfold dI; rw [List.map_append]; rfl
theorem fitK_dI (es : List (Int × Int)) (k : Int) : fitK (dI es) (.int k) = true := by
  cases es with
  | nil => rfl
  | cons p es => rfl
theorem keys_dI (es : List (Int × Int)) : keysI (dI es) = some (es.map (·.1)) := keysI_of (by
  unfold keysOf dI; rw [List.map_map, List.map_map]; rfl)
theorem putI_len {α : Type} (es : List (Int × α)) (k : Int) (v : α) : (putI es k v).length ≤ es.length + 1 := by
  unfold putI; split <;> simp
theorem pSortU_dI {es : List (Int × Int)} (h : es.length < 64) : pSortU [.dict (dI es)] = some (.new (iL (sortI (es.map (·.1))))) := by
  simp only [pSortU, pSort, keys_dI, Option.bind_some, List.length_map]
  rw [if_pos h]; rfl
theorem pIx_dI (es : List (Int × Int)) (k : Int) : pIx (.dict (dI es)) (.int k) = (lookI es k).map fun v => .frz (.int v) := by
  show (if fitK (dI es) (.int k) = true then (dLook (dI es) (.int k)).map Opd.frz else none) = _
  rw [if_pos (fitK_dI es k), dLook_dI, Option.map_map]; rfl
theorem putD_dI {es : List (Int × Int)} {k v : Int} (h : es.length < 100000) : putD (.dict (dI es)) (.frz (.int k)) (.int v) = some (.dict (dI (putI es k v))) := by
  show (if fitK (dI es) (.int k) = true ∧ (dI es).length < sizeLine then _ else _) = _
  rw [if_pos ⟨fitK_dI es k, by unfold dI; rw [List.length_map]; exact Nat.lt_of_lt_of_le h (by decide)⟩, dPut_dI]
/-! ### a visit -/
def atK (es : List (Int × Int)) (k : Int) : Int := (lookI es k).getD 0
def visitStep (es : List (Int × Int)) (r : Int) (s : List (Int × Int) × Int) (o : Int) : List (Int × Int) × Int := if r < o ∧ atK es o < s.2 then (putI s.1 o s.2, atK es o) else s
def visitL (es : List (Int × Int)) (r : Int) : List (Int × Int) := ((sortI (es.map (·.1))).foldl (visitStep es r) (putI es r 0, (lookI es r).getD r)).1
theorem lookI_key {es : List (Int × Int)} {k : Int} (h : k ∈ es.map (·.1)) : lookI es k = some (atK es k) := by
  unfold atK
  cases e : lookI es k with
  | some v => rfl
  | none =>
    exfalso
    unfold lookI at e
    rw [Option.map_eq_none_iff, List.find?_eq_none] at e
    obtain ⟨p, hp, rfl⟩ := List.mem_map.mp h
    exact e p hp (decide_eq_true rfl)
theorem pDict_dI (es : List (Int × Int)) : pDict [.dict (dI es)] = some (.new (.dict (dI es))) := by cases es <;> rfl
theorem fget_eq {es : List (Int × Int)} {r x : Int} {ρ : Ce} {fo fe fx : FE} (h1 : fo ρ = some (.frz (.dict (dI es)), ρ)) (h2 : fe ρ = some (.frz (.int r), ρ)) (h3 : fx ρ = some (.frz (.int x), ρ)) : fGet fo fe fx ρ = some (.frz (.int ((lookI es r).getD x)), ρ) := by
  unfold fGet
  simp only [h1, Option.bind_some, deref, h2, frD, h3]
  rw [if_pos (fitK_dI es r), dLook_dI]
  cases lookI es r <;> rfl
theorem visit_loop {es : List (Int × Int)} {r : Int} (hl : es.length < 64) (l : List Int) (hk : ∀ o ∈ l, o ∈ es.map (·.1)) (s : List (Int × Int) × Int) (c4 : Cell) (hs : s.1.length + l.length ≤ 1000) :
    ∃ c4', goFor (hN 4) (gIf (fAnd (fT (f2 pGt (fN 4) (fN 1))) (fT (f2 pLt (f2 pIx (fN 0) (fN 4)) (fN 3)))) (gPutSet 3 (fN 2) (fN 4) (faC (fN 3) (faC (f2 pIx (fN 0) (fN 4)) (faN)))) (gNil)) (l.map .int) [.val (.dict (dI es)), .val (.int r), .own false (.dict (dI s.1)), .val (.int s.2), c4] =
      some (.nx [.val (.dict (dI es)), .val (.int r), .own false (.dict (dI (l.foldl (visitStep es r) s).1)), .val (.int (l.foldl (visitStep es r) s).2), c4']) := by
  induction l generalizing s c4 with
  | nil => exact ⟨c4, rfl⟩
  | cons o l ih =>
    have ho := lookI_key (hk o List.mem_cons_self)
    have hix : pIx (.dict (dI es)) (.int o) = some (.frz (.int (atK es o))) := by rw [pIx_dI, ho]; rfl
    simp only [List.map_cons, goFor, hN, List.foldl_cons]
    walk_at "dl_ev"
    have hl1 : s.1.length < 100000 := by simp at hs; omega
    by_cases h1 : r < o
    · rw [decide_eq_true h1]
      walk_at "dl_ev"
      rw [hix]
      walk_at "dl_ev"
      by_cases h2 : atK es o < s.2
      · rw [decide_eq_true h2]
        walk_at "dl_ev"
        rw [hix]
        walk_at "dl_ev"
        rw [putD_dI hl1]
        walk_at "dl_ev"
        obtain ⟨c, hc⟩ := ih (fun x hx => hk x (List.mem_cons_of_mem _ hx)) (visitStep es r s o) (.val (.int o)) (by
          unfold visitStep; rw [if_pos ⟨h1, h2⟩]
          have := putI_len s.1 o s.2
          simp at hs ⊢; omega)
        refine ⟨c, Eq.trans ?_ hc⟩
        unfold visitStep
        rw [if_pos ⟨h1, h2⟩]
      · rw [decide_eq_false h2]
        walk_at "dl_ev"
        obtain ⟨c, hc⟩ := ih (fun x hx => hk x (List.mem_cons_of_mem _ hx)) (visitStep es r s o) (.val (.int o)) (by
          unfold visitStep; rw [if_neg fun z => h2 z.2]; simp at hs ⊢; omega)
        refine ⟨c, Eq.trans ?_ hc⟩
        unfold visitStep
        rw [if_neg fun z => h2 z.2]
    · rw [decide_eq_false h1]
      walk_at "dl_ev"
      obtain ⟨c, hc⟩ := ih (fun x hx => hk x (List.mem_cons_of_mem _ hx)) (visitStep es r s o) (.val (.int o)) (by
        unfold visitStep; rw [if_neg fun z => h1 z.1]; simp at hs ⊢; omega)
      refine ⟨c, Eq.trans ?_ hc⟩
      unfold visitStep
      rw [if_neg fun z => h1 z.1]
theorem fn_visit_eq {es : List (Int × Int)} {r : Int} (hl : es.length < 64) : fn_linked_visit [.dict (dI es), .int r] = some (.dict (dI (visitL es r))) := by
  unfold fn_linked_visit
  refine Eq.trans (fnP_at [.val (.dict (dI es)), .val (.int r), .un, .un, .un] rfl rfl) ?_
  simp only [g_linked_visit, gSeq, gTupS, faCn, faN, fB, faC, gFor, fSeq]
  walk_at "dl_ev"
  rw [pDict_dI]
  walk_at "dl_ev"
  rw [fget_eq (es := es) (r := r) (x := r) rfl rfl rfl]
  walk_at "dl_ev"
  rw [putD_dI (by omega)]
  walk_at "dl_ev"
  rw [pSortU_dI hl]
  walk_at "dl_ev"
  obtain ⟨c, hc⟩ := visit_loop (r := r) hl (sortI (es.map (·.1))) (fun o ho => (sortI_perm _).mem_iff.mp ho) (putI es r 0, (lookI es r).getD r) .un (by
    have h1 := putI_len es r 0
    have h2 := (sortI_perm (es.map (·.1))).length_eq
    simp at h2
    rw [h2]; simp; omega)
  dsimp only at hc
  rw [hc]
  walk_at "dl_ev"
  rfl
end DL

namespace DL
open PySem PySem.Spec L2
local macro_rules
  | `(tactic| walk_at "dl_ev") => `(tactic| try simp only [Option.bind_some, gSeq, gSet, gOwn, gRet, gIf, gEx, gPut, gPutSet, gTupS, asg, fN, fC, fB, f2, faC, faCn, faN, fT, fNot, fAnd, fOr, fAndV, fOrV, fNotV, fIf, fCh, fLst, fTup, frzs, argO, derefs, deref, frD, fNeg, fM, fSl, fo0, fo1, fRev, gNil, osOf,
      List.getElem?_cons_succ, List.getElem?_cons_zero, List.set_cons_succ, List.set_cons_zero, cond_true, cond_false, endD, endN, endU, resD, pLen_l, pLen_t, pLt_ii, pLe_ii, pGt_ii, pGe_ii, pAdd_ii, pI_ii, pList_l, pList_t, pTuple_l, pTuple_t, Option.map_some, List.length_map, List.length_cons, List.length_nil, sz0, sz1, sz2, sz3, sz5, if_true])

/-! ### chains by their last -/
def dC (fo : List (Int × List Int)) : List (D × D) := fo.map fun p => (.int p.1, tupD p.2)
def lookC (fo : List (Int × List Int)) (k : Int) : Option (List Int) := (fo.find? fun p => decide (p.1 = k)).map (·.2)
def dropC (fo : List (Int × List Int)) (k : Int) : List (Int × List Int) := fo.filter fun p => !decide (p.1 = k)
theorem dLook_dC (fo : List (Int × List Int)) (k : Int) : dLook (dC fo) (.int k) = (lookC fo k).map tupD := by
  unfold dLook lookC dC
  induction fo with
  | nil => rfl
  | cons p fo ih =>
    simp only [List.map_cons, List.find?_cons]
    have e : PyData.eqv (.int p.1) (.int k) = decide (p.1 = k) := rfl
    rw [e]
    cases h : decide (p.1 = k) with
    | true => rfl
    | false => exact ih
theorem dPut_dC (fo : List (Int × List Int)) (k : Int) (v : List Int) : dPut (dC fo) (.int k) (tupD v) = dC (putI fo k v) := by
  have e : ∀ p : Int × List Int, PyData.eqv (.int p.1) (.int k) = decide (p.1 = k) := fun _ => rfl
  unfold dPut putI
  have ha : ((dC fo).any fun p => PyData.eqv p.1 (.int k)) = fo.any fun p => decide (p.1 = k) := by
    unfold dC; rw [List.any_map]; rfl
  rw [ha]
  split
  · unfold dC
    rw [List.map_map, List.map_map]
    apply List.map_congr_left
    intro p _
    show (if PyData.eqv (.int p.1) (.int k) = true then _ else _) = _
    rw [e p]
    by_cases h : p.1 = k
    · simp [h]
    · simp [h]
  · unfold dC; rw [List.map_append]; rfl
theorem dDrop_dC (fo : List (Int × List Int)) (k : Int) : dDrop (dC fo) (.int k) = dC (dropC fo k) := by
  unfold dDrop dropC dC
  rw [List.filter_map]
  congr 1
theorem fitK_dC (fo : List (Int × List Int)) (k : Int) : fitK (dC fo) (.int k) = true := by
  cases fo <;> rfl
theorem isK_dC (fo : List (Int × List Int)) : isK (dC fo) = true := by cases fo <;> rfl
theorem vals_dC (fo : List (Int × List Int)) : (dC fo).map (·.2) = (fo.map (·.2)).map tupD := by
  unfold dC; rw [List.map_map, List.map_map]; rfl
theorem putD_dC {fo : List (Int × List Int)} {k : Int} {v : List Int} (h : fo.length < 100000) : putD (.dict (dC fo)) (.frz (.int k)) (tupD v) = some (.dict (dC (putI fo k v))) := by
  show (if fitK (dC fo) (.int k) = true ∧ (dC fo).length < sizeLine then _ else _) = _
  rw [if_pos ⟨fitK_dC fo k, by unfold dC; rw [List.length_map]; exact Nat.lt_of_lt_of_le h (by decide)⟩, dPut_dC]
theorem pAdd_tt (a b : List Int) (h : a.length + b.length ≤ 100000) : pAdd (iT a) (iT b) = some (.frz (iT (a ++ b))) := by
  unfold pAdd
  simp only [pI, pCat, pCatT, List.length_map, Option.none_or]
  rw [if_pos (size_ge h), Option.some_or, ← List.map_append]
def chStep (es : List (Int × Int)) (fo : List (Int × List Int)) (r : Int) : Option (List (Int × List Int)) :=
  if 0 < atK es r then (lookC fo (atK es r)).bind fun c => some (putI (dropC fo (atK es r)) r (c ++ [r])) else some (putI fo r [r])
theorem lookC_mem {fo : List (Int × List Int)} {k : Int} {c : List Int} (h : lookC fo k = some c) : (k, c) ∈ fo := by
  unfold lookC at h
  obtain ⟨p, h1, rfl⟩ := Option.map_eq_some_iff.mp h
  have h2 := List.find?_some h1
  have : p.1 = k := of_decide_eq_true h2
  subst this
  exact List.mem_of_find?_eq_some h1
theorem putI_mem {α : Type} {es : List (Int × α)} {k : Int} {v : α} {p : Int × α} (h : p ∈ putI es k v) : p = (k, v) ∨ p ∈ es := by
  unfold putI at h
  split at h
  · obtain ⟨q, hq, e⟩ := List.mem_map.mp h
    by_cases c : q.1 = k
    · rw [if_pos c] at e; subst e; subst c; exact .inl rfl
    · rw [if_neg c] at e; subst e; exact .inr hq
  · rcases List.mem_append.mp h with h | h
    · exact .inr h
    · exact .inl (by simpa using h)
theorem ch_loop {es : List (Int × Int)} (l : List Int) (hk : ∀ o ∈ l, o ∈ es.map (·.1)) (fo fo' : List (Int × List Int)) (c2 c3 : Cell) (hs : fo.length + l.length ≤ 1000) (hb : ∀ p ∈ fo, p.2.length + l.length ≤ 1000) (hf : l.foldlM (chStep es) fo = some fo') :
    ∃ d2 d3, goFor (hN 2) (gSeq (gSet 3 (f2 pIx (fN 0) (fN 2))) (gPut (fN 1) (fN 2) (f2 pAdd (fIf (fT (f2 pGt (fN 3) (fC (.int 0)))) (fDPop (fN 1) (fN 3)) (fTup (faN))) (fTup (faC (fN 2) (faN)))))) (l.map .int) [.val (.dict (dI es)), .own false (.dict (dC fo)), c2, c3] =
      some (.nx [.val (.dict (dI es)), .own false (.dict (dC fo')), d2, d3]) := by
  induction l generalizing fo c2 c3 with
  | nil => cases hf; exact ⟨c2, c3, rfl⟩
  | cons o l ih =>
    have ho := lookI_key (hk o List.mem_cons_self)
    have hix : pIx (.dict (dI es)) (.int o) = some (.frz (.int (atK es o))) := by rw [pIx_dI, ho]; rfl
    rw [List.foldlM_cons] at hf
    obtain ⟨f1, h1, h2⟩ := Option.bind_eq_some_iff.mp hf
    simp only [List.length_cons] at hs hb
    simp only [List.map_cons, goFor, hN]
    walk_at "dl_ev"
    rw [hix]
    walk_at "dl_ev"
    unfold chStep at h1
    by_cases hp : 0 < atK es o
    · rw [if_pos hp] at h1
      obtain ⟨c, h3, h4⟩ := Option.bind_eq_some_iff.mp h1
      cases h4
      rw [decide_eq_true hp]
      walk_at "dl_ev"
      simp only [fDPop]
      walk_at "dl_ev"
      simp only [keyK, keyD]
      walk_at "dl_ev"
      have e1 : fitK (dC fo) (kD (.inl (atK es o))) = true := fitK_dC fo _
      have e2 : dLook (dC fo) (kD (.inl (atK es o))) = some (tupD c) := by
        show dLook (dC fo) (.int (atK es o)) = _
        rw [dLook_dC, h3]; rfl
      have e3 : dDrop (dC fo) (kD (.inl (atK es o))) = dC (dropC fo (atK es o)) := dDrop_dC fo _
      rw [if_pos e1, e2, e3]
      walk_at "dl_ev"
      have hc := hb _ (lookC_mem h3)
      have e4 : pAdd (tupD c) (.tuple [.int o]) = some (.frz (iT (c ++ [o]))) := pAdd_tt c [o] (by simp at hc ⊢; omega)
      rw [e4]
      walk_at "dl_ev"
      have hd : (dropC fo (atK es o)).length ≤ fo.length := List.length_filter_le _ _
      rw [show iT (c ++ [o]) = tupD (c ++ [o]) from rfl, putD_dC (by omega)]
      walk_at "dl_ev"
      refine ih (fun x hx => hk x (List.mem_cons_of_mem _ hx)) _ _ _ ?_ (fun p hp => ?_) h2
      · have := putI_len (dropC fo (atK es o)) o (c ++ [o])
        omega
      · rcases putI_mem hp with e | h
        · rw [e]; simp at hc ⊢; omega
        · have := hb p (List.mem_filter.mp h).1
          omega
    · rw [if_neg hp] at h1
      cases h1
      rw [decide_eq_false hp]
      walk_at "dl_ev"
      have e4 : pAdd (.tuple []) (.tuple [.int o]) = some (.frz (iT [o])) := pAdd_tt [] [o] (by simp)
      rw [e4]
      walk_at "dl_ev"
      rw [show iT [o] = tupD [o] from rfl, putD_dC (by omega)]
      walk_at "dl_ev"
      refine ih (fun x hx => hk x (List.mem_cons_of_mem _ hx)) _ _ _ ?_ (fun p hp => ?_) h2
      · have := putI_len fo o [o]
        omega
      · rcases putI_mem hp with e | h
        · rw [e]; simp; omega
        · have := hb p h
          omega
/-- the chains of links -/
def chainsL (es : List (Int × Int)) : Option (List (List Int)) := ((sortI (es.map (·.1))).foldlM (chStep es) []).map fun fo => sortL (fo.map (·.2))
theorem chStep_ne {es : List (Int × Int)} : ∀ (l : List Int) (fo fo' : List (Int × List Int)), (∀ p ∈ fo, p.2 ≠ []) → l.foldlM (chStep es) fo = some fo' → ∀ p ∈ fo', p.2 ≠ []
  | [], fo, fo', h, e => by cases e; exact h
  | o :: l, fo, fo', h, e => by
    rw [List.foldlM_cons] at e
    obtain ⟨f1, h1, h2⟩ := Option.bind_eq_some_iff.mp e
    refine chStep_ne l f1 fo' (fun p hp => ?_) h2
    unfold chStep at h1
    split at h1
    · obtain ⟨c, h3, h4⟩ := Option.bind_eq_some_iff.mp h1
      cases h4
      rcases putI_mem hp with e | hp
      · rw [e]; simp
      · exact h p (List.mem_filter.mp hp).1
    · cases h1
      rcases putI_mem hp with e | hp
      · rw [e]; simp
      · exact h p hp
def chT (cs : List (List Int)) : D := .tuple (cs.map tupD)
theorem fn_chl_eq {es : List (Int × Int)} {cs : List (List Int)} (hl : es.length < 64) (h : chainsL es = some cs) : fn_chains_from_links [.dict (dI es)] = some (chT cs) := by
  obtain ⟨fo, h1, rfl⟩ := Option.map_eq_some_iff.mp h
  unfold fn_chains_from_links
  refine Eq.trans (fnP_at [.val (.dict (dI es)), .un, .un, .un] rfl rfl) ?_
  simp only [g_chains_from_links, gSeq, gOwn, fDNew, gFor, fSeq, fB, faC, faN]
  walk_at "dl_ev"
  rw [pSortU_dI hl]
  walk_at "dl_ev"
  have hsz := (sortI_perm (es.map (·.1))).length_eq
  simp only [List.length_map] at hsz
  obtain ⟨d2, d3, hc⟩ := ch_loop (sortI (es.map (·.1))) (fun o ho => (sortI_perm _).mem_iff.mp ho) [] fo .un .un (by rw [hsz]; simp; omega) nofun h1
  rw [show ([] : List (D × D)) = dC [] from rfl, hc]
  walk_at "dl_ev"
  simp only [fSortV]
  walk_at "dl_ev"
  rw [if_pos (isK_dC fo), vals_dC, tupsI_map fun ns hns => by
    obtain ⟨p, hp, rfl⟩ := List.mem_map.mp hns
    exact chStep_ne _ [] fo nofun h1 p hp]
  rfl
end DL

namespace DL
open PySem PySem.Spec L2
local macro_rules
  | `(tactic| walk_at "dl_ev") => `(tactic| try simp only [Option.bind_some, gSeq, gSet, gOwn, gRet, gIf, gEx, gPut, gPutSet, gTupS, asg, fN, fC, fB, f2, faC, faCn, faN, fT, fNot, fAnd, fOr, fAndV, fOrV, fNotV, fIf, fCh, fLst, fTup, frzs, argO, derefs, deref, frD, fNeg, fM, fSl, fo0, fo1, fRev, gNil, osOf, fCall, fCallN, fCallU,
      List.getElem?_cons_succ, List.getElem?_cons_zero, List.set_cons_succ, List.set_cons_zero, cond_true, cond_false, endD, endN, endU, resD, pLen_l, pLen_t, pLt_ii, pLe_ii, pGt_ii, pGe_ii, pAdd_ii, pI_ii, pList_l, pList_t, pTuple_l, pTuple_t, Option.map_some, List.length_map, List.length_cons, List.length_nil, sz0, sz1, sz2, sz3, sz5, if_true])
/-! ### keys behind a visit -/
theorem putI_keys {α : Type} (es : List (Int × α)) (k : Int) (v : α) : (putI es k v).map (·.1) = addK (es.map (·.1)) k := by
  have ha : (es.any fun p => decide (p.1 = k)) = decide (k ∈ es.map (·.1)) := by
    induction es with
    | nil => rfl
    | cons p es ih =>
      rw [List.any_cons, ih, List.map_cons]
      by_cases h : p.1 = k
      · simp [h]
      · simp [h, Ne.symm h]
  unfold putI addK
  rw [ha]
  by_cases h : k ∈ es.map (·.1)
  · rw [if_pos (decide_eq_true h), if_pos h, List.map_map]
    apply List.map_congr_left
    intro p _
    show (if p.1 = k then (p.1, v) else p).1 = p.1
    split <;> rfl
  · rw [if_neg (by simpa using h), if_neg h, List.map_append]; rfl
theorem addK_in {ks : List Int} {k : Int} (h : k ∈ ks) : addK ks k = ks := if_pos h
theorem mem_addK {ks : List Int} {k x : Int} : x ∈ addK ks k ↔ x ∈ ks ∨ x = k := by
  unfold addK
  split
  · rename_i h
    constructor
    · exact .inl
    · rintro (h1 | h1)
      · exact h1
      · rw [h1]; exact h
  · simp
theorem fold_keys {es : List (Int × Int)} {r : Int} : ∀ (l : List Int) (s : List (Int × Int) × Int), (∀ o ∈ l, o ∈ s.1.map (·.1)) → ((l.foldl (visitStep es r) s).1).map (·.1) = s.1.map (·.1)
  | [], s, _ => rfl
  | o :: l, s, h => by
    have e : (visitStep es r s o).1.map (·.1) = s.1.map (·.1) := by
      unfold visitStep
      split
      · rw [putI_keys, addK_in (h o List.mem_cons_self)]
      · rfl
    rw [List.foldl_cons, fold_keys l _ fun x hx => by rw [e]; exact h x (List.mem_cons_of_mem _ hx), e]
theorem visitL_keys (es : List (Int × Int)) (r : Int) : (visitL es r).map (·.1) = addK (es.map (·.1)) r := by
  unfold visitL
  rw [fold_keys _ _ fun o ho => ?_, putI_keys]
  rw [putI_keys, mem_addK]
  exact .inl ((sortI_perm _).mem_iff.mp ho)
theorem visitL_len (es : List (Int × Int)) (r : Int) : (visitL es r).length ≤ es.length + 1 := by
  have h := congrArg List.length (visitL_keys es r)
  simp only [List.length_map] at h
  rw [h]
  unfold addK
  split <;> simp
def linksOf (v : List Int) : List (Int × Int) := v.foldl visitL []
theorem linksOf_snoc (v : List Int) (r : Int) : linksOf (v ++ [r]) = visitL (linksOf v) r := by unfold linksOf; rw [List.foldl_append]; rfl
theorem fold_len (v : List Int) : ∀ es : List (Int × Int), (v.foldl visitL es).length ≤ es.length + v.length := by
  induction v with
  | nil => intro es; exact Nat.le_refl _
  | cons r v ih =>
    intro es
    have h1 := ih (visitL es r)
    have h2 := visitL_len es r
    simp only [List.foldl_cons, List.length_cons]; omega
theorem linksOf_len (v : List Int) : (linksOf v).length ≤ v.length := by have := fold_len v []; unfold linksOf; simpa using this
theorem fn_chains_eq {v : List Int} {cs : List (List Int)} (hl : v.length < 60) (h : chainsL (linksOf v) = some cs) : fn_chains_of [iL v] = some (chT cs) := by
  unfold fn_chains_of
  refine Eq.trans (fnP_at [.val (iL v), .un, .un] rfl rfl) ?_
  simp only [g_chains_of, gSeq, gSet, fDNew, gFor, fSeq, fCall, faC, faN]
  walk_at "dl_ev"
  simp only [Option.bind_assoc]
  refine goFor_use (fun pre ρ => ∃ c2, ρ = [.val (iL v), .val (.dict (dI (linksOf pre))), c2]) ⟨.un, rfl⟩ (fun pre i post ρ e hp => ?_) fun ρ' hp => ?_
  · obtain ⟨c2, rfl⟩ := hp
    have hp1 : pre.length < v.length := by rw [e]; simp
    have hp2 := linksOf_len pre
    refine ⟨_, [.val (iL v), .val (.dict (dI (linksOf (pre ++ [i])))), .val (.int i)], rfl, .inl ?_, ⟨_, rfl⟩⟩
    walk_at "dl_ev"
    rw [fn_visit_eq (by omega)]
    walk_at "dl_ev"
    rw [linksOf_snoc]
  · obtain ⟨c2, rfl⟩ := hp
    have := linksOf_len v
    walk_at "dl_ev"
    rw [fn_chl_eq (by omega) h]
    walk_at "dl_ev"
/-! ### comprehensions over chains -/
def tT (p : List Int → Bool) : D → Bool
  | .tuple ds => match intsD ds with
    | some ns => p ns
    | none => false
  | _ => false
def fTu (f : List Int → D) : D → D
  | .tuple ds => match intsD ds with
    | some ns => f ns
    | none => .none
  | _ => .none
theorem tT_tup (p : List Int → Bool) (ns : List Int) : tT p (tupD ns) = p ns := by
  show (match intsD (ns.map .int) with | some ns => p ns | none => false) = _
  rw [intsD_map]
theorem fTu_tup (f : List Int → D) (ns : List Int) : fTu f (tupD ns) = f ns := by
  show (match intsD (ns.map .int) with | some ns => f ns | none => .none) = _
  rw [intsD_map]
theorem filter_tups (p : List Int → Bool) : ∀ cs : List (List Int), (cs.map tupD).filter (tT p) = (cs.filter p).map tupD
  | [] => rfl
  | c :: cs => by
    rw [List.map_cons, List.filter_cons, tT_tup, List.filter_cons, filter_tups p cs]
    cases p c <;> rfl
theorem map_tups (f : List Int → D) : ∀ cs : List (List Int), (cs.map tupD).map (fTu f) = cs.map f
  | [] => rfl
  | c :: cs => by rw [List.map_cons, List.map_cons, map_tups f cs, fTu_tup]; rfl
theorem fLc_tups {fi : FI} {h : HT} {ft : FT} {fe : FE} {vs : List Nat} {ρ0 ρ1 : Ce} {cs : List (List Int)} (ρ : Ce) (p : List Int → Bool) (f : List Int → D) (hi : fi ρ0 = some (cs.map tupD, none, ρ1)) (hw : wipeC ρ1 vs = ρ)
    (H : ∀ c ∈ cs, ∃ ρ1 ρ2, h (tupD c) ρ = some ρ1 ∧ ft ρ1 = some (p c, ρ2) ∧ (p c = true → ∃ o ρ3, fe ρ2 = some (o, ρ3) ∧ frD o = some (f c) ∧ wipeC ρ3 vs = ρ) ∧ (p c = false → wipeC ρ2 vs = ρ)) (hl : cs.length ≤ 100000) (hr : restC ρ1 vs ρ = ρ1) :
    fLc fi h ft fe vs ρ0 = some (.new (.list ((cs.filter p).map f)), ρ1) := by
  rw [fLc_pure (tT p) (fTu f) hi hw (fun d hd => ?_) (by simpa using size_ge hl) hr]
  · rw [filter_tups, map_tups]
  · obtain ⟨c, hc, rfl⟩ := List.mem_map.mp hd
    rw [tT_tup, fTu_tup]
    exact H c hc
theorem fCh_le {fa fb fc : FE} {ρ : Ce} {a b c : Int} (h1 : fa ρ = some (.frz (.int a), ρ)) (h2 : fb ρ = some (.frz (.int b), ρ)) (h3 : fc ρ = some (.frz (.int c), ρ)) : fCh pLe pLe fa fb fc ρ = some (.frz (.bool (decide (a ≤ b) && decide (b ≤ c))), ρ) := by
  unfold fCh
  simp only [h1, Option.bind_some, h2, deref, pLe_ii]
  cases decide (a ≤ b) with
  | false => rfl
  | true =>
    simp only [cond_true, h3, Option.bind_some, deref, pLe_ii, Bool.true_and]
def inR (lo hi x : Int) : Bool := decide (lo ≤ x) && decide (x ≤ hi)
def meetI (cs : List (List Int)) (lo hi : Int) : Nat := (cs.filter fun c => c.any (inR lo hi)).length
theorem pAny_map (ns : List Int) (p : Int → Bool) : pAny [.list (ns.map fun i => .bool (p i))] = some (.frz (.bool (ns.any p))) := by
  have : ns.map (fun i => PyData.bool (p i)) = (ns.map p).map .bool := by rw [List.map_map]; rfl
  rw [this]
  show ((boolsD ((ns.map p).map .bool)).map _) = _
  rw [boolsD_map]
  show some (Opd.frz (.bool ((ns.map p).any id))) = _
  rw [List.any_map]; rfl
theorem fn_meeting_eq {cs : List (List Int)} {lo hi : Int} (hl : cs.length ≤ 1000) (hb : ∀ c ∈ cs, c.length ≤ 1000) : fn_meeting [chT cs, .int lo, .int hi] = some (.int (meetI cs lo hi)) := by
  unfold fn_meeting
  refine Eq.trans (fnP_at [.val (chT cs), .val (.int lo), .val (.int hi), .un, .un] rfl rfl) ?_
  simp only [g_meeting, gRet, fB, faC, faN]
  rw [fLc_tups [.val (chT cs), .val (.int lo), .val (.int hi), .un, .un] (fun c => c.any (inR lo hi)) tupD rfl rfl (fun c hc => ⟨_, [.val (chT cs), .val (.int lo), .val (.int hi), .val (tupD c), .un], rfl, ?_, fun _ => ⟨_, _, rfl, rfl, rfl⟩, fun _ => rfl⟩) (by omega) rfl]
  · walk_at "dl_ev"
    rfl
  · unfold fT
    show ((fLc (fSeq (fN 3)) (hN 4) fYes (fCh pLe pLe (fN 1) (fN 4) (fN 2)) [4] [.val (chT cs), .val (.int lo), .val (.int hi), .val (tupD c), .un]).bind _ |>.bind _ |>.bind _) = _
    rw [fLc_ints [.val (chT cs), .val (.int lo), .val (.int hi), .val (tupD c), .un] (fun _ => true) (fun i => .bool (inR lo hi i)) rfl rfl (fun i hi => ⟨_, _, rfl, rfl, fun _ => ⟨_, _, fCh_le rfl rfl rfl, rfl, rfl⟩, fun z => nomatch z⟩) (Nat.le_trans (hb c hc) (by decide)) rfl]
    walk_at "dl_ev"
    rw [List.filter_eq_self.mpr fun _ _ => rfl, pAny_map]
    rfl
end DL

namespace DL
open PySem PySem.Spec L2
local macro_rules
  | `(tactic| walk_at "dl_ev") => `(tactic| try simp only [Option.bind_some, gSeq, gSet, gOwn, gRet, gIf, gEx, gPut, gPutSet, gTupS, asg, fN, fC, fB, f2, faC, faCn, faN, fT, fNot, fAnd, fOr, fAndV, fOrV, fNotV, fIf, fCh, fLst, fTup, frzs, argO, derefs, deref, frD, fNeg, fM, fSl, fo0, fo1, fRev, gNil, osOf, fCall, fCallN, fCallU,
      List.getElem?_cons_succ, List.getElem?_cons_zero, List.set_cons_succ, List.set_cons_zero, cond_true, cond_false, endD, endN, endU, resD, pLen_l, pLen_t, pLt_ii, pLe_ii, pGt_ii, pGe_ii, pAdd_ii, pI_ii, pList_l, pList_t, pTuple_l, pTuple_t, Option.map_some, List.length_map, List.length_cons, List.length_nil, sz0, sz1, sz2, sz3, sz5, if_true])
/-! ### step by step -/
section
variable {ρ ρ1 ρ2 : Ce} {fe fb : FE} {fa : FA} {o x y : Opd} {os : List Opd} {d e : D} {ds : List D}
theorem gSeq_nx {g1 g2 : FS} (h : g1 ρ = some (.nx ρ1)) : gSeq g1 g2 ρ = g2 ρ1 := by unfold gSeq; rw [h]; rfl
theorem gEx_of (h : fe ρ = some (o, ρ1)) : gEx fe ρ = some (.nx ρ1) := by unfold gEx; rw [h]; rfl
theorem gSet_of {i : Nat} (h : fe ρ = some (o, ρ1)) (hd : frD o = some d) : gSet i fe ρ = some (.nx (ρ1.set i (.val d))) := by unfold gSet; rw [h]; simp only [Option.bind_some, hd]
theorem gRet_of (h : fe ρ = some (o, ρ1)) : gRet fe ρ = some (.rt o ρ1) := by unfold gRet; rw [h]; rfl
theorem gIf_of {ft : FT} {g1 g2 : FS} {b : Bool} (h : ft ρ = some (b, ρ1)) : gIf ft g1 g2 ρ = cond b (g1 ρ1) (g2 ρ1) := by unfold gIf; rw [h]; rfl
theorem fIf_of {ft : FT} {b : Bool} (h : ft ρ = some (b, ρ1)) : fIf ft fe fb ρ = cond b (fe ρ1) (fb ρ1) := by unfold fIf; rw [h]; rfl
theorem faC_of (h : fe ρ = some (o, ρ1)) (h2 : fa ρ1 = some (os, ρ2)) : faC fe fa ρ = some (argO o :: os, ρ2) := by unfold faC; rw [h]; simp only [Option.bind_some, h2]
theorem fB_of {p : List D → Option Opd} (h : fa ρ = some (os, ρ1)) (h2 : derefs ρ1 os = some ds) (h3 : p ds = some o) : fB p fa ρ = some (o, ρ1) := by unfold fB; rw [h]; simp only [Option.bind_some, h2, h3]
theorem f2_of {p : D → D → Option Opd} (h : fe ρ = some (x, ρ1)) (h2 : fb ρ1 = some (y, ρ2)) (hd : deref ρ2 x = some d) (he : deref ρ2 y = some e) (h3 : p d e = some o) : f2 p fe fb ρ = some (o, ρ2) := by unfold f2; rw [h]; simp only [Option.bind_some, h2, hd, he, h3]
theorem fT_of {b : Bool} (h : fe ρ = some (.frz (.bool b), ρ1)) : fT fe ρ = some (b, ρ1) := by unfold fT; rw [h]; rfl
theorem fNot_of {ft : FT} {b : Bool} (h : ft ρ = some (b, ρ1)) : fNot ft ρ = some (!b, ρ1) := by unfold fNot; rw [h]; rfl
theorem fAnd_of {ft fu : FT} {b c : Bool} (h : ft ρ = some (b, ρ)) (h2 : b = true → fu ρ = some (c, ρ)) : fAnd ft fu ρ = some (b && c, ρ) := by
  unfold fAnd; rw [h]
  cases b with
  | false => rfl
  | true => exact h2 rfl
theorem fOr_of {ft fu : FT} {b c : Bool} (h : ft ρ = some (b, ρ)) (h2 : b = false → fu ρ = some (c, ρ)) : fOr ft fu ρ = some (b || c, ρ) := by
  unfold fOr; rw [h]
  cases b with
  | true => rfl
  | false => exact h2 rfl
theorem fAndV_of {b c : Bool} (h : fe ρ = some (.frz (.bool b), ρ)) (h2 : b = true → fb ρ = some (.frz (.bool c), ρ)) : fAndV fe fb ρ = some (.frz (.bool (b && c)), ρ) := by
  unfold fAndV; rw [h]
  cases b with
  | false => rfl
  | true => exact h2 rfl
theorem fLst_of (h : fa ρ = some (os, ρ1)) (h2 : frzs os = some ds) (hl : ds.length ≤ 100000) : fLst fa ρ = some (.new (.list ds), ρ1) := by
  unfold fLst; rw [h]; simp only [Option.bind_some, h2]
  rw [if_pos (size_ge hl)]
theorem fTup_of (h : fa ρ = some (os, ρ1)) (h2 : frzs os = some ds) (hl : ds.length ≤ 100000) : fTup fa ρ = some (.frz (.tuple ds), ρ1) := by
  unfold fTup; rw [h]; simp only [Option.bind_some, h2]
  rw [if_pos (size_ge hl)]
theorem fCall_of {fn : Fn} (h : fa ρ = some (os, ρ1)) (h2 : frzs os = some ds) (h3 : fn ds = some d) : fCall fn fa ρ = some (.frz d, ρ1) := by
  unfold fCall; rw [h]; simp only [Option.bind_some, h2, h3]
theorem fM_app {i : Nat} {b : Bool} (h : fe ρ = some (.own i, ρ)) (hi : ρ[i]? = some (.own b (.list ds))) (h2 : fa ρ = some ([.frz d], ρ)) (hl : ds.length ≤ 100000) : fM "list" mApp fe fa ρ = some (.frz .none, ρ.set i (.own b (.list (ds ++ [d])))) := by
  have hl2 : ds.length < sizeLine := Nat.lt_of_le_of_lt hl (by decide)
  unfold fM
  simp only [h, Option.bind_some, hi]
  rw [if_pos (show tyD "list" (PyData.list ds) = true from rfl), h2]
  simp only [Option.bind_some, hi, frzs, mApp, if_pos hl2]
theorem gFor_of {fi : FI} {h : HT} {g : FS} (hi : fi ρ = some (ds, none, ρ1)) : gFor fi h g ρ = goFor h g ds ρ1 := by unfold gFor; rw [hi]; rfl
theorem fSeq_t {x : Opd} (h : fe ρ = some (x, ρ1)) (hd : deref ρ1 x = some (.tuple ds)) : fSeq fe ρ = some (ds, none, ρ1) := by unfold fSeq; rw [h]; simp only [Option.bind_some, hd]
theorem fSeq_l {x : Opd} (h : fe ρ = some (x, ρ1)) (hd : deref ρ1 x = some (.list ds)) : fSeq fe ρ = some (ds, osOf x, ρ1) := by unfold fSeq; rw [h]; simp only [Option.bind_some, hd]
end
theorem goFor_enum {h : HT} {g : FS} (P : List Int → Ce → Prop) (v : List Int) (H : ∀ (pre : List Int) (r : Int) (post : List Int) (ρ : Ce), v = pre ++ r :: post → P pre ρ → ∃ ρ1 ρ2, h (.tuple [.int pre.length, .int r]) ρ = some ρ1 ∧ (g ρ1 = some (.nx ρ2) ∨ g ρ1 = some (.ct ρ2)) ∧ P (pre ++ [r]) ρ2) :
    ∀ (post pre : List Int) (ρ : Ce), v = pre ++ post → P pre ρ → ∃ ρ', goFor h g (enumD pre.length (post.map .int)) ρ = some (.nx ρ') ∧ P v ρ'
  | [], pre, ρ, e, hp => ⟨ρ, rfl, by rw [e, List.append_nil]; exact hp⟩
  | r :: post, pre, ρ, e, hp => by
    obtain ⟨ρ1, ρ2, h1, h2, h3⟩ := H pre r post ρ e hp
    obtain ⟨ρ', e1, e2⟩ := goFor_enum P v H post (pre ++ [r]) ρ2 (by rw [e, List.append_assoc]; rfl) h3
    refine ⟨ρ', ?_, e2⟩
    have e3 : (((pre ++ [r]).length : Nat) : Int) = (pre.length : Int) + 1 := by simp
    rw [e3] at e1
    simp only [List.map_cons, enumD, goFor, h1, Option.bind_some]
    rcases h2 with h2 | h2 <;> simp only [h2, Option.bind_some, e1]
theorem goFor_enum_use {α : Type} {h : HT} {g : FS} (P : List Int → Ce → Prop) {v : List Int} {ρ : Ce} {k : Rs → Option α} {c : Option α} (hp : P [] ρ) (H : ∀ (pre : List Int) (r : Int) (post : List Int) (ρ : Ce), v = pre ++ r :: post → P pre ρ → ∃ ρ1 ρ2, h (.tuple [.int pre.length, .int r]) ρ = some ρ1 ∧ (g ρ1 = some (.nx ρ2) ∨ g ρ1 = some (.ct ρ2)) ∧ P (pre ++ [r]) ρ2)
    (kk : ∀ ρ', P v ρ' → k (.nx ρ') = c) : (goFor h g (enumD 0 (v.map .int)) ρ).bind k = c := by
  obtain ⟨ρ', e1, e2⟩ := goFor_enum P v H v [] ρ rfl hp
  rw [show (0 : Int) = (([] : List Int).length : Int) from rfl, e1, Option.bind_some]
  exact kk ρ' e2
/-! ### longest choices -/
def endStep (lo hi : Int) (E : List (Int × Int)) (r : Int) : List (Int × Int) := E ++ [(r, if inR lo hi r = true then 1 + maxI ((E.filter fun p => decide (p.1 < r)).map (·.2) ++ [0]) else 0)]
def endsE (lo hi : Int) (v : List Int) : List (Int × Int) := v.foldl (endStep lo hi) []
theorem endsE_snoc (lo hi : Int) (v : List Int) (r : Int) : endsE lo hi (v ++ [r]) = endStep lo hi (endsE lo hi v) r := by unfold endsE; rw [List.foldl_append]; rfl
theorem endsE_fst (lo hi : Int) : ∀ v : List Int, (endsE lo hi v).map (·.1) = v := fun v => by
  have : ∀ (v : List Int) (E : List (Int × Int)), (v.foldl (endStep lo hi) E).map (·.1) = E.map (·.1) ++ v := by
    intro v
    induction v with
    | nil => intro E; simp
    | cons r v ih => intro E; rw [List.foldl_cons, ih]; unfold endStep; simp
  have := this v []
  simpa [endsE] using this
def longI (lo hi : Int) (v : List Int) : Int := maxI ((endsE lo hi v).map (·.2) ++ [0])
def iotaI (n : Nat) : List Int := (List.range n).map fun (k : Nat) => (k : Int)
theorem rngD_iota (n : Nat) : rngD 0 1 n = (iotaI n).map .int := by
  apply List.ext_getElem?
  intro i
  unfold iotaI
  by_cases h : i < n
  · rw [rngD_get 1 n 0 i h]
    simp [h]
  · rw [List.getElem?_eq_none (by rw [rngD_len]; omega), List.getElem?_eq_none (by simp; omega)]
theorem zip_lengths (E : List (Int × Int)) (v : List Int) (r : Int) (hv : ∀ k : Nat, k < E.length → v[k]? = (E.map (·.1))[k]?) :
    ((iotaI E.length).filter fun i => decide (v.getD i.toNat 0 < r)).map (fun i => (E.map (·.2)).getD i.toNat 0) = (E.filter fun p => decide (p.1 < r)).map (·.2) := by
  have eE : E = (List.range E.length).map fun k => ((E.map (·.1)).getD k 0, (E.map (·.2)).getD k 0) := by
    apply List.ext_getElem?
    intro i
    by_cases h : i < E.length
    · simp [h]
    · rw [List.getElem?_eq_none (by omega), List.getElem?_eq_none (by simp; omega)]
  conv => rhs; rw [eE]
  unfold iotaI
  rw [List.filter_map, List.map_map, List.filter_map, List.map_map]
  have : (List.range E.length).filter ((fun i : Int => decide (v.getD i.toNat 0 < r)) ∘ fun (k : Nat) => (k : Int)) = (List.range E.length).filter ((fun p : Int × Int => decide (p.1 < r)) ∘ fun k => ((E.map (·.1)).getD k 0, (E.map (·.2)).getD k 0)) := by
    apply List.filter_congr
    intro k hk
    have hk' : k < E.length := List.mem_range.mp hk
    show decide (v.getD (k : Int).toNat 0 < r) = decide ((E.map (·.1)).getD k 0 < r)
    rw [Int.toNat_natCast, List.getD_eq_getElem?_getD, hv k hk', List.getD_eq_getElem?_getD]
  rw [this]
  rfl
theorem pMax_app0 (ns : List Int) : pMax [iL (ns ++ [0])] = some (.frz (.int (maxI (ns ++ [0])))) := by
  show ((intsD ((ns ++ [0]).map .int)).bind fun ns => if ns = [] then none else some (Opd.frz (.int (maxI ns)))) = _
  rw [intsD_map, Option.bind_some, if_neg (by simp)]
theorem pIx_iL (ns : List Int) (k : Nat) (h : k < ns.length) : pIx (iL ns) (.int k) = some (.frz (.int (ns.getD k 0))) := by
  rw [pIx_li, atI_nat (j := k) (v := ns.getD k 0) (by rw [List.getD_eq_getElem?_getD, List.getElem?_eq_getElem h]; rfl)]
  rfl
theorem mem_iota {n : Nat} {i : Int} (h : i ∈ iotaI n) : ∃ k : Nat, i = k ∧ k < n := by
  obtain ⟨k, hk, rfl⟩ := List.mem_map.mp h
  exact ⟨k, rfl, List.mem_range.mp hk⟩
theorem two62 : (2 : Int) ^ 62 = 4611686018427387904 := by decide +kernel
theorem okR_nat {n : Nat} (h : n ≤ 100000) : okR (n : Int) = true := by
  unfold okR
  rw [two62]
  exact decide_eq_true (by omega)
theorem fRng_1 {fa : FA} {ρ ρ1 : Ce} {j : Int} (h1 : fa ρ = some ([.frz (.int j)], ρ1)) {b : Bool} (hb : okR j = b) (hok : b = true) : fRng fa ρ = some (rngD 0 1 j.toNat, none, ρ1) := by
  unfold fRng
  rw [h1, Option.bind_some]
  dsimp only
  rw [hb, if_pos hok]
theorem fRng1 {fe : FE} {ρ : Ce} {n : Nat} (h : fe ρ = some (.frz (.int (n : Int)), ρ)) (hn : n ≤ 100000) : fRng (faC fe faN) ρ = some ((iotaI n).map .int, none, ρ) := by
  rw [fRng_1 (faC_of h rfl) (okR_nat hn) rfl, Int.toNat_natCast, rngD_iota]
theorem ft_lt {fa fb : FE} {ρ : Ce} {a b : Int} (h1 : fa ρ = some (.frz (.int a), ρ)) (h2 : fb ρ = some (.frz (.int b), ρ)) : fT (f2 pLt fa fb) ρ = some (decide (a < b), ρ) := by
  unfold fT f2
  simp only [h1, Option.bind_some, h2, deref, pLt_ii]
theorem fe_ix {fa fb : FE} {ρ : Ce} {x : Opd} {d e : D} {o : Opd} (h1 : fa ρ = some (x, ρ)) (hd : deref ρ x = some d) (h2 : fb ρ = some (.frz e, ρ)) (h3 : pIx d e = some o) : f2 pIx fa fb ρ = some (o, ρ) := f2_of h1 h2 hd rfl h3
theorem fn_ends_eq {v : List Int} {lo hi : Int} (hl : v.length ≤ 1000) : fn_longest_ends [iL v, .int lo, .int hi] = some (iL ((endsE lo hi v).map (·.2))) := by
  unfold fn_longest_ends
  refine Eq.trans (fnP_at [.val (iL v), .val (.int lo), .val (.int hi), .un, .un, .un, .un, .un] rfl rfl) ?_
  simp only [g_longest_ends, gSeq, gOwn, gFor, fEnum]
  walk_at "dl_ev"
  simp only [Option.bind_assoc]
  refine goFor_enum_use (fun pre ρ => ∃ c4 c5 c6, ρ = [.val (iL v), .val (.int lo), .val (.int hi), .own false (iL ((endsE lo hi pre).map (·.2))), c4, c5, c6, .un]) ⟨.un, .un, .un, rfl⟩ (fun pre r post ρ e hp => ?_) fun ρ' hp => ?_
  · obtain ⟨c4, c5, c6, rfl⟩ := hp
    have hE : (endsE lo hi pre).length = pre.length := by have := congrArg List.length (endsE_fst lo hi pre); simpa using this
    have hpl : pre.length < v.length := by rw [e]; simp
    let len : List Int := ((endsE lo hi pre).filter fun p => decide (p.1 < r)).map (·.2)
    refine ⟨_, [.val (iL v), .val (.int lo), .val (.int hi), .own false (iL ((endsE lo hi (pre ++ [r])).map (·.2))), .val (.int pre.length), .val (.int r), .val (iL len), .un], rfl, .inl ?_, ⟨_, _, _, rfl⟩⟩
    let ρc : Ce := [.val (iL v), .val (.int lo), .val (.int hi), .own false (iL ((endsE lo hi pre).map (·.2))), .val (.int pre.length), .val (.int r), c6, .un]
    let ρd : Ce := [.val (iL v), .val (.int lo), .val (.int hi), .own false (iL ((endsE lo hi pre).map (·.2))), .val (.int pre.length), .val (.int r), .val (iL len), .un]
    have hz : ((iotaI pre.length).filter fun i => decide (v.getD i.toNat 0 < r)).map (fun i => ((endsE lo hi pre).map (·.2)).getD i.toNat 0) = len := by
      rw [← hE]
      refine zip_lengths _ v r fun k hk => ?_
      rw [endsE_fst, e, List.getElem?_append_left (by omega)]
    have hz2 : ((iotaI pre.length).filter fun i => decide (v.getD i.toNat 0 < r)).map (fun i => PyData.int (((endsE lo hi pre).map (·.2)).getD i.toNat 0)) = len.map .int := by
      rw [← hz, List.map_map]; rfl
    have h1 : fLc (fRng (faC (fN 4) faN)) (hN 7) (fT (f2 pLt (f2 pIx (fN 0) (fN 7)) (fN 5))) (f2 pIx (fN 3) (fN 7)) [7] ρc = some (.new (iL len), ρc) := by
      rw [fLc_ints (ns := iotaI pre.length) (ρ1 := ρc) ρc (fun i => decide (v.getD i.toNat 0 < r)) (fun i => .int (((endsE lo hi pre).map (·.2)).getD i.toNat 0)) (fRng1 rfl (by omega)) rfl (fun i hi' => ?_) (by unfold iotaI; simp; omega) rfl, hz2]
      obtain ⟨k, rfl, hk⟩ := mem_iota hi'
      have hkv : k < v.length := by omega
      have hx := pIx_iL v k hkv
      have hy := pIx_iL ((endsE lo hi pre).map (·.2)) k (by rw [List.length_map, hE]; exact hk)
      refine ⟨_, ρc.set 7 (.val (.int k)), rfl, ft_lt (fe_ix rfl rfl rfl hx) rfl, fun _ => ⟨_, _, fe_ix rfl rfl rfl hy, rfl, rfl⟩, fun _ => rfl⟩
    refine (gSeq_nx (ρ1 := ρd) (gSet_of h1 rfl)).trans (gEx_of (o := .frz .none) ?_)
    have hlen : len.length ≤ 1000 := by
      show (List.map _ _).length ≤ _
      rw [List.length_map]
      exact Nat.le_trans (List.length_filter_le _ _) (by omega)
    have h2 : fIf (fT (fCh pLe pLe (fN 1) (fN 5) (fN 2))) (f2 pAdd (fC (.int 1)) (fB pMax (faC (f2 pAdd (fN 6) (fLst (faC (fC (.int 0)) faN))) faN))) (fC (.int 0)) ρd = some (.frz (.int (if inR lo hi r = true then 1 + maxI (len ++ [0]) else 0)), ρd) := by
      rw [fIf_of (fT_of (fCh_le (a := lo) (b := r) (c := hi) rfl rfl rfl))]
      show cond (inR lo hi r) _ _ = _
      cases hin : inR lo hi r with
      | false => rfl
      | true =>
        have e1 : pAdd (iL len) (.list [.int 0]) = some (.new (iL (len ++ [0]))) := pAdd_ll len [0] (by simp; omega)
        refine f2_of (ρ1 := ρd) rfl (fB_of (ρ1 := ρd) (faC_of (f2_of (ρ1 := ρd) (ρ2 := ρd) rfl rfl rfl rfl e1) rfl) rfl (pMax_app0 len)) rfl rfl ?_
        rfl
    rw [fM_app (i := 3) (ds := ((endsE lo hi pre).map (·.2)).map .int) rfl rfl (faC_of h2 rfl) (by rw [List.length_map, List.length_map, hE]; omega)]
    rw [endsE_snoc]
    unfold endStep
    simp only [iL, List.map_append, List.map_cons, List.map_nil]
    rfl
  · obtain ⟨c4, c5, c6, rfl⟩ := hp
    walk_at "dl_ev"
end DL

namespace DL
open PySem PySem.Spec L2
local macro_rules
  | `(tactic| walk_at "dl_ev") => `(tactic| try simp only [Option.bind_some, gSeq, gSet, gOwn, gRet, gIf, gEx, gPut, gPutSet, gTupS, asg, fN, fC, fB, f2, faC, faCn, faN, fT, fNot, fAnd, fOr, fAndV, fOrV, fNotV, fIf, fCh, fLst, fTup, frzs, argO, derefs, deref, frD, fNeg, fM, fSl, fo0, fo1, fRev, gNil, osOf, fCall, fCallN, fCallU,
      List.getElem?_cons_succ, List.getElem?_cons_zero, List.set_cons_succ, List.set_cons_zero, cond_true, cond_false, endD, endN, endU, resD, pLen_l, pLen_t, pLt_ii, pLe_ii, pGt_ii, pGe_ii, pAdd_ii, pI_ii, pList_l, pList_t, pTuple_l, pTuple_t, Option.map_some, List.length_map, List.length_cons, List.length_nil, sz0, sz1, sz2, sz3, sz5, if_true])
theorem endsE_len (lo hi : Int) (v : List Int) : (endsE lo hi v).length = v.length := by have := congrArg List.length (endsE_fst lo hi v); simpa using this
def endsI (lo hi : Int) (v : List Int) : List Int := (endsE lo hi v).map (·.2)
theorem endsI_len (lo hi : Int) (v : List Int) : (endsI lo hi v).length = v.length := by unfold endsI; rw [List.length_map, endsE_len]
theorem fn_longest_eq {v : List Int} {lo hi : Int} (hl : v.length ≤ 1000) : fn_longest [iL v, .int lo, .int hi] = some (.int (longI lo hi v)) := by
  unfold fn_longest
  refine Eq.trans (fnP_at [.val (iL v), .val (.int lo), .val (.int hi)] rfl rfl) ?_
  let ρ : Ce := [.val (iL v), .val (.int lo), .val (.int hi)]
  have h1 : fCall fn_longest_ends (faC (fN 0) (faC (fN 1) (faC (fN 2) (faN)))) ρ = some (.frz (iL (endsI lo hi v)), ρ) := fCall_of (faC_of rfl (faC_of rfl (faC_of rfl rfl))) rfl (fn_ends_eq hl)
  have e1 : pAdd (iL (endsI lo hi v)) (.list [.int 0]) = some (.new (iL (endsI lo hi v ++ [0]))) := pAdd_ll _ [0] (by rw [endsI_len]; simp; omega)
  have h2 : g_longest ρ = some (.rt (.frz (.int (longI lo hi v))) ρ) := gRet_of (fB_of (ρ1 := ρ) (faC_of (f2_of h1 rfl rfl rfl e1) rfl) rfl (pMax_app0 _))
  show (g_longest ρ).bind endD = _
  rw [h2]
  rfl
/-! ### a longest choice -/
def downI (n : Nat) : List Int := (iotaI n).reverse
theorem iota_succ (n : Nat) : iotaI (n + 1) = iotaI n ++ [(n : Int)] := by
  unfold iotaI; rw [List.range_succ, List.map_append]; rfl
theorem downI_succ (n : Nat) : downI (n + 1) = (n : Int) :: downI n := by unfold downI; rw [iota_succ, List.reverse_append]; rfl
theorem rngD_down : ∀ n : Nat, rngD ((n : Int) - 1) (-1) n = (downI n).map .int
  | 0 => rfl
  | n + 1 => by
    rw [downI_succ, List.map_cons, ← rngD_down n]
    show PyData.int (((n + 1 : Nat) : Int) - 1) :: rngD (((n + 1 : Nat) : Int) - 1 + -1) (-1) n = _
    have e1 : ((n + 1 : Nat) : Int) - 1 = n := by omega
    rw [e1]; rfl
theorem mem_down {n : Nat} {i : Int} (h : i ∈ downI n) : ∃ k : Nat, i = k ∧ k < n := mem_iota (List.mem_reverse.mp h)
theorem fRng_3 {fa : FA} {ρ ρ1 : Ce} {i j : Int} (h1 : fa ρ = some ([.frz (.int i), .frz (.int j), .frz (.int (-1))], ρ1)) {b c : Bool} (hb : okR i = b) (hc : okR j = c) (hok : b = true) (hok2 : c = true) : fRng fa ρ = some (rngD i (-1) (i - j).toNat, none, ρ1) := by
  unfold fRng
  rw [h1, Option.bind_some]
  show (if okR i = true ∧ okR j = true then _ else _) = _
  rw [hb, hc, if_pos ⟨hok, hok2⟩]
def pickStep (v E : List Int) (s : List Int × Int × Int) (k : Int) : List Int × Int × Int := if 0 < s.2.1 ∧ E.getD k.toNat 0 = s.2.1 ∧ v.getD k.toNat 0 < s.2.2 then (s.1 ++ [k], s.2.1 - 1, v.getD k.toNat 0) else s
def pickI (lo hi : Int) (v : List Int) (l : List Int) : List Int × Int × Int := l.foldl (pickStep v (endsI lo hi v)) ([], longI lo hi v, hi + 1)
def choiceI (lo hi : Int) (v : List Int) : List Int := (pickI lo hi v (downI v.length)).1.reverse
theorem pickI_snoc (lo hi : Int) (v l : List Int) (k : Int) : pickI lo hi v (l ++ [k]) = pickStep v (endsI lo hi v) (pickI lo hi v l) k := by unfold pickI; rw [List.foldl_append]; rfl
theorem pick_len (lo hi : Int) (v : List Int) : ∀ l : List Int, (pickI lo hi v l).1.length ≤ l.length := by
  have : ∀ (l : List Int) (s : List Int × Int × Int), (l.foldl (pickStep v (endsI lo hi v)) s).1.length ≤ s.1.length + l.length := by
    intro l
    induction l with
    | nil => intro s; exact Nat.le_refl _
    | cons k l ih =>
      intro s
      have h1 := ih (pickStep v (endsI lo hi v) s k)
      have h2 : (pickStep v (endsI lo hi v) s k).1.length ≤ s.1.length + 1 := by
        unfold pickStep; split
        · simp
        · omega
      simp only [List.foldl_cons, List.length_cons]; omega
  intro l
  have := this l ([], longI lo hi v, hi + 1)
  simpa [pickI] using this
theorem okR_neg1 : okR (-1) = true := by unfold okR; rw [two62]; decide
theorem okR_nat1 {n : Nat} (h : n ≤ 100000) : okR ((n : Int) - 1) = true := by
  unfold okR
  rw [two62]
  exact decide_eq_true (by omega)
theorem fn_choice_eq {v : List Int} {lo hi : Int} (hl : v.length ≤ 1000) : fn_longest_choice [iL v, .int lo, .int hi] = some (iL (choiceI lo hi v)) := by
  unfold fn_longest_choice
  refine Eq.trans (fnP_at [.val (iL v), .val (.int lo), .val (.int hi), .un, .un, .un, .un, .un] rfl rfl) ?_
  let ρ0 : Ce := [.val (iL v), .val (.int lo), .val (.int hi), .un, .un, .un, .un, .un]
  let ρ1 : Ce := [.val (iL v), .val (.int lo), .val (.int hi), .val (iL (endsI lo hi v)), .un, .un, .un, .un]
  let st : List Int → Cell → Ce := fun l c => [.val (iL v), .val (.int lo), .val (.int hi), .val (iL (endsI lo hi v)), .own false (iL (pickI lo hi v l).1), .val (.int (pickI lo hi v l).2.1), .val (.int (pickI lo hi v l).2.2), c]
  have h1 : gSet 3 (fCall fn_longest_ends (faC (fN 0) (faC (fN 1) (faC (fN 2) (faN))))) ρ0 = some (.nx ρ1) := by
    have h0 : fCall fn_longest_ends (faC (fN 0) (faC (fN 1) (faC (fN 2) (faN)))) ρ0 = some (.frz (iL (endsI lo hi v)), ρ0) := fCall_of (faC_of rfl (faC_of rfl (faC_of rfl rfl))) rfl (fn_ends_eq hl)
    exact gSet_of h0 rfl
  have e1 : pAdd (iL (endsI lo hi v)) (.list [.int 0]) = some (.new (iL (endsI lo hi v ++ [0]))) := pAdd_ll _ [0] (by rw [endsI_len]; simp; omega)
  have h2 : gTupS [(4, true), (5, false), (6, false)] (faCn (fLst (faN)) (faCn (fB pMax (faC (f2 pAdd (fN 3) (fLst (faC (fC (.int 0)) (faN)))) (faN))) (faCn (f2 pAdd (fN 2) (fC (.int 1))) (faN)))) ρ1 = some (.nx (st [] .un)) := by
    have h3 : fB pMax (faC (f2 pAdd (fN 3) (fLst (faC (fC (.int 0)) (faN)))) (faN)) ρ1 = some (.frz (.int (longI lo hi v)), ρ1) := fB_of (ρ1 := ρ1) (faC_of (f2_of (ρ1 := ρ1) (ρ2 := ρ1) rfl rfl rfl rfl e1) rfl) rfl (pMax_app0 _)
    have h4 : fLst faN ρ1 = some (.new (.list []), ρ1) := rfl
    unfold gTupS faCn
    simp only [h4, h3, Option.bind_some]
    rfl
  have h3 : fRng (faC (f2 pSub (fB pLen (faC (fN 0) (faN))) (fC (.int 1))) (faC (fNeg (fC (.int 1))) (faC (fNeg (fC (.int 1))) (faN)))) (st [] .un) = some ((downI v.length).map .int, none, st [] .un) := by
    have h5 : f2 pSub (fB pLen (faC (fN 0) (faN))) (fC (.int 1)) (st [] .un) = some (.frz (.int ((v.length : Int) - 1)), st [] .un) := by
      refine f2_of (ρ1 := st [] .un) (fB_of (ρ1 := st [] .un) (faC_of rfl rfl) rfl (pLen_l _)) rfl rfl rfl ?_
      rw [List.length_map]; rfl
    have hm : faC (fNeg (fC (.int 1))) (faC (fNeg (fC (.int 1))) faN) (st [] .un) = some ([.frz (.int (-1)), .frz (.int (-1))], st [] .un) := rfl
    rw [fRng_3 (faC_of h5 hm) (okR_nat1 (by omega)) okR_neg1 rfl rfl]
    have : ((v.length : Int) - 1 - -1).toNat = v.length := by omega
    rw [this, rngD_down]
  unfold g_longest_choice
  show ((gSeq _ _ ρ0).bind endD) = _
  rw [gSeq_nx h1, gSeq_nx h2]
  unfold gSeq
  rw [gFor_of h3, Option.bind_assoc]
  refine goFor_use (fun pre ρ => ∃ c, ρ = st pre c) ⟨.un, rfl⟩ (fun pre i post ρ e hp => ?_) fun ρ' hp => ?_
  · obtain ⟨c, rfl⟩ := hp
    obtain ⟨k, rfl, hk⟩ := mem_down (n := v.length) (i := i) (by rw [e]; simp)
    have hx := pIx_iL v k hk
    have hy := pIx_iL (endsI lo hi v) k (by rw [endsI_len]; exact hk)
    have hpl : (pickI lo hi v pre).1.length ≤ 1000 := by
      have h1 := pick_len lo hi v pre
      have h2 := congrArg List.length e
      simp only [downI, iotaI, List.length_reverse, List.length_map, List.length_range, List.length_append, List.length_cons] at h2
      omega
    refine ⟨st pre (.val (.int k)), st (pre ++ [(k : Int)]) (.val (.int k)), rfl, .inl ?_, ⟨_, rfl⟩⟩
    have hT : fAnd (fT (f2 pGt (fN 5) (fC (.int 0)))) (fAnd (fT (f2 pEq (f2 pIx (fN 3) (fN 7)) (fN 5))) (fT (f2 pLt (f2 pIx (fN 0) (fN 7)) (fN 6)))) (st pre (.val (.int k))) =
        some (decide (0 < (pickI lo hi v pre).2.1) && (decide ((endsI lo hi v).getD k 0 = (pickI lo hi v pre).2.1) && decide (v.getD k 0 < (pickI lo hi v pre).2.2)), st pre (.val (.int k))) := by
      refine fAnd_of (fT_of (f2_of (ρ1 := st pre (.val (.int k))) rfl rfl rfl rfl (pGt_ii _ _))) fun _ => fAnd_of (fT_of (f2_of (ρ1 := st pre (.val (.int k))) (fe_ix rfl rfl rfl hy) rfl rfl rfl (pEq_ii _ _))) fun _ => ft_lt (fe_ix rfl rfl rfl hx) rfl
    rw [gIf_of hT]
    by_cases hc : 0 < (pickI lo hi v pre).2.1 ∧ (endsI lo hi v).getD k 0 = (pickI lo hi v pre).2.1 ∧ v.getD k 0 < (pickI lo hi v pre).2.2
    · rw [decide_eq_true hc.1, decide_eq_true hc.2.1, decide_eq_true hc.2.2]
      have es : pickI lo hi v (pre ++ [(k : Int)]) = ((pickI lo hi v pre).1 ++ [(k : Int)], (pickI lo hi v pre).2.1 - 1, v.getD k 0) := by
        rw [pickI_snoc]; unfold pickStep; rw [Int.toNat_natCast, if_pos hc]
      let ρa : Ce := [.val (iL v), .val (.int lo), .val (.int hi), .val (iL (endsI lo hi v)), .own false (.list ((pickI lo hi v pre).1.map .int ++ [.int k])), .val (.int (pickI lo hi v pre).2.1), .val (.int (pickI lo hi v pre).2.2), .val (.int k)]
      have h5 : gEx (fM "list" mApp (fN 4) (faC (fN 7) (faN))) (st pre (.val (.int k))) = some (.nx ρa) := gEx_of (fM_app (i := 4) (ds := (pickI lo hi v pre).1.map .int) rfl rfl rfl (by rw [List.length_map]; omega))
      refine (gSeq_nx h5).trans ?_
      have h6 : f2 pIx (fN 0) (fN 7) ρa = some (.frz (.int (v.getD k 0)), ρa) := fe_ix rfl rfl rfl hx
      have h7 : f2 pSub (fN 5) (fC (.int 1)) ρa = some (.frz (.int ((pickI lo hi v pre).2.1 - 1)), ρa) := rfl
      have e2 : st (pre ++ [(k : Int)]) (.val (.int k)) = [.val (iL v), .val (.int lo), .val (.int hi), .val (iL (endsI lo hi v)), .own false (.list ((pickI lo hi v pre).1.map .int ++ [.int k])), .val (.int ((pickI lo hi v pre).2.1 - 1)), .val (.int (v.getD k 0)), .val (.int k)] := by
        show ([_, _, _, _, .own false (iL (pickI lo hi v (pre ++ [(k : Int)])).1), .val (.int (pickI lo hi v (pre ++ [(k : Int)])).2.1), .val (.int (pickI lo hi v (pre ++ [(k : Int)])).2.2), _] : Ce) = _
        rw [es]
        simp only [iL, List.map_append, List.map_cons, List.map_nil]
      rw [e2]
      unfold gTupS faCn
      simp only [h7, h6, Option.bind_some]
      rfl
    · have es : pickI lo hi v (pre ++ [(k : Int)]) = pickI lo hi v pre := by
        rw [pickI_snoc]; unfold pickStep; rw [Int.toNat_natCast, if_neg hc]
      have ef : (decide (0 < (pickI lo hi v pre).2.1) && (decide ((endsI lo hi v).getD k 0 = (pickI lo hi v pre).2.1) && decide (v.getD k 0 < (pickI lo hi v pre).2.2))) = false := by
        rw [← Bool.decide_and, ← Bool.decide_and]
        exact decide_eq_false hc
      rw [ef]
      show some (Rs.nx (st pre (.val (.int k)))) = some (Rs.nx (st (pre ++ [(k : Int)]) (.val (.int k))))
      show some (Rs.nx ([_, _, _, _, .own false (iL (pickI lo hi v pre).1), .val (.int (pickI lo hi v pre).2.1), .val (.int (pickI lo hi v pre).2.2), _] : Ce)) = some (Rs.nx ([_, _, _, _, .own false (iL (pickI lo hi v (pre ++ [(k : Int)])).1), .val (.int (pickI lo hi v (pre ++ [(k : Int)])).2.1), .val (.int (pickI lo hi v (pre ++ [(k : Int)])).2.2), _] : Ce))
      rw [es]
  · obtain ⟨c, rfl⟩ := hp
    show some (PyData.list ((pickI lo hi v (downI v.length)).1.map PyData.int).reverse) = _
    rw [← List.map_reverse]
    rfl
end DL

namespace DL
open PySem PySem.Spec L2
local macro_rules
  | `(tactic| walk_at "dl_ev") => `(tactic| try simp only [Option.bind_some, gSeq, gSet, gOwn, gRet, gIf, gEx, gPut, gPutSet, gTupS, asg, fN, fC, fB, f2, faC, faCn, faN, fT, fNot, fAnd, fOr, fAndV, fOrV, fNotV, fIf, fCh, fLst, fTup, frzs, argO, derefs, deref, frD, fNeg, fM, fSl, fo0, fo1, fRev, gNil, osOf, fCall, fCallN, fCallU,
      List.getElem?_cons_succ, List.getElem?_cons_zero, List.set_cons_succ, List.set_cons_zero, cond_true, cond_false, endD, endN, endU, resD, pLen_l, pLen_t, pLt_ii, pLe_ii, pGt_ii, pGe_ii, pAdd_ii, pI_ii, pList_l, pList_t, pTuple_l, pTuple_t, Option.map_some, List.length_map, List.length_cons, List.length_nil, sz0, sz1, sz2, sz3, sz5, if_true])
theorem goFor_mapped {α : Type} {h : HT} {g : FS} (f : α → D) (l : List α) (P : List α → Ce → Prop) (H : ∀ (pre : List α) (x : α) (post : List α) (ρ : Ce), l = pre ++ x :: post → P pre ρ → ∃ ρ1 ρ2, h (f x) ρ = some ρ1 ∧ (g ρ1 = some (.nx ρ2) ∨ g ρ1 = some (.ct ρ2)) ∧ P (pre ++ [x]) ρ2) :
    ∀ (post pre : List α) (ρ : Ce), l = pre ++ post → P pre ρ → ∃ ρ', goFor h g (post.map f) ρ = some (.nx ρ') ∧ P l ρ'
  | [], pre, ρ, e, hp => ⟨ρ, rfl, by rw [e, List.append_nil]; exact hp⟩
  | x :: post, pre, ρ, e, hp => by
    obtain ⟨ρ1, ρ2, h1, h2, h3⟩ := H pre x post ρ e hp
    obtain ⟨ρ', e1, e2⟩ := goFor_mapped f l P H post (pre ++ [x]) ρ2 (by rw [e, List.append_assoc]; rfl) h3
    refine ⟨ρ', ?_, e2⟩
    simp only [List.map_cons, goFor, h1, Option.bind_some]
    rcases h2 with h2 | h2 <;> simp only [h2, Option.bind_some, e1]
/-! ### restricted -/
def restrI (cs : List (List Int)) (lo hi : Int) : List (List Int) := sortL ((cs.map fun c => c.filter (inR lo hi)).filter fun c => decide (0 < c.length))
theorem pSortU_tups {nss : List (List Int)} (h : ∀ ns ∈ nss, ns ≠ []) : pSortU [.list (nss.map tupD)] = some (.new (.list ((sortL nss).map tupD))) := by
  unfold pSortU
  cases nss with
  | nil => simp [pSort, intsD, sortI, sortL]
  | cons n nss =>
    have e1 : pSort [.list ((n :: nss).map tupD)] = none := rfl
    rw [e1, Option.none_or]
    show (tupsI ((n :: nss).map tupD)).map _ = _
    rw [tupsI_map h]; rfl
theorem fn_restr_eq {cs : List (List Int)} {lo hi : Int} (hl : cs.length ≤ 1000) (hb : ∀ c ∈ cs, c.length ≤ 1000) : fn_restricted [chT cs, .int lo, .int hi] = some (chT (restrI cs lo hi)) := by
  unfold fn_restricted
  refine Eq.trans (fnP_at [.val (chT cs), .val (.int lo), .val (.int hi), .un, .un, .un, .un] rfl rfl) ?_
  let ρ0 : Ce := [.val (chT cs), .val (.int lo), .val (.int hi), .un, .un, .un, .un]
  let cs2 := cs.map fun c => c.filter (inR lo hi)
  let ρ1 : Ce := [.val (chT cs), .val (.int lo), .val (.int hi), .val (.list (cs2.map tupD)), .un, .un, .un]
  have h1 : fLc (fSeq (fN 0)) (hN 4) (fYes) (fB pTuple (faC (fLc (fSeq (fN 4)) (hN 5) (fT (fCh pLe pLe (fN 1) (fN 5) (fN 2))) (fN 5) [5]) (faN))) [4] ρ0 = some (.new (.list (cs2.map tupD)), ρ0) := by
    rw [fLc_tups ρ0 (fun _ => true) (fun c => tupD (c.filter (inR lo hi))) rfl rfl (fun c hc => ⟨_, ρ0.set 4 (.val (tupD c)), rfl, rfl, fun _ => ?_, fun z => nomatch z⟩) (by omega) rfl]
    · rw [List.filter_eq_self.mpr fun _ _ => rfl, List.map_map]; rfl
    · let ρa : Ce := ρ0.set 4 (.val (tupD c))
      have h2 : fLc (fSeq (fN 4)) (hN 5) (fT (fCh pLe pLe (fN 1) (fN 5) (fN 2))) (fN 5) [5] ρa = some (.new (.list ((c.filter (inR lo hi)).map .int)), ρa) :=
        fLc_ints (ns := c) (ρ1 := ρa) ρa (inR lo hi) .int rfl rfl (fun i hi => ⟨_, _, rfl, fT_of (fCh_le rfl rfl rfl), fun _ => ⟨_, _, rfl, rfl, rfl⟩, fun _ => rfl⟩) (Nat.le_trans (hb c hc) (by decide)) rfl
      exact ⟨_, ρa, fB_of (faC_of h2 rfl) rfl (pTuple_l _), rfl, rfl⟩
  have h2 : fLc (fSeq (fN 3)) (hN 6) (fT (f2 pGt (fB pLen (faC (fN 6) (faN))) (fC (.int 0)))) (fN 6) [6] ρ1 = some (.new (.list ((cs2.filter fun c => decide (0 < c.length)).map tupD)), ρ1) := by
    refine fLc_tups ρ1 (fun c => decide (0 < c.length)) tupD rfl rfl (fun c hc => ⟨_, ρ1.set 6 (.val (tupD c)), rfl, ?_, fun _ => ⟨_, _, rfl, rfl, rfl⟩, fun _ => rfl⟩) (by show (List.map _ _).length ≤ _; rw [List.length_map]; omega) rfl
    have e : pLen [tupD c] = some (.frz (.int c.length)) := by rw [show tupD c = .tuple (c.map .int) from rfl, pLen_t, List.length_map]
    have e2 : decide (0 < c.length) = decide ((0 : Int) < c.length) := by
      by_cases h : 0 < c.length
      · rw [decide_eq_true h, decide_eq_true (by omega)]
      · rw [decide_eq_false h, decide_eq_false (by omega)]
    rw [e2]
    exact fT_of (f2_of (ρ1 := ρ1.set 6 (.val (tupD c))) (fB_of (faC_of rfl rfl) rfl e) rfl rfl rfl (pGt_ii _ _))
  unfold g_restricted
  show ((gSeq _ _ ρ0).bind endD) = _
  rw [gSeq_nx (gSet_of (i := 3) h1 rfl)]
  have h3 : fB pSortU (faC (fLc (fSeq (fN 3)) (hN 6) (fT (f2 pGt (fB pLen (faC (fN 6) (faN))) (fC (.int 0)))) (fN 6) [6]) (faN)) ρ1 = some (.new (.list ((restrI cs lo hi).map tupD)), ρ1) :=
    fB_of (faC_of h2 rfl) rfl (pSortU_tups fun ns hns e => by
      have := of_decide_eq_true (List.mem_filter.mp hns).2
      rw [e] at this
      exact absurd this (by decide))
  have h4 : gRet (fB pTuple (faC (fB pSortU (faC (fLc (fSeq (fN 3)) (hN 6) (fT (f2 pGt (fB pLen (faC (fN 6) (faN))) (fC (.int 0)))) (fN 6) [6]) (faN))) (faN))) ρ1 = some (.rt (.frz (chT (restrI cs lo hi))) ρ1) := gRet_of (fB_of (faC_of h3 rfl) rfl (pTuple_l _))
  show (gRet _ ρ1).bind endD = _
  rw [h4]; rfl
/-! ### links of chains -/
def pairD (p : Int × Int) : D := .tuple [.int p.1, .int p.2]
theorem zipD_ints : ∀ a b : List Int, zipD (a.map .int) (b.map .int) = (a.zip b).map pairD
  | [], _ => by simp [zipD]
  | _ :: _, [] => by simp [zipD]
  | x :: a, y :: b => by
    show PyData.tuple [.int x, .int y] :: zipD (a.map .int) (b.map .int) = _
    rw [zipD_ints a b]; rfl
def linkC (es : List (Int × Int)) (c : List Int) : List (Int × Int) := ((0 :: c).zip c).foldl (fun es p => putI es p.2 p.1) es
def linksI (cs : List (List Int)) : List (Int × Int) := cs.foldl linkC []
theorem foldPut_len (l : List (Int × Int)) : ∀ es : List (Int × Int), (l.foldl (fun es p => putI es p.2 p.1) es).length ≤ es.length + l.length := by
  induction l with
  | nil => intro es; exact Nat.le_refl _
  | cons p l ih =>
    intro es
    have h1 := ih (putI es p.2 p.1)
    have h2 := putI_len es p.2 p.1
    simp only [List.foldl_cons, List.length_cons]; omega
theorem linkC_len (es : List (Int × Int)) (c : List Int) : (linkC es c).length ≤ es.length + c.length := by
  have := foldPut_len ((0 :: c).zip c) es
  have h : ((0 :: c).zip c).length = c.length := by simp
  unfold linkC; omega
theorem fn_links_eq {cs : List (List Int)} (hb : ∀ c ∈ cs, c.length ≤ 1000) (hl : ∀ k, ((cs.take k).foldl linkC []).length ≤ 1000) : fn_links_of [chT cs] = some (.dict (dI (linksI cs))) := by
  unfold fn_links_of
  refine Eq.trans (fnP_at [.val (chT cs), .un, .un, .un, .un] rfl rfl) ?_
  let ρ0 : Ce := [.val (chT cs), .un, .un, .un, .un]
  let st : List (List Int) → Cell → Cell → Cell → Ce := fun l c d e => [.val (chT cs), .own false (.dict (dI (linksI l))), c, d, e]
  obtain ⟨ρ', e1, c, d, e, e2⟩ := goFor_mapped (h := hN 2) (g := gFor (fZip (faC (f2 pAdd (fLst (faC (fC (.int 0)) (faN))) (fB pList (faC (fN 2) (faN)))) (faC (fN 2) (faN)))) (hT [3, 4]) (gPut (fN 1) (fN 4) (fN 3))) tupD cs (fun pre ρ => ∃ c d e, ρ = st pre c d e) (fun pre c post ρ e hp => by
    obtain ⟨c2, c3, c4, rfl⟩ := hp
    have hc : c ∈ cs := by rw [e]; simp
    have hc2 := hb c hc
    have hpl : (linksI pre).length ≤ 1000 := by
      have := hl pre.length
      rw [e, List.take_left] at this
      exact this
    let ρa : Ce := [.val (chT cs), .own false (.dict (dI (linksI pre))), .val (tupD c), c3, c4]
    have ea : pAdd (.list [.int 0]) (.list (c.map .int)) = some (.new (iL (0 :: c))) := pAdd_ll [0] c (by simp; omega)
    have hz : fZip (faC (f2 pAdd (fLst (faC (fC (.int 0)) (faN))) (fB pList (faC (fN 2) (faN)))) (faC (fN 2) (faN))) ρa = some (((0 :: c).zip c).map pairD, none, ρa) := by
      have hf : faC (f2 pAdd (fLst (faC (fC (.int 0)) (faN))) (fB pList (faC (fN 2) (faN)))) (faC (fN 2) (faN)) ρa = some ([.frz (iL (0 :: c)), .frz (tupD c)], ρa) :=
        faC_of (f2_of (ρ1 := ρa) (ρ2 := ρa) (fLst_of rfl rfl (by simp)) (fB_of (faC_of rfl rfl) rfl (pList_t _)) rfl rfl ea) rfl
      unfold fZip
      rw [hf, Option.bind_some, ← zipD_ints]; rfl
    obtain ⟨ρ', f1, x3, x4, f2⟩ := goFor_mapped (h := hT [3, 4]) (g := gPut (fN 1) (fN 4) (fN 3)) pairD ((0 :: c).zip c) (fun l ρ => ∃ x y, ρ = [.val (chT cs), .own false (.dict (dI (l.foldl (fun es p => putI es p.2 p.1) (linksI pre)))), .val (tupD c), x, y]) (fun l p post ρ e hp => by
      obtain ⟨x, y, rfl⟩ := hp
      have hl := foldPut_len l (linksI pre)
      have hl2 : l.length ≤ c.length := by
        have := congrArg List.length e
        simp at this; omega
      refine ⟨_, [.val (chT cs), .own false (.dict (dI ((l ++ [p]).foldl (fun es p => putI es p.2 p.1) (linksI pre)))), .val (tupD c), .val (.int p.1), .val (.int p.2)], rfl, .inl ?_, _, _, rfl⟩
      have hp := putD_dI (es := l.foldl (fun es p => putI es p.2 p.1) (linksI pre)) (k := p.2) (v := p.1) (by omega)
      simp only [hSet, List.set_cons_succ, List.set_cons_zero]
      walk_at "dl_ev"
      rw [hp]
      walk_at "dl_ev"
      rw [List.foldl_append]; rfl) ((0 :: c).zip c) [] ρa rfl ⟨c3, c4, rfl⟩
    exact ⟨ρa, ρ', rfl, .inl ((gFor_of hz).trans f1), .val (tupD c), _, _, by
      rw [f2]
      have : linksI (pre ++ [c]) = ((0 :: c).zip c).foldl (fun es p => putI es p.2 p.1) (linksI pre) := by unfold linksI; rw [List.foldl_append]; rfl
      show _ = st (pre ++ [c]) _ _ _
      show _ = ([.val (chT cs), .own false (.dict (dI (linksI (pre ++ [c])))), .val (tupD c), x3, x4] : Ce)
      rw [this]⟩) cs [] (st [] .un .un .un) rfl ⟨_, _, _, rfl⟩
  unfold g_links_of
  show ((gSeq _ _ ρ0).bind endD) = _
  rw [gSeq_nx (ρ1 := st [] .un .un .un) rfl]
  rw [gSeq_nx ((gFor_of (ρ1 := st [] .un .un .un) (ds := cs.map tupD) rfl).trans e1), e2]
  rfl
end DL

namespace DL
open PySem PySem.Spec L2
local macro_rules
  | `(tactic| walk_at "dl_ev") => `(tactic| try simp only [Option.bind_some, gSeq, gSet, gOwn, gRet, gIf, gEx, gPut, gPutSet, gTupS, asg, fN, fC, fB, f2, faC, faCn, faN, fT, fNot, fAnd, fOr, fAndV, fOrV, fNotV, fIf, fCh, fLst, fTup, frzs, argO, derefs, deref, frD, fNeg, fM, fSl, fo0, fo1, fRev, gNil, osOf, fCall, fCallN, fCallU,
      List.getElem?_cons_succ, List.getElem?_cons_zero, List.set_cons_succ, List.set_cons_zero, cond_true, cond_false, endD, endN, endU, resD, pLen_l, pLen_t, pLt_ii, pLe_ii, pGt_ii, pGe_ii, pAdd_ii, pI_ii, pList_l, pList_t, pTuple_l, pTuple_t, Option.map_some, List.length_map, List.length_cons, List.length_nil, sz0, sz1, sz2, sz3, sz5, if_true])
theorem lcGo2_pure {h : HT} {ft : FT} {fi1 : FI} {h1 : HT} {ft1 : FT} {fe : FE} {vs vs1 : List Nat} {ρ : Ce} (f : List Int → D) : ∀ (cs : List (List Int)) (acc : List D), (∀ c ∈ cs, ∃ ρ1 ρ2 ρ3, h (f c) ρ = some ρ1 ∧ ft ρ1 = some (true, ρ2) ∧ fi1 ρ2 = some (c.map .int, none, ρ3) ∧ ∀ acc : List D, acc.length + c.length ≤ 100000 → ∃ ρ4, lcGo h1 ft1 fe vs1 (c.map .int) (wipeC ρ3 vs1) acc = some (acc ++ c.map .int, ρ4) ∧ wipeC ρ4 vs = ρ) →
    acc.length + cs.flatten.length ≤ 100000 → lcGo2 h ft fi1 h1 ft1 fe vs vs1 (cs.map f) ρ acc = some (acc ++ cs.flatten.map .int, ρ)
  | [], acc, _, _ => by simp [lcGo2]
  | c :: cs, acc, H, hl => by
    obtain ⟨ρ1, ρ2, ρ3, e1, e2, e3, e4⟩ := H c List.mem_cons_self
    rw [List.flatten_cons, List.length_append] at hl
    obtain ⟨ρ4, e5, e6⟩ := e4 acc (by omega)
    simp only [List.map_cons, lcGo2, e1, Option.bind_some, e2, cond_true, e3, e5, e6]
    rw [lcGo2_pure f cs (acc ++ c.map PyData.int) (fun x hx => H x (List.mem_cons_of_mem _ hx)) (by rw [List.length_append, List.length_map]; omega)]
    simp
theorem fLc2_pure {fi : FI} {h : HT} {ft : FT} {fi1 : FI} {h1 : HT} {ft1 : FT} {fe : FE} {vs vs1 : List Nat} {ρ0 ρ1 : Ce} {cs : List (List Int)} (f : List Int → D) (ρ : Ce) (hi : fi ρ0 = some (cs.map f, none, ρ1)) (hw : wipeC ρ1 vs = ρ)
    (H : ∀ c ∈ cs, ∃ ρ1 ρ2 ρ3, h (f c) ρ = some ρ1 ∧ ft ρ1 = some (true, ρ2) ∧ fi1 ρ2 = some (c.map .int, none, ρ3) ∧ ∀ acc : List D, acc.length + c.length ≤ 100000 → ∃ ρ4, lcGo h1 ft1 fe vs1 (c.map .int) (wipeC ρ3 vs1) acc = some (acc ++ c.map .int, ρ4) ∧ wipeC ρ4 vs = ρ)
    (hl : cs.flatten.length ≤ 100000) (hr : restC ρ1 vs ρ = ρ1) : fLc2 fi h ft fi1 h1 ft1 fe vs vs1 ρ0 = some (.new (iL cs.flatten), ρ1) := by
  unfold fLc2
  rw [hi, Option.bind_some]
  simp only [hsO, List.append_nil, hw]
  rw [lcGo2_pure f cs [] H (by simpa using hl), Option.bind_some, List.nil_append, hr]
/-- the inner clause: the items themselves -/
theorem lc_id {h1 : HT} {fe : FE} {vs1 : List Nat} {ρ : Ce} {c : List Int} (acc : List D) (H : ∀ i ∈ c, ∃ ρ1 ρ3, h1 (.int i) ρ = some ρ1 ∧ fe ρ1 = some (.frz (.int i), ρ3) ∧ wipeC ρ3 vs1 = ρ) (hl : acc.length + c.length ≤ 100000) : lcGo h1 fYes fe vs1 (c.map .int) ρ acc = some (acc ++ c.map .int, ρ) := by
  rw [lcGo_pure (fun _ => true) (fun d => d) (c.map .int) acc (fun d hd => ?_) (by rw [List.length_map]; exact size_ge hl), List.filter_eq_self.mpr fun _ _ => rfl, List.map_id']
  obtain ⟨i, hi, rfl⟩ := List.mem_map.mp hd
  obtain ⟨ρ1, ρ3, a, b, c⟩ := H i hi
  exact ⟨ρ1, ρ1, a, rfl, fun _ => ⟨_, ρ3, b, rfl, c⟩, fun z => nomatch z⟩
theorem pSortU_iL (ns : List Int) : pSortU [iL ns] = some (.new (iL (sortI ns))) := by
  unfold pSortU
  have : pSort [iL ns] = some (.new (iL (sortI ns))) := by
    show (intsD (ns.map .int)).map _ = _
    rw [intsD_map]; rfl
  rw [this]; rfl
def ranksI (cs : List (List Int)) : List Int := sortI cs.flatten
theorem fn_ranks_eq {cs : List (List Int)} (hl : cs.flatten.length ≤ 1000) : fn_ranks_in [chT cs] = some (iL (ranksI cs)) := by
  unfold fn_ranks_in
  refine Eq.trans (fnP_at [.val (chT cs), .un, .un] rfl rfl) ?_
  let ρ0 : Ce := [.val (chT cs), .un, .un]
  have h1 : fLc2 (fSeq (fN 0)) (hN 1) (fYes) (fSeq (fN 1)) (hN 2) (fYes) (fN 2) [1, 2] [2] ρ0 = some (.new (iL cs.flatten), ρ0) := by
    refine fLc2_pure tupD ρ0 rfl rfl (fun c hc => ⟨_, ρ0.set 1 (.val (tupD c)), ρ0.set 1 (.val (tupD c)), rfl, rfl, rfl, fun acc ha => ⟨ρ0.set 1 (.val (tupD c)), ?_, rfl⟩⟩) (by omega) rfl
    exact lc_id (ρ := ρ0.set 1 (.val (tupD c))) acc (fun i hi => ⟨_, _, rfl, rfl, rfl⟩) ha
  have h2 : g_ranks_in ρ0 = some (.rt (.new (iL (ranksI cs))) ρ0) := gRet_of (fB_of (faC_of h1 rfl) rfl (pSortU_iL _))
  show (g_ranks_in ρ0).bind endD = _
  rw [h2]; rfl
/-! ### visits for chains -/
def firstsI (cs : List (List Int)) (b : Int) : List (List Int) := cs.map fun c => (c.filter fun x => decide (b < x)).take 1
def visitsI (cs : List (List Int)) : List Int := ((0 :: ranksI cs).reverse).flatMap fun b => sortI (firstsI cs b).flatten
theorem cutD_1 (ns : List Int) : cutD (ns.map .int) none (some 1) = (ns.take 1).map .int := by
  cases ns with
  | nil => rfl
  | cons n ns => simp [cutD, HT.sIx]
theorem fM_ext {ρ : Ce} {fe : FE} {fa : FA} {ds es : List D} {i : Nat} {b : Bool} (h : fe ρ = some (.own i, ρ)) (hi : ρ[i]? = some (.own b (.list ds))) (h2 : fa ρ = some ([.frz (.list es)], ρ)) (hl : ds.length + es.length ≤ 100000) : fM "list" mExt fe fa ρ = some (.frz .none, ρ.set i (.own b (.list (ds ++ es)))) := by
  unfold fM
  simp only [h, Option.bind_some, hi]
  rw [if_pos (show tyD "list" (PyData.list ds) = true from rfl), h2]
  simp only [Option.bind_some, hi, frzs, mExt, if_pos (size_ge hl)]
theorem sortI_len (ns : List Int) : (sortI ns).length = ns.length := (sortI_perm ns).length_eq
theorem firstsI_len (cs : List (List Int)) (b : Int) : (firstsI cs b).flatten.length ≤ cs.length := by
  unfold firstsI
  induction cs with
  | nil => exact Nat.le_refl _
  | cons c cs ih =>
    simp only [List.map_cons, List.flatten_cons, List.length_append, List.length_cons, List.length_take]
    omega
def visitsOn (cs : List (List Int)) (bs : List Int) : List Int := bs.flatMap fun b => sortI (firstsI cs b).flatten
theorem visitsOn_len (cs : List (List Int)) : ∀ bs : List Int, (visitsOn cs bs).length ≤ bs.length * cs.length
  | [] => by simp [visitsOn]
  | b :: bs => by
    have ih := visitsOn_len cs bs
    have h := firstsI_len cs b
    show (sortI (firstsI cs b).flatten ++ visitsOn cs bs).length ≤ _
    rw [List.length_append, sortI_len, List.length_cons, Nat.succ_mul]
    omega
theorem fn_visits_eq {cs : List (List Int)} (hl : cs.flatten.length ≤ 250) (hc : cs.length ≤ 250) (hb : ∀ c ∈ cs, c.length ≤ 250) : fn_visits_for [chT cs] = some (iL (visitsI cs)) := by
  unfold fn_visits_for
  refine Eq.trans (fnP_at [.val (chT cs), .un, .un, .un, .un, .un, .un] rfl rfl) ?_
  let ρ0 : Ce := [.val (chT cs), .un, .un, .un, .un, .un, .un]
  let bs : List Int := (0 :: ranksI cs).reverse
  let st : List Int → Cell → Cell → Ce := fun l c d => [.val (chT cs), .own false (iL (visitsOn cs l)), c, d, .un, .un, .un]
  have hi : fSeq (fRev (fLst (faC (fC (.int 0)) (fStar (fCall fn_ranks_in (faC (fN 0) (faN))) (faN))))) (st [] .un .un) = some (bs.map .int, none, st [] .un .un) := by
    have h1 : fCall fn_ranks_in (faC (fN 0) (faN)) (st [] .un .un) = some (.frz (iL (ranksI cs)), st [] .un .un) := fCall_of (faC_of rfl rfl) rfl (fn_ranks_eq (by omega))
    have h2 : fStar (fCall fn_ranks_in (faC (fN 0) (faN))) (faN) (st [] .un .un) = some (((ranksI cs).map PyData.int).map .frz, st [] .un .un) := by
      unfold fStar
      rw [h1]
      show some (((ranksI cs).map PyData.int).map Opd.frz ++ [], st [] .un .un) = _
      rw [List.append_nil]
    have hfz : ∀ ds : List D, frzs (ds.map .frz) = some ds := fun ds => by
      induction ds with
      | nil => rfl
      | cons d ds ih => show ((frzs (ds.map .frz)).bind fun ds => some (d :: ds)) = _; rw [ih]; rfl
    have h3 : fLst (faC (fC (.int 0)) (fStar (fCall fn_ranks_in (faC (fN 0) (faN))) (faN))) (st [] .un .un) = some (.new (iL (0 :: ranksI cs)), st [] .un .un) := by
      refine fLst_of (faC_of (ρ1 := st [] .un .un) rfl h2) (ds := (0 :: ranksI cs).map .int) ?_ ?_
      · show (frzs (((ranksI cs).map PyData.int).map .frz)).bind _ = _
        rw [hfz]; rfl
      · rw [List.length_map, List.length_cons]; unfold ranksI; rw [sortI_len]; omega
    have h4 : fRev (fLst (faC (fC (.int 0)) (fStar (fCall fn_ranks_in (faC (fN 0) (faN))) (faN)))) (st [] .un .un) = some (.new (iL bs), st [] .un .un) := by
      unfold fRev
      rw [h3]
      show some (Opd.new (.list ((0 :: ranksI cs).map PyData.int).reverse), st [] .un .un) = _
      rw [← List.map_reverse]
    exact fSeq_l h4 rfl
  have hbl : bs.length ≤ 251 := by
    show ((0 :: ranksI cs).reverse).length ≤ _
    rw [List.length_reverse, List.length_cons]; unfold ranksI; rw [sortI_len]; omega
  obtain ⟨ρ', e1, c, d, e2⟩ := goFor_ints (h := hN 2) (g := gSeq (gSet 3 (fLc (fSeq (fN 0)) (hN 4) (fYes) (fSl (fLc (fSeq (fN 4)) (hN 5) (fT (f2 pGt (fN 5) (fN 2))) (fN 5) [5]) (fo0) (fo1 (fC (.int 1)))) [4])) (gEx (fM "list" mExt (fN 1) (faC (fB pSortU (faC (fLc2 (fSeq (fN 3)) (hN 6) (fYes) (fSeq (fN 6)) (hN 5) (fYes) (fN 5) [6, 5] [5]) (faN))) (faN)))))
    (fun pre ρ => ∃ c d, ρ = st pre c d) bs (st [] .un .un) ⟨_, _, rfl⟩ (fun pre b post ρ e hp => by
      obtain ⟨c2, c3, rfl⟩ := hp
      have hpl : pre.length ≤ 251 := by
        have := congrArg List.length e
        simp only [List.length_append, List.length_cons] at this
        omega
      have hvl := visitsOn_len cs pre
      have hvl2 : pre.length * cs.length ≤ 251 * 250 := Nat.mul_le_mul hpl hc
      let ρa : Ce := [.val (chT cs), .own false (iL (visitsOn cs pre)), .val (.int b), c3, .un, .un, .un]
      let ρb : Ce := [.val (chT cs), .own false (iL (visitsOn cs pre)), .val (.int b), .val (.list ((firstsI cs b).map iL)), .un, .un, .un]
      have h1 : fLc (fSeq (fN 0)) (hN 4) (fYes) (fSl (fLc (fSeq (fN 4)) (hN 5) (fT (f2 pGt (fN 5) (fN 2))) (fN 5) [5]) (fo0) (fo1 (fC (.int 1)))) [4] ρa = some (.new (.list ((firstsI cs b).map iL)), ρa) := by
        rw [fLc_tups ρa (fun _ => true) (fun c => iL ((c.filter fun x => decide (b < x)).take 1)) rfl rfl (fun c hc => ⟨_, ρa.set 4 (.val (tupD c)), rfl, rfl, fun _ => ?_, fun z => nomatch z⟩) (by omega) rfl]
        · rw [List.filter_eq_self.mpr fun _ _ => rfl]; unfold firstsI; rw [List.map_map]; rfl
        · let ρc : Ce := ρa.set 4 (.val (tupD c))
          have h2 : fLc (fSeq (fN 4)) (hN 5) (fT (f2 pGt (fN 5) (fN 2))) (fN 5) [5] ρc = some (.new (.list ((c.filter fun x => decide (b < x)).map .int)), ρc) :=
            fLc_ints (ns := c) (ρ1 := ρc) ρc (fun x => decide (b < x)) .int rfl rfl (fun i hi => ⟨_, ρc.set 5 (.val (.int i)), rfl, fT_of (f2_of (ρ1 := ρc.set 5 (.val (.int i))) rfl rfl rfl rfl (pGt_ii _ _)), fun _ => ⟨_, _, rfl, rfl, rfl⟩, fun _ => rfl⟩) (Nat.le_trans (hb c hc) (by decide)) rfl
          refine ⟨.new (iL ((c.filter fun x => decide (b < x)).take 1)), ρc, ?_, rfl, rfl⟩
          unfold fSl
          rw [h2]
          show some (Opd.new (.list (cutD ((c.filter fun x => decide (b < x)).map .int) none (some 1))), ρc) = _
          rw [cutD_1]
      have h2 : fLc2 (fSeq (fN 3)) (hN 6) (fYes) (fSeq (fN 6)) (hN 5) (fYes) (fN 5) [6, 5] [5] ρb = some (.new (iL (firstsI cs b).flatten), ρb) := by
        refine fLc2_pure iL ρb rfl rfl (fun c hc => ⟨_, ρb.set 6 (.val (iL c)), ρb.set 6 (.val (iL c)), rfl, rfl, rfl, fun acc ha => ⟨ρb.set 6 (.val (iL c)), ?_, rfl⟩⟩) (by have := firstsI_len cs b; omega) rfl
        exact lc_id (ρ := ρb.set 6 (.val (iL c))) acc (fun i hi => ⟨_, _, rfl, rfl, rfl⟩) ha
      have h3 := fM_ext (fe := fN 1) (i := 1) (b := false) (ρ := ρb) (ds := (visitsOn cs pre).map .int) (es := (sortI (firstsI cs b).flatten).map .int) (fa := faC (fB pSortU (faC (fLc2 (fSeq (fN 3)) (hN 6) (fYes) (fSeq (fN 6)) (hN 5) (fYes) (fN 5) [6, 5] [5]) (faN))) (faN)) rfl rfl (faC_of (fB_of (faC_of h2 rfl) rfl (pSortU_iL _)) rfl) (by
        have := firstsI_len cs b
        rw [List.length_map, List.length_map, sortI_len]; omega)
      refine ⟨ρa, st (pre ++ [b]) (.val (.int b)) (.val (.list ((firstsI cs b).map iL))), rfl, .inl ((gSeq_nx (gSet_of (i := 3) h1 rfl)).trans (Eq.trans (gEx_of h3) ?_)), _, _, rfl⟩
      have : visitsOn cs (pre ++ [b]) = visitsOn cs pre ++ sortI (firstsI cs b).flatten := by unfold visitsOn; rw [List.flatMap_append]; simp
      show some (Rs.nx _) = some (Rs.nx ([_, .own false (iL (visitsOn cs (pre ++ [b]))), _, _, _, _, _] : Ce))
      rw [this]
      simp only [iL, List.map_append]
      rfl)
  unfold g_visits_for
  show ((gSeq _ _ ρ0).bind endD) = _
  rw [gSeq_nx (ρ1 := st [] .un .un) rfl, gSeq_nx ((gFor_of hi).trans e1), e2]
  rfl
/-! ### one behind the other -/
theorem fn_followed_eq {cs ds es : List (List Int)} (hb : ∀ c ∈ cs, c.length ≤ 1000) (hl : ∀ k, ((cs.take k).foldl linkC []).length ≤ 1000) (hl2 : ds.flatten.length ≤ 250) (hc2 : ds.length ≤ 250) (hb2 : ∀ c ∈ ds, c.length ≤ 250)
    (hk : ∀ k, (((visitsI ds).take k).foldl visitL (linksI cs)).length < 64) (h : chainsL ((visitsI ds).foldl visitL (linksI cs)) = some es) : fn_followed [chT cs, chT ds] = some (chT es) := by
  unfold fn_followed
  refine Eq.trans (fnP_at [.val (chT cs), .val (chT ds), .un, .un] rfl rfl) ?_
  let ρ0 : Ce := [.val (chT cs), .val (chT ds), .un, .un]
  let st : List Int → Cell → Ce := fun l c => [.val (chT cs), .val (chT ds), .val (.dict (dI (l.foldl visitL (linksI cs)))), c]
  have h0 : fCall fn_links_of (faC (fN 0) (faN)) ρ0 = some (.frz (.dict (dI (linksI cs))), ρ0) := fCall_of (faC_of rfl rfl) rfl (fn_links_eq hb hl)
  have h1 : gSet 2 (fCall fn_links_of (faC (fN 0) (faN))) ρ0 = some (.nx (st [] .un)) := gSet_of h0 rfl
  have hv : fCall fn_visits_for (faC (fN 1) (faN)) (st [] .un) = some (.frz (iL (visitsI ds)), st [] .un) := fCall_of (faC_of rfl rfl) rfl (fn_visits_eq hl2 hc2 hb2)
  obtain ⟨ρ', e1, c, e2⟩ := goFor_ints (h := hN 3) (g := gSet 2 (fCall fn_linked_visit (faC (fN 2) (faC (fN 3) (faN))))) (fun pre ρ => ∃ c, ρ = st pre c) (visitsI ds) (st [] .un) ⟨_, rfl⟩ (fun pre r post ρ e hp => by
    obtain ⟨c, rfl⟩ := hp
    have hpl : (pre.foldl visitL (linksI cs)).length < 64 := by
      have := hk pre.length
      rw [e, List.take_left] at this
      exact this
    have h2 : fCall fn_linked_visit (faC (fN 2) (faC (fN 3) (faN))) (st pre (.val (.int r))) = some (.frz (.dict (dI (visitL (pre.foldl visitL (linksI cs)) r))), st pre (.val (.int r))) := fCall_of (faC_of rfl (faC_of rfl rfl)) rfl (fn_visit_eq hpl)
    refine ⟨st pre (.val (.int r)), st (pre ++ [r]) (.val (.int r)), rfl, .inl ((gSet_of h2 rfl).trans ?_), _, rfl⟩
    show some (Rs.nx _) = some (Rs.nx ([_, _, .val (.dict (dI ((pre ++ [r]).foldl visitL (linksI cs)))), _] : Ce))
    rw [List.foldl_append]
    rfl)
  have hfl : ((visitsI ds).foldl visitL (linksI cs)).length < 64 := by
    have := hk (visitsI ds).length
    rwa [List.take_length] at this
  have h3 : gRet (fCall fn_chains_from_links (faC (fN 2) (faN))) (st (visitsI ds) c) = some (.rt (.frz (chT es)) (st (visitsI ds) c)) := gRet_of (fCall_of (faC_of rfl rfl) rfl (fn_chl_eq hfl h))
  unfold g_followed
  show ((gSeq _ _ ρ0).bind endD) = _
  rw [gSeq_nx h1, gSeq_nx ((gFor_of (fSeq_l hv rfl)).trans e1), e2, h3]
  rfl
end DL

namespace DL
open PySem PySem.Spec L2
local macro_rules
  | `(tactic| walk_at "dl_ev") => `(tactic| try simp only [Option.bind_some, gSeq, gSet, gOwn, gRet, gIf, gEx, gPut, gPutSet, gTupS, asg, fN, fC, fB, f2, faC, faCn, faN, fT, fNot, fAnd, fOr, fAndV, fOrV, fNotV, fIf, fCh, fLst, fTup, frzs, argO, derefs, deref, frD, fNeg, fM, fSl, fo0, fo1, fRev, gNil, osOf, fCall, fCallN, fCallU,
      List.getElem?_cons_succ, List.getElem?_cons_zero, List.set_cons_succ, List.set_cons_zero, cond_true, cond_false, endD, endN, endU, resD, pLen_l, pLen_t, pLt_ii, pLe_ii, pGt_ii, pGe_ii, pAdd_ii, pI_ii, pList_l, pList_t, pTuple_l, pTuple_t, Option.map_some, List.length_map, List.length_cons, List.length_nil, sz0, sz1, sz2, sz3, sz5, if_true])
/-! ### equality of chains -/
theorem eqv_ints : ∀ a b : List Int, PyData.eqvAll (a.map .int) (b.map .int) = decide (a = b)
  | [], [] => rfl
  | [], _ :: _ => rfl
  | _ :: _, [] => rfl
  | x :: a, y :: b => by
    show (decide (x = y) && PyData.eqvAll (a.map .int) (b.map .int)) = _
    rw [eqv_ints a b, ← Bool.decide_and]; simp
theorem eqv_tups : ∀ a b : List (List Int), PyData.eqvAll (a.map tupD) (b.map tupD) = decide (a = b)
  | [], [] => rfl
  | [], _ :: _ => rfl
  | _ :: _, [] => rfl
  | x :: a, y :: b => by
    show (PyData.eqvAll (x.map .int) (y.map .int) && PyData.eqvAll (a.map tupD) (b.map tupD)) = _
    rw [eqv_ints, eqv_tups a b, ← Bool.decide_and]; simp
theorem eqv_chT (a b : List (List Int)) : PyData.eqv (chT a) (chT b) = decide (a = b) := eqv_tups a b
theorem lay_ints : ∀ ns : List Int, PyData.canLayAll0 (ns.map .int) = true ∧ PyData.depthAll (ns.map .int) = 0
  | [] => ⟨rfl, rfl⟩
  | n :: ns => ⟨by show ((PyData.int n).canLay0 && PyData.canLayAll0 (ns.map .int)) = true; rw [(lay_ints ns).1]; rfl, by show max 0 (PyData.depthAll (ns.map .int)) = 0; rw [(lay_ints ns).2]; rfl⟩
theorem lay_tups : ∀ cs : List (List Int), PyData.canLayAll0 (cs.map tupD) = true ∧ PyData.depthAll (cs.map tupD) ≤ 1
  | [] => ⟨rfl, Nat.zero_le _⟩
  | c :: cs => ⟨by show (PyData.canLayAll0 (c.map .int) && PyData.canLayAll0 (cs.map tupD)) = true; rw [(lay_tups cs).1, (lay_ints c).1]; rfl, by
      show max (PyData.depthAll (c.map .int) + 1) (PyData.depthAll (cs.map tupD)) ≤ 1
      have := (lay_tups cs).2
      rw [(lay_ints c).2]; omega⟩
theorem shaped_chT (cs : List (List Int)) : SeqAt.shaped (chT cs) = true := by
  unfold SeqAt.shaped
  have h : (chT cs).depth ≤ 64 := by
    show PyData.depthAll (cs.map tupD) + 1 ≤ 64
    have := (lay_tups cs).2
    omega
  rw [decide_eq_true h, Bool.and_true]
  exact (lay_tups cs).1
theorem pNe_chT (a b : List (List Int)) : pNe (chT a) (chT b) = some (.frz (.bool (!decide (a = b)))) := by
  unfold pNe
  rw [if_pos ⟨shaped_chT a, shaped_chT b⟩, eqv_chT]
theorem pEq_chT (a b : List (List Int)) : pEq (chT a) (chT b) = some (.frz (.bool (decide (a = b)))) := by
  unfold pEq
  rw [if_pos ⟨shaped_chT a, shaped_chT b⟩, eqv_chT]
/-! ### repetitions -/
/-- C 0, .., C n, the first that stays -/
structure Reps (cs : List (List Int)) (C : Nat → List (List Int)) (n : Nat) : Prop where
  c0 : C 0 = []
  step : ∀ k, k ≤ n → fn_followed [chT (C k), chT cs] = some (chT (C (k + 1)))
  go : ∀ k, k < n → C k ≠ C (k + 1)
  stop : C n = C (n + 1)
theorem fn_reps_eq {cs : List (List Int)} {C : Nat → List (List Int)} {n : Nat} (R : Reps cs C n) (hn : n ≤ 900) : fn_repetitions [chT cs] = some (.list ((List.range (n + 1)).map fun k => chT (C k))) := by
  unfold fn_repetitions
  refine Eq.trans (fnP_at [.val (chT cs), .un] rfl rfl) ?_
  let ρ0 : Ce := [.val (chT cs), .un]
  let st : Nat → Ce := fun k => [.val (chT cs), .own false (.list ((List.range (k + 1)).map fun k => chT (C k)))]
  have hlast : ∀ k, pIx (.list ((List.range (k + 1)).map fun k => chT (C k))) (.int (-1)) = some (.frz (chT (C k))) := fun k => by
    rw [List.range_succ, List.map_append]; exact pIx_last
  have hix : ∀ k, f2 pIx (fN 1) (fNeg (fC (.int 1))) (st k) = some (.frz (chT (C k)), st k) := fun k => fe_ix (d := .list ((List.range (k + 1)).map fun k => chT (C k))) (e := .int (-1)) rfl rfl rfl (hlast k)
  have hf : ∀ k, k ≤ n → fCall fn_followed (faC (f2 pIx (fN 1) (fNeg (fC (.int 1)))) (faC (fN 0) (faN))) (st k) = some (.frz (chT (C (k + 1))), st k) := fun k hk => fCall_of (faC_of (hix k) (faC_of rfl rfl)) rfl (R.step k hk)
  have hT : ∀ k, k ≤ n → fT (f2 pNe (fCall fn_followed (faC (f2 pIx (fN 1) (fNeg (fC (.int 1)))) (faC (fN 0) (faN)))) (f2 pIx (fN 1) (fNeg (fC (.int 1))))) (st k) = some (!decide (C (k + 1) = C k), st k) := fun k hk =>
    fT_of (f2_of (hf k hk) (hix k) rfl rfl (pNe_chT _ _))
  have run : ∀ j k fuel, k + j = n → j < fuel → goW (fT (f2 pNe (fCall fn_followed (faC (f2 pIx (fN 1) (fNeg (fC (.int 1)))) (faC (fN 0) (faN)))) (f2 pIx (fN 1) (fNeg (fC (.int 1))))))
      (gEx (fM "list" mApp (fN 1) (faC (fCall fn_followed (faC (f2 pIx (fN 1) (fNeg (fC (.int 1)))) (faC (fN 0) (faN)))) (faN)))) fuel (st k) = some (.nx (st n)) := by
    intro j
    induction j with
    | zero =>
      intro k fuel hk hf
      obtain ⟨f, rfl⟩ : ∃ f, fuel = f + 1 := ⟨fuel - 1, by omega⟩
      have : k = n := by omega
      subst this
      simp only [goW, hT k (Nat.le_refl _), Option.bind_some]
      rw [decide_eq_true R.stop.symm]; rfl
    | succ j ih =>
      intro k fuel hk hfu
      obtain ⟨f, rfl⟩ : ∃ f, fuel = f + 1 := ⟨fuel - 1, by omega⟩
      simp only [goW, hT k (by omega), Option.bind_some]
      rw [decide_eq_false (Ne.symm (R.go k (by omega)))]
      have h1 : gEx (fM "list" mApp (fN 1) (faC (fCall fn_followed (faC (f2 pIx (fN 1) (fNeg (fC (.int 1)))) (faC (fN 0) (faN)))) (faN))) (st k) = some (.nx (st (k + 1))) := by
        rw [gEx_of (fM_app (i := 1) (ds := (List.range (k + 1)).map fun k => chT (C k)) rfl rfl (faC_of (hf k (by omega)) rfl) (by simp; omega))]
        show some (Rs.nx _) = some (Rs.nx ([_, .own false (.list ((List.range (k + 1 + 1)).map fun k => chT (C k)))] : Ce))
        rw [List.range_succ (n := k + 1), List.map_append]
        rfl
      show ((gEx _ (st k)).bind _) = _
      rw [h1]
      exact ih (k + 1) f (by omega) (by omega)
  unfold g_repetitions
  show ((gSeq _ _ ρ0).bind endD) = _
  have e0 : gOwn 1 (fLst (faC (fTup (faN)) (faN))) ρ0 = some (.nx (st 0)) := by
    show some (Rs.nx _) = some (Rs.nx ([_, .own false (.list [chT (C 0)])] : Ce))
    rw [R.c0]; rfl
  rw [gSeq_nx e0, gSeq_nx (run n 0 1000 (by omega) (by omega))]
  rfl
theorem fn_repeated_eq {cs : List (List Int)} {C : Nat → List (List Int)} {n m : Nat} (R : Reps cs C n) (hn : n ≤ 900) : fn_repeated [chT cs, .int m] = some (chT (C (min m n))) := by
  unfold fn_repeated
  refine Eq.trans (fnP_at [.val (chT cs), .val (.int m), .un] rfl rfl) ?_
  let ρ0 : Ce := [.val (chT cs), .val (.int m), .un]
  let ρ1 : Ce := [.val (chT cs), .val (.int m), .val (.list ((List.range (n + 1)).map fun k => chT (C k)))]
  have h0 : fCall fn_repetitions (faC (fN 0) (faN)) ρ0 = some (.frz (.list ((List.range (n + 1)).map fun k => chT (C k))), ρ0) := fCall_of (faC_of rfl rfl) rfl (fn_reps_eq R hn)
  have h1 : f2 pSub (fB pLen (faC (fN 2) (faN))) (fC (.int 1)) ρ1 = some (.frz (.int n), ρ1) := by
    refine f2_of (ρ1 := ρ1) (fB_of (faC_of rfl rfl) rfl (pLen_l _)) rfl rfl rfl ?_
    have : (((((List.range (n + 1)).map fun k => chT (C k)).length : Nat) : Int) - 1) = n := by simp
    show some (Opd.frz (.int _)) = _
    rw [this]
  have h2 : fB pMin (faC (fN 1) (faC (f2 pSub (fB pLen (faC (fN 2) (faN))) (fC (.int 1))) (faN))) ρ1 = some (.frz (.int ((min m n : Nat) : Int)), ρ1) := by
    refine fB_of (faC_of (ρ1 := ρ1) rfl (faC_of h1 rfl)) rfl ?_
    show some (Opd.frz (.int (min (m : Int) n))) = _
    have : (min (m : Int) n) = ((min m n : Nat) : Int) := by omega
    rw [this]
  have h3 : pIx (.list ((List.range (n + 1)).map fun k => chT (C k))) (.int ((min m n : Nat) : Int)) = some (.frz (chT (C (min m n)))) := by
    show (atI _ _).map Opd.frz = _
    have hlt : min m n < n + 1 := by omega
    rw [atI_nat (v := chT (C (min m n))) (by rw [List.getElem?_map, List.getElem?_range hlt]; rfl)]
    rfl
  unfold g_repeated
  show ((gSeq _ _ ρ0).bind endD) = _
  rw [gSeq_nx (gSet_of (i := 2) h0 rfl)]
  have h4 : gRet (f2 pIx (fN 2) (fB pMin (faC (fN 1) (faC (f2 pSub (fB pLen (faC (fN 2) (faN))) (fC (.int 1))) (faN))))) ρ1 = some (.rt (.frz (chT (C (min m n)))) ρ1) := gRet_of (f2_of (ρ1 := ρ1) rfl h2 rfl rfl h3)
  show ((gRet _ ρ1).bind endD) = _
  rw [h4]; rfl
end DL

namespace DL
open PySem PySem.Spec L2
local macro_rules
  | `(tactic| walk_at "dl_ev") => `(tactic| try simp only [Option.bind_some, gSeq, gSet, gOwn, gRet, gIf, gEx, gPut, gPutSet, gTupS, asg, fN, fC, fB, f2, faC, faCn, faN, fT, fNot, fAnd, fOr, fAndV, fOrV, fNotV, fIf, fCh, fLst, fTup, frzs, argO, derefs, deref, frD, fNeg, fM, fSl, fo0, fo1, fRev, gNil, osOf, fCall, fCallN, fCallU,
      List.getElem?_cons_succ, List.getElem?_cons_zero, List.set_cons_succ, List.set_cons_zero, cond_true, cond_false, endD, endN, endU, resD, pLen_l, pLen_t, pLt_ii, pLe_ii, pGt_ii, pGe_ii, pAdd_ii, pI_ii, pList_l, pList_t, pTuple_l, pTuple_t, Option.map_some, List.length_map, List.length_cons, List.length_nil, sz0, sz1, sz2, sz3, sz5, if_true])
theorem gSeq_rt {g1 g2 : FS} {ρ ρ1 : Ce} {o : Opd} (h : g1 ρ = some (.rt o ρ1)) : gSeq g1 g2 ρ = some (.rt o ρ1) := by unfold gSeq; rw [h]; rfl
/-! ### the urn -/
def Urn (k : Nat) (w : D) : Prop := ∃ a b c : Int, w = iL [a, b, c] ∧ 0 ≤ c ∧ c ≤ k
theorem ix3_0 (a b c : Int) : pIx (iL [a, b, c]) (.int 0) = some (.frz (.int a)) := rfl
theorem ix3_1 (a b c : Int) : pIx (iL [a, b, c]) (.int 1) = some (.frz (.int b)) := rfl
theorem ix3_2 (a b c : Int) : pIx (iL [a, b, c]) (.int 2) = some (.frz (.int c)) := rfl
theorem put3_0 (a b c x : Int) : putD (iL [a, b, c]) (.frz (.int 0)) (.int x) = some (iL [x, b, c]) := rfl
theorem put3_2 (a b c x : Int) : putD (iL [a, b, c]) (.frz (.int 2)) (.int x) = some (iL [a, b, x]) := rfl
theorem pMul_l {i : Int} (h : -(2 ^ 64) < i ∧ i < 2 ^ 64) (j : Int) : pMul (.int i) (.int j) = some (.frz (.int (i * j))) := by
  unfold pMul
  rw [pI_ii, gMul_ok (.inl h)]; rfl
theorem pMul_r {j : Int} (h : -(2 ^ 64) < j ∧ j < 2 ^ 64) (i : Int) : pMul (.int i) (.int j) = some (.frz (.int (i * j))) := by
  unfold pMul
  rw [pI_ii, gMul_ok (.inr h)]; rfl
theorem pMod_ii {i j : Int} (h : 0 < j) : pI gMod (.int i) (.int j) = some (.frz (.int (i % j))) := by
  rw [pI_ii]; unfold gMod; rw [if_pos h]; rfl
theorem pDiv_ii {i j : Int} (h : 0 < j) (h2 : j < 1073741824) : pI gDiv (.int i) (.int j) = some (.frz (.int (i / j))) := by
  rw [pI_ii]; unfold gDiv; rw [if_pos ⟨h, h2⟩]; rfl
theorem pInt_i (i : Int) : pInt [.int i] = some (.frz (.int i)) := rfl
theorem two64 : (2 : Int) ^ 64 = 18446744073709551616 := by decide +kernel
theorem take_ok {k : Nat} {w : D} {n : Int} (U : Urn k w) (hk : k ≤ 1000000) (h0 : 0 < n) (h1 : n < 1073741824) : ∃ d w', fn__law_take w [.int n] = some (.int d, w') ∧ 0 ≤ d ∧ d < n ∧ Urn (k + 1) w' := by
  obtain ⟨a, b, c, rfl, c0, c1⟩ := U
  have m0 : ∀ x : Int, 0 ≤ x % n ∧ x % n < n := fun x => ⟨Int.emod_nonneg _ (by omega), Int.emod_lt_of_pos _ h0⟩
  have s64 : ∀ x : Int, -18446744073709551616 < x ∧ x < 18446744073709551616 → -(2 ^ 64) < x ∧ x < 2 ^ 64 := fun x h => by rw [two64]; exact h
  let ρ0 : Ce := [.own true (iL [a, b, c]), .val (.int n), .un, .un, .un, .un]
  have i0 : f2 pIx (fN 0) (fC (.int 0)) ρ0 = some (.frz (.int a), ρ0) := fe_ix rfl rfl rfl (ix3_0 a b c)
  by_cases ha : 0 < a
  · refine ⟨a % n, iL [a / n, b, c], ?_, (m0 a).1, (m0 a).2, a / n, b, c, rfl, c0, by omega⟩
    unfold fn__law_take
    refine Eq.trans (fnU_at ρ0 rfl rfl) ?_
    unfold g__law_take
    have hT : fT (f2 pGt (f2 pIx (fN 0) (fC (.int 0))) (fC (.int 0))) ρ0 = some (true, ρ0) := by
      have := fT_of (f2_of (ρ1 := ρ0) (ρ2 := ρ0) (fb := fC (.int 0)) i0 rfl rfl rfl (pGt_ii a 0))
      rw [decide_eq_true ha] at this
      exact this
    let ρ1 : Ce := [.own true (iL [a, b, c]), .val (.int n), .val (.int (a % n)), .un, .un, .un]
    have h2 : gSet 2 (f2 (pI gMod) (fB pInt (faC (f2 pIx (fN 0) (fC (.int 0))) (faN))) (fN 1)) ρ0 = some (.nx ρ1) := gSet_of (f2_of (ρ1 := ρ0) (ρ2 := ρ0) (fB_of (faC_of i0 rfl) rfl (pInt_i a)) rfl rfl rfl (pMod_ii h0)) rfl
    have i1 : f2 pIx (fN 0) (fC (.int 0)) ρ1 = some (.frz (.int a), ρ1) := fe_ix rfl rfl rfl (ix3_0 a b c)
    let ρ2 : Ce := [.own true (iL [a / n, b, c]), .val (.int n), .val (.int (a % n)), .un, .un, .un]
    have h3 : f2 (pI gDiv) (f2 pIx (fN 0) (fC (.int 0))) (fN 1) ρ1 = some (.frz (.int (a / n)), ρ1) := f2_of (ρ1 := ρ1) (ρ2 := ρ1) i1 rfl rfl rfl (pDiv_ii h0 h1)
    have h4 : gPut (fN 0) (fC (.int 0)) (f2 (pI gDiv) (f2 pIx (fN 0) (fC (.int 0))) (fN 1)) ρ1 = some (.nx ρ2) := by
      unfold gPut
      rw [h3]
      rfl
    have h5 : gIf (fT (f2 pGt (f2 pIx (fN 0) (fC (.int 0))) (fC (.int 0)))) (gSeq (gSet 2 (f2 (pI gMod) (fB pInt (faC (f2 pIx (fN 0) (fC (.int 0))) (faN))) (fN 1))) (gSeq (gPut (fN 0) (fC (.int 0)) (f2 (pI gDiv) (f2 pIx (fN 0) (fC (.int 0))) (fN 1))) (gRet (fN 2)))) gNil ρ0 = some (.rt (.frz (.int (a % n))) ρ2) :=
      (gIf_of hT).trans ((gSeq_nx h2).trans ((gSeq_nx h4).trans rfl))
    rw [gSeq_rt h5]
    rfl
  · have hT : fT (f2 pGt (f2 pIx (fN 0) (fC (.int 0))) (fC (.int 0))) ρ0 = some (false, ρ0) := by
      have := fT_of (f2_of (ρ1 := ρ0) (ρ2 := ρ0) (fb := fC (.int 0)) i0 rfl rfl rfl (pGt_ii a 0))
      rw [decide_eq_false ha] at this
      exact this
    obtain ⟨e, hc⟩ : ∃ e, e = c + 1 := ⟨_, rfl⟩
    let ρ1 : Ce := [.own true (iL [a, b, e]), .val (.int n), .un, .un, .un, .un]
    have g1 : ∀ (g : FS), gIf (fT (f2 pGt (f2 pIx (fN 0) (fC (.int 0))) (fC (.int 0)))) g gNil ρ0 = some (.nx ρ0) := fun g => by rw [gIf_of hT]; rfl
    have g2 : gPut (fN 0) (fC (.int 2)) (f2 pAdd (f2 pIx (fN 0) (fC (.int 2))) (fC (.int 1))) ρ0 = some (.nx ρ1) := by
      show some (Rs.nx _) = some (Rs.nx ([.own true (iL [a, b, e]), .val (.int n), .un, .un, .un, .un] : Ce))
      rw [hc]; rfl
    have e0 : 0 ≤ e := by omega
    have e1 : e ≤ k + 1 := by omega
    let once : Int := ((b + 48271 * e) * (39373 + e)) % 2147483647
    have i1 : f2 pIx (fN 0) (fC (.int 1)) ρ1 = some (.frz (.int b), ρ1) := fe_ix rfl rfl rfl (ix3_1 a b e)
    have i2 : f2 pIx (fN 0) (fC (.int 2)) ρ1 = some (.frz (.int e), ρ1) := fe_ix rfl rfl rfl (ix3_2 a b e)
    have m1 : f2 pMul (fC (.int 48271)) (f2 pIx (fN 0) (fC (.int 2))) ρ1 = some (.frz (.int (48271 * e)), ρ1) := f2_of (ρ1 := ρ1) rfl i2 rfl rfl (pMul_l (s64 _ (by omega)) e)
    have m2 : f2 pAdd (f2 pIx (fN 0) (fC (.int 1))) (f2 pMul (fC (.int 48271)) (f2 pIx (fN 0) (fC (.int 2)))) ρ1 = some (.frz (.int (b + 48271 * e)), ρ1) := f2_of i1 m1 rfl rfl (pAdd_ii _ _)
    have m3 : f2 pAdd (fC (.int 39373)) (f2 pIx (fN 0) (fC (.int 2))) ρ1 = some (.frz (.int (39373 + e)), ρ1) := f2_of (ρ1 := ρ1) rfl i2 rfl rfl (pAdd_ii _ _)
    have m4 : f2 (pI gMod) (fB pInt (faC (f2 pMul (f2 pAdd (f2 pIx (fN 0) (fC (.int 1))) (f2 pMul (fC (.int 48271)) (f2 pIx (fN 0) (fC (.int 2))))) (f2 pAdd (fC (.int 39373)) (f2 pIx (fN 0) (fC (.int 2))))) (faN))) (fC (.int 2147483647)) ρ1 = some (.frz (.int once), ρ1) :=
      f2_of (ρ1 := ρ1) (fB_of (faC_of (f2_of m2 m3 rfl rfl (pMul_r (s64 _ (by omega)) _)) rfl) rfl (pInt_i _)) rfl rfl rfl (pMod_ii (by omega))
    let far : Int := once % 40009 + 7
    have f0 : 0 ≤ far ∧ far < 40016 := ⟨by have := Int.emod_nonneg once (show (40009 : Int) ≠ 0 by decide); omega, by have := Int.emod_lt_of_pos once (show (0 : Int) < 40009 by decide); omega⟩
    let ρ2 : Ce := [.own true (iL [a, b, e]), .val (.int n), .un, .val (.int once), .un, .un]
    let ρ3 : Ce := [.own true (iL [a, b, e]), .val (.int n), .un, .val (.int once), .val (.int far), .un]
    have g3 : gSet 4 (f2 pAdd (f2 (pI gMod) (fB pInt (faC (fN 3) (faN))) (fC (.int 40009))) (fC (.int 7))) ρ2 = some (.nx ρ3) := gSet_of (f2_of (ρ1 := ρ2) (ρ2 := ρ2) (f2_of (ρ1 := ρ2) (ρ2 := ρ2) (fB_of (faC_of rfl rfl) rfl (pInt_i once)) rfl rfl rfl (pMod_ii (by omega))) rfl rfl rfl (pAdd_ii _ _)) rfl
    let twice : Int := ((once + e + b / 1000003) * far) % 2147483629
    have j1 : f2 pIx (fN 0) (fC (.int 1)) ρ3 = some (.frz (.int b), ρ3) := fe_ix rfl rfl rfl (ix3_1 a b e)
    have j2 : f2 pIx (fN 0) (fC (.int 2)) ρ3 = some (.frz (.int e), ρ3) := fe_ix rfl rfl rfl (ix3_2 a b e)
    have m5 : f2 pAdd (f2 pAdd (fN 3) (f2 pIx (fN 0) (fC (.int 2)))) (f2 (pI gDiv) (f2 pIx (fN 0) (fC (.int 1))) (fC (.int 1000003))) ρ3 = some (.frz (.int (once + e + b / 1000003)), ρ3) :=
      f2_of (f2_of (ρ1 := ρ3) rfl j2 rfl rfl (pAdd_ii _ _)) (f2_of (ρ1 := ρ3) (ρ2 := ρ3) j1 rfl rfl rfl (pDiv_ii (by omega) (by omega))) rfl rfl (pAdd_ii _ _)
    have m6 : f2 (pI gMod) (fB pInt (faC (f2 pMul (f2 pAdd (f2 pAdd (fN 3) (f2 pIx (fN 0) (fC (.int 2)))) (f2 (pI gDiv) (f2 pIx (fN 0) (fC (.int 1))) (fC (.int 1000003)))) (fN 4)) (faN))) (fC (.int 2147483629)) ρ3 = some (.frz (.int twice), ρ3) :=
      f2_of (ρ1 := ρ3) (fB_of (faC_of (f2_of (ρ2 := ρ3) m5 rfl rfl rfl (pMul_r (s64 far (by omega)) _)) rfl) rfl (pInt_i _)) rfl rfl rfl (pMod_ii (by omega))
    let ρ4 : Ce := [.own true (iL [a, b, e]), .val (.int n), .un, .val (.int once), .val (.int far), .val (.int twice)]
    have m7 : f2 (pI gMod) (fB pInt (faC (f2 pAdd (f2 pMul (fN 5) (fC (.int 48271))) (fN 3)) (faN))) (fC (.int 2147483587)) ρ4 = some (.frz (.int ((twice * 48271 + once) % 2147483587)), ρ4) :=
      f2_of (ρ1 := ρ4) (fB_of (faC_of (f2_of (ρ1 := ρ4) (ρ2 := ρ4) (f2_of (ρ1 := ρ4) (ρ2 := ρ4) rfl rfl rfl rfl (pMul_r (s64 48271 (by omega)) twice)) rfl rfl rfl (pAdd_ii _ _)) rfl) rfl (pInt_i _)) rfl rfl rfl (pMod_ii (by omega))
    have m8 : f2 (pI gMod) (fB pInt (faC (f2 (pI gDiv) (f2 (pI gMod) (fB pInt (faC (f2 pAdd (f2 pMul (fN 5) (fC (.int 48271))) (fN 3)) (faN))) (fC (.int 2147483587))) (fC (.int 64))) (faN))) (fN 1) ρ4 = some (.frz (.int ((twice * 48271 + once) % 2147483587 / 64 % n)), ρ4) :=
      f2_of (ρ1 := ρ4) (ρ2 := ρ4) (fB_of (faC_of (f2_of (ρ1 := ρ4) (ρ2 := ρ4) m7 rfl rfl rfl (pDiv_ii (by omega) (by omega))) rfl) rfl (pInt_i _)) rfl rfl rfl (pMod_ii h0)
    refine ⟨(twice * 48271 + once) % 2147483587 / 64 % n, iL [a, b, e], ?_, (m0 _).1, (m0 _).2, a, b, e, rfl, e0, by omega⟩
    unfold fn__law_take
    refine Eq.trans (fnU_at ρ0 rfl rfl) ?_
    unfold g__law_take
    rw [gSeq_nx (g1 _), gSeq_nx g2, gSeq_nx (gSet_of (i := 3) m4 rfl)]
    show (gSeq _ _ ρ2).bind endU = _
    rw [gSeq_nx g3, gSeq_nx (gSet_of (i := 5) m6 rfl)]
    show (gRet _ ρ4).bind endU = _
    rw [gRet_of m8]
    rfl
end DL

namespace DL
open PySem PySem.Spec L2
local macro_rules
  | `(tactic| walk_at "dl_ev") => `(tactic| try simp only [Option.bind_some, gSeq, gSet, gOwn, gRet, gIf, gEx, gPut, gPutSet, gTupS, asg, fN, fC, fB, f2, faC, faCn, faN, fT, fNot, fAnd, fOr, fAndV, fOrV, fNotV, fIf, fCh, fLst, fTup, frzs, argO, derefs, deref, frD, fNeg, fM, fSl, fo0, fo1, fRev, gNil, osOf, fCall, fCallN, fCallU,
      List.getElem?_cons_succ, List.getElem?_cons_zero, List.set_cons_succ, List.set_cons_zero, cond_true, cond_false, endD, endN, endU, resD, pLen_l, pLen_t, pLt_ii, pLe_ii, pGt_ii, pGe_ii, pAdd_ii, pI_ii, pList_l, pList_t, pTuple_l, pTuple_t, Option.map_some, List.length_map, List.length_cons, List.length_nil, sz0, sz1, sz2, sz3, sz5, if_true])
theorem pGe_ok (i j : Int) : pGe (.int i) (.int j) = some (.frz (.bool (decide (j ≤ i)))) := rfl
theorem pow18 : pI gPow (.int 10) (.int 18) = some (.frz (.int 1000000000000000000)) := by
  rw [pI_ii]
  have : gPow 10 18 = some (.int 1000000000000000000) := by
    unfold gPow
    rw [if_pos ⟨⟨by decide, by decide⟩, by decide⟩]; rfl
  rw [this]; rfl
/-- the source of draws -/
def g_box (cm ca : Int) : FS := gSeq (gSet 2 (fIf (fT (f2 pLt (fN 1) (fB pLen (faC (fN 0) (faN))))) (f2 pIx (fN 0) (fN 1)) (fC (.int 0)))) (gRet (fLst (faC (f2 pMul (fB pAbs (faC (fN 2) (faN))) (fB pInt (faC (f2 pGe (fB pAbs (faC (fN 2) (faN))) (f2 (pI gPow) (fC (.int 10)) (fC (.int 18)))) (faN)))) (faC (f2 pAdd (f2 pAdd (f2 (pI gMod) (fB pInt (faC (fN 2) (faN))) (fC (.int 2305843009213693951))) (f2 pMul (fC (.int cm)) (fN 1))) (fC (.int ca))) (faC (fC (.int 0)) (faN))))))
def fn_box (cm ca : Int) : Fn := fnN 3 2 (g_box cm ca)
theorem box_ok {cm ca : Int} {zs : List Int} (hz : zs ≠ []) (hcm : -1000000 < cm ∧ cm < 1000000) : ∃ urn, fn_box cm ca [iL zs, .int 0] = some urn ∧ Urn 0 urn := by
  obtain ⟨z, zs, rfl⟩ := List.exists_cons_of_ne_nil hz
  let ρ0 : Ce := [.val (iL (z :: zs)), .val (.int 0), .un]
  let ρ1 : Ce := [.val (iL (z :: zs)), .val (.int 0), .val (.int z)]
  have hT : fT (f2 pLt (fN 1) (fB pLen (faC (fN 0) (faN)))) ρ0 = some (true, ρ0) := by
    have := fT_of (f2_of (ρ := ρ0) (ρ1 := ρ0) (ρ2 := ρ0) (x := .frz (.int 0)) (fe := fN 1) rfl (fB_of (ρ := ρ0) (ρ1 := ρ0) (fa := faC (fN 0) faN) (faC_of (o := .frz (iL (z :: zs))) rfl rfl) rfl (pLen_l _)) rfl rfl (pLt_ii 0 _))
    rw [List.length_map, decide_eq_true (by simp)] at this
    exact this
  have h1 : gSet 2 (fIf (fT (f2 pLt (fN 1) (fB pLen (faC (fN 0) (faN))))) (f2 pIx (fN 0) (fN 1)) (fC (.int 0))) ρ0 = some (.nx ρ1) := by
    have : fIf (fT (f2 pLt (fN 1) (fB pLen (faC (fN 0) (faN))))) (f2 pIx (fN 0) (fN 1)) (fC (.int 0)) ρ0 = some (.frz (.int z), ρ0) := by
      rw [fIf_of hT]
      have e : pIx (iL (z :: zs)) (.int 0) = some (.frz (.int z)) := by rw [pIx_li, atI_0]; rfl
      exact fe_ix (ρ := ρ0) rfl rfl rfl e
    exact gSet_of this rfl
  have hab : fB pAbs (faC (fN 2) (faN)) ρ1 = some (.frz (.int z.natAbs), ρ1) := fB_of (faC_of rfl rfl) rfl rfl
  have hge : ∃ b : Bool, fB pInt (faC (f2 pGe (fB pAbs (faC (fN 2) (faN))) (f2 (pI gPow) (fC (.int 10)) (fC (.int 18)))) (faN)) ρ1 = some (.frz (.int (if b = true then 1 else 0)), ρ1) := by
    refine ⟨decide (1000000000000000000 ≤ (z.natAbs : Int)), fB_of (faC_of (f2_of hab (f2_of (ρ1 := ρ1) (ρ2 := ρ1) rfl rfl rfl rfl pow18) rfl rfl (pGe_ok _ _)) rfl) rfl ?_⟩
    rfl
  obtain ⟨b, hge⟩ := hge
  have m1 : f2 pMul (fB pAbs (faC (fN 2) (faN))) (fB pInt (faC (f2 pGe (fB pAbs (faC (fN 2) (faN))) (f2 (pI gPow) (fC (.int 10)) (fC (.int 18)))) (faN))) ρ1 = some (.frz (.int ((z.natAbs : Int) * (if b = true then 1 else 0))), ρ1) :=
    f2_of hab hge rfl rfl (pMul_r (by rw [two64]; cases b <;> simp) _)
  have m2 : f2 (pI gMod) (fB pInt (faC (fN 2) (faN))) (fC (.int 2305843009213693951)) ρ1 = some (.frz (.int (z % 2305843009213693951)), ρ1) :=
    f2_of (ρ1 := ρ1) (ρ2 := ρ1) (fB_of (faC_of rfl rfl) rfl (pInt_i z)) rfl rfl rfl (pMod_ii (by omega))
  have m3 : f2 pMul (fC (.int cm)) (fN 1) ρ1 = some (.frz (.int (cm * 0)), ρ1) := f2_of (ρ1 := ρ1) (ρ2 := ρ1) rfl rfl rfl rfl (pMul_l (by rw [two64]; omega) 0)
  have m4 : f2 pAdd (f2 pAdd (f2 (pI gMod) (fB pInt (faC (fN 2) (faN))) (fC (.int 2305843009213693951))) (f2 pMul (fC (.int cm)) (fN 1))) (fC (.int ca)) ρ1 = some (.frz (.int (z % 2305843009213693951 + cm * 0 + ca)), ρ1) :=
    f2_of (ρ1 := ρ1) (ρ2 := ρ1) (f2_of m2 m3 rfl rfl (pAdd_ii _ _)) rfl rfl rfl (pAdd_ii _ _)
  refine ⟨iL [(z.natAbs : Int) * (if b = true then 1 else 0), z % 2305843009213693951 + cm * 0 + ca, 0], ?_, _, _, 0, rfl, by omega, by omega⟩
  unfold fn_box
  refine Eq.trans (fnN_at ρ0 rfl rfl) ?_
  unfold g_box
  rw [gSeq_nx h1]
  have m5 := fLst_of (faC_of m1 (faC_of m4 (faC_of (ρ1 := ρ1) (fe := fC (.int 0)) (fa := faN) rfl rfl))) rfl (by simp)
  rw [gRet_of m5]
  rfl
/-! ### a comprehension that draws -/
theorem lcGo_state {h : HT} {fe : FE} {vs : List Nat} (P : Nat → Ce → Prop) (V : D → Prop) : ∀ (ds acc : List D) (k : Nat) (ρ : Ce), P k ρ → ∀ N : Nat, k + ds.length ≤ N → (∀ d k ρ, d ∈ ds → k < N → P k ρ → ∃ ρ1 o z ρ2, h d ρ = some ρ1 ∧ fe ρ1 = some (o, ρ2) ∧ frD o = some z ∧ V z ∧ P (k + 1) (wipeC ρ2 vs)) → acc.length + ds.length ≤ 100000 →
    ∃ zs ρ', lcGo h fYes fe vs ds ρ acc = some (acc ++ zs, ρ') ∧ zs.length = ds.length ∧ (∀ z ∈ zs, V z) ∧ P (k + ds.length) ρ'
  | [], acc, k, ρ, hp, _, _, _, _ => ⟨[], ρ, by simp [lcGo], rfl, nofun, hp⟩
  | d :: ds, acc, k, ρ, hp, N, hN, H, hl => by
    simp only [List.length_cons] at hl hN
    obtain ⟨ρ1, o, z, ρ2, h1, h2, h3, h4, h5⟩ := H d k ρ List.mem_cons_self (by omega) hp
    obtain ⟨zs, ρ', e1, e2, e3, e4⟩ := lcGo_state P V ds (acc ++ [z]) (k + 1) _ h5 N (by omega) (fun d k ρ hd => H d k ρ (List.mem_cons_of_mem _ hd)) (by rw [List.length_append, List.length_singleton]; omega)
    refine ⟨z :: zs, ρ', ?_, by simp [e2], fun x hx => (List.mem_cons.mp hx).elim (fun e => by rw [e]; exact h4) (e3 x), by rw [List.length_cons, show k + (ds.length + 1) = k + 1 + ds.length by omega]; exact e4⟩
    simp only [lcGo, h1, Option.bind_some, fYes, cond_true, h2, h3]
    rw [if_pos (Nat.lt_of_lt_of_le (by omega : acc.length < 100001) (by decide)), e1]
    simp
theorem fCallU_of {fn : FnU} {fa : FA} {ρ ρ1 : Ce} {i : Nat} {os : List Opd} {b : Bool} {w r w' : D} {ds : List D} (h : fa ρ = some (.own i :: os, ρ1)) (hi : ρ1[i]? = some (.own b w)) (h2 : frzs os = some ds) (h3 : fn w ds = some (r, w')) : fCallU fn fa ρ = some (.frz r, ρ1.set i (.own b w')) := by
  unfold fCallU
  rw [h]
  simp only [Option.bind_some, hi, h2, h3]
theorem ints_of_all : ∀ {zs : List D} {p : Int → Prop}, (∀ z ∈ zs, ∃ i, z = .int i ∧ p i) → ∃ ns : List Int, zs = ns.map .int ∧ ∀ i ∈ ns, p i
  | [], _, _ => ⟨[], rfl, nofun⟩
  | z :: zs, p, h => by
    obtain ⟨i, rfl, hi⟩ := h z List.mem_cons_self
    obtain ⟨ns, rfl, hn⟩ := ints_of_all fun x hx => h x (List.mem_cons_of_mem _ hx)
    exact ⟨i :: ns, rfl, fun x hx => (List.mem_cons.mp hx).elim (fun e => by rw [e]; exact hi) (hn x)⟩
theorem list_ok {k : Nat} {w : D} {n m : Int} (U : Urn k w) (hk : k ≤ 500000) (h0 : 0 < n) (h1 : n < 1000) (h2 : 0 ≤ m) (h3 : m < 1000) : ∃ (row : List Int) (w' : D), fn__law_list w [.int n, .int m] = some (iL row, w') ∧ (row.length : Int) ≤ m ∧ (∀ i ∈ row, 1 ≤ i ∧ i ≤ n) ∧ Urn (k + 1001) w' := by
  obtain ⟨d, w1, e1, d0, d1, U1⟩ := take_ok (n := m + 1) U (by omega) (by omega) (by omega)
  let ρ0 : Ce := [.own true w, .val (.int n), .val (.int m), .un]
  let ρ1 : Ce := [.own true w1, .val (.int n), .val (.int m), .un]
  obtain ⟨c, rfl⟩ : ∃ c : Nat, d = c := ⟨d.toNat, by omega⟩
  have t1 : fCallU fn__law_take (faC (fN 0) (faC (f2 pAdd (fN 2) (fC (.int 1))) (faN))) ρ0 = some (.frz (.int c), ρ1) :=
    by
      have : faC (fN 0) (faC (f2 pAdd (fN 2) (fC (.int 1))) (faN)) ρ0 = some ([.own 0, .frz (.int (m + 1))], ρ0) := faC_of (o := .own 0) rfl (faC_of (f2_of (ρ1 := ρ0) (ρ2 := ρ0) rfl rfl rfl rfl (pAdd_ii m 1)) rfl)
      exact fCallU_of (b := true) this rfl rfl e1
  have hi : fRng (faC (fCallU fn__law_take (faC (fN 0) (faC (f2 pAdd (fN 2) (fC (.int 1))) (faN)))) (faN)) ρ0 = some ((iotaI c).map .int, none, ρ1) := by
    rw [fRng_1 (faC_of t1 rfl) (okR_nat (n := c) (by omega)) rfl, Int.toNat_natCast, rngD_iota]
  obtain ⟨zs, ρ', e2, e3, e4, w', e5, e6⟩ := lcGo_state (h := hN 3) (fe := f2 pAdd (fC (.int 1)) (fCallU fn__law_take (faC (fN 0) (faC (fN 1) (faN))))) (vs := [3]) (fun j ρ => ∃ w', ρ = [.own true w', .val (.int n), .val (.int m), .un] ∧ Urn (k + 1 + j) w') (fun z => ∃ i, z = .int i ∧ 1 ≤ i ∧ i ≤ n) ((iotaI c).map .int) [] 0 ρ1 ⟨w1, rfl, U1⟩ 1000 (by simp [iotaI]; omega) (fun d j ρ hd hj hp => by
    obtain ⟨w2, rfl, U2⟩ := hp
    obtain ⟨x, w3, f1, x0, x1, U3⟩ := take_ok (n := n) U2 (by omega) h0 (by omega)
    let ρa : Ce := [.own true w2, .val (.int n), .val (.int m), .val d]
    have f2' : fCallU fn__law_take (faC (fN 0) (faC (fN 1) (faN))) ρa = some (.frz (.int x), [.own true w3, .val (.int n), .val (.int m), .val d]) := by
      have : faC (fN 0) (faC (fN 1) (faN)) ρa = some ([.own 0, .frz (.int n)], ρa) := faC_of (o := .own 0) rfl (faC_of (o := .frz (.int n)) rfl rfl)
      exact fCallU_of (b := true) this rfl rfl f1
    exact ⟨ρa, _, .int (1 + x), _, rfl, f2_of (ρ1 := ρa) rfl f2' rfl rfl (pAdd_ii 1 x), rfl, ⟨1 + x, rfl, by omega, by omega⟩, w3, rfl, U3⟩) (by simp [iotaI]; omega)
  obtain ⟨row, rfl, hrow⟩ := ints_of_all e4
  have hlen : row.length = c := by simpa [iotaI] using e3
  refine ⟨row, w', ?_, by omega, hrow, ?_⟩
  · have h4 : fLc (fRng (faC (fCallU fn__law_take (faC (fN 0) (faC (f2 pAdd (fN 2) (fC (.int 1))) (faN)))) (faN))) (hN 3) (fYes) (f2 pAdd (fC (.int 1)) (fCallU fn__law_take (faC (fN 0) (faC (fN 1) (faN))))) [3] ρ0 = some (.new (iL row), [.own true w', .val (.int n), .val (.int m), .un]) := by
      unfold fLc
      rw [hi, Option.bind_some]
      show (lcGo _ _ _ _ _ ρ1 []).bind _ = _
      rw [e2, e5]
      rfl
    unfold fn__law_list
    refine Eq.trans (fnU_at ρ0 rfl rfl) ?_
    unfold g__law_list
    rw [gRet_of h4]
    rfl
  · obtain ⟨a, b, c', f1, f2, f3⟩ := e6
    exact ⟨a, b, c', f1, f2, by simp [iotaI] at f3; omega⟩
end DL

namespace DL
open PySem PySem.Spec L2
local macro_rules
  | `(tactic| walk_at "dl_ev") => `(tactic| try simp only [Option.bind_some, gSeq, gSet, gOwn, gRet, gIf, gEx, gPut, gPutSet, gTupS, asg, fN, fC, fB, f2, faC, faCn, faN, fT, fNot, fAnd, fOr, fAndV, fOrV, fNotV, fIf, fCh, fLst, fTup, frzs, argO, derefs, deref, frD, fNeg, fM, fSl, fo0, fo1, fRev, gNil, osOf, fCall, fCallN, fCallU,
      List.getElem?_cons_succ, List.getElem?_cons_zero, List.set_cons_succ, List.set_cons_zero, cond_true, cond_false, endD, endN, endU, resD, pLen_l, pLen_t, pLt_ii, pLe_ii, pGt_ii, pGe_ii, pAdd_ii, pI_ii, pList_l, pList_t, pTuple_l, pTuple_t, Option.map_some, List.length_map, List.length_cons, List.length_nil, sz0, sz1, sz2, sz3, sz5, if_true])
theorem gIf_t {ft : FT} {g1 g2 : FS} {ρ ρ1 : Ce} (h : ft ρ = some (true, ρ1)) : gIf ft g1 g2 ρ = g1 ρ1 := gIf_of h
theorem gIf_f {ft : FT} {g1 g2 : FS} {ρ ρ1 : Ce} (h : ft ρ = some (false, ρ1)) : gIf ft g1 g2 ρ = g2 ρ1 := gIf_of h
/-! ### _law_same of a thing and itself -/
theorem depth_mem : ∀ {ds : List D} {d : D}, d ∈ ds → PyData.depth d ≤ PyData.depthAll ds
  | x :: ds, d, hd => by
    show _ ≤ max (PyData.depth x) (PyData.depthAll ds)
    rcases List.mem_cons.mp hd with e | hd
    · rw [e]; omega
    · have := depth_mem hd; omega
theorem zip_self : ∀ {ds : List D} {z : D}, z ∈ zipD ds ds → ∃ x ∈ ds, z = .tuple [x, x]
  | x :: ds, z, h => by
    have h' : z ∈ PyData.tuple [x, x] :: zipD ds ds := h
    rcases List.mem_cons.mp h' with e | h'
    · exact ⟨x, List.mem_cons_self, e⟩
    · obtain ⟨y, hy, e⟩ := zip_self h'
      exact ⟨y, List.mem_cons_of_mem _ hy, e⟩
theorem pAll_true (n : Nat) (ds : List D) (h : ds.length = n) : pAll [.list (ds.map fun _ => PyData.bool true)] = some (.frz (.bool true)) := by
  have : ds.map (fun _ => PyData.bool true) = (ds.map fun _ => true).map .bool := by rw [List.map_map]; rfl
  rw [this]
  show ((boolsD ((ds.map fun _ => true).map .bool)).map _) = _
  rw [boolsD_map]
  show some (Opd.frz (.bool ((ds.map fun _ => true).all id))) = _
  congr 3
  rw [List.all_eq_true]
  intro b hb
  obtain ⟨_, _, rfl⟩ := List.mem_map.mp hb
  rfl
theorem same_seq {r : Fn} {d : D} {ds : List D} (hd : d = .list ds ∨ d = .tuple ds) (hl : ds.length ≤ 1000) (hr : ∀ x ∈ ds, r [x, x] = some (.bool true)) : fnP 4 2 (g__law_same r) [d, d] = some (.bool true) := by
  let ρ0 : Ce := [.val d, .val d, .un, .un]
  refine Eq.trans (fnP_at ρ0 rfl rfl) ?_
  have hTT : fT (fIs (fun d => isD "list" d || isD "tuple" d) (fN 1)) ρ0 = some (true, ρ0) := by rcases hd with rfl | rfl <;> rfl
  have h1 : gIf (fOr (fT (f2 pNe (fIs (isD "list") (fN 0)) (fIs (isD "list") (fN 1)))) (fT (f2 pNe (fIs (isD "tuple") (fN 0)) (fIs (isD "tuple") (fN 1))))) (gRet (fC (.bool false))) (gNil) ρ0 = some (.nx ρ0) := by
    have : fOr (fT (f2 pNe (fIs (isD "list") (fN 0)) (fIs (isD "list") (fN 1)))) (fT (f2 pNe (fIs (isD "tuple") (fN 0)) (fIs (isD "tuple") (fN 1)))) ρ0 = some (false, ρ0) := by rcases hd with rfl | rfl <;> rfl
    rw [gIf_of this]; rfl
  have hlen : f2 pEq (fB pLen (faC (fN 0) (faN))) (fB pLen (faC (fN 1) (faN))) ρ0 = some (.frz (.bool true), ρ0) := by
    have e : ∀ n : Nat, pEq (.int n) (.int n) = some (.frz (.bool true)) := fun n => by rw [pEq_ii, decide_eq_true rfl]
    rcases hd with rfl | rfl
    · exact f2_of (ρ := ρ0) (ρ1 := ρ0) (ρ2 := ρ0) (fB_of (ρ1 := ρ0) (faC_of (o := .frz (.list ds)) rfl rfl) rfl (pLen_l ds)) (fB_of (ρ1 := ρ0) (faC_of (o := .frz (.list ds)) rfl rfl) rfl (pLen_l ds)) rfl rfl (e _)
    · exact f2_of (ρ := ρ0) (ρ1 := ρ0) (ρ2 := ρ0) (fB_of (ρ1 := ρ0) (faC_of (o := .frz (.tuple ds)) rfl rfl) rfl (pLen_t ds)) (fB_of (ρ1 := ρ0) (faC_of (o := .frz (.tuple ds)) rfl rfl) rfl (pLen_t ds)) rfl rfl (e _)
  have hz : fZip (faC (fN 0) (faC (fN 1) (faN))) ρ0 = some (zipD ds ds, none, ρ0) := by rcases hd with rfl | rfl <;> rfl
  have h2 : fLc (fZip (faC (fN 0) (faC (fN 1) (faN)))) (hT [2, 3]) (fYes) (fCall r (faC (fN 2) (faC (fN 3) (faN)))) [2, 3] ρ0 = some (.new (.list ((zipD ds ds).map fun _ => .bool true)), ρ0) := by
    rw [fLc_pure (ρ := ρ0) (fun _ => true) (fun _ => .bool true) hz rfl (fun z hz => ?_) (by rw [zipD_len]; exact size_ge (by omega)) rfl, List.filter_eq_self.mpr fun _ _ => rfl]
    obtain ⟨x, hx, rfl⟩ := zip_self hz
    let ρa : Ce := [.val d, .val d, .val x, .val x]
    have hc : fCall r (faC (fN 2) (faC (fN 3) (faN))) ρa = some (.frz (.bool true), ρa) := fCall_of (faC_of (o := .frz x) rfl (faC_of (o := .frz x) rfl rfl)) rfl (hr x hx)
    exact ⟨ρa, ρa, rfl, rfl, fun _ => ⟨_, ρa, hc, rfl, rfl⟩, fun z => nomatch z⟩
  have h3 : fAndV (f2 pEq (fB pLen (faC (fN 0) (faN))) (fB pLen (faC (fN 1) (faN)))) (fB pAll (faC (fLc (fZip (faC (fN 0) (faC (fN 1) (faN)))) (hT [2, 3]) (fYes) (fCall r (faC (fN 2) (faC (fN 3) (faN)))) [2, 3]) (faN))) ρ0 = some (.frz (.bool (true && true)), ρ0) :=
    fAndV_of hlen fun _ => fB_of (faC_of h2 rfl) rfl (pAll_true _ _ rfl)
  have h4 : gSeq (gIf (fOr (fT (f2 pNe (fIs (isD "list") (fN 0)) (fIs (isD "list") (fN 1)))) (fT (f2 pNe (fIs (isD "tuple") (fN 0)) (fIs (isD "tuple") (fN 1))))) (gRet (fC (.bool false))) (gNil)) (gRet (fAndV (f2 pEq (fB pLen (faC (fN 0) (faN))) (fB pLen (faC (fN 1) (faN)))) (fB pAll (faC (fLc (fZip (faC (fN 0) (faC (fN 1) (faN)))) (hT [2, 3]) (fYes) (fCall r (faC (fN 2) (faC (fN 3) (faN)))) [2, 3]) (faN))))) ρ0 = some (.rt (.frz (.bool true)) ρ0) := (gSeq_nx h1).trans (gRet_of h3)
  unfold g__law_same
  rw [gSeq_rt ((gIf_t hTT).trans h4)]
  rfl
theorem same_int {r : Fn} (i : Int) : fnP 4 2 (g__law_same r) [.int i, .int i] = some (.bool true) := by
  let ρ0 : Ce := [.val (.int i), .val (.int i), .un, .un]
  refine Eq.trans (fnP_at ρ0 rfl rfl) ?_
  have h1 : ∀ g : FS, gIf (fT (fIs (fun d => isD "list" d || isD "tuple" d) (fN 1))) g gNil ρ0 = some (.nx ρ0) := fun g => rfl
  have h2 : ∀ g : FS, gIf (fOr (fT (f2 pIsN (fN 1) (fC .none))) (fT (fIs (fun d => isD "bool" d || isD "str" d) (fN 1)))) g gNil ρ0 = some (.nx ρ0) := fun g => rfl
  unfold g__law_same
  rw [gSeq_nx (h1 _), gSeq_nx (h2 _)]
  have h3 : fAndV (fIs (isD "int") (fN 0)) (fAndV (fNotV (fIs (isD "bool") (fN 0))) (f2 pEq (fN 0) (fN 1))) ρ0 = some (.frz (.bool (true && (true && true))), ρ0) := by
    refine fAndV_of rfl fun _ => fAndV_of rfl fun _ => f2_of (ρ1 := ρ0) (ρ2 := ρ0) (x := .frz (.int i)) (y := .frz (.int i)) rfl rfl rfl rfl ?_
    rw [pEq_ii, decide_eq_true rfl]
  rw [gRet_of h3]
  rfl
/-- every list and tuple is short -/
inductive Short : D → Prop
  | int (i : Int) : Short (.int i)
  | lst (ds : List D) : ds.length ≤ 1000 → (∀ d ∈ ds, Short d) → Short (.list ds)
  | tup (ds : List D) : ds.length ≤ 1000 → (∀ d ∈ ds, Short d) → Short (.tuple ds)
theorem same_ok {d : D} (h : Short d) : ∀ k, PyData.depth d < k → fa__law_same k [d, d] = some (.bool true) := by
  induction h with
  | int i =>
    intro k hk
    obtain ⟨j, rfl⟩ : ∃ j, k = j + 1 := ⟨k - 1, by omega⟩
    exact same_int i
  | lst ds hl hs ih =>
    intro k hk
    obtain ⟨j, rfl⟩ : ∃ j, k = j + 1 := ⟨k - 1, by omega⟩
    refine same_seq (.inl rfl) hl fun x hx => ih x hx j ?_
    have h1 : PyData.depth (.list ds) = PyData.depthAll ds + 1 := rfl
    have := depth_mem hx
    omega
  | tup ds hl hs ih =>
    intro k hk
    obtain ⟨j, rfl⟩ : ∃ j, k = j + 1 := ⟨k - 1, by omega⟩
    refine same_seq (.inr rfl) hl fun x hx => ih x hx j ?_
    have h1 : PyData.depth (.tuple ds) = PyData.depthAll ds + 1 := rfl
    have := depth_mem hx
    omega
end DL

namespace DL
open PySem PySem.Spec L2
local macro_rules
  | `(tactic| walk_at "dl_ev") => `(tactic| try simp only [Option.bind_some, gSeq, gSet, gOwn, gRet, gIf, gEx, gPut, gPutSet, gTupS, asg, fN, fC, fB, f2, faC, faCn, faN, fT, fNot, fAnd, fOr, fAndV, fOrV, fNotV, fIf, fCh, fLst, fTup, frzs, argO, derefs, deref, frD, fNeg, fM, fSl, fo0, fo1, fRev, gNil, osOf, fCall, fCallN, fCallU,
      List.getElem?_cons_succ, List.getElem?_cons_zero, List.set_cons_succ, List.set_cons_zero, cond_true, cond_false, endD, endN, endU, resD, pLen_l, pLen_t, pLt_ii, pLe_ii, pGt_ii, pGe_ii, pAdd_ii, pI_ii, pList_l, pList_t, pTuple_l, pTuple_t, Option.map_some, List.length_map, List.length_cons, List.length_nil, sz0, sz1, sz2, sz3, sz5, if_true])
/-! ### result -/
def bestI (cs : List (List Int)) (room : List Int) (r : Int) : Int := maxI ((0 :: room.filter fun x => decide (x ≤ r)).map fun b => (((room.filter fun x => decide (x ≤ b)).length : Nat) : Int) + (meetI cs (b + 1) r : Nat))
def resStep (cs : List (List Int)) (room : List Int) (fo : List Int) (r : Int) : List Int := if (fo.length : Int) < bestI cs room r then fo ++ [r] else fo
def resultI (cs : List (List Int)) (room : List Int) : List Int := (setI (ranksI cs ++ room)).foldl (resStep cs room) []
theorem resStep_len (cs : List (List Int)) (room : List Int) (l : List Int) : ∀ fo : List Int, (l.foldl (resStep cs room) fo).length ≤ fo.length + l.length := by
  induction l with
  | nil => intro fo; exact Nat.le_refl _
  | cons r l ih =>
    intro fo
    have h1 := ih (resStep cs room fo r)
    have h2 : (resStep cs room fo r).length ≤ fo.length + 1 := by
      unfold resStep; split
      · simp
      · omega
    simp only [List.foldl_cons, List.length_cons]; omega
theorem pMax_iL {ns : List Int} (h : ns ≠ []) : pMax [iL ns] = some (.frz (.int (maxI ns))) := by
  show ((intsD (ns.map .int)).bind fun ns => if ns = [] then none else some (Opd.frz (.int (maxI ns)))) = _
  rw [intsD_map, Option.bind_some, if_neg h]
theorem fn_result_eq {cs : List (List Int)} {room : List Int} (hf : cs.flatten.length + room.length < 63) (hl : cs.length ≤ 1000) (hb : ∀ c ∈ cs, c.length ≤ 1000) : fn_result [chT cs, iT room] = some (iT (resultI cs room)) := by
  unfold fn_result
  refine Eq.trans (fnP_at [.val (chT cs), .val (iT room), .un, .un, .un, .un] rfl rfl) ?_
  let ρ0 : Ce := [.val (chT cs), .val (iT room), .un, .un, .un, .un]
  let S : List Int := setI (ranksI cs ++ room)
  let st : List Int → Cell → Cell → Ce := fun l c d => [.val (chT cs), .val (iT room), .own false (iL (l.foldl (resStep cs room) [])), c, d, .un]
  have hrl : (ranksI cs).length = cs.flatten.length := sortI_len _
  have hi : fSeq (fB pSortU (faC (fDc (fSeq (f2 pAdd (fCall fn_ranks_in (faC (fN 0) (faN))) (fB pList (faC (fN 1) (faN))))) (hN 3) (fYes) (fN 3) (fC (.bool true)) [3]) (faN))) (st [] .un .un) = some (S.map .int, none, st [] .un .un) := by
    have h1 : fCall fn_ranks_in (faC (fN 0) (faN)) (st [] .un .un) = some (.frz (iL (ranksI cs)), st [] .un .un) := fCall_of (faC_of (o := .frz (chT cs)) rfl rfl) rfl (fn_ranks_eq (by omega))
    have h2 : f2 pAdd (fCall fn_ranks_in (faC (fN 0) (faN))) (fB pList (faC (fN 1) (faN))) (st [] .un .un) = some (.new (iL (ranksI cs ++ room)), st [] .un .un) :=
      f2_of h1 (fB_of (ρ := st [] .un .un) (ρ1 := st [] .un .un) (faC_of (o := .frz (iT room)) rfl rfl) rfl (pList_t _)) rfl rfl (pAdd_ll _ _ (by omega))
    obtain ⟨es, h3, h4⟩ := fDc_ints (h := hN 3) (ft := fYes) (fk := fN 3) (fe := fC (.bool true)) (vs := [3]) (ns := ranksI cs ++ room) (ρ1 := st [] .un .un) (st [] .un .un) (fun _ => true) (fun _ => .bool true) (fSeq_l h2 rfl) rfl (fun i hi => ⟨_, _, rfl, rfl, fun _ => ⟨_, _, _, rfl, rfl, rfl, rfl⟩, fun z => nomatch z⟩) (by rw [List.length_append]; omega) rfl
    rw [List.filter_eq_self.mpr fun _ _ => rfl] at h4
    exact fSeq_l (fB_of (faC_of h3 rfl) rfl (pSortU_dict h4 (by rw [List.length_append]; omega))) rfl
  have hS : S.length ≤ 63 := by
    have := dedupI_len (sortI (ranksI cs ++ room))
    rw [sortI_len, List.length_append] at this
    show (dedupI (sortI (ranksI cs ++ room))).length ≤ _
    omega
  obtain ⟨ρ', e1, c, d, e2⟩ := goFor_ints (h := hN 3) (g := gSeq (gSet 4 (f2 pAdd (fLst (faC (fC (.int 0)) (faN))) (fLc (fSeq (fN 1)) (hN 5) (fT (f2 pLe (fN 5) (fN 3))) (fN 5) [5]))) (gIf (fT (f2 pGt (fB pMax (faC (fLc (fSeq (fN 4)) (hN 5) (fYes) (f2 pAdd (fCall fn_people_up_to (faC (fN 1) (faC (fN 5) (faN)))) (fCall fn_meeting (faC (fN 0) (faC (f2 pAdd (fN 5) (fC (.int 1))) (faC (fN 3) (faN)))))) [5]) (faN))) (fB pLen (faC (fN 2) (faN))))) (gEx (fM "list" mApp (fN 2) (faC (fN 3) (faN)))) (gNil)))
    (fun pre ρ => ∃ c d, ρ = st pre c d) S (st [] .un .un) ⟨_, _, rfl⟩ (fun pre r post ρ e hp => by
      obtain ⟨c3, c4, rfl⟩ := hp
      have hpl : pre.length ≤ 63 := by
        have := congrArg List.length e
        simp only [List.length_append, List.length_cons] at this
        omega
      have hfo := resStep_len cs room pre []
      simp only [List.length_nil, Nat.zero_add] at hfo
      let fo := pre.foldl (resStep cs room) []
      let bs : List Int := 0 :: room.filter fun x => decide (x ≤ r)
      let ρa : Ce := [.val (chT cs), .val (iT room), .own false (iL fo), .val (.int r), c4, .un]
      let ρb : Ce := [.val (chT cs), .val (iT room), .own false (iL fo), .val (.int r), .val (iL bs), .un]
      have h1 : fLc (fSeq (fN 1)) (hN 5) (fT (f2 pLe (fN 5) (fN 3))) (fN 5) [5] ρa = some (.new (iL (room.filter fun x => decide (x ≤ r))), ρa) :=
        fLc_ints (ns := room) (ρ1 := ρa) ρa (fun x => decide (x ≤ r)) .int rfl rfl (fun i hi => ⟨_, ρa.set 5 (.val (.int i)), rfl, fT_of (f2_of (ρ1 := ρa.set 5 (.val (.int i))) (x := .frz (.int i)) (y := .frz (.int r)) rfl rfl rfl rfl (pLe_ii _ _)), fun _ => ⟨_, _, rfl, rfl, rfl⟩, fun _ => rfl⟩) (by omega) rfl
      have hbl : (room.filter fun x => decide (x ≤ r)).length ≤ room.length := List.length_filter_le _ _
      have ea : pAdd (.list [.int 0]) (iL (room.filter fun x => decide (x ≤ r))) = some (.new (iL bs)) := pAdd_ll [0] _ (by simp; omega)
      have h2 : f2 pAdd (fLst (faC (fC (.int 0)) (faN))) (fLc (fSeq (fN 1)) (hN 5) (fT (f2 pLe (fN 5) (fN 3))) (fN 5) [5]) ρa = some (.new (iL bs), ρa) := f2_of (ρ1 := ρa) (fLst_of (ρ := ρa) (ρ1 := ρa) (faC_of (o := .frz (.int 0)) rfl rfl) rfl (by simp)) h1 rfl rfl ea
      have h3 : fLc (fSeq (fN 4)) (hN 5) (fYes) (f2 pAdd (fCall fn_people_up_to (faC (fN 1) (faC (fN 5) (faN)))) (fCall fn_meeting (faC (fN 0) (faC (f2 pAdd (fN 5) (fC (.int 1))) (faC (fN 3) (faN)))))) [5] ρb = some (.new (iL (bs.map fun b => (((room.filter fun x => decide (x ≤ b)).length : Nat) : Int) + (meetI cs (b + 1) r : Nat))), ρb) := by
        rw [fLc_ints (ns := bs) (ρ1 := ρb) ρb (fun _ => true) (fun b => .int ((((room.filter fun x => decide (x ≤ b)).length : Nat) : Int) + (meetI cs (b + 1) r : Nat))) rfl rfl (fun b hb' => ⟨_, ρb.set 5 (.val (.int b)), rfl, rfl, fun _ => ?_, fun z => nomatch z⟩) (by show (0 :: room.filter _).length ≤ _; simp; omega) rfl, List.filter_eq_self.mpr fun _ _ => rfl]
        · simp only [iL, List.map_map]; rfl
        · let ρc : Ce := ρb.set 5 (.val (.int b))
          have p1 : fCall fn_people_up_to (faC (fN 1) (faC (fN 5) (faN))) ρc = some (.frz (.int ((room.filter fun x => decide (x ≤ b)).length : Nat)), ρc) := fCall_of (faC_of (o := .frz (iT room)) rfl (faC_of (o := .frz (.int b)) rfl rfl)) rfl (fn_people (by omega))
          have p2 : f2 pAdd (fN 5) (fC (.int 1)) ρc = some (.frz (.int (b + 1)), ρc) := f2_of (ρ1 := ρc) (ρ2 := ρc) (x := .frz (.int b)) (y := .frz (.int 1)) rfl rfl rfl rfl (pAdd_ii _ _)
          have p3 : fCall fn_meeting (faC (fN 0) (faC (f2 pAdd (fN 5) (fC (.int 1))) (faC (fN 3) (faN)))) ρc = some (.frz (.int (meetI cs (b + 1) r : Nat)), ρc) := fCall_of (faC_of (o := .frz (chT cs)) (ρ1 := ρc) rfl (faC_of p2 (faC_of (o := .frz (.int r)) (ρ1 := ρc) rfl rfl))) rfl (fn_meeting_eq hl hb)
          exact ⟨_, ρc, f2_of p1 p3 rfl rfl (pAdd_ii _ _), rfl, rfl⟩
      have h4 : fB pMax (faC (fLc (fSeq (fN 4)) (hN 5) (fYes) (f2 pAdd (fCall fn_people_up_to (faC (fN 1) (faC (fN 5) (faN)))) (fCall fn_meeting (faC (fN 0) (faC (f2 pAdd (fN 5) (fC (.int 1))) (faC (fN 3) (faN)))))) [5]) (faN)) ρb = some (.frz (.int (bestI cs room r)), ρb) := fB_of (faC_of h3 rfl) rfl (pMax_iL (by simp [bs]))
      have h5 : fB pLen (faC (fN 2) (faN)) ρb = some (.frz (.int fo.length), ρb) := by
        have := fB_of (ρ := ρb) (ρ1 := ρb) (fa := faC (fN 2) faN) (faC_of (o := .own 2) rfl rfl) rfl (pLen_l (fo.map .int))
        rwa [List.length_map] at this
      have h6 : fT (f2 pGt (fB pMax (faC (fLc (fSeq (fN 4)) (hN 5) (fYes) (f2 pAdd (fCall fn_people_up_to (faC (fN 1) (faC (fN 5) (faN)))) (fCall fn_meeting (faC (fN 0) (faC (f2 pAdd (fN 5) (fC (.int 1))) (faC (fN 3) (faN)))))) [5]) (faN))) (fB pLen (faC (fN 2) (faN)))) ρb = some (decide ((fo.length : Int) < bestI cs room r), ρb) := fT_of (f2_of h4 h5 rfl rfl (pGt_ii _ _))
      refine ⟨ρa, st (pre ++ [r]) (.val (.int r)) (.val (iL bs)), rfl, .inl ((gSeq_nx (gSet_of (i := 4) h2 rfl)).trans ?_), _, _, rfl⟩
      have es : (pre ++ [r]).foldl (resStep cs room) [] = resStep cs room fo r := by rw [List.foldl_append]; rfl
      show gIf _ _ _ ρb = some (Rs.nx ([_, _, .own false (iL ((pre ++ [r]).foldl (resStep cs room) [])), _, _, _] : Ce))
      rw [es]
      unfold resStep
      by_cases hc : (fo.length : Int) < bestI cs room r
      · rw [decide_eq_true hc] at h6
        rw [gIf_t h6, if_pos hc]
        have h7 := gEx_of (fM_app (ρ := ρb) (i := 2) (b := false) (fe := fN 2) (ds := fo.map .int) (d := .int r) (fa := faC (fN 3) faN) rfl rfl rfl (by rw [List.length_map]; show (pre.foldl (resStep cs room) []).length ≤ _; omega))
        rw [h7]
        simp only [iL, List.map_append]
        rfl
      · rw [decide_eq_false hc] at h6
        rw [gIf_f h6, if_neg hc]
        rfl)
  unfold g_result
  show ((gSeq _ _ ρ0).bind endD) = _
  rw [gSeq_nx (ρ1 := st [] .un .un) rfl, gSeq_nx ((gFor_of hi).trans e1), e2]
  rfl
theorem fn_rmany_eq {v room : List Int} {cs es : List (List Int)} {C : Nat → List (List Int)} {n m : Nat} (hv : v.length < 60) (h : chainsL (linksOf v) = some cs) (R : Reps cs C n) (hn : n ≤ 900) (hf : (C (min m n)).flatten.length + room.length < 63) (hl : (C (min m n)).length ≤ 1000) (hb : ∀ c ∈ C (min m n), c.length ≤ 1000) :
    fn_room_after_many [iT room, iL v, .int m] = some (iT (resultI (C (min m n)) room)) := by
  unfold fn_room_after_many
  let ρ0 : Ce := [.val (iT room), .val (iL v), .val (.int m)]
  refine Eq.trans (fnP_at ρ0 rfl rfl) ?_
  have h1 : fCall fn_chains_of (faC (fN 1) (faN)) ρ0 = some (.frz (chT cs), ρ0) := fCall_of (faC_of (o := .frz (iL v)) rfl rfl) rfl (fn_chains_eq hv h)
  have h2 : fCall fn_repeated (faC (fCall fn_chains_of (faC (fN 1) (faN))) (faC (fN 2) (faN))) ρ0 = some (.frz (chT (C (min m n))), ρ0) := fCall_of (faC_of h1 (faC_of (o := .frz (.int m)) (ρ1 := ρ0) rfl rfl)) rfl (fn_repeated_eq R hn)
  have h3 : g_room_after_many ρ0 = some (.rt (.frz (iT (resultI (C (min m n)) room))) ρ0) := gRet_of (fCall_of (faC_of h2 (faC_of (o := .frz (iT room)) (ρ1 := ρ0) rfl rfl)) rfl (fn_result_eq hf hl hb))
  rw [h3]; rfl
theorem fn_dosame_eq {v w : List Int} {cs ds : List (List Int)} (hv : v.length < 60) (hw : w.length < 60) (h1 : chainsL (linksOf v) = some cs) (h2 : chainsL (linksOf w) = some ds) : fn_do_same [iL v, iL w] = some (.bool (decide (cs = ds))) := by
  unfold fn_do_same
  let ρ0 : Ce := [.val (iL v), .val (iL w)]
  refine Eq.trans (fnP_at ρ0 rfl rfl) ?_
  have e1 : fCall fn_chains_of (faC (fN 0) (faN)) ρ0 = some (.frz (chT cs), ρ0) := fCall_of (faC_of (o := .frz (iL v)) rfl rfl) rfl (fn_chains_eq hv h1)
  have e2 : fCall fn_chains_of (faC (fN 1) (faN)) ρ0 = some (.frz (chT ds), ρ0) := fCall_of (faC_of (o := .frz (iL w)) rfl rfl) rfl (fn_chains_eq hw h2)
  have h3 : g_do_same ρ0 = some (.rt (.frz (.bool (decide (cs = ds)))) ρ0) := gRet_of (f2_of e1 e2 rfl rfl (pEq_chT _ _))
  rw [h3]; rfl
end DL

namespace DL
open PySem PySem.Spec L2
local macro_rules
  | `(tactic| walk_at "dl_ev") => `(tactic| try simp only [Option.bind_some, gSeq, gSet, gOwn, gRet, gIf, gEx, gPut, gPutSet, gTupS, asg, fN, fC, fB, f2, faC, faCn, faN, fT, fNot, fAnd, fOr, fAndV, fOrV, fNotV, fIf, fCh, fLst, fTup, frzs, argO, derefs, deref, frD, fNeg, fM, fSl, fo0, fo1, fRev, gNil, osOf, fCall, fCallN, fCallU,
      List.getElem?_cons_succ, List.getElem?_cons_zero, List.set_cons_succ, List.set_cons_zero, cond_true, cond_false, endD, endN, endU, resD, pLen_l, pLen_t, pLt_ii, pLe_ii, pGt_ii, pGe_ii, pAdd_ii, pI_ii, pList_l, pList_t, pTuple_l, pTuple_t, Option.map_some, List.length_map, List.length_cons, List.length_nil, sz0, sz1, sz2, sz3, sz5, if_true])
theorem fLc_pureO {fi : FI} {h : HT} {ft : FT} {fe : FE} {vs : List Nat} {ρ0 ρ1 ρ : Ce} {ds : List D} {os : Option Nat} (t : D → Bool) (f : D → D) (hi : fi ρ0 = some (ds, os, ρ1)) (hw : wipeC ρ1 (vs ++ hsO os) = ρ)
    (H : ∀ d ∈ ds, ∃ ρ1 ρ2, h d ρ = some ρ1 ∧ ft ρ1 = some (t d, ρ2) ∧ (t d = true → ∃ o ρ3, fe ρ2 = some (o, ρ3) ∧ frD o = some (f d) ∧ wipeC ρ3 vs = ρ) ∧ (t d = false → wipeC ρ2 vs = ρ)) (hl : ds.length ≤ sizeLine) (hr : restC ρ1 (vs ++ hsO os) ρ = ρ1) :
    fLc fi h ft fe vs ρ0 = some (.new (.list ((ds.filter t).map f)), ρ1) := by
  unfold fLc
  rw [hi, Option.bind_some]
  simp only [hw]
  rw [lcGo_pure t f ds [] H (by simpa using hl), Option.bind_some, List.nil_append, hr]
/-- pairs of ints -/
def tP (p : Int × Int → Bool) : D → Bool
  | .tuple [.int a, .int b] => p (a, b)
  | _ => false
def fPr (f : Int × Int → D) : D → D
  | .tuple [.int a, .int b] => f (a, b)
  | _ => .none
theorem filter_pairs (p : Int × Int → Bool) : ∀ B : List (Int × Int), (B.map pairD).filter (tP p) = (B.filter p).map pairD
  | [] => rfl
  | b :: B => by
    rw [List.map_cons, List.filter_cons, List.filter_cons, filter_pairs p B]
    have : tP p (pairD b) = p b := rfl
    rw [this]
    cases p b <;> rfl
theorem map_pairs (f : Int × Int → D) : ∀ B : List (Int × Int), (B.map pairD).map (fPr f) = B.map f
  | [] => rfl
  | b :: B => by rw [List.map_cons, List.map_cons, map_pairs f B]; rfl
theorem fLc_pairs {fi : FI} {h : HT} {ft : FT} {fe : FE} {vs : List Nat} {ρ0 ρ1 : Ce} {B : List (Int × Int)} {os : Option Nat} (ρ : Ce) (p : Int × Int → Bool) (f : Int × Int → D) (hi : fi ρ0 = some (B.map pairD, os, ρ1)) (hw : wipeC ρ1 (vs ++ hsO os) = ρ)
    (H : ∀ b ∈ B, ∃ ρ1 ρ2, h (pairD b) ρ = some ρ1 ∧ ft ρ1 = some (p b, ρ2) ∧ (p b = true → ∃ o ρ3, fe ρ2 = some (o, ρ3) ∧ frD o = some (f b) ∧ wipeC ρ3 vs = ρ) ∧ (p b = false → wipeC ρ2 vs = ρ)) (hl : B.length ≤ 100000) (hr : restC ρ1 (vs ++ hsO os) ρ = ρ1) :
    fLc fi h ft fe vs ρ0 = some (.new (.list ((B.filter p).map f)), ρ1) := by
  rw [fLc_pureO (tP p) (fPr f) hi hw (fun d hd => ?_) (by simpa using size_ge hl) hr]
  · rw [filter_pairs, map_pairs]
  · obtain ⟨b, hb, rfl⟩ := List.mem_map.mp hd
    exact H b hb
def riseStep (lo hi : Int) (B : List (Int × Int)) (r : Int) : List (Int × Int) := if inR lo hi r = true then B ++ [(r, 1 + maxI (0 :: (B.filter fun p => decide (p.1 < r)).map (·.2)))] else B
def riseE (lo hi : Int) (v : List Int) : List (Int × Int) := v.foldl (riseStep lo hi) []
def riseI (lo hi : Int) (v : List Int) : Int := maxI (0 :: (riseE lo hi v).map (·.2))
theorem riseE_snoc (lo hi : Int) (v : List Int) (r : Int) : riseE lo hi (v ++ [r]) = riseStep lo hi (riseE lo hi v) r := by unfold riseE; rw [List.foldl_append]; rfl
theorem riseE_len (lo hi : Int) (v : List Int) : (riseE lo hi v).length ≤ v.length := by
  have : ∀ (v : List Int) (B : List (Int × Int)), (v.foldl (riseStep lo hi) B).length ≤ B.length + v.length := by
    intro v
    induction v with
    | nil => intro B; exact Nat.le_refl _
    | cons r v ih =>
      intro B
      have h1 := ih (riseStep lo hi B r)
      have h2 : (riseStep lo hi B r).length ≤ B.length + 1 := by
        unfold riseStep; split
        · simp
        · omega
      simp only [List.foldl_cons, List.length_cons]; omega
  have := this v []
  simpa [riseE] using this
theorem fn_rise_eq {v : List Int} {lo hi : Int} (hl : v.length ≤ 1000) : fn__law_rise [iL v, .int lo, .int hi] = some (.int (riseI lo hi v)) := by
  unfold fn__law_rise
  let ρ0 : Ce := [.val (iL v), .val (.int lo), .val (.int hi), .un, .un, .un, .un]
  refine Eq.trans (fnP_at ρ0 rfl rfl) ?_
  let st : List Int → Cell → Ce := fun l c => [.val (iL v), .val (.int lo), .val (.int hi), .own false (.list ((riseE lo hi l).map pairD)), c, .un, .un]
  obtain ⟨ρ', e1, c, e2⟩ := goFor_ints (h := hN 4) (g := gIf (fT (fCh pLe pLe (fN 1) (fN 4) (fN 2))) (gEx (fM "list" mApp (fN 3) (faC (fTup (faC (fN 4) (faC (f2 pAdd (fC (.int 1)) (fB pMax (faC (f2 pAdd (fLst (faC (fC (.int 0)) (faN))) (fLc (fSeq (fN 3)) (hT [5, 6]) (fT (f2 pLt (fN 5) (fN 4))) (fN 6) [5, 6])) (faN)))) (faN)))) (faN)))) (gNil))
    (fun pre ρ => ∃ c, ρ = st pre c) v (st [] .un) ⟨_, rfl⟩ (fun pre r post ρ e hp => by
      obtain ⟨c, rfl⟩ := hp
      have hpl : pre.length ≤ 1000 := by
        have := congrArg List.length e
        simp only [List.length_append, List.length_cons] at this
        omega
      have hB := riseE_len lo hi pre
      let B := riseE lo hi pre
      let ρa : Ce := [.val (iL v), .val (.int lo), .val (.int hi), .own false (.list (B.map pairD)), .val (.int r), .un, .un]
      let ρh : Ce := [.val (iL v), .val (.int lo), .val (.int hi), .un, .val (.int r), .un, .un]
      have hTT : fT (fCh pLe pLe (fN 1) (fN 4) (fN 2)) ρa = some (inR lo hi r, ρa) := fT_of (fCh_le (a := lo) (b := r) (c := hi) rfl rfl rfl)
      let sz := (B.filter fun p => decide (p.1 < r)).map (·.2)
      have hsz : sz.length ≤ 1000 := by
        show (List.map _ _).length ≤ _
        rw [List.length_map]
        exact Nat.le_trans (List.length_filter_le _ _) (by show (riseE lo hi pre).length ≤ _; omega)
      have h1 : fLc (fSeq (fN 3)) (DL.hT [5, 6]) (fT (f2 pLt (fN 5) (fN 4))) (fN 6) [5, 6] ρa = some (.new (iL sz), ρa) := by
        rw [fLc_pairs (B := B) (os := some 3) (ρ1 := ρa) ρh (fun p => decide (p.1 < r)) (fun p => .int p.2) rfl rfl (fun b hb => ⟨_, ((ρh.set 5 (.val (.int b.1))).set 6 (.val (.int b.2))), rfl, ft_lt rfl rfl, fun _ => ⟨_, _, rfl, rfl, rfl⟩, fun _ => rfl⟩) (by show (riseE lo hi pre).length ≤ _; omega) rfl]
        simp only [iL, sz, List.map_map]; rfl
      have ea : pAdd (.list [.int 0]) (iL sz) = some (.new (iL (0 :: sz))) := pAdd_ll [0] sz (by simp; omega)
      have h2 : fB pMax (faC (f2 pAdd (fLst (faC (fC (.int 0)) (faN))) (fLc (fSeq (fN 3)) (DL.hT [5, 6]) (fT (f2 pLt (fN 5) (fN 4))) (fN 6) [5, 6])) (faN)) ρa = some (.frz (.int (maxI (0 :: sz))), ρa) :=
        fB_of (faC_of (f2_of (ρ1 := ρa) (fLst_of (ρ := ρa) (ρ1 := ρa) (faC_of (o := .frz (.int 0)) rfl rfl) rfl (by simp)) h1 rfl rfl ea) rfl) rfl (pMax_iL (by simp))
      have h3 : f2 pAdd (fC (.int 1)) (fB pMax (faC (f2 pAdd (fLst (faC (fC (.int 0)) (faN))) (fLc (fSeq (fN 3)) (DL.hT [5, 6]) (fT (f2 pLt (fN 5) (fN 4))) (fN 6) [5, 6])) (faN))) ρa = some (.frz (.int (1 + maxI (0 :: sz))), ρa) := f2_of (ρ1 := ρa) (x := .frz (.int 1)) rfl h2 rfl rfl (pAdd_ii _ _)
      have h4 : fTup (faC (fN 4) (faC (f2 pAdd (fC (.int 1)) (fB pMax (faC (f2 pAdd (fLst (faC (fC (.int 0)) (faN))) (fLc (fSeq (fN 3)) (DL.hT [5, 6]) (fT (f2 pLt (fN 5) (fN 4))) (fN 6) [5, 6])) (faN)))) (faN))) ρa = some (.frz (pairD (r, 1 + maxI (0 :: sz))), ρa) :=
        fTup_of (faC_of (o := .frz (.int r)) (ρ1 := ρa) rfl (faC_of h3 rfl)) rfl (by simp)
      refine ⟨ρa, st (pre ++ [r]) (.val (.int r)), rfl, .inl ?_, _, rfl⟩
      show _ = some (Rs.nx ([_, _, _, .own false (.list ((riseE lo hi (pre ++ [r])).map pairD)), _, _, _] : Ce))
      rw [riseE_snoc]
      unfold riseStep
      cases hin : inR lo hi r with
      | false =>
        rw [hin] at hTT
        rw [gIf_f hTT, if_neg (by decide)]; rfl
      | true =>
        rw [hin] at hTT
        have h5 := gEx_of (fM_app (ρ := ρa) (i := 3) (b := false) (fe := fN 3) (ds := B.map pairD) (d := pairD (r, 1 + maxI (0 :: sz))) rfl rfl (faC_of (fa := faN) h4 rfl) (by rw [List.length_map]; show (riseE lo hi pre).length ≤ _; omega))
        rw [gIf_t hTT, if_pos rfl, h5]
        simp only [List.map_append]
        rfl)
  have hB := riseE_len lo hi v
  let ρz := st v c
  let ρh : Ce := [.val (iL v), .val (.int lo), .val (.int hi), .un, c, .un, .un]
  have h1 : fLc (fSeq (fN 3)) (DL.hT [5, 6]) (fYes) (fN 6) [5, 6] ρz = some (.new (iL ((riseE lo hi v).map (·.2))), ρz) := by
    rw [fLc_pairs (B := riseE lo hi v) (os := some 3) (ρ1 := ρz) ρh (fun _ => true) (fun p => .int p.2) rfl rfl (fun b hb => ⟨_, ((ρh.set 5 (.val (.int b.1))).set 6 (.val (.int b.2))), rfl, rfl, fun _ => ⟨_, _, rfl, rfl, rfl⟩, fun _ => rfl⟩) (by omega) rfl, List.filter_eq_self.mpr fun _ _ => rfl]
    simp only [iL, List.map_map]; rfl
  have ea : pAdd (.list [.int 0]) (iL ((riseE lo hi v).map (·.2))) = some (.new (iL (0 :: (riseE lo hi v).map (·.2)))) := pAdd_ll [0] _ (by simp; omega)
  have h2 : fB pMax (faC (f2 pAdd (fLst (faC (fC (.int 0)) (faN))) (fLc (fSeq (fN 3)) (DL.hT [5, 6]) (fYes) (fN 6) [5, 6])) (faN)) ρz = some (.frz (.int (riseI lo hi v)), ρz) :=
    fB_of (faC_of (f2_of (ρ1 := ρz) (fLst_of (ρ := ρz) (ρ1 := ρz) (faC_of (o := .frz (.int 0)) rfl rfl) rfl (by simp)) h1 rfl rfl ea) rfl) rfl (pMax_iL (by simp))
  unfold g__law_rise
  rw [gSeq_nx (ρ1 := st [] .un) rfl, gSeq_nx ((gFor_of (ρ1 := st [] .un) (ds := v.map .int) rfl).trans e1), e2, gRet_of h2]
  rfl
end DL

namespace DL
open PySem
/-! ### patience: the tops -/
def insT : List Int → Int → List Int
  | [], r => [r]
  | t :: T, r => if r ≤ t then r :: T else t :: insT T r
/-- how many tops are below r -/
def below (T : List Int) (r : Int) : Nat := (T.filter fun t => decide (t < r)).length
def Asc (T : List Int) : Prop := T.Pairwise (· < ·)
theorem insT_mem : ∀ {T : List Int} {r x : Int}, x ∈ insT T r → x = r ∨ x ∈ T
  | [], r, x, h => by
    have : x = r := by simpa [insT] using h
    exact .inl this
  | t :: T, r, x, h => by
    unfold insT at h
    split at h
    · rcases List.mem_cons.mp h with e | h
      · exact .inl e
      · exact .inr (List.mem_cons_of_mem _ h)
    · rcases List.mem_cons.mp h with e | h
      · exact .inr (by rw [e]; exact List.mem_cons_self)
      · exact (insT_mem h).imp id (List.mem_cons_of_mem _)
theorem insT_asc : ∀ {T : List Int} (r : Int), Asc T → Asc (insT T r)
  | [], r, _ => List.pairwise_singleton _ _
  | t :: T, r, h => by
    obtain ⟨h1, h2⟩ := List.pairwise_cons.mp h
    unfold insT
    split
    · rename_i hr
      exact List.pairwise_cons.mpr ⟨fun y hy => by have := h1 y hy; omega, h2⟩
    · rename_i hr
      refine List.pairwise_cons.mpr ⟨fun y hy => ?_, insT_asc r h2⟩
      rcases insT_mem hy with e | hy
      · omega
      · exact h1 y hy
theorem below_cons (t : Int) (T : List Int) (r : Int) : below (t :: T) r = (if t < r then 1 else 0) + below T r := by
  unfold below
  rw [List.filter_cons]
  by_cases h : t < r
  · rw [if_pos h, if_pos (decide_eq_true h), List.length_cons]; omega
  · rw [if_neg h, if_neg (by simpa using h)]; omega
theorem below_zero {T : List Int} {r t : Int} (h : Asc (t :: T)) (hr : r ≤ t) : below (t :: T) r = 0 := by
  unfold below
  rw [List.length_eq_zero_iff, List.filter_eq_nil_iff]
  intro x hx
  rcases List.mem_cons.mp hx with e | hx
  · simp; omega
  · have := (List.pairwise_cons.mp h).1 x hx
    simp; omega
/-- the new top stands behind those below it -/
theorem insT_get : ∀ {T : List Int} (r : Int), Asc T → (insT T r)[below T r]? = some r ∧ (∀ j : Nat, j ≠ below T r → j < T.length → (insT T r)[j]? = T[j]?) ∧ (insT T r).length = max T.length (below T r + 1) ∧ below T r ≤ T.length
  | [], r, _ => ⟨rfl, fun j _ hj => by simp at hj, rfl, Nat.le_refl _⟩
  | t :: T, r, h => by
    obtain ⟨h1, h2⟩ := List.pairwise_cons.mp h
    unfold insT
    by_cases hr : r ≤ t
    · rw [if_pos hr, below_zero h hr]
      refine ⟨rfl, fun j hj _ => ?_, by simp, Nat.zero_le _⟩
      cases j with
      | zero => exact (hj rfl).elim
      | succ j => rfl
    · rw [if_neg hr, below_cons, if_pos (by omega)]
      obtain ⟨e1, e2, e3, e4⟩ := insT_get r h2
      rw [Nat.add_comm 1]
      refine ⟨by rw [List.getElem?_cons_succ]; exact e1, fun j hj hl => ?_, by rw [List.length_cons, e3, List.length_cons]; omega, by rw [List.length_cons]; omega⟩
      cases j with
      | zero => rfl
      | succ j =>
        rw [List.getElem?_cons_succ, List.getElem?_cons_succ]
        exact e2 j (by omega) (by simpa using hl)
theorem below_lt : ∀ {T : List Int} {r : Int} {j : Nat} {t : Int}, Asc T → T[j]? = some t → (t < r ↔ j < below T r)
  | [], r, j, t, _, h => by simp at h
  | x :: T, r, j, t, hA, h => by
    obtain ⟨h1, h2⟩ := List.pairwise_cons.mp hA
    by_cases hr : r ≤ x
    · rw [below_zero hA hr]
      constructor
      · intro ht
        exfalso
        have : t ∈ x :: T := List.mem_of_getElem? h
        rcases List.mem_cons.mp this with e | hm
        · omega
        · have := h1 t hm; omega
      · intro hj; omega
    · rw [below_cons, if_pos (by omega)]
      cases j with
      | zero =>
        have : x = t := by simpa using h
        subst this
        constructor
        · intro _; omega
        · intro _; omega
      | succ j =>
        rw [List.getElem?_cons_succ] at h
        rw [below_lt h2 h]; omega
/-- what the sizes say of the tops -/
structure Pat (E : List (Int × Int)) (T : List Int) : Prop where
  asc : Asc T
  up : ∀ p ∈ E, p.2 = 0 ∨ ∃ j : Nat, p.2 = j + 1 ∧ ∃ t, T[j]? = some t ∧ t ≤ p.1
  at_ : ∀ (j : Nat) (t : Int), T[j]? = some t → (t, (j : Int) + 1) ∈ E
theorem maxI_eq {ns : List Int} {m : Int} (h : m ∈ ns) (g : ∀ y ∈ ns, y ≤ m) : maxI ns = m := (maxI_uniq h g).symm
theorem Pat.best {E : List (Int × Int)} {T : List Int} (P : Pat E T) (r : Int) : maxI ((E.filter fun p => decide (p.1 < r)).map (·.2) ++ [0]) = below T r := by
  have hle := (insT_get r P.asc).2.2.2
  refine maxI_eq ?_ fun y hy => ?_
  · by_cases hb : below T r = 0
    · rw [hb]; simp
    · refine List.mem_append_left _ ?_
      have hj : below T r - 1 < T.length := by omega
      have hm := P.at_ (below T r - 1) T[below T r - 1] (List.getElem?_eq_getElem hj)
      have ht : T[below T r - 1] < r := (below_lt P.asc (List.getElem?_eq_getElem hj)).mpr (by omega)
      refine List.mem_map.mpr ⟨_, List.mem_filter.mpr ⟨hm, decide_eq_true ht⟩, ?_⟩
      show ((below T r - 1 : Nat) : Int) + 1 = _
      omega
  · rcases List.mem_append.mp hy with h | h
    · obtain ⟨p, hp, rfl⟩ := List.mem_map.mp h
      obtain ⟨hp1, hp2⟩ := List.mem_filter.mp hp
      have hlt : p.1 < r := of_decide_eq_true hp2
      rcases P.up p hp1 with e | ⟨j, e, t, ht, hle2⟩
      · rw [e]; omega
      · have := (below_lt (r := r) P.asc ht).mp (by omega)
        rw [e]; omega
    · have : y = 0 := by simpa using h
      rw [this]; omega
theorem Pat.step {E : List (Int × Int)} {T : List Int} (P : Pat E T) (r : Int) : Pat (E ++ [(r, 1 + (below T r : Int))]) (insT T r) := by
  obtain ⟨e1, e2, e3, e4⟩ := insT_get r P.asc
  refine ⟨insT_asc r P.asc, fun p hp => ?_, fun j t hj => ?_⟩
  · rcases List.mem_append.mp hp with h | h
    · rcases P.up p h with e | ⟨j, e, t, ht, hle⟩
      · exact .inl e
      · refine .inr ⟨j, e, ?_⟩
        by_cases hj : j = below T r
        · subst hj
          refine ⟨r, e1, ?_⟩
          have : ¬ t < r := fun z => by have := (below_lt P.asc ht).mp z; omega
          omega
        · exact ⟨t, by rw [e2 j hj (List.getElem?_eq_some_iff.mp ht).1]; exact ht, hle⟩
    · have : p = (r, 1 + (below T r : Int)) := by simpa using h
      subst this
      exact .inr ⟨below T r, by show 1 + (below T r : Int) = _; omega, r, e1, Int.le_refl _⟩
  · by_cases hjb : j = below T r
    · subst hjb
      rw [e1] at hj
      cases hj
      refine List.mem_append_right _ ?_
      have : ((below T r : Nat) : Int) + 1 = 1 + (below T r : Int) := by omega
      rw [this]; exact List.mem_singleton.mpr rfl
    · have hlt : j < T.length := by
        have := (List.getElem?_eq_some_iff.mp hj).1
        omega
      rw [e2 j hjb hlt] at hj
      exact List.mem_append_left _ (P.at_ j t hj)
theorem Pat.skip {E : List (Int × Int)} {T : List Int} (P : Pat E T) (r : Int) : Pat (E ++ [(r, 0)]) T := by
  refine ⟨P.asc, fun p hp => ?_, fun j t hj => List.mem_append_left _ (P.at_ j t hj)⟩
  rcases List.mem_append.mp hp with h | h
  · exact P.up p h
  · have : p = (r, 0) := by simpa using h
    subst this; exact .inl rfl
def topsI (v : List Int) : List Int := v.foldl insT []
theorem topsI_snoc (v : List Int) (r : Int) : topsI (v ++ [r]) = insT (topsI v) r := by unfold topsI; rw [List.foldl_append]; rfl
theorem list_snoc_ind {P : List Int → Prop} (h0 : P []) (h1 : ∀ v r, P v → P (v ++ [r])) (v : List Int) : P v := by
  have : ∀ w : List Int, P w.reverse := fun w => by
    induction w with
    | nil => exact h0
    | cons r w ih => rw [List.reverse_cons]; exact h1 _ r ih
  have := this v.reverse
  rwa [List.reverse_reverse] at this
theorem pat_ends (lo hi : Int) (v : List Int) : Pat (endsE lo hi v) (topsI (v.filter (inR lo hi))) := by
  induction v using list_snoc_ind with
  | h0 => exact ⟨List.Pairwise.nil, nofun, fun j t h => by simp [topsI] at h⟩
  | h1 v r ih =>
    rw [endsE_snoc, List.filter_append]
    unfold endStep
    by_cases h : inR lo hi r = true
    · rw [if_pos h, List.filter_cons_of_pos h, List.filter_nil, topsI_snoc, ih.best r]
      exact ih.step r
    · rw [if_neg h, List.filter_cons_of_neg h, List.filter_nil, List.append_nil]
      exact ih.skip r
/-- the longest choice is as long as there are tops -/
theorem Pat.long {E : List (Int × Int)} {T : List Int} (P : Pat E T) : maxI (E.map (·.2) ++ [0]) = T.length := by
  refine maxI_eq ?_ fun y hy => ?_
  · by_cases h : T.length = 0
    · rw [h]; simp
    · refine List.mem_append_left _ (List.mem_map.mpr ⟨_, P.at_ (T.length - 1) T[T.length - 1] (List.getElem?_eq_getElem (by omega)), ?_⟩)
      show ((T.length - 1 : Nat) : Int) + 1 = _
      omega
  · rcases List.mem_append.mp hy with h | h
    · obtain ⟨p, hp, rfl⟩ := List.mem_map.mp h
      rcases P.up p hp with e | ⟨j, e, t, ht, _⟩
      · rw [e]; omega
      · have := (List.getElem?_eq_some_iff.mp ht).1
        rw [e]; omega
    · have : y = 0 := by simpa using h
      rw [this]; omega
theorem long_tops (lo hi : Int) (v : List Int) : longI lo hi v = (topsI (v.filter (inR lo hi))).length := (pat_ends lo hi v).long
end DL

namespace DL
open PySem
theorem maxI_comm (l : List Int) : maxI (0 :: l) = maxI (l ++ [0]) := by
  refine maxI_eq ?_ fun y hy => ?_
  · have := maxI_mem (ns := l ++ [0]) (by simp)
    rcases List.mem_append.mp this with h | h
    · exact List.mem_cons_of_mem _ h
    · have : maxI (l ++ [0]) = 0 := by simpa using h
      rw [this]; exact List.mem_cons_self
  · refine maxI_ge ?_
    rcases List.mem_cons.mp hy with e | h
    · rw [e]; simp
    · exact List.mem_append_left _ h
theorem pat_rise (lo hi : Int) (v : List Int) : Pat (riseE lo hi v) (topsI (v.filter (inR lo hi))) := by
  induction v using list_snoc_ind with
  | h0 => exact ⟨List.Pairwise.nil, nofun, fun j t h => by simp [topsI] at h⟩
  | h1 v r ih =>
    rw [riseE_snoc, List.filter_append]
    unfold riseStep
    by_cases h : inR lo hi r = true
    · rw [if_pos h, List.filter_cons_of_pos h, List.filter_nil, topsI_snoc, maxI_comm, ih.best r]
      exact ih.step r
    · rw [if_neg h, List.filter_cons_of_neg h, List.filter_nil, List.append_nil]
      exact ih
theorem rise_tops (lo hi : Int) (v : List Int) : riseI lo hi v = (topsI (v.filter (inR lo hi))).length := by
  unfold riseI
  rw [maxI_comm]
  exact (pat_rise lo hi v).long
/-! ### piles -/
def lastR (row p : List Int) : Int := row.getD ((p.getLast?).getD 0).toNat 0
theorem lastR_snoc (row p : List Int) (k : Int) : lastR row (p ++ [k]) = row.getD k.toNat 0 := by
  unfold lastR
  rw [List.getLast?_append]; rfl
theorem insP_tops {row : List Int} {k r : Int} (hk : row.getD k.toNat 0 = r) : ∀ ps : List (List Int), (insP row k r ps).map (lastR row) = insT (ps.map (lastR row)) r
  | [] => by
    show [lastR row [k]] = [r]
    have := lastR_snoc row [] k
    rw [List.nil_append] at this
    rw [this, hk]
  | p :: ps => by
    show (if r ≤ lastR row p then (p ++ [k]) :: ps else p :: insP row k r ps).map (lastR row) = if r ≤ lastR row p then r :: ps.map (lastR row) else lastR row p :: insT (ps.map (lastR row)) r
    split
    · rw [List.map_cons, lastR_snoc, hk]
    · rw [List.map_cons, insP_tops hk ps]
theorem insP_get {row : List Int} {k r : Int} : ∀ (ps : List (List Int)), Asc (ps.map (lastR row)) → ∀ j : Nat, (insP row k r ps)[j]? = if j = below (ps.map (lastR row)) r then some ((ps[j]?).getD [] ++ [k]) else ps[j]?
  | [], _, j => by
    cases j with
    | zero => rfl
    | succ j => rfl
  | p :: ps, h, j => by
    obtain ⟨h1, h2⟩ := List.pairwise_cons.mp h
    show (if r ≤ lastR row p then (p ++ [k]) :: ps else p :: insP row k r ps)[j]? = _
    by_cases hr : r ≤ lastR row p
    · rw [if_pos hr, List.map_cons, below_zero h hr]
      cases j with
      | zero => rfl
      | succ j => rfl
    · have eb : below ((p :: ps).map (lastR row)) r = below (ps.map (lastR row)) r + 1 := by
        rw [List.map_cons, below_cons, if_pos (by omega)]; omega
      rw [if_neg hr, eb]
      cases j with
      | zero => rfl
      | succ j =>
        rw [List.getElem?_cons_succ, insP_get ps h2 j, List.getElem?_cons_succ]
        by_cases e : j = below (ps.map (lastR row)) r
        · rw [if_pos e, if_pos (by omega)]
        · rw [if_neg e, if_neg (by omega)]
theorem partGo_snoc (row : List Int) (lo hi : Int) : ∀ (pre : List Int) (k : Int) (r : Int) (ps : List (List Int)), partGo row lo hi k (pre ++ [r]) ps = if lo ≤ r ∧ r ≤ hi then insP row (k + pre.length) r (partGo row lo hi k pre ps) else partGo row lo hi k pre ps
  | [], k, r, ps => by
    show (if lo ≤ r ∧ r ≤ hi then insP row k r ps else ps) = if lo ≤ r ∧ r ≤ hi then insP row (k + ((([] : List Int).length : Nat) : Int)) r ps else ps
    have : k + ((([] : List Int).length : Nat) : Int) = k := by simp
    rw [this]
  | x :: pre, k, r, ps => by
    show partGo row lo hi (k + 1) (pre ++ [r]) _ = _
    rw [partGo_snoc row lo hi pre (k + 1) r]
    have : k + 1 + (pre.length : Int) = k + ((x :: pre).length : Int) := by simp; omega
    rw [this]; rfl
theorem inR_iff {lo hi r : Int} : inR lo hi r = true ↔ lo ≤ r ∧ r ≤ hi := by
  unfold inR; rw [Bool.and_eq_true, decide_eq_true_eq, decide_eq_true_eq]
/-- piles behind a part of the list -/
structure Pil (row : List Int) (lo hi : Int) (pre : List Int) (ps : List (List Int)) : Prop where
  tops : ps.map (lastR row) = topsI (pre.filter (inR lo hi))
  ne : ∀ p ∈ ps, p ≠ []
  mem : ∀ (j : Nat) (p : List Int), ps[j]? = some p → ∀ x : Int, x ∈ p ↔ ∃ k : Nat, x = k ∧ (endsI lo hi pre)[k]? = some ((j : Int) + 1)
  desc : ∀ p ∈ ps, (p.map fun x => row.getD x.toNat 0).Pairwise (· ≥ ·)
  low : ∀ p ∈ ps, ∀ x ∈ p, lastR row p ≤ row.getD x.toNat 0
theorem endsI_snoc (lo hi : Int) (v : List Int) (r : Int) : endsI lo hi (v ++ [r]) = endsI lo hi v ++ [if inR lo hi r = true then 1 + (below (topsI (v.filter (inR lo hi))) r : Int) else 0] := by
  unfold endsI
  rw [endsE_snoc]
  unfold endStep
  rw [List.map_append, (pat_ends lo hi v).best r]
  rfl
theorem topsI_asc (v : List Int) : Asc (topsI v) := by
  induction v using list_snoc_ind with
  | h0 => exact List.Pairwise.nil
  | h1 v r ih => rw [topsI_snoc]; exact insT_asc r ih
theorem pil_all (row : List Int) (lo hi : Int) (pre : List Int) : ∀ post, row = pre ++ post → Pil row lo hi pre (partGo row lo hi 0 pre []) := by
  induction pre using list_snoc_ind with
  | h0 =>
    intro post e
    exact ⟨rfl, nofun, fun j p h => by simp [partGo] at h, nofun, nofun⟩
  | h1 pre r ih =>
    intro post e
    have I := ih (r :: post) (by rw [e]; simp)
    rw [partGo_snoc, Int.zero_add]
    generalize partGo row lo hi 0 pre [] = ps at I
    have hlen : (endsI lo hi pre).length = pre.length := endsI_len lo hi pre
    by_cases h : lo ≤ r ∧ r ≤ hi
    · have hin : inR lo hi r = true := inR_iff.mpr h
      rw [if_pos h]
      have hk : row.getD ((pre.length : Int)).toNat 0 = r := by
        rw [Int.toNat_natCast, e, List.getD_eq_getElem?_getD, List.append_assoc, List.getElem?_append_right (Nat.le_refl _)]
        simp
      have hA : Asc (ps.map (lastR row)) := by rw [I.tops]; exact topsI_asc _
      have hg := fun j => insP_get (k := (pre.length : Int)) (r := r) ps hA j
      obtain ⟨g1, g2, g3, g4⟩ := insT_get r hA
      have memP : ∀ p, p ∈ insP row (pre.length : Int) r ps → (∃ q, (q = [] ∨ (q ∈ ps ∧ r ≤ lastR row q)) ∧ p = q ++ [(pre.length : Int)]) ∨ p ∈ ps := fun p hp => by
        obtain ⟨j, hj⟩ := List.getElem?_of_mem hp
        rw [hg j] at hj
        by_cases ej : j = below (ps.map (lastR row)) r
        · rw [if_pos ej] at hj
          cases hj
          cases hq : ps[j]? with
          | none => exact .inl ⟨[], .inl rfl, rfl⟩
          | some q =>
            refine .inl ⟨q, .inr ⟨List.mem_of_getElem? hq, ?_⟩, rfl⟩
            have hq2 : (ps.map (lastR row))[j]? = some (lastR row q) := by rw [List.getElem?_map, hq]; rfl
            have : ¬ lastR row q < r := fun z => by have := (below_lt hA hq2).mp z; omega
            omega
        · rw [if_neg ej] at hj
          exact .inr (List.mem_of_getElem? hj)
      refine ⟨?_, fun p hp => ?_, fun j p hj x => ?_, fun p hp => ?_, fun p hp x hx => ?_⟩
      · rw [insP_tops hk, I.tops, List.filter_append, List.filter_cons_of_pos hin, List.filter_nil, topsI_snoc]
      · rcases memP p hp with ⟨q, _, rfl⟩ | hp
        · simp
        · exact I.ne p hp
      · rw [endsI_snoc, if_pos hin, ← I.tops]
        rw [hg j] at hj
        have split : (∃ k : Nat, x = k ∧ (endsI lo hi pre ++ [1 + (below (ps.map (lastR row)) r : Int)])[k]? = some ((j : Int) + 1)) ↔ (∃ k : Nat, x = k ∧ (endsI lo hi pre)[k]? = some ((j : Int) + 1)) ∨ (x = pre.length ∧ j = below (ps.map (lastR row)) r) := by
          constructor
          · rintro ⟨k, rfl, hk⟩
            by_cases hkl : k < (endsI lo hi pre).length
            · rw [List.getElem?_append_left hkl] at hk
              exact .inl ⟨k, rfl, hk⟩
            · rw [List.getElem?_append_right (by omega)] at hk
              have hk0 : k - (endsI lo hi pre).length = 0 := by
                have := (List.getElem?_eq_some_iff.mp hk).1
                simp at this; omega
              rw [hk0] at hk
              simp at hk
              exact .inr ⟨by omega, by omega⟩
          · rintro (⟨k, rfl, hk⟩ | ⟨rfl, rfl⟩)
            · exact ⟨k, rfl, by rw [List.getElem?_append_left (List.getElem?_eq_some_iff.mp hk).1]; exact hk⟩
            · refine ⟨pre.length, rfl, ?_⟩
              rw [List.getElem?_append_right (by omega), hlen, Nat.sub_self]
              simp; omega
        rw [split]
        by_cases ej : j = below (ps.map (lastR row)) r
        · rw [if_pos ej] at hj
          cases hj
          rw [List.mem_append]
          have hone : x ∈ [(pre.length : Int)] ↔ (x = pre.length ∧ j = below (ps.map (lastR row)) r) := by simp [ej]
          rw [hone]
          refine or_congr ?_ Iff.rfl
          cases hq : ps[j]? with
          | none =>
            show x ∈ ([] : List Int) ↔ _
            constructor
            · intro h; cases h
            · rintro ⟨k, rfl, hk⟩
              exfalso
              -- a pile number that is not there
              have hpl : ps.length ≤ j := List.getElem?_eq_none_iff.mp hq
              have hm : ((pre.getD k 0), ((j : Int) + 1)) ∈ endsE lo hi pre := by
                unfold endsI at hk
                rw [List.getElem?_map] at hk
                obtain ⟨p, hp1, hp2⟩ := Option.map_eq_some_iff.mp hk
                have hf : pre[k]? = some p.1 := by
                  have := congrArg (fun l : List Int => l[k]?) (endsE_fst lo hi pre)
                  simp only [List.getElem?_map, hp1] at this
                  exact this.symm
                have : pre.getD k 0 = p.1 := by rw [List.getD_eq_getElem?_getD, hf]; rfl
                rw [this, ← hp2]
                exact List.mem_of_getElem? hp1
              rcases (pat_ends lo hi pre).up _ hm with e0 | ⟨i, e0, t, ht, _⟩
              · have : ((j : Int) + 1) = 0 := e0
                omega
              · have e1 : ((j : Int) + 1) = i + 1 := e0
                have hil := (List.getElem?_eq_some_iff.mp ht).1
                rw [← I.tops, List.length_map] at hil
                omega
          | some q => exact I.mem j q hq x
        · rw [if_neg ej] at hj
          rw [I.mem j p hj x]
          constructor
          · exact .inl
          · rintro (h | ⟨_, h⟩)
            · exact h
            · exact (ej h).elim
      · rcases memP p hp with ⟨q, hq, rfl⟩ | hp
        · rw [List.map_append, List.pairwise_append]
          rcases hq with rfl | ⟨hq, hr⟩
          · exact ⟨List.Pairwise.nil, List.pairwise_singleton _ _, fun _ h => by cases h⟩
          · refine ⟨I.desc q hq, List.pairwise_singleton _ _, fun a ha b hb => ?_⟩
            obtain ⟨x, hx, rfl⟩ := List.mem_map.mp ha
            have hb' : b = r := by
              have : b = row.getD ((pre.length : Int)).toNat 0 := by simpa using hb
              rw [this, hk]
            have := I.low q hq x hx
            rw [hb']; show r ≤ _; omega
        · exact I.desc p hp
      · rcases memP p hp with ⟨q, hq, rfl⟩ | hp
        · rw [lastR_snoc, hk]
          rcases List.mem_append.mp hx with hx | hx
          · rcases hq with rfl | ⟨hq, hr⟩
            · cases hx
            · have := I.low q hq x hx; omega
          · have : x = pre.length := by simpa using hx
            rw [this, hk]; exact Int.le_refl _
        · exact I.low p hp x hx
    · have hin : ¬ inR lo hi r = true := fun z => h (inR_iff.mp z)
      rw [if_neg h]
      refine ⟨by rw [List.filter_append, List.filter_cons_of_neg hin, List.filter_nil, List.append_nil]; exact I.tops, I.ne, fun j p hj x => ?_, I.desc, I.low⟩
      rw [I.mem j p hj x, endsI_snoc, if_neg hin]
      constructor
      · rintro ⟨k, rfl, hk⟩
        exact ⟨k, rfl, by rw [List.getElem?_append_left (List.getElem?_eq_some_iff.mp hk).1]; exact hk⟩
      · rintro ⟨k, rfl, hk⟩
        by_cases hkl : k < (endsI lo hi pre).length
        · rw [List.getElem?_append_left hkl] at hk
          exact ⟨k, rfl, hk⟩
        · exfalso
          rw [List.getElem?_append_right (by omega)] at hk
          have := List.mem_of_getElem? hk
          have : ((j : Int) + 1) = 0 := by simpa using this
          omega
end DL

namespace DL
open PySem
/-! ### links: what a visit does to them -/
theorem lookI_putI (es : List (Int × Int)) (k v x : Int) : lookI (putI es k v) x = if x = k then some v else lookI es x := by
  unfold putI
  split
  · rename_i h
    induction es with
    | nil => cases h
    | cons p es ih =>
      unfold lookI at ih ⊢
      rw [List.map_cons]
      by_cases hp : p.1 = k
      · rw [if_pos hp]
        by_cases hx : x = k
        · rw [if_pos hx, List.find?_cons_of_pos (by simp [hp, hx])]; rfl
        · rw [if_neg hx, List.find?_cons_of_neg (by simp [hp]; omega), List.find?_cons_of_neg (by simp [hp]; omega)]
          by_cases hh : (es.any fun p => decide (p.1 = k)) = true
          · rw [ih hh, if_neg hx]
          · have : es.map (fun p => if p.1 = k then (p.1, v) else p) = es := by
              conv => rhs; rw [← List.map_id es]
              apply List.map_congr_left
              intro q hq
              have : ¬ q.1 = k := fun z => hh (List.any_eq_true.mpr ⟨q, hq, decide_eq_true z⟩)
              rw [if_neg this]; rfl
            rw [this]
      · rw [if_neg hp]
        have hh : (es.any fun p => decide (p.1 = k)) = true := by
          rw [List.any_cons, decide_eq_false hp, Bool.false_or] at h; exact h
        by_cases hpx : p.1 = x
        · rw [List.find?_cons_of_pos (by simp [hpx]), List.find?_cons_of_pos (by simp [hpx]), if_neg (by omega)]
        · rw [List.find?_cons_of_neg (by simp [hpx]), List.find?_cons_of_neg (by simp [hpx])]
          exact ih hh
  · rename_i h
    unfold lookI
    rw [List.find?_append]
    by_cases hx : x = k
    · rw [if_pos hx]
      have : es.find? (fun p => decide (p.1 = x)) = none := List.find?_eq_none.mpr fun p hp z => h (List.any_eq_true.mpr ⟨p, hp, by rw [← hx]; exact z⟩)
      rw [this]
      simp [hx]
    · rw [if_neg hx]
      cases hf : es.find? (fun p => decide (p.1 = x)) with
      | some q => rfl
      | none => simp [Ne.symm hx]
theorem atK_putI (es : List (Int × Int)) (k v x : Int) : atK (putI es k v) x = if x = k then v else atK es x := by
  unfold atK
  rw [lookI_putI]
  split <;> rfl
/-- the scan upward: the new values -/
def scanP (a : Int → Int) (r : Int) : Int → List Int → List (Int × Int)
  | _, [] => []
  | cur, o :: l => if r < o ∧ a o < cur then (o, cur) :: scanP a r (a o) l else (o, a o) :: scanP a r cur l
theorem scanP_fst (a : Int → Int) (r : Int) : ∀ (l : List Int) (cur : Int), (scanP a r cur l).map (·.1) = l
  | [], _ => rfl
  | o :: l, cur => by
    unfold scanP
    split
    · rw [List.map_cons, scanP_fst a r l]
    · rw [List.map_cons, scanP_fst a r l]
theorem fold_out {es : List (Int × Int)} {r : Int} : ∀ (l : List Int) (s : List (Int × Int) × Int) (x : Int), x ∉ l → atK (l.foldl (visitStep es r) s).1 x = atK s.1 x
  | [], s, x, _ => rfl
  | o :: l, s, x, h => by
    rw [List.foldl_cons, fold_out l _ x fun z => h (List.mem_cons_of_mem _ z)]
    unfold visitStep
    split
    · rw [atK_putI, if_neg fun z => h (by rw [z]; exact List.mem_cons_self)]
    · rfl
/-- the fold leaves the scan's values -/
theorem fold_scan {es : List (Int × Int)} {r : Int} : ∀ (l : List Int) (s : List (Int × Int) × Int), l.Nodup → (∀ o ∈ l, o ≠ r → atK s.1 o = atK es o) → ∀ p ∈ scanP (atK es) r s.2 l, p.1 ≠ r → atK (l.foldl (visitStep es r) s).1 p.1 = p.2
  | [], s, _, _, p, hp, _ => by cases hp
  | o :: l, s, nd, h, p, hp, hr => by
    obtain ⟨n1, n2⟩ := List.nodup_cons.mp nd
    rw [List.foldl_cons]
    unfold scanP at hp
    by_cases c : r < o ∧ atK es o < s.2
    · rw [if_pos c] at hp
      have ev : visitStep es r s o = (putI s.1 o s.2, atK es o) := by unfold visitStep; rw [if_pos c]
      rw [ev]
      rcases List.mem_cons.mp hp with e | hp
      · subst e
        rw [fold_out l _ o n1, atK_putI, if_pos rfl]
      · refine fold_scan l (putI s.1 o s.2, atK es o) n2 (fun x hx hxr => ?_) p hp hr
        show atK (putI s.1 o s.2) x = _
        rw [atK_putI, if_neg fun z => n1 (by rw [← z]; exact hx)]
        exact h x (List.mem_cons_of_mem _ hx) hxr
    · rw [if_neg c] at hp
      have ev : visitStep es r s o = s := by unfold visitStep; rw [if_neg c]
      rw [ev]
      rcases List.mem_cons.mp hp with e | hp
      · subst e
        rw [fold_out l _ o n1]
        exact h o List.mem_cons_self hr
      · exact fold_scan l s n2 (fun x hx hxr => h x (List.mem_cons_of_mem _ hx) hxr) p hp hr
/-- how many of these stand in the range with a value below it -/
def cnt (lo hi : Int) (l : List (Int × Int)) : Nat := (l.filter fun p => inR lo hi p.1 && decide (p.2 < lo)).length
theorem cnt_cons (lo hi : Int) (p : Int × Int) (l : List (Int × Int)) : cnt lo hi (p :: l) = (if inR lo hi p.1 = true ∧ p.2 < lo then 1 else 0) + cnt lo hi l := by
  unfold cnt
  rw [List.filter_cons]
  by_cases h : inR lo hi p.1 = true ∧ p.2 < lo
  · rw [if_pos h, if_pos (by rw [h.1, decide_eq_true h.2]; rfl), List.length_cons]; omega
  · rw [if_neg h, if_neg (fun z => h (by rw [Bool.and_eq_true, decide_eq_true_eq] at z; exact z))]; omega
/-- below the range already: nothing changes -/
theorem scan_low (a : Int → Int) (r lo hi : Int) : ∀ (l : List Int) (cur : Int), cur < lo → cnt lo hi (scanP a r cur l) = cnt lo hi (l.map fun o => (o, a o))
  | [], _, _ => rfl
  | o :: l, cur, hc => by
    unfold scanP
    split
    · rename_i h
      rw [List.map_cons, cnt_cons, cnt_cons, scan_low a r lo hi l (a o) (by omega)]
      have : (inR lo hi o = true ∧ cur < lo) ↔ (inR lo hi o = true ∧ a o < lo) := ⟨fun z => ⟨z.1, by omega⟩, fun z => ⟨z.1, hc⟩⟩
      simp only [this]
    · rw [List.map_cons, cnt_cons, cnt_cons, scan_low a r lo hi l cur hc]
/-- not below it: one is lost, if there is one above r with a value below the range -/
theorem scan_high (a : Int → Int) (r lo hi : Int) (hr : lo ≤ r) : ∀ (l : List Int) (cur : Int), l.Pairwise (· < ·) → lo ≤ cur →
    cnt lo hi (scanP a r cur l) + (if ∃ o ∈ l, r < o ∧ o ≤ hi ∧ a o < lo then 1 else 0) = cnt lo hi (l.map fun o => (o, a o))
  | [], _, _, _ => by simp [scanP]
  | o :: l, cur, hs, hc => by
    obtain ⟨h1, h2⟩ := List.pairwise_cons.mp hs
    have hex : (∃ x ∈ o :: l, r < x ∧ x ≤ hi ∧ a x < lo) ↔ (r < o ∧ o ≤ hi ∧ a o < lo) ∨ ∃ x ∈ l, r < x ∧ x ≤ hi ∧ a x < lo := by simp
    unfold scanP
    by_cases c : r < o ∧ a o < cur
    · rw [if_pos c, List.map_cons, cnt_cons, cnt_cons]
      by_cases ha : a o < lo
      · rw [scan_low a r lo hi l (a o) ha]
        have n1 : ¬ (inR lo hi o = true ∧ cur < lo) := fun z => by omega
        by_cases ho : o ≤ hi
        · have y1 : inR lo hi o = true ∧ a o < lo := ⟨inR_iff.mpr ⟨by omega, ho⟩, ha⟩
          rw [if_neg n1, if_pos y1, if_pos (hex.mpr (.inl ⟨c.1, ho, ha⟩))]; omega
        · have n2 : ¬ (inR lo hi o = true ∧ a o < lo) := fun z => ho (inR_iff.mp z.1).2
          have n3 : ¬ ∃ x ∈ o :: l, r < x ∧ x ≤ hi ∧ a x < lo := fun z => by
            rcases hex.mp z with z | ⟨x, hx, z⟩
            · exact ho z.2.1
            · have := h1 x hx; omega
          rw [if_neg n1, if_neg n2, if_neg n3]; omega
      · have ih := scan_high a r lo hi hr l (a o) h2 (by omega)
        have n1 : ¬ (inR lo hi o = true ∧ cur < lo) := fun z => by omega
        have n2 : ¬ (inR lo hi o = true ∧ a o < lo) := fun z => ha z.2
        have e3 : (∃ x ∈ o :: l, r < x ∧ x ≤ hi ∧ a x < lo) ↔ ∃ x ∈ l, r < x ∧ x ≤ hi ∧ a x < lo := hex.trans ⟨fun z => z.elim (fun z => (ha z.2.2).elim) id, .inr⟩
        rw [if_neg n1, if_neg n2]
        simp only [e3]
        omega
    · rw [if_neg c, List.map_cons, cnt_cons, cnt_cons]
      have ih := scan_high a r lo hi hr l cur h2 hc
      by_cases hro : r < o
      · have hao : ¬ a o < lo := fun z => c ⟨hro, by omega⟩
        have e3 : (∃ x ∈ o :: l, r < x ∧ x ≤ hi ∧ a x < lo) ↔ ∃ x ∈ l, r < x ∧ x ≤ hi ∧ a x < lo := hex.trans ⟨fun z => z.elim (fun z => (hao z.2.2).elim) id, .inr⟩
        simp only [e3]
        omega
      · have e3 : (∃ x ∈ o :: l, r < x ∧ x ≤ hi ∧ a x < lo) ↔ ∃ x ∈ l, r < x ∧ x ≤ hi ∧ a x < lo := hex.trans ⟨fun z => z.elim (fun z => (hro z.1).elim) id, .inr⟩
        simp only [e3]
        omega
end DL

namespace DL
open PySem
theorem cnt_perm {lo hi : Int} {l m : List (Int × Int)} (p : l.Perm m) : cnt lo hi l = cnt lo hi m := (p.filter _).length_eq
theorem cnt_append (lo hi : Int) (l m : List (Int × Int)) : cnt lo hi (l ++ m) = cnt lo hi l + cnt lo hi m := by unfold cnt; rw [List.filter_append, List.length_append]
def keysL (es : List (Int × Int)) : List Int := es.map (·.1)
/-- the count of a range -/
def Mc (es : List (Int × Int)) (lo hi : Int) : Nat := cnt lo hi ((sortI (keysL es)).map fun o => (o, atK es o))
theorem Mc_keys (es : List (Int × Int)) (lo hi : Int) : Mc es lo hi = cnt lo hi ((keysL es).map fun o => (o, atK es o)) := cnt_perm ((sortI_perm _).map _)
structure LOk (es : List (Int × Int)) : Prop where
  nd : (keysL es).Nodup
  val : ∀ k ∈ keysL es, 0 ≤ atK es k ∧ atK es k < k
theorem sortI_strict {ns : List Int} (h : ns.Nodup) : (sortI ns).Pairwise (· < ·) := by
  have h1 := sortI_sorted ns
  have h2 : (sortI ns).Nodup := ((sortI_perm _).nodup_iff).mpr h
  exact (h1.and h2).imp fun ⟨a, b⟩ => by omega
theorem scan_out (a : Int → Int) (r lo hi : Int) (hr : hi < r) : ∀ (l : List Int) (cur : Int), cnt lo hi (scanP a r cur l) = cnt lo hi (l.map fun o => (o, a o))
  | [], _ => rfl
  | o :: l, cur => by
    unfold scanP
    split
    · rename_i h
      have n : ∀ x : Int, ¬ (inR lo hi o = true ∧ x < lo) := fun x z => by have := (inR_iff.mp z.1).2; omega
      rw [List.map_cons, cnt_cons, cnt_cons, scan_out a r lo hi hr l (a o), if_neg (n cur), if_neg (n (a o))]
    · rw [List.map_cons, cnt_cons, cnt_cons, scan_out a r lo hi hr l cur]
/-- the links behind a visit: 0 at r, the scan's values elsewhere -/
theorem visit_at {es : List (Int × Int)} (h : LOk es) (r : Int) : atK (visitL es r) r = 0 ∧ ∀ p ∈ scanP (atK es) r ((lookI es r).getD r) (sortI (keysL es)), p.1 ≠ r → atK (visitL es r) p.1 = p.2 := by
  have nd : (sortI (keysL es)).Nodup := ((sortI_perm _).nodup_iff).mpr h.nd
  have key0 : ∀ o, o ≠ r → atK (putI es r 0) o = atK es o := fun o ho => by rw [atK_putI, if_neg ho]
  refine ⟨?_, fun p hp hr => fold_scan (sortI (keysL es)) (putI es r 0, (lookI es r).getD r) nd (fun o _ ho => key0 o ho) p hp hr⟩
  -- r itself is not stored by the loop
  have : ∀ (l : List Int) (s : List (Int × Int) × Int), atK (l.foldl (visitStep es r) s).1 r = atK s.1 r := by
    intro l
    induction l with
    | nil => intro s; rfl
    | cons o l ih =>
      intro s
      rw [List.foldl_cons, ih]
      unfold visitStep
      split
      · rename_i c
        rw [atK_putI, if_neg (by omega)]
      · rfl
  unfold visitL
  rw [this, atK_putI, if_pos rfl]
theorem map_scan {f : Int → Int} : ∀ {sp : List (Int × Int)} {l : List Int}, sp.map (·.1) = l → (∀ p ∈ sp, f p.1 = p.2) → l.map (fun o => (o, f o)) = sp
  | [], l, e, _ => by subst e; rfl
  | p :: sp, l, e, h => by
    subst e
    rw [List.map_cons, List.map_cons, map_scan rfl fun q hq => h q (List.mem_cons_of_mem _ hq), h p List.mem_cons_self]
/-- count with one entry replaced -/
theorem cnt_repl {f g : Int → Int} {r lo hi : Int} : ∀ {l : List Int}, l.Nodup → r ∈ l → (∀ o ∈ l, o ≠ r → f o = g o) →
    cnt lo hi (l.map fun o => (o, f o)) + (if inR lo hi r = true ∧ g r < lo then 1 else 0) = cnt lo hi (l.map fun o => (o, g o)) + (if inR lo hi r = true ∧ f r < lo then 1 else 0)
  | o :: l, nd, hr, h => by
    obtain ⟨n1, n2⟩ := List.nodup_cons.mp nd
    rw [List.map_cons, List.map_cons, cnt_cons, cnt_cons]
    by_cases e : o = r
    · subst e
      have : l.map (fun o => (o, f o)) = l.map fun o => (o, g o) := List.map_congr_left fun x hx => by rw [h x (List.mem_cons_of_mem _ hx) fun z => n1 (by rw [← z]; exact hx)]
      rw [this]
      show (if inR lo hi o = true ∧ f o < lo then 1 else 0) + _ + _ = (if inR lo hi o = true ∧ g o < lo then 1 else 0) + _ + _
      omega
    · have ih := cnt_repl (lo := lo) (hi := hi) n2 ((List.mem_cons.mp hr).resolve_left (Ne.symm e)) fun x hx => h x (List.mem_cons_of_mem _ hx)
      rw [h o List.mem_cons_self e]
      omega
/-- the count behind a visit, by the scan's -/
theorem Mc_visit {es : List (Int × Int)} (h : LOk es) (r lo hi : Int) : let sp := scanP (atK es) r ((lookI es r).getD r) (sortI (keysL es))
    (r ∉ keysL es → Mc (visitL es r) lo hi = cnt lo hi sp + (if inR lo hi r = true ∧ (0 : Int) < lo then 1 else 0)) ∧
    (r ∈ keysL es → Mc (visitL es r) lo hi + (if inR lo hi r = true ∧ atK es r < lo then 1 else 0) = cnt lo hi sp + (if inR lo hi r = true ∧ (0 : Int) < lo then 1 else 0)) := by
  intro sp
  obtain ⟨h1, h2⟩ := visit_at h r
  have nd : (sortI (keysL es)).Nodup := ((sortI_perm _).nodup_iff).mpr h.nd
  have ek : keysL (visitL es r) = addK (keysL es) r := visitL_keys es r
  have spf : sp.map (·.1) = sortI (keysL es) := scanP_fst _ _ _ _
  refine ⟨fun hr => ?_, fun hr => ?_⟩
  · rw [Mc_keys, ek]
    unfold addK
    rw [if_neg hr, List.map_append, cnt_append]
    have e1 : (sortI (keysL es)).map (fun o => (o, atK (visitL es r) o)) = sp := map_scan spf fun p hp => h2 p hp fun z => hr ((sortI_perm _).mem_iff.mp (by rw [← spf, ← z]; exact List.mem_map.mpr ⟨p, hp, rfl⟩))
    rw [← cnt_perm ((sortI_perm (keysL es)).map fun o => (o, atK (visitL es r) o)), e1, List.map_singleton, h1, cnt_cons]
    show _ + (_ + cnt lo hi []) = _
    rfl
  · rw [Mc_keys, ek, addK_in hr, ← cnt_perm ((sortI_perm (keysL es)).map fun o => (o, atK (visitL es r) o))]
    have hrs : r ∈ sortI (keysL es) := (sortI_perm _).mem_iff.mpr hr
    -- the scan's values as a function
    let g : Int → Int := fun o => if o = r then atK es r else atK (visitL es r) o
    have e1 : (sortI (keysL es)).map (fun o => (o, g o)) = sp := map_scan spf fun p hp => by
      show (if p.1 = r then atK es r else atK (visitL es r) p.1) = p.2
      by_cases e : p.1 = r
      · rw [if_pos e]
        have : ∀ (l : List Int) (cur : Int) (p : Int × Int), p ∈ scanP (atK es) r cur l → p.1 = r → p.2 = atK es r := by
          intro l
          induction l with
          | nil => intro cur p hp; cases hp
          | cons o l ih =>
            intro cur p hp e
            unfold scanP at hp
            split at hp
            · rename_i c
              rcases List.mem_cons.mp hp with q | q
              · subst q; exfalso; have : o = r := e; omega
              · exact ih _ p q e
            · rcases List.mem_cons.mp hp with q | q
              · subst q; have : o = r := e; rw [this]
              · exact ih _ p q e
        exact (this _ _ p hp e).symm
      · rw [if_neg e]; exact h2 p hp e
    have e2 := cnt_repl (f := atK (visitL es r)) (g := g) (r := r) (lo := lo) (hi := hi) nd hrs fun o _ ho => (if_neg ho).symm
    rw [e1] at e2
    have eg : g r = atK es r := if_pos rfl
    rw [eg, h1] at e2
    exact e2
end DL

namespace DL
open PySem
theorem lookI_no {es : List (Int × Int)} {k : Int} (h : k ∉ keysL es) : lookI es k = none := by
  unfold lookI
  rw [Option.map_eq_none_iff, List.find?_eq_none]
  intro p hp z
  exact h (List.mem_map.mpr ⟨p, hp, of_decide_eq_true z⟩)
/-- a count cut at r -/
theorem cnt_cut (a : Int → Int) {r lo hi : Int} (h1 : lo ≤ r) (h2 : r ≤ hi) : ∀ l : List Int, cnt lo hi (l.map fun o => (o, a o)) = cnt lo (r - 1) (l.map fun o => (o, a o)) + (l.filter fun o => decide (o = r ∧ a o < lo)).length + (l.filter fun o => decide (r < o ∧ o ≤ hi ∧ a o < lo)).length
  | [] => rfl
  | o :: l => by
    have ih := cnt_cut a h1 h2 l
    have f1 : ∀ (p : Int → Prop) [DecidablePred p], ((o :: l).filter fun o => decide (p o)).length = (if p o then 1 else 0) + (l.filter fun o => decide (p o)).length := fun p _ => by
      rw [List.filter_cons]
      by_cases h : p o
      · rw [if_pos h, if_pos (decide_eq_true h), List.length_cons]; omega
      · rw [if_neg h, if_neg (by simpa using h)]; omega
    rw [List.map_cons, cnt_cons, cnt_cons, f1 (fun o => o = r ∧ a o < lo), f1 (fun o => r < o ∧ o ≤ hi ∧ a o < lo), ih]
    simp only [inR_iff]
    by_cases c : a o < lo
    · by_cases c1 : lo ≤ o
      · by_cases c2 : o < r
        · rw [if_pos ⟨⟨c1, by omega⟩, c⟩, if_pos ⟨⟨c1, by omega⟩, c⟩, if_neg (by omega), if_neg (by omega)]; omega
        · by_cases c3 : o = r
          · rw [if_pos ⟨⟨c1, by omega⟩, c⟩, if_neg (by omega), if_pos ⟨c3, c⟩, if_neg (by omega)]; omega
          · by_cases c4 : o ≤ hi
            · rw [if_pos ⟨⟨c1, c4⟩, c⟩, if_neg (by omega), if_neg (by omega), if_pos ⟨by omega, c4, c⟩]; omega
            · rw [if_neg (by omega), if_neg (by omega), if_neg (by omega), if_neg (by omega)]; omega
      · rw [if_neg (by omega), if_neg (by omega), if_neg (by omega), if_neg (by omega)]; omega
    · rw [if_neg (by omega), if_neg (by omega), if_neg (by omega), if_neg (by omega)]; omega
theorem one_at {l : List Int} {r lo : Int} (a : Int → Int) (nd : l.Nodup) : (l.filter fun o => decide (o = r ∧ a o < lo)).length = if r ∈ l ∧ a r < lo then 1 else 0 := by
  induction l with
  | nil => simp
  | cons o l ih =>
    obtain ⟨n1, n2⟩ := List.nodup_cons.mp nd
    rw [List.filter_cons]
    by_cases e : o = r
    · subst e
      have ih' := ih n2
      rw [if_neg fun z => n1 z.1] at ih'
      by_cases c : a o < lo
      · rw [if_pos (by simp [c]), List.length_cons, ih', if_pos ⟨List.mem_cons_self, c⟩]
      · rw [if_neg (by simp [c]), ih', if_neg fun z => c z.2]
    · rw [if_neg (by simp [e]), ih n2]
      have : (r ∈ o :: l ∧ a r < lo) ↔ (r ∈ l ∧ a r < lo) := by
        rw [List.mem_cons]
        constructor
        · rintro ⟨h | h, c⟩
          · exact (e h.symm).elim
          · exact ⟨h, c⟩
        · rintro ⟨h, c⟩
          exact ⟨.inr h, c⟩
      simp only [this]
/-- THE LAW OF A VISIT: the count of a range behind it -/
theorem Mc_step {es : List (Int × Int)} (h : LOk es) {r lo : Int} (hi : Int) (hlo : 0 < lo) : Mc (visitL es r) lo hi = if lo ≤ r ∧ r ≤ hi then max (Mc es lo hi) (Mc es lo (r - 1) + 1) else Mc es lo hi := by
  obtain ⟨v1, v2⟩ := Mc_visit h r lo hi
  have nd : (sortI (keysL es)).Nodup := ((sortI_perm _).nodup_iff).mpr h.nd
  have st := sortI_strict h.nd
  by_cases hr : lo ≤ r ∧ r ≤ hi
  · rw [if_pos hr]
    have hin : inR lo hi r = true := inR_iff.mpr hr
    have cut := cnt_cut (atK es) hr.1 hr.2 (sortI (keysL es))
    rw [one_at (atK es) nd] at cut
    have hM : Mc es lo hi = cnt lo hi ((sortI (keysL es)).map fun o => (o, atK es o)) := rfl
    have hM2 : Mc es lo (r - 1) = cnt lo (r - 1) ((sortI (keysL es)).map fun o => (o, atK es o)) := rfl
    have hq : (∃ o ∈ sortI (keysL es), r < o ∧ o ≤ hi ∧ atK es o < lo) ↔ 0 < ((sortI (keysL es)).filter fun o => decide (r < o ∧ o ≤ hi ∧ atK es o < lo)).length := by
      rw [List.length_pos_iff_exists_mem]
      simp [List.mem_filter]
    by_cases hk : r ∈ keysL es
    · have e := v2 hk
      rw [if_pos (show inR lo hi r = true ∧ 0 < lo from ⟨hin, hlo⟩)] at e
      have hks : r ∈ sortI (keysL es) := (sortI_perm _).mem_iff.mpr hk
      have hc : (lookI es r).getD r = atK es r := by rw [lookI_key hk]; rfl
      rw [hc] at e
      by_cases ha : atK es r < lo
      · have e2 := scan_low (atK es) r lo hi (sortI (keysL es)) (atK es r) ha
        rw [if_pos (show inR lo hi r = true ∧ atK es r < lo from ⟨hin, ha⟩)] at e
        rw [if_pos (show r ∈ sortI (keysL es) ∧ atK es r < lo from ⟨hks, ha⟩)] at cut
        omega
      · have e2 := scan_high (atK es) r lo hi hr.1 (sortI (keysL es)) (atK es r) st (by omega)
        rw [if_neg (show ¬ (inR lo hi r = true ∧ atK es r < lo) from fun z => ha z.2)] at e
        rw [if_neg (show ¬ (r ∈ sortI (keysL es) ∧ atK es r < lo) from fun z => ha z.2)] at cut
        by_cases q : ∃ o ∈ sortI (keysL es), r < o ∧ o ≤ hi ∧ atK es o < lo
        · rw [if_pos q] at e2
          have := hq.mp q
          omega
        · rw [if_neg q] at e2
          have : ¬ 0 < _ := fun z => q (hq.mpr z)
          omega
    · have e := v1 hk
      rw [if_pos (show inR lo hi r = true ∧ 0 < lo from ⟨hin, hlo⟩), lookI_no hk] at e
      have hks : r ∉ sortI (keysL es) := fun z => hk ((sortI_perm _).mem_iff.mp z)
      rw [if_neg (show ¬ (r ∈ sortI (keysL es) ∧ atK es r < lo) from fun z => hks z.1)] at cut
      have e2 := scan_high (atK es) r lo hi hr.1 (sortI (keysL es)) r st hr.1
      have e3 : (none : Option Int).getD r = r := rfl
      rw [e3] at e
      by_cases q : ∃ o ∈ sortI (keysL es), r < o ∧ o ≤ hi ∧ atK es o < lo
      · rw [if_pos q] at e2
        have := hq.mp q
        omega
      · rw [if_neg q] at e2
        have : ¬ 0 < _ := fun z => q (hq.mpr z)
        omega
  · rw [if_neg hr]
    have hin : ¬ inR lo hi r = true := fun z => hr (inR_iff.mp z)
    have nz : ∀ P : Prop, ¬ (inR lo hi r = true ∧ P) := fun P z => hin z.1
    have hcur : (lookI es r).getD r ≤ r := by
      by_cases hk : r ∈ keysL es
      · rw [lookI_key hk]
        have := (h.val r hk).2
        show atK es r ≤ r
        omega
      · rw [lookI_no hk]; exact Int.le_refl _
    have e2 : cnt lo hi (scanP (atK es) r ((lookI es r).getD r) (sortI (keysL es))) = Mc es lo hi := by
      by_cases c : r < lo
      · exact scan_low (atK es) r lo hi (sortI (keysL es)) _ (by omega)
      · exact scan_out (atK es) r lo hi (by omega) (sortI (keysL es)) _
    by_cases hk : r ∈ keysL es
    · have e := v2 hk
      rw [if_neg (nz _), if_neg (nz _)] at e
      omega
    · have e := v1 hk
      rw [if_neg (nz _)] at e
      omega
end DL

namespace DL
open PySem
theorem insT_filter {r : Int} : ∀ {T : List Int} (x : Int), Asc T → (insT T x).filter (fun t => decide (t < r)) = if x < r then insT (T.filter fun t => decide (t < r)) x else T.filter fun t => decide (t < r)
  | [], x, _ => by
    by_cases h : x < r
    · simp [insT, h]
    · simp [insT, h]
  | t :: T, x, h => by
    obtain ⟨h1, h2⟩ := List.pairwise_cons.mp h
    have big : ∀ b : Int, r ≤ t → T.filter (fun t => decide (t < r)) = [] := fun _ hb => List.filter_eq_nil_iff.mpr fun y hy => by have := h1 y hy; simp; omega
    by_cases hx : x ≤ t
    · have e : insT (t :: T) x = x :: T := if_pos hx
      rw [e, List.filter_cons, List.filter_cons]
      by_cases hr : x < r
      · rw [if_pos (decide_eq_true hr), if_pos hr]
        by_cases ht : t < r
        · rw [if_pos (decide_eq_true ht)]
          exact (if_pos hx).symm
        · rw [if_neg (by simpa using ht), big 0 (by omega)]; rfl
      · rw [if_neg (by simpa using hr), if_neg hr, if_neg (by simp; omega)]
    · have e : insT (t :: T) x = t :: insT T x := if_neg hx
      rw [e, List.filter_cons, List.filter_cons, insT_filter x h2]
      by_cases ht : t < r
      · rw [if_pos (decide_eq_true ht), if_pos (decide_eq_true ht)]
        by_cases hr : x < r
        · rw [if_pos hr, if_pos hr]
          exact (if_neg hx).symm
        · rw [if_neg hr, if_neg hr]
      · have d : decide (t < r) = false := decide_eq_false ht
        have hx2 : ¬ x < r := by omega
        simp only [d, hx2, Bool.false_eq_true, if_false]
theorem tops_filter (r : Int) (w : List Int) : (topsI w).filter (fun t => decide (t < r)) = topsI (w.filter fun t => decide (t < r)) := by
  induction w using list_snoc_ind with
  | h0 => rfl
  | h1 w x ih =>
    rw [topsI_snoc, insT_filter x (topsI_asc w), ih, List.filter_append, List.filter_cons]
    by_cases h : x < r
    · rw [if_pos h, if_pos (decide_eq_true h), List.filter_nil, topsI_snoc]
    · rw [if_neg h, if_neg (by simpa using h), List.filter_nil, List.append_nil]
theorem long_step (lo hi : Int) (v : List Int) (r : Int) : longI lo hi (v ++ [r]) = if lo ≤ r ∧ r ≤ hi then max (longI lo hi v) (longI lo (r - 1) v + 1) else longI lo hi v := by
  rw [long_tops, long_tops, long_tops, List.filter_append]
  by_cases h : lo ≤ r ∧ r ≤ hi
  · rw [if_pos h, List.filter_cons_of_pos (inR_iff.mpr h), List.filter_nil, topsI_snoc, (insT_get r (topsI_asc _)).2.2.1]
    have : below (topsI (v.filter (inR lo hi))) r = (topsI (v.filter (inR lo (r - 1)))).length := by
      unfold below
      rw [tops_filter, List.filter_filter]
      congr 2
      apply List.filter_congr
      intro x _
      have : (decide (x < r) && inR lo hi x) = inR lo (r - 1) x := by
        unfold inR
        by_cases a : lo ≤ x <;> by_cases b : x < r <;> simp [a, b] <;> omega
      exact this
    rw [this]
    omega
  · rw [if_neg h, List.filter_cons_of_neg (fun z => h (inR_iff.mp z)), List.filter_nil, List.append_nil]
/-! ### the links of a list stand well -/
theorem scan_val {a : Int → Int} {r : Int} : ∀ (l : List Int) (cur : Int), l.Pairwise (· < ·) → (∀ o ∈ l, 0 ≤ a o ∧ a o < o) → 0 ≤ cur → (∀ o ∈ l, r < o → cur < o) → ∀ p ∈ scanP a r cur l, 0 ≤ p.2 ∧ p.2 < p.1
  | [], _, _, _, _, _, p, hp => by cases hp
  | o :: l, cur, hs, ha, hc, hlt, p, hp => by
    obtain ⟨h1, h2⟩ := List.pairwise_cons.mp hs
    unfold scanP at hp
    split at hp
    · rename_i c
      rcases List.mem_cons.mp hp with e | hp
      · subst e; exact ⟨hc, hlt o List.mem_cons_self c.1⟩
      · refine scan_val l (a o) h2 (fun x hx => ha x (List.mem_cons_of_mem _ hx)) (ha o List.mem_cons_self).1 (fun x hx _ => ?_) p hp
        have := h1 x hx
        have := (ha o List.mem_cons_self).2
        omega
    · rcases List.mem_cons.mp hp with e | hp
      · subst e; exact ha o List.mem_cons_self
      · exact scan_val l cur h2 (fun x hx => ha x (List.mem_cons_of_mem _ hx)) hc (fun x hx => hlt x (List.mem_cons_of_mem _ hx)) p hp
theorem LOk.visit {es : List (Int × Int)} (h : LOk es) {r : Int} (hr : 0 < r) : LOk (visitL es r) := by
  have ek : keysL (visitL es r) = addK (keysL es) r := visitL_keys es r
  refine ⟨by rw [ek]; exact addsK_nodup [r] (keysL es) h.nd, fun k hk => ?_⟩
  rw [ek, mem_addK] at hk
  obtain ⟨h1, h2⟩ := visit_at h r
  by_cases e : k = r
  · rw [e, h1]; omega
  · have hk' : k ∈ sortI (keysL es) := (sortI_perm _).mem_iff.mpr (hk.resolve_right e)
    rw [← scanP_fst (atK es) r (sortI (keysL es)) ((lookI es r).getD r)] at hk'
    obtain ⟨p, hp, rfl⟩ := List.mem_map.mp hk'
    rw [h2 p hp e]
    have hcur : 0 ≤ (lookI es r).getD r ∧ (lookI es r).getD r ≤ r := by
      by_cases hkr : r ∈ keysL es
      · rw [lookI_key hkr]
        have := h.val r hkr
        exact ⟨this.1, by show atK es r ≤ r; omega⟩
      · rw [lookI_no hkr]; exact ⟨by show 0 ≤ r; omega, Int.le_refl _⟩
    exact scan_val _ _ (sortI_strict h.nd) (fun o ho => h.val o ((sortI_perm _).mem_iff.mp ho)) hcur.1 (fun o _ ho => by omega) p hp
theorem LOk.links {v : List Int} (hv : ∀ r ∈ v, 0 < r) : LOk (linksOf v) := by
  induction v using list_snoc_ind with
  | h0 => exact ⟨List.nodup_nil, nofun⟩
  | h1 v r ih =>
    rw [linksOf_snoc]
    exact (ih fun x hx => hv x (List.mem_append_left _ hx)).visit (hv r (by simp))
/-- chains that meet a range are as many as the longest choice in it is long -/
theorem Mc_long {v : List Int} (hv : ∀ r ∈ v, 0 < r) : ∀ (lo hi : Int), 0 < lo → (Mc (linksOf v) lo hi : Int) = longI lo hi v := by
  induction v using list_snoc_ind with
  | h0 => intro lo hi _; simp [Mc, sortI, linksOf, keysL, cnt, longI, endsE, maxI]
  | h1 v r ih =>
    intro lo hi hlo
    have ih' := ih fun x hx => hv x (List.mem_append_left _ hx)
    rw [linksOf_snoc, Mc_step (LOk.links fun x hx => hv x (List.mem_append_left _ hx)) hi hlo, long_step]
    have e1 := ih' lo hi hlo
    have e2 := ih' lo (r - 1) hlo
    split
    · omega
    · exact e1
end DL

namespace DL
open PySem
/-- links of chains -/
structure LV (es : List (Int × Int)) : Prop where
  ok : LOk es
  cl : ∀ k ∈ keysL es, atK es k = 0 ∨ atK es k ∈ keysL es
  inj : ∀ j ∈ keysL es, ∀ k ∈ keysL es, atK es j = atK es k → atK es j ≠ 0 → j = k
/-- the chains so far -/
structure ChI (a : Int → Int) (pre : List Int) (fo : List (Int × List Int)) : Prop where
  keys : ∀ k, k ∈ fo.map (·.1) ↔ k ∈ pre ∧ ∀ j ∈ pre, a j ≠ k
  nd : (fo.map (·.1)).Nodup
  last : ∀ p ∈ fo, ∃ q, p.2 = q ++ [p.1]
  asc : ∀ p ∈ fo, Asc p.2
  num : ∀ lo hi, 0 < lo → meetI (fo.map (·.2)) lo hi = cnt lo hi (pre.map fun o => (o, a o))
  perm : (fo.map (·.2)).flatten.Perm pre
theorem lookC_some {fo : List (Int × List Int)} {k : Int} (h : k ∈ fo.map (·.1)) : ∃ c, lookC fo k = some c := by
  cases e : lookC fo k with
  | some c => exact ⟨c, rfl⟩
  | none =>
    exfalso
    unfold lookC at e
    rw [Option.map_eq_none_iff, List.find?_eq_none] at e
    obtain ⟨p, hp, rfl⟩ := List.mem_map.mp h
    exact e p hp (decide_eq_true rfl)
theorem meetI_cons (c : List Int) (cs : List (List Int)) (lo hi : Int) : meetI (c :: cs) lo hi = (if c.any (inR lo hi) = true then 1 else 0) + meetI cs lo hi := by
  unfold meetI
  rw [List.filter_cons]
  split
  · rw [List.length_cons]; omega
  · omega
theorem meetI_append (cs ds : List (List Int)) (lo hi : Int) : meetI (cs ++ ds) lo hi = meetI cs lo hi + meetI ds lo hi := by unfold meetI; rw [List.filter_append, List.length_append]
theorem meetI_perm {cs ds : List (List Int)} (p : cs.Perm ds) (lo hi : Int) : meetI cs lo hi = meetI ds lo hi := (p.filter _).length_eq
/-- a found entry stands ahead of the others -/
theorem drop_perm {fo : List (Int × List Int)} {k : Int} {c : List Int} (nd : (fo.map (·.1)).Nodup) (h : lookC fo k = some c) : fo.Perm ((k, c) :: dropC fo k) := by
  induction fo with
  | nil => cases h
  | cons p fo ih =>
    rw [List.map_cons] at nd
    obtain ⟨n1, n2⟩ := List.nodup_cons.mp nd
    unfold lookC at h
    by_cases e : p.1 = k
    · rw [List.find?_cons_of_pos (by simp [e])] at h
      have hc : p.2 = c := by simpa using h
      have hp : p = (k, c) := by rw [← e, ← hc]
      have hd : dropC (p :: fo) k = fo := by
        unfold dropC
        rw [List.filter_cons_of_neg (by simp [e])]
        apply List.filter_eq_self.mpr
        intro q hq
        have : q.1 ≠ k := fun z => n1 (by rw [e, ← z]; exact List.mem_map.mpr ⟨q, hq, rfl⟩)
        simp [this]
      rw [hd, hp]
    · rw [List.find?_cons_of_neg (by simp [e])] at h
      have hd : dropC (p :: fo) k = p :: dropC fo k := by
        unfold dropC
        rw [List.filter_cons_of_pos (by simp [e])]
      rw [hd]
      exact (List.Perm.cons p (ih n2 h)).trans (List.Perm.swap _ _ _)
end DL

namespace DL
open PySem
theorem putI_new {α : Type} {es : List (Int × α)} {k : Int} {v : α} (h : k ∉ es.map (·.1)) : putI es k v = es ++ [(k, v)] := by
  unfold putI
  rw [if_neg]
  intro z
  obtain ⟨p, hp, e⟩ := List.any_eq_true.mp z
  exact h (List.mem_map.mpr ⟨p, hp, of_decide_eq_true e⟩)
theorem drop_keys (fo : List (Int × List Int)) (k x : Int) : x ∈ (dropC fo k).map (·.1) ↔ x ∈ fo.map (·.1) ∧ x ≠ k := by
  unfold dropC
  constructor
  · intro h
    obtain ⟨p, hp, rfl⟩ := List.mem_map.mp h
    obtain ⟨h1, h2⟩ := List.mem_filter.mp hp
    refine ⟨List.mem_map.mpr ⟨p, h1, rfl⟩, fun z => ?_⟩
    simp [z] at h2
  · rintro ⟨h, n⟩
    obtain ⟨p, hp, rfl⟩ := List.mem_map.mp h
    exact List.mem_map.mpr ⟨p, List.mem_filter.mpr ⟨hp, by simp [n]⟩, rfl⟩
theorem drop_mem {fo : List (Int × List Int)} {k : Int} {p : Int × List Int} (h : p ∈ dropC fo k) : p ∈ fo := (List.mem_filter.mp h).1
theorem drop_nd {fo : List (Int × List Int)} (k : Int) (h : (fo.map (·.1)).Nodup) : ((dropC fo k).map (·.1)).Nodup := h.sublist ((List.filter_sublist).map _)
theorem chStep_keeps {es : List (Int × Int)} {pre : List Int} {fo : List (Int × List Int)} {r : Int} (h : ChI (atK es) pre fo) (hp : ∀ k ∈ pre, 0 < k ∧ k < r ∧ atK es k < k) (hb0 : 0 ≤ atK es r) (hbr : atK es r < r)
    (hcl : atK es r = 0 ∨ atK es r ∈ pre) (hinj : atK es r ≠ 0 → ∀ j ∈ pre, atK es j ≠ atK es r) : ∃ fo', chStep es fo r = some fo' ∧ ChI (atK es) (pre ++ [r]) fo' := by
  have hr : r ∉ fo.map (·.1) := fun z => by
    have := (hp r ((h.keys r).mp z).1).2.1
    omega
  unfold chStep
  by_cases c : 0 < atK es r
  · rw [if_pos c]
    have hbp : atK es r ∈ pre := hcl.resolve_left (by omega)
    have hbk : atK es r ∈ fo.map (·.1) := (h.keys _).mpr ⟨hbp, fun j hj => hinj (by omega) j hj⟩
    obtain ⟨ch, hc⟩ := lookC_some hbk
    have hpm := drop_perm h.nd hc
    have hcm := lookC_mem hc
    have hrd : r ∉ (dropC fo (atK es r)).map (·.1) := fun z => hr ((drop_keys _ _ _).mp z).1
    rw [hc]
    refine ⟨_, rfl, ?_⟩
    rw [putI_new hrd]
    obtain ⟨q, hq⟩ := h.last _ hcm
    have hq : ch = q ++ [atK es r] := hq
    have hca : Asc ch := h.asc _ hcm
    refine ⟨fun k => ?_, ?_, ?_, ?_, fun lo hi hlo => ?_, ?_⟩
    · rw [List.map_append, List.mem_append, drop_keys, h.keys, List.mem_append]
      constructor
      · rintro (⟨⟨h1, h2⟩, h3⟩ | h1)
        · refine ⟨.inl h1, fun j hj => ?_⟩
          rcases List.mem_append.mp hj with hj | hj
          · exact h2 j hj
          · have : j = r := by simpa using hj
            rw [this]; exact Ne.symm h3
        · have : k = r := by simpa using h1
          subst this
          refine ⟨.inr (by simp), fun j hj => ?_⟩
          rcases List.mem_append.mp hj with hj | hj
          · have := hp j hj; omega
          · have : j = k := by simpa using hj
            subst this; omega
      · rintro ⟨h1 | h1, h2⟩
        · exact .inl ⟨⟨h1, fun j hj => h2 j (List.mem_append_left _ hj)⟩, Ne.symm (h2 r (by simp))⟩
        · have : k = r := by simpa using h1
          subst this; exact .inr (by simp)
    · rw [List.map_append, List.nodup_append]
      refine ⟨drop_nd _ h.nd, by simp, fun x hx y hy z => ?_⟩
      have : y = r := by simpa using hy
      subst this; subst z; exact hrd hx
    · intro p hp'
      rcases List.mem_append.mp hp' with hp' | hp'
      · exact h.last p (drop_mem hp')
      · have : p = (r, ch ++ [r]) := by simpa using hp'
        subst this; exact ⟨ch, rfl⟩
    · intro p hp'
      rcases List.mem_append.mp hp' with hp' | hp'
      · exact h.asc p (drop_mem hp')
      · have : p = (r, ch ++ [r]) := by simpa using hp'
        subst this
        show Asc (ch ++ [r])
        unfold Asc at hca ⊢
        rw [List.pairwise_append]
        refine ⟨hca, by simp, fun x hx y hy => ?_⟩
        have : y = r := by simpa using hy
        subst this
        rw [hq] at hx hca
        rw [List.pairwise_append] at hca
        rcases List.mem_append.mp hx with hx | hx
        · have := hca.2.2 x hx _ (List.mem_singleton.mpr rfl); omega
        · have : x = atK es y := by simpa using hx
          omega
    · have e := meetI_perm (hpm.map (·.2)) lo hi
      have n := h.num lo hi hlo
      rw [List.map_cons, meetI_cons] at e
      rw [List.map_append, meetI_append, List.map_append, cnt_append, ← n, e, List.map_singleton, List.map_singleton, meetI_cons, cnt_cons]
      show _ + ((if (ch ++ [r]).any (inR lo hi) = true then 1 else 0) + 0) = (if ch.any (inR lo hi) = true then 1 else 0) + _ + ((if inR lo hi r = true ∧ atK es r < lo then 1 else 0) + 0)
      have hle : ∀ x ∈ ch, x ≤ atK es r := fun x hx => by
        rw [hq] at hx hca
        unfold Asc at hca
        rw [List.pairwise_append] at hca
        rcases List.mem_append.mp hx with hx | hx
        · have := hca.2.2 x hx _ (List.mem_singleton.mpr rfl); omega
        · have : x = atK es r := by simpa using hx
          omega
      rw [List.any_append]
      by_cases i : inR lo hi r = true
      · have ii := inR_iff.mp i
        by_cases l : atK es r < lo
        · have : ch.any (inR lo hi) = false := List.any_eq_false.mpr fun x hx z => by
            have := (inR_iff.mp z).1
            have := hle x hx
            omega
          rw [this, if_pos (by simp [i]), if_neg (by simp), if_pos ⟨i, l⟩]; omega
        · have : ch.any (inR lo hi) = true := List.any_eq_true.mpr ⟨atK es r, by rw [hq]; simp, inR_iff.mpr ⟨by omega, by omega⟩⟩
          rw [this, if_pos (by simp), if_pos rfl, if_neg fun z => l z.2]; omega
      · have : [r].any (inR lo hi) = false := by simp [i]
        rw [this, Bool.or_false, if_neg (c := inR lo hi r = true ∧ atK es r < lo) fun z => i z.1]; omega
    · have e := (hpm.map (·.2)).flatten
      rw [List.map_cons, List.flatten_cons] at e
      rw [List.map_append, List.flatten_append]
      show ((dropC fo (atK es r)).map (·.2)).flatten ++ ([ch ++ [r]].flatten) |>.Perm _
      rw [List.flatten_singleton, ← List.append_assoc]
      exact List.Perm.append_right _ ((List.perm_append_comm.trans e.symm).trans h.perm)
  · rw [if_neg c]
    refine ⟨_, rfl, ?_⟩
    rw [putI_new hr]
    have b0 : atK es r = 0 := by omega
    refine ⟨fun k => ?_, ?_, ?_, ?_, fun lo hi hlo => ?_, ?_⟩
    · rw [List.map_append, List.mem_append, h.keys, List.mem_append]
      constructor
      · rintro (⟨h1, h2⟩ | h1)
        · refine ⟨.inl h1, fun j hj => ?_⟩
          rcases List.mem_append.mp hj with hj | hj
          · exact h2 j hj
          · have : j = r := by simpa using hj
            have := hp k h1
            subst j; omega
        · have : k = r := by simpa using h1
          subst this
          refine ⟨.inr (by simp), fun j hj => ?_⟩
          rcases List.mem_append.mp hj with hj | hj
          · have := hp j hj; omega
          · have : j = k := by simpa using hj
            subst this; omega
      · rintro ⟨h1 | h1, h2⟩
        · exact .inl ⟨h1, fun j hj => h2 j (List.mem_append_left _ hj)⟩
        · have : k = r := by simpa using h1
          subst this; exact .inr (by simp)
    · rw [List.map_append, List.nodup_append]
      refine ⟨h.nd, by simp, fun x hx y hy z => ?_⟩
      have : y = r := by simpa using hy
      subst this; subst z; exact hr hx
    · intro p hp'
      rcases List.mem_append.mp hp' with hp' | hp'
      · exact h.last p hp'
      · have : p = (r, [r]) := by simpa using hp'
        subst this; exact ⟨[], rfl⟩
    · intro p hp'
      rcases List.mem_append.mp hp' with hp' | hp'
      · exact h.asc p hp'
      · have : p = (r, [r]) := by simpa using hp'
        subst this
        show Asc [r]
        unfold Asc; simp
    · rw [List.map_append, meetI_append, List.map_append, cnt_append, ← h.num lo hi hlo, List.map_singleton, List.map_singleton, meetI_cons, cnt_cons, b0]
      show _ + ((if [r].any (inR lo hi) = true then 1 else 0) + 0) = _ + ((if inR lo hi r = true ∧ 0 < lo then 1 else 0) + 0)
      by_cases i : inR lo hi r = true
      · rw [if_pos (by simp [i]), if_pos ⟨i, hlo⟩]
      · rw [if_neg (by simp [i]), if_neg fun z => i z.1]
    · rw [List.map_append, List.flatten_append]
      exact List.Perm.append_right _ h.perm
end DL

namespace DL
open PySem
theorem scan_count (a : Int → Int) (r x : Int) : ∀ (l : List Int) (cur : Int), ((scanP a r cur l).map (·.2)).count x ≤ (if cur = x then 1 else 0) + (l.map a).count x
  | [], cur => by simp [scanP]
  | o :: l, cur => by
    unfold scanP
    split
    · have ih := scan_count a r x l (a o)
      rw [List.map_cons, List.map_cons, List.count_cons, List.count_cons]
      simp only [beq_iff_eq] at ih ⊢
      omega
    · have ih := scan_count a r x l cur
      rw [List.map_cons, List.map_cons, List.count_cons, List.count_cons]
      dsimp only
      omega
theorem scan_mem (a : Int → Int) (r : Int) : ∀ (l : List Int) (cur : Int), ∀ p ∈ scanP a r cur l, p.2 = cur ∨ ∃ o ∈ l, p.2 = a o
  | [], cur, p, h => by cases h
  | o :: l, cur, p, h => by
    unfold scanP at h
    split at h
    · rcases List.mem_cons.mp h with e | e
      · subst e; exact .inl rfl
      · rcases scan_mem a r l _ p e with q | ⟨y, hy, q⟩
        · exact .inr ⟨o, List.mem_cons_self, q⟩
        · exact .inr ⟨y, List.mem_cons_of_mem _ hy, q⟩
    · rcases List.mem_cons.mp h with e | e
      · subst e; exact .inr ⟨o, List.mem_cons_self, rfl⟩
      · rcases scan_mem a r l _ p e with q | ⟨y, hy, q⟩
        · exact .inl q
        · exact .inr ⟨y, List.mem_cons_of_mem _ hy, q⟩
theorem scan_self (a : Int → Int) (r : Int) : ∀ (l : List Int) (cur : Int), ∀ p ∈ scanP a r cur l, p.1 = r → p.2 = a r
  | [], cur, p, h => by cases h
  | o :: l, cur, p, h => fun e => by
    unfold scanP at h
    split at h
    · rename_i c
      rcases List.mem_cons.mp h with q | q
      · subst q; exfalso; have : o = r := e; omega
      · exact scan_self a r l _ p q e
    · rcases List.mem_cons.mp h with q | q
      · subst q; have : o = r := e; rw [this]
      · exact scan_self a r l _ p q e
theorem count_repl {f g : Int → Int} {r x : Int} : ∀ {l : List Int}, l.Nodup → r ∈ l → (∀ o ∈ l, o ≠ r → f o = g o) →
    (l.map f).count x + (if g r = x then 1 else 0) = (l.map g).count x + (if f r = x then 1 else 0)
  | o :: l, nd, hr, h => by
    obtain ⟨n1, n2⟩ := List.nodup_cons.mp nd
    rw [List.map_cons, List.map_cons, List.count_cons, List.count_cons]
    simp only [beq_iff_eq]
    by_cases e : o = r
    · subst e
      have : l.map f = l.map g := List.map_congr_left fun y hy => h y (List.mem_cons_of_mem _ hy) fun z => n1 (by rw [← z]; exact hy)
      rw [this]; omega
    · have ih := count_repl (x := x) n2 ((List.mem_cons.mp hr).resolve_left (Ne.symm e)) fun y hy => h y (List.mem_cons_of_mem _ hy)
      rw [h o List.mem_cons_self e]; omega
theorem inj_of_count {f : Int → Int} : ∀ {l : List Int}, (∀ x, x ≠ 0 → (l.map f).count x ≤ 1) → ∀ j ∈ l, ∀ k ∈ l, f j = f k → f j ≠ 0 → j = k
  | o :: l, h, j, hj, k, hk => fun e n => by
    have h' : ∀ x, x ≠ 0 → (l.map f).count x ≤ 1 := fun x hx => by
      have := h x hx
      rw [List.map_cons, List.count_cons] at this
      omega
    have two : ∀ y ∈ l, f o = f y → f y ≠ 0 → False := fun y hy e n => by
      have := h (f y) n
      rw [List.map_cons, List.count_cons, e, if_pos (by simp)] at this
      have : 0 < (l.map f).count (f y) := List.count_pos_iff.mpr (List.mem_map.mpr ⟨y, hy, rfl⟩)
      omega
    rcases List.mem_cons.mp hj with a | a <;> rcases List.mem_cons.mp hk with b | b
    · rw [a, b]
    · subst a; exact (two k b e (by rw [← e]; exact n)).elim
    · subst b; exact (two j a e.symm n).elim
    · exact inj_of_count h' j a k b e n
/-- links of chains, counted -/
structure LC (es : List (Int × Int)) : Prop where
  ok : LOk es
  cl : ∀ k ∈ keysL es, atK es k = 0 ∨ atK es k ∈ keysL es
  ct : ∀ x, x ≠ 0 → ((keysL es).map (atK es)).count x ≤ 1
theorem LC.visit {es : List (Int × Int)} (h : LC es) {r : Int} (hr : 0 < r) : LC (visitL es r) := by
  have ek : keysL (visitL es r) = addK (keysL es) r := visitL_keys es r
  obtain ⟨h1, h2⟩ := visit_at h.ok r
  have nd : (sortI (keysL es)).Nodup := ((sortI_perm _).nodup_iff).mpr h.ok.nd
  have spf := scanP_fst (atK es) r (sortI (keysL es)) ((lookI es r).getD r)
  have hm : ∀ k, k ∈ sortI (keysL es) ↔ k ∈ keysL es := fun k => (sortI_perm _).mem_iff
  have hcur : (lookI es r).getD r = 0 ∨ (lookI es r).getD r ∈ addK (keysL es) r := by
    by_cases hk : r ∈ keysL es
    · rw [lookI_key hk]
      rcases h.cl r hk with q | q
      · exact .inl q
      · exact .inr (mem_addK.mpr (.inl q))
    · rw [lookI_no hk]; exact .inr (mem_addK.mpr (.inr rfl))
  refine ⟨h.ok.visit hr, fun k hk => ?_, fun x hx => ?_⟩
  · rw [ek] at hk ⊢
    by_cases e : k = r
    · rw [e]; exact .inl h1
    · have hk' := (hm k).mpr ((mem_addK.mp hk).resolve_right e)
      rw [← spf] at hk'
      obtain ⟨p, hp, rfl⟩ := List.mem_map.mp hk'
      rw [h2 p hp e]
      rcases scan_mem _ _ _ _ p hp with q | ⟨o, ho, q⟩
      · rw [q]; exact hcur
      · rw [q]
        rcases h.cl o ((hm o).mp ho) with w | w
        · exact .inl w
        · exact .inr (mem_addK.mpr (.inl w))
  · have cs := scan_count (atK es) r x (sortI (keysL es)) ((lookI es r).getD r)
    have cp := ((sortI_perm (keysL es)).map (atK es)).count_eq x
    have ct := h.ct x hx
    rw [ek]
    by_cases hk : r ∈ keysL es
    · rw [addK_in hk, ← ((sortI_perm (keysL es)).map (atK (visitL es r))).count_eq x]
      let g : Int → Int := fun o => if o = r then atK es r else atK (visitL es r) o
      have e1 : (sortI (keysL es)).map g = (scanP (atK es) r ((lookI es r).getD r) (sortI (keysL es))).map (·.2) := by
        have := map_scan (f := g) spf fun p hp => by
          show (if p.1 = r then atK es r else atK (visitL es r) p.1) = p.2
          by_cases e : p.1 = r
          · rw [if_pos e]; exact (scan_self _ _ _ _ p hp e).symm
          · rw [if_neg e]; exact h2 p hp e
        rw [← this, List.map_map]; rfl
      have e2 := count_repl (f := atK (visitL es r)) (g := g) (r := r) (x := x) nd ((hm r).mpr hk) fun o _ ho => (if_neg ho).symm
      have eg : g r = atK es r := if_pos rfl
      have hc : (lookI es r).getD r = atK es r := by rw [lookI_key hk]; rfl
      rw [e1, eg, h1, if_neg (Ne.symm hx)] at e2
      rw [hc] at cs e2
      omega
    · unfold addK
      rw [if_neg hk, List.map_append, List.count_append, List.map_singleton, h1, List.count_singleton]
      have e0 : ((0 : Int) == x) = false := by simp [Ne.symm hx]
      have e1 : (sortI (keysL es)).map (atK (visitL es r)) = (scanP (atK es) r ((lookI es r).getD r) (sortI (keysL es))).map (·.2) := by
        have := map_scan (f := atK (visitL es r)) spf fun p hp => h2 p hp fun z => hk ((hm r).mp (by
          have q : p.1 ∈ sortI (keysL es) := by rw [← spf]; exact List.mem_map.mpr ⟨p, hp, rfl⟩
          rw [← z]; exact q))
        rw [← this, List.map_map]; rfl
      rw [← ((sortI_perm (keysL es)).map (atK (visitL es r))).count_eq x, e1]
      have hc : (lookI es r).getD r = r := by rw [lookI_no hk]; rfl
      rw [hc] at cs ⊢
      simp only [e0]
      by_cases e : r = x
      · subst e
        have : ((keysL es).map (atK es)).count r = 0 := List.count_eq_zero.mpr fun z => by
          obtain ⟨k, hk', e⟩ := List.mem_map.mp z
          rcases h.cl k hk' with q | q
          · omega
          · exact hk (by rw [← e]; exact q)
        rw [if_pos rfl] at cs
        simp
        omega
      · rw [if_neg e] at cs
        simp
        omega
theorem LC.links {v : List Int} (hv : ∀ r ∈ v, 0 < r) : LC (linksOf v) := by
  induction v using list_snoc_ind with
  | h0 => exact ⟨⟨List.nodup_nil, nofun⟩, nofun, fun x _ => by simp [linksOf, keysL]⟩
  | h1 v r ih =>
    rw [linksOf_snoc]
    exact (ih fun x hx => hv x (List.mem_append_left _ hx)).visit (hv r (by simp))
end DL

namespace DL
open PySem
theorem ch_fold {es : List (Int × Int)} (h : LC es) (hpos : ∀ k ∈ keysL es, 0 < k) : ∀ (post pre : List Int) (fo : List (Int × List Int)), pre ++ post = sortI (keysL es) → ChI (atK es) pre fo →
    ∃ fo', post.foldlM (chStep es) fo = some fo' ∧ ChI (atK es) (sortI (keysL es)) fo'
  | [], pre, fo, e, c => ⟨fo, rfl, by rw [← e, List.append_nil]; exact c⟩
  | r :: post, pre, fo, e, c => by
    have st := sortI_strict h.ok.nd
    have hm : ∀ k, k ∈ sortI (keysL es) ↔ k ∈ keysL es := fun k => (sortI_perm _).mem_iff
    have hrk : r ∈ keysL es := (hm r).mp (by rw [← e]; simp)
    have hpk : ∀ k ∈ pre, k ∈ keysL es := fun k hk => (hm k).mp (by rw [← e]; simp [hk])
    rw [← e, List.pairwise_append] at st
    obtain ⟨_, s2, s3⟩ := st
    have v := h.ok.val r hrk
    obtain ⟨f1, h1, h2⟩ := chStep_keeps (es := es) (r := r) c (fun k hk => ⟨hpos k (hpk k hk), s3 k hk r List.mem_cons_self, (h.ok.val k (hpk k hk)).2⟩) v.1 v.2 (by
      rcases h.cl r hrk with q | q
      · exact .inl q
      · have q' := (hm _).mpr q
        rw [← e] at q'
        rcases List.mem_append.mp q' with w | w
        · exact .inr w
        · exfalso
          rcases List.mem_cons.mp w with w | w
          · omega
          · have := (List.pairwise_cons.mp s2).1 _ w; omega) (fun n j hj z => by
      have := inj_of_count h.ct j (hpk j hj) r hrk z (by rw [z]; exact n)
      have := s3 j hj r List.mem_cons_self
      omega)
    obtain ⟨f2, h3, h4⟩ := ch_fold h hpos post (pre ++ [r]) f1 (by rw [List.append_assoc]; exact e) h2
    exact ⟨f2, by rw [List.foldlM_cons, h1]; exact h3, h4⟩
theorem chI_nil (a : Int → Int) : ChI a [] [] := ⟨fun k => by simp, List.nodup_nil, nofun, nofun, fun lo hi _ => rfl, List.Perm.nil⟩
/-- the chains of links -/
theorem chains_of_links {es : List (Int × Int)} (h : LC es) (hpos : ∀ k ∈ keysL es, 0 < k) : ∃ cs, chainsL es = some cs ∧ (∀ c ∈ cs, Asc c ∧ c ≠ []) ∧ cs.flatten.Perm (keysL es) ∧ ∀ lo hi, 0 < lo → meetI cs lo hi = Mc es lo hi := by
  obtain ⟨fo, h1, h2⟩ := ch_fold h hpos (sortI (keysL es)) [] [] rfl (chI_nil _)
  have p : (sortL (fo.map (·.2))).Perm (fo.map (·.2)) := sortL_perm _
  refine ⟨sortL (fo.map (·.2)), ?_, fun c hc => ?_, ?_, fun lo hi hlo => ?_⟩
  · unfold chainsL
    rw [show sortI (es.map (·.1)) = sortI (keysL es) from rfl, h1]; rfl
  · obtain ⟨q, hq, rfl⟩ := List.mem_map.mp (p.mem_iff.mp hc)
    refine ⟨h2.asc q hq, ?_⟩
    obtain ⟨w, e⟩ := h2.last q hq
    rw [e]; simp
  · exact (p.flatten.trans h2.perm).trans (sortI_perm _)
  · rw [meetI_perm p, h2.num lo hi hlo]; rfl
end DL

namespace DL
open PySem
theorem keys_links (v : List Int) : ∀ k, k ∈ keysL (linksOf v) ↔ k ∈ v := by
  induction v using list_snoc_ind with
  | h0 => intro k; simp [linksOf, keysL]
  | h1 v r ih =>
    intro k
    rw [linksOf_snoc, show keysL (visitL (linksOf v) r) = addK (keysL (linksOf v)) r from visitL_keys _ r, mem_addK, ih]
    simp
/-- the chains of a row -/
theorem chains_row {v : List Int} (hv : ∀ r ∈ v, 0 < r) (hl : v.length < 60) : ∃ cs, fn_chains_of [iL v] = some (chT cs) ∧ (∀ c ∈ cs, Asc c ∧ c ≠ []) ∧ cs.flatten.Nodup ∧ (∀ k, k ∈ cs.flatten ↔ k ∈ v) ∧ ∀ lo hi, 0 < lo → (meetI cs lo hi : Int) = longI lo hi v := by
  have h := LC.links hv
  obtain ⟨cs, h1, h2, h3, h4⟩ := chains_of_links h fun k hk => hv k ((keys_links v k).mp hk)
  exact ⟨cs, fn_chains_eq hl h1, h2, (h3.nodup_iff).mpr h.ok.nd, fun k => (h3.mem_iff).trans (keys_links v k), fun lo hi hlo => by rw [h4 lo hi hlo, Mc_long hv lo hi hlo]⟩
end DL

namespace DL
open PySem
theorem sub_snoc {α : Type} {s v : List α} {r : α} (h : s.Sublist (v ++ [r])) : s.Sublist v ∨ ∃ s1, s = s1 ++ [r] ∧ s1.Sublist v := by
  obtain ⟨a, b, rfl, h1, h2⟩ := List.sublist_append_iff.mp h
  cases h2 with
  | cons _ h => rw [List.sublist_nil.mp h, List.append_nil]; exact .inl h1
  | cons_cons _ h => rw [List.sublist_nil.mp h]; exact .inr ⟨a, rfl, h1⟩
/-- no increasing choice is longer -/
theorem long_ge {v : List Int} {lo : Int} : ∀ (hi : Int) (s : List Int), s.Sublist v → Asc s → (∀ x ∈ s, inR lo hi x = true) → (s.length : Int) ≤ longI lo hi v := by
  induction v using list_snoc_ind with
  | h0 =>
    intro hi s h _ _
    rw [List.sublist_nil.mp h]
    simp [longI, endsE, maxI]
  | h1 v r ih =>
    intro hi s h a m
    rw [long_step]
    rcases sub_snoc h with q | ⟨s1, rfl, q⟩
    · have := ih hi s q a m
      split <;> omega
    · have hr := inR_iff.mp (m r (by simp))
      rw [if_pos hr]
      unfold Asc at a
      rw [List.pairwise_append] at a
      have := ih (r - 1) s1 q a.1 fun x hx => inR_iff.mpr (by
        have h1 := inR_iff.mp (m x (List.mem_append_left _ hx))
        have h2 := a.2.2 x hx r (List.mem_singleton.mpr rfl)
        omega)
      rw [List.length_append, List.length_singleton]
      omega
/-- one is as long -/
theorem long_has {v : List Int} {lo : Int} : ∀ hi : Int, ∃ s, s.Sublist v ∧ Asc s ∧ (∀ x ∈ s, inR lo hi x = true) ∧ (s.length : Int) = longI lo hi v := by
  induction v using list_snoc_ind with
  | h0 => exact fun hi => ⟨[], List.Sublist.refl _, List.Pairwise.nil, nofun, by simp [longI, endsE, maxI]⟩
  | h1 v r ih =>
    intro hi
    rw [long_step]
    obtain ⟨s, h1, h2, h3, h4⟩ := ih hi
    by_cases c : lo ≤ r ∧ r ≤ hi
    · rw [if_pos c]
      obtain ⟨t, t1, t2, t3, t4⟩ := ih (r - 1)
      by_cases d : longI lo hi v ≤ longI lo (r - 1) v
      · refine ⟨t ++ [r], t1.append (List.Sublist.refl _), ?_, fun x hx => ?_, ?_⟩
        · unfold Asc
          rw [List.pairwise_append]
          refine ⟨t2, by simp, fun x hx y hy => ?_⟩
          have : y = r := by simpa using hy
          have := (inR_iff.mp (t3 x hx)).2
          omega
        · rcases List.mem_append.mp hx with hx | hx
          · have := inR_iff.mp (t3 x hx)
            exact inR_iff.mpr (by omega)
          · have : x = r := by simpa using hx
            subst this; exact inR_iff.mpr c
        · rw [List.length_append, List.length_singleton]; omega
      · refine ⟨s, h1.trans (List.sublist_append_left _ _), h2, h3, by omega⟩
    · rw [if_neg c]
      exact ⟨s, h1.trans (List.sublist_append_left _ _), h2, h3, h4⟩
end DL

namespace DL
open PySem
theorem asc_len : ∀ (l : List Int) (m : Int), Asc l → (∀ x ∈ l, 1 ≤ x ∧ x ≤ m) → 0 ≤ m → (l.length : Int) ≤ m := by
  intro l
  induction l using list_snoc_ind with
  | h0 => intro m _ _ h; simpa using h
  | h1 l r ih =>
    intro m a h _
    unfold Asc at a
    rw [List.pairwise_append] at a
    have hr := h r (by simp)
    have := ih (r - 1) a.1 (fun x hx => by
      have h1 := h x (List.mem_append_left _ hx)
      have h2 := a.2.2 x hx r (List.mem_singleton.mpr rfl)
      omega) (by omega)
    rw [List.length_append, List.length_singleton]
    omega
theorem asc_len_miss {l : List Int} {m c : Int} (a : Asc l) (h : ∀ x ∈ l, 1 ≤ x ∧ x ≤ m) (hc : 1 ≤ c ∧ c ≤ m) (hn : c ∉ l) : (l.length : Int) ≤ m - 1 := by
  have := asc_len (l.map fun x => if c < x then x - 1 else x) (m - 1) (by
    unfold Asc at a ⊢
    rw [List.pairwise_map]
    refine List.Pairwise.imp_of_mem ?_ a
    intro x y hx hy hxy
    have n1 : x ≠ c := fun z => hn (by rw [← z]; exact hx)
    have n2 : y ≠ c := fun z => hn (by rw [← z]; exact hy)
    split <;> split <;> omega) (fun x hx => by
    obtain ⟨y, hy, rfl⟩ := List.mem_map.mp hx
    have n1 : y ≠ c := fun z => hn (by rw [← z]; exact hy)
    have := h y hy
    split <;> omega) (by omega)
  simpa using this
theorem ends_pairs (lo hi : Int) (v : List Int) : (endsE lo hi v).Pairwise (fun p q => inR lo hi q.1 = true → p.1 < q.1 → p.2 < q.2) ∧ ∀ p ∈ endsE lo hi v, inR lo hi p.1 = true → 1 ≤ p.2 := by
  induction v using list_snoc_ind with
  | h0 => exact ⟨List.Pairwise.nil, nofun⟩
  | h1 v r ih =>
    rw [endsE_snoc]
    unfold endStep
    constructor
    · rw [List.pairwise_append]
      refine ⟨ih.1, by simp, fun p hp q hq => ?_⟩
      have e : q = _ := List.mem_singleton.mp hq
      rw [e]
      intro h1 h2
      dsimp only at h1 h2 ⊢
      rw [if_pos h1]
      have := maxI_ge (ns := ((endsE lo hi v).filter fun p => decide (p.1 < r)).map (·.2) ++ [0]) (y := p.2) (List.mem_append_left _ (List.mem_map.mpr ⟨p, List.mem_filter.mpr ⟨hp, decide_eq_true h2⟩, rfl⟩))
      omega
    · intro p hp h
      rcases List.mem_append.mp hp with hp | hp
      · exact ih.2 p hp h
      · have e : p = _ := List.mem_singleton.mp hp
        rw [e] at h ⊢
        dsimp only at h ⊢
        rw [if_pos h]
        have := maxI_ge (ns := ((endsE lo hi v).filter fun p => decide (p.1 < r)).map (·.2) ++ [0]) (y := 0) (by simp)
        omega
theorem ends_le (lo hi : Int) (v : List Int) : ∀ p ∈ endsE lo hi v, p.2 ≤ longI lo hi v := fun p hp => maxI_ge (List.mem_append_left _ (List.mem_map.mpr ⟨p, hp, rfl⟩))
/-- the labels of an increasing choice -/
theorem labels {lo hi : Int} {v : List Int} {t : List (Int × Int)} (h : t.Sublist (endsE lo hi v)) (a : Asc (t.map (·.1))) (hr : ∀ x ∈ t.map (·.1), inR lo hi x = true) : Asc (t.map (·.2)) ∧ ∀ x ∈ t.map (·.2), 1 ≤ x ∧ x ≤ longI lo hi v := by
  obtain ⟨e1, e2⟩ := ends_pairs lo hi v
  constructor
  · unfold Asc at a ⊢
    rw [List.pairwise_map] at a ⊢
    refine List.Pairwise.imp_of_mem ?_ (a.and (e1.sublist h))
    intro p q hp hq z
    exact z.2 (hr _ (List.mem_map.mpr ⟨q, hq, rfl⟩)) z.1
  · intro x hx
    obtain ⟨p, hp, rfl⟩ := List.mem_map.mp hx
    exact ⟨e2 p (h.subset hp) (hr _ (List.mem_map.mpr ⟨p, hp, rfl⟩)), ends_le lo hi v p (h.subset hp)⟩
theorem filter_ne_len : ∀ {t : List (Int × Int)} {c : Int}, (t.map (·.2)).Nodup → t.length ≤ (t.filter fun p => decide (p.2 ≠ c)).length + 1
  | [], c, _ => Nat.zero_le _
  | p :: t, c, nd => by
    rw [List.map_cons] at nd
    obtain ⟨n1, n2⟩ := List.nodup_cons.mp nd
    by_cases e : p.2 = c
    · have : (t.filter fun p => decide (p.2 ≠ c)) = t := List.filter_eq_self.mpr fun q hq => decide_eq_true fun z => n1 (by rw [e, ← z]; exact List.mem_map.mpr ⟨q, hq, rfl⟩)
      rw [List.filter_cons_of_neg (by simp [e]), this, List.length_cons]; omega
    · rw [List.filter_cons_of_pos (by simp [e])]
      have := filter_ne_len (c := c) n2
      simp only [List.length_cons]; omega
def restE (lo hi : Int) (v : List Int) (c : Int) : List Int := ((endsE lo hi v).filter fun p => decide (p.2 ≠ c)).map (·.1)
/-- without a pile the longest choice is one shorter -/
theorem long_rest {lo hi : Int} {v : List Int} {c : Int} (h1 : 1 ≤ c) (h2 : c ≤ longI lo hi v) : longI lo hi (restE lo hi v c) = longI lo hi v - 1 := by
  have up : longI lo hi (restE lo hi v c) ≤ longI lo hi v - 1 := by
    obtain ⟨s, s1, s2, s3, s4⟩ := long_has (v := restE lo hi v c) (lo := lo) hi
    obtain ⟨t, t1, rfl⟩ := List.sublist_map_iff.mp s1
    obtain ⟨l1, l2⟩ := labels (t1.trans (List.filter_sublist)) s2 s3
    have := asc_len_miss l1 l2 ⟨h1, h2⟩ fun z => by
      obtain ⟨p, hp, e⟩ := List.mem_map.mp z
      have := (List.mem_filter.mp (t1.subset hp)).2
      simp [e] at this
    rw [List.length_map] at this s4
    omega
  have dn : longI lo hi v - 1 ≤ longI lo hi (restE lo hi v c) := by
    obtain ⟨s, s1, s2, s3, s4⟩ := long_has (v := v) (lo := lo) hi
    rw [← endsE_fst lo hi v] at s1
    obtain ⟨t, t1, rfl⟩ := List.sublist_map_iff.mp s1
    obtain ⟨l1, l2⟩ := labels t1 s2 s3
    have nd : (t.map (·.2)).Nodup := by
      unfold Asc at l1
      exact l1.imp fun h => by omega
    have k := filter_ne_len (c := c) nd
    have g := long_ge (v := restE lo hi v c) (lo := lo) hi ((t.filter fun p => decide (p.2 ≠ c)).map (·.1)) ((t1.filter _).map _) (by
      unfold Asc at s2 ⊢
      exact s2.sublist ((List.filter_sublist).map _)) fun x hx => s3 x (((List.filter_sublist).map _).subset hx)
    rw [List.length_map] at g s4
    omega
  omega
end DL

namespace DL
open PySem
/-- below a labelled place stands one with the label below -/
theorem ends_prev {lo hi : Int} (v : List Int) : ∀ (k : Nat) (p : Int × Int), (endsE lo hi v)[k]? = some p → 0 < p.2 → inR lo hi p.1 = true ∧ (1 < p.2 → ∃ (j : Nat) (q : Int × Int), j < k ∧ (endsE lo hi v)[j]? = some q ∧ q.2 = p.2 - 1 ∧ q.1 < p.1) := by
  induction v using list_snoc_ind with
  | h0 => intro k p h; simp [endsE] at h
  | h1 v r ih =>
    intro k p h h0
    rw [endsE_snoc] at h ⊢
    unfold endStep at h ⊢
    by_cases c : k < (endsE lo hi v).length
    · rw [List.getElem?_append_left c] at h
      obtain ⟨a, b⟩ := ih k p h h0
      refine ⟨a, fun z => ?_⟩
      obtain ⟨j, q, h1, h2, h3⟩ := b z
      exact ⟨j, q, h1, by rw [List.getElem?_append_left (by omega)]; exact h2, h3⟩
    · rw [List.getElem?_append_right (by omega)] at h
      have hk : k = (endsE lo hi v).length := by
        have := (List.getElem?_eq_some_iff.mp h).1
        simp at this; omega
      rw [hk, Nat.sub_self] at h
      have e : p = _ := (Option.some.inj h).symm
      by_cases i : inR lo hi r = true
      · rw [if_pos i] at e
        rw [e] at h0 ⊢
        refine ⟨i, fun z => ?_⟩
        dsimp only at z ⊢
        have mm := maxI_mem (ns := ((endsE lo hi v).filter fun p => decide (p.1 < r)).map (·.2) ++ [0]) (by simp)
        rcases List.mem_append.mp mm with w | w
        · obtain ⟨q, hq, e2⟩ := List.mem_map.mp w
          obtain ⟨q1, q2⟩ := List.mem_filter.mp hq
          obtain ⟨j, hj, e3⟩ := List.getElem_of_mem q1
          exact ⟨j, q, by omega, by rw [List.getElem?_append_left hj, List.getElem?_eq_getElem hj, e3], by omega, of_decide_eq_true q2⟩
        · have : maxI (((endsE lo hi v).filter fun p => decide (p.1 < r)).map (·.2) ++ [0]) = 0 := by simpa using w
          omega
      · rw [if_neg i] at e
        rw [e] at h0
        exact absurd h0 (by simp)
end DL

namespace DL
open PySem
structure PkI (lo hi : Int) (v : List Int) (n : Nat) (s : List Int × Int × Int) (C : List Int) : Prop where
  rev : s.1.reverse = C
  pos : 0 ≤ s.2.1
  sum : s.2.1 + C.length = longI lo hi v
  more : 0 < s.2.1 → ∃ (k : Nat) (q : Int × Int), k < n ∧ (endsE lo hi v)[k]? = some q ∧ q.2 = s.2.1 ∧ q.1 < s.2.2
  idx : ∀ k ∈ C, (n : Int) ≤ k ∧ k < v.length
  asc : Asc C
  vals : Asc (C.map fun k => v.getD k.toNat 0)
  rng : ∀ k ∈ C, inR lo hi (v.getD k.toNat 0) = true
  bnd : ∀ k ∈ C, s.2.2 ≤ v.getD k.toNat 0
  lab : ∀ (i : Nat) (k : Int), C[i]? = some k → (endsI lo hi v).getD k.toNat 0 = s.2.1 + 1 + i
theorem ends_at {lo hi : Int} {v : List Int} {k : Nat} (h : k < v.length) : (endsE lo hi v)[k]? = some (v.getD k 0, (endsI lo hi v).getD k 0) := by
  have hl : k < (endsE lo hi v).length := by rw [endsE_len]; exact h
  rw [List.getElem?_eq_getElem hl]
  have e1 : (endsI lo hi v).getD k 0 = ((endsE lo hi v)[k]).2 := by
    unfold endsI
    rw [List.getD_eq_getElem?_getD, List.getElem?_map, List.getElem?_eq_getElem hl]; rfl
  have e2 : v.getD k 0 = ((endsE lo hi v)[k]).1 := by
    have : v[k]? = ((endsE lo hi v).map (·.1))[k]? := by rw [endsE_fst]
    rw [List.getD_eq_getElem?_getD, this, List.getElem?_map, List.getElem?_eq_getElem hl]; rfl
  rw [e1, e2]
theorem pick_go (lo hi : Int) (v : List Int) : ∀ (n : Nat) (s : List Int × Int × Int) (C : List Int), n ≤ v.length → PkI lo hi v n s C → ∃ C', PkI lo hi v 0 ((downI n).foldl (pickStep v (endsI lo hi v)) s) C'
  | 0, s, C, _, h => ⟨C, h⟩
  | n + 1, s, C, hn, h => by
    rw [downI_succ, List.foldl_cons]
    have ea := ends_at (lo := lo) (hi := hi) (v := v) (k := n) (by omega)
    unfold pickStep
    rw [Int.toNat_natCast]
    by_cases c : 0 < s.2.1 ∧ (endsI lo hi v).getD n 0 = s.2.1 ∧ v.getD n 0 < s.2.2
    · rw [if_pos c]
      obtain ⟨p1, p2⟩ := ends_prev v n _ ea (by dsimp only; omega)
      refine pick_go lo hi v n _ ((n : Int) :: C) (by omega) ⟨?_, by dsimp only; omega, ?_, fun z => ?_, fun k hk => ?_, ?_, ?_, fun k hk => ?_, fun k hk => ?_, fun i k hk => ?_⟩
      · rw [List.reverse_append, h.rev]; rfl
      · have := h.sum
        rw [List.length_cons]; dsimp only; omega
      · obtain ⟨j, q, j1, j2, j3, j4⟩ := p2 (by dsimp only at z ⊢; omega)
        exact ⟨j, q, j1, j2, by dsimp only at j3 ⊢; omega, j4⟩
      · rcases List.mem_cons.mp hk with e | e
        · omega
        · have := h.idx k e; omega
      · unfold Asc
        rw [List.pairwise_cons]
        exact ⟨fun k hk => by have := (h.idx k hk).1; omega, h.asc⟩
      · unfold Asc
        rw [List.map_cons, List.pairwise_cons]
        refine ⟨fun x hx => ?_, h.vals⟩
        obtain ⟨k, hk, rfl⟩ := List.mem_map.mp hx
        have := h.bnd k hk
        rw [Int.toNat_natCast]; omega
      · rcases List.mem_cons.mp hk with e | e
        · rw [e, Int.toNat_natCast]; exact p1
        · exact h.rng k e
      · rcases List.mem_cons.mp hk with e | e
        · rw [e, Int.toNat_natCast]; exact Int.le_refl _
        · have := h.bnd k e; dsimp only; omega
      · cases i with
        | zero =>
          have : (n : Int) = k := Option.some.inj hk
          rw [← this, Int.toNat_natCast]; dsimp only; omega
        | succ i =>
          have := h.lab i k hk
          rw [this]; dsimp only; omega
    · rw [if_neg c]
      refine pick_go lo hi v n s C (by omega) ⟨h.rev, h.pos, h.sum, fun z => ?_, fun k hk => ?_, h.asc, h.vals, h.rng, h.bnd, h.lab⟩
      · obtain ⟨k, q, h1, h2, h3, h4⟩ := h.more z
        by_cases e : k = n
        · subst e
          rw [ea] at h2
          cases h2
          exact absurd ⟨z, h3, h4⟩ c
        · exact ⟨k, q, by omega, h2, h3, h4⟩
      · have := h.idx k hk; omega
/-- THE CHOICE -/
theorem choice_ok (lo hi : Int) (v : List Int) : ((choiceI lo hi v).length : Int) = longI lo hi v ∧ (∀ k ∈ choiceI lo hi v, 0 ≤ k ∧ k < v.length) ∧ Asc (choiceI lo hi v) ∧ Asc ((choiceI lo hi v).map fun k => v.getD k.toNat 0) ∧ (∀ k ∈ choiceI lo hi v, inR lo hi (v.getD k.toNat 0) = true) ∧
    ∀ (i : Nat) (k : Int), (choiceI lo hi v)[i]? = some k → (endsI lo hi v).getD k.toNat 0 = 1 + i := by
  have h0 : 0 ≤ longI lo hi v := maxI_ge (by simp)
  obtain ⟨C, h⟩ := pick_go lo hi v v.length ([], longI lo hi v, hi + 1) [] (Nat.le_refl _) ⟨rfl, h0, by simp, fun z => by
    have mm := maxI_mem (ns := (endsE lo hi v).map (·.2) ++ [0]) (by simp)
    rcases List.mem_append.mp mm with w | w
    · obtain ⟨q, hq, e⟩ := List.mem_map.mp w
      obtain ⟨j, hj, e3⟩ := List.getElem_of_mem hq
      have e4 : (endsE lo hi v)[j]? = some q := by rw [List.getElem?_eq_getElem hj, e3]
      have p := (ends_prev v j q e4 (by rw [e]; exact z)).1
      refine ⟨j, q, by rw [← endsE_len lo hi v]; exact hj, e4, e, ?_⟩
      have := (inR_iff.mp p).2
      dsimp only; omega
    · have : longI lo hi v = 0 := by simpa [longI] using w
      exfalso; dsimp only at z; omega, nofun, List.Pairwise.nil, List.Pairwise.nil, nofun, nofun, fun i k hk => by simp at hk⟩
  have e : choiceI lo hi v = C := h.rev
  have n0 : (pickI lo hi v (downI v.length)).2.1 = 0 := by
    have p := h.pos
    by_cases z : 0 < (pickI lo hi v (downI v.length)).2.1
    · obtain ⟨k, q, h1, _⟩ := h.more z
      omega
    · unfold pickI at z ⊢
      omega
  have sm := h.sum
  unfold pickI at n0
  rw [e]
  refine ⟨by omega, fun k hk => ?_, h.asc, h.vals, h.rng, fun i k hk => ?_⟩
  · have := h.idx k hk; omega
  · have := h.lab i k hk
    rw [n0] at this
    omega
end DL

namespace DL
open PySem
/-! ### the longest choice of one list behind another -/
theorem long_nn (lo hi : Int) (v : List Int) : 0 ≤ longI lo hi v := maxI_ge (by simp)
theorem long_none {lo hi : Int} (h : hi < lo) (v : List Int) : longI lo hi v = 0 := by
  obtain ⟨s, _, _, h3, h4⟩ := long_has (v := v) (lo := lo) hi
  cases s with
  | nil => exact h4.symm
  | cons x s => have := inR_iff.mp (h3 x List.mem_cons_self); omega
theorem long_nil (lo hi : Int) : longI lo hi [] = 0 := by simp [longI, endsE, maxI]
theorem long_sub {v w : List Int} (h : v.Sublist w) {lo hi lo' hi' : Int} (h1 : lo' ≤ lo) (h2 : hi ≤ hi') : longI lo hi v ≤ longI lo' hi' w := by
  obtain ⟨s, s1, s2, s3, s4⟩ := long_has (v := v) (lo := lo) hi
  rw [← s4]
  exact long_ge hi' s (s1.trans h) s2 fun x hx => inR_iff.mpr (by have := inR_iff.mp (s3 x hx); omega)
theorem long_app_ge {v w : List Int} {lo hi m : Int} (h1 : lo ≤ m + 1) (h2 : m ≤ hi) : longI lo m v + longI (m + 1) hi w ≤ longI lo hi (v ++ w) := by
  obtain ⟨s, s1, s2, s3, s4⟩ := long_has (v := v) (lo := lo) m
  obtain ⟨t, t1, t2, t3, t4⟩ := long_has (v := w) (lo := m + 1) hi
  rw [← s4, ← t4]
  have := long_ge (v := v ++ w) (lo := lo) hi (s ++ t) (s1.append t1) (by
    unfold Asc
    rw [List.pairwise_append]
    exact ⟨s2, t2, fun x hx y hy => by have := inR_iff.mp (s3 x hx); have := inR_iff.mp (t3 y hy); omega⟩) fun x hx => inR_iff.mpr (by
      rcases List.mem_append.mp hx with hx | hx
      · have := inR_iff.mp (s3 x hx); omega
      · have := inR_iff.mp (t3 x hx); omega)
  rw [List.length_append] at this
  omega
theorem long_app_has {v w : List Int} {lo hi : Int} (h : lo ≤ hi + 1) : ∃ m, lo ≤ m + 1 ∧ m ≤ hi ∧ longI lo hi (v ++ w) = longI lo m v + longI (m + 1) hi w := by
  obtain ⟨s, s1, s2, s3, s4⟩ := long_has (v := v ++ w) (lo := lo) hi
  obtain ⟨a, b, rfl, a1, b1⟩ := List.sublist_append_iff.mp s1
  unfold Asc at s2
  rw [List.pairwise_append] at s2
  obtain ⟨p1, p2, p3⟩ := s2
  have key : ∀ m, lo ≤ m + 1 → m ≤ hi → (∀ x ∈ a, x ≤ m) → (∀ y ∈ b, m + 1 ≤ y) → longI lo hi (v ++ w) = longI lo m v + longI (m + 1) hi w := by
    intro m m1 m2 m3 m4
    have e1 := long_ge (v := v) (lo := lo) m a a1 p1 fun x hx => inR_iff.mpr (by have := inR_iff.mp (s3 x (List.mem_append_left _ hx)); have := m3 x hx; omega)
    have e2 := long_ge (v := w) (lo := m + 1) hi b b1 p2 fun x hx => inR_iff.mpr (by have := inR_iff.mp (s3 x (List.mem_append_right _ hx)); have := m4 x hx; omega)
    have e3 := long_app_ge (v := v) (w := w) m1 m2
    rw [List.length_append] at s4
    omega
  rcases List.eq_nil_or_concat a with rfl | ⟨a', x, rfl⟩
  · exact ⟨lo - 1, by omega, by omega, key _ (by omega) (by omega) nofun fun y hy => by have := inR_iff.mp (s3 y (List.mem_append_right _ hy)); omega⟩
  · have hx := inR_iff.mp (s3 x (List.mem_append_left _ (by simp)))
    refine ⟨x, by omega, hx.2, key _ (by omega) hx.2 (fun y hy => ?_) fun y hy => by have := p3 x (by simp) y hy; omega⟩
    rw [List.concat_eq_append, List.pairwise_append] at p1
    rw [List.concat_eq_append] at hy
    rcases List.mem_append.mp hy with hy | hy
    · have := p1.2.2 y hy x (by simp); omega
    · have : y = x := by simpa using hy
      omega
/-- two lists with the same longest choices -/
def LEq (v w : List Int) : Prop := ∀ lo hi, 0 < lo → longI lo hi v = longI lo hi w
theorem LEq.app {v v' w w' : List Int} (h1 : LEq v v') (h2 : LEq w w') : LEq (v ++ w) (v' ++ w') := by
  have key : ∀ {v v' w w' : List Int}, LEq v v' → LEq w w' → ∀ lo hi, 0 < lo → longI lo hi (v ++ w) ≤ longI lo hi (v' ++ w') := by
    intro v v' w w' h1 h2 lo hi hlo
    by_cases h : lo ≤ hi + 1
    · obtain ⟨m, m1, m2, e⟩ := long_app_has (v := v) (w := w) h
      rw [e, h1 lo m hlo, h2 (m + 1) hi (by omega)]
      exact long_app_ge m1 m2
    · rw [long_none (by omega), long_none (by omega)]; exact Int.le_refl _
  exact fun lo hi hlo => Int.le_antisymm (key h1 h2 lo hi hlo) (key (fun a b c => (h1 a b c).symm) (fun a b c => (h2 a b c).symm) lo hi hlo)
end DL

namespace DL
open PySem
/-! ### chains are told by their counts -/
structure CHS (cs : List (List Int)) : Prop where
  asc : ∀ c ∈ cs, Asc c
  ne : ∀ c ∈ cs, c ≠ []
  nd : cs.flatten.Nodup
  pos : ∀ k ∈ cs.flatten, 0 < k
  srt : cs.Pairwise fun a b => lexL b a = false
theorem chain_uniq : ∀ {cs : List (List Int)}, cs.flatten.Nodup → ∀ {c d : List Int} {x : Int}, c ∈ cs → d ∈ cs → x ∈ c → x ∈ d → c = d
  | e :: cs, nd, c, d, x, hc, hd, xc, xd => by
    rw [List.flatten_cons, List.nodup_append] at nd
    obtain ⟨_, n2, n3⟩ := nd
    rcases List.mem_cons.mp hc with rfl | hc' <;> rcases List.mem_cons.mp hd with rfl | hd'
    · rfl
    · exact absurd rfl (n3 x xc x (List.mem_flatten.mpr ⟨d, hd', xd⟩))
    · exact absurd rfl (n3 x xd x (List.mem_flatten.mpr ⟨c, hc', xc⟩))
    · exact chain_uniq n2 hc' hd' xc xd
theorem meet_skip {lo x : Int} : ∀ {l : List (List Int)}, x ∉ l.flatten → meetI l lo x = meetI l lo (x - 1)
  | [], _ => rfl
  | c :: l, h => by
    rw [List.flatten_cons, List.mem_append] at h
    have e : c.any (inR lo x) = c.any (inR lo (x - 1)) := by
      rw [Bool.eq_iff_iff, List.any_eq_true, List.any_eq_true]
      constructor
      · rintro ⟨y, hy, z⟩
        have := inR_iff.mp z
        have : y ≠ x := fun q => h (.inl (q ▸ hy))
        exact ⟨y, hy, inR_iff.mpr (by omega)⟩
      · rintro ⟨y, hy, z⟩
        have := inR_iff.mp z
        exact ⟨y, hy, inR_iff.mpr (by omega)⟩
    rw [meetI_cons, meetI_cons, e, meet_skip fun z => h (.inr z)]
theorem meet_pred {cs : List (List Int)} (nd : cs.flatten.Nodup) {c : List Int} {x lo : Int} (hc : c ∈ cs) (hx : x ∈ c) (hl : lo ≤ x) : meetI cs lo x = meetI cs lo (x - 1) + (if c.any (inR lo (x - 1)) = true then 0 else 1) := by
  obtain ⟨l1, l2, rfl⟩ := List.append_of_mem hc
  have n1 : x ∉ l1.flatten := fun z => by
    rw [List.flatten_append, List.flatten_cons, List.nodup_append] at nd
    exact nd.2.2 x z x (List.mem_append_left _ hx) rfl
  have n2 : x ∉ l2.flatten := fun z => by
    rw [List.flatten_append, List.flatten_cons, List.nodup_append, List.nodup_append] at nd
    exact nd.2.1.2.2 x hx x z rfl
  have e : c.any (inR lo x) = true := List.any_eq_true.mpr ⟨x, hx, inR_iff.mpr (by omega)⟩
  rw [meetI_append, meetI_cons, meetI_append, meetI_cons, meet_skip n1, meet_skip n2, if_pos e]
  split <;> omega
theorem same_below {cs ds : List (List Int)} (hc : cs.flatten.Nodup) (hd : ds.flatten.Nodup) (pc : ∀ k ∈ cs.flatten, 0 < k) (pd : ∀ k ∈ ds.flatten, 0 < k) (h : ∀ lo hi, 0 < lo → meetI cs lo hi = meetI ds lo hi) :
    ∀ (n : Nat) (x : Int), x.toNat ≤ n → ∀ c ∈ cs, ∀ d ∈ ds, x ∈ c → x ∈ d → ∀ y ∈ c, y ≤ x → y ∈ d
  | 0, x, hn, c, hcc, d, hdd, xc, xd, y, yc, yx => by have := pc x (List.mem_flatten.mpr ⟨c, hcc, xc⟩); omega
  | n + 1, x, hn, c, hcc, d, hdd, xc, xd, y, yc, yx => by
    by_cases e : y = x
    · rw [e]; exact xd
    have hlt : y < x := by omega
    have same : ∀ lo, 0 < lo → lo ≤ x → (c.any (inR lo (x - 1)) = true ↔ d.any (inR lo (x - 1)) = true) := by
      intro lo hlo hlx
      have e1 := meet_pred hc hcc xc hlx
      have e2 := meet_pred hd hdd xd hlx
      rw [h lo x hlo, h lo (x - 1) hlo] at e1
      by_cases a : c.any (inR lo (x - 1)) = true <;> by_cases b : d.any (inR lo (x - 1)) = true
      · exact ⟨fun _ => b, fun _ => a⟩
      · rw [if_pos a] at e1; rw [if_neg b] at e2; omega
      · rw [if_neg a] at e1; rw [if_pos b] at e2; omega
      · exact ⟨fun z => (a z).elim, fun z => (b z).elim⟩
    have hne : c.filter (fun z => decide (z < x)) ≠ [] := List.ne_nil_of_mem (List.mem_filter.mpr ⟨yc, decide_eq_true hlt⟩)
    have hp := List.mem_filter.mp (maxI_mem hne)
    have pge : ∀ z ∈ c, z < x → z ≤ maxI (c.filter fun z => decide (z < x)) := fun z hz hzx => maxI_ge (List.mem_filter.mpr ⟨hz, decide_eq_true hzx⟩)
    generalize maxI (c.filter fun z => decide (z < x)) = p at hp pge
    have px : p < x := of_decide_eq_true hp.2
    have p0 := pc p (List.mem_flatten.mpr ⟨c, hcc, hp.1⟩)
    obtain ⟨q, qd, qr⟩ := List.any_eq_true.mp ((same p p0 (by omega)).mp (List.any_eq_true.mpr ⟨p, hp.1, inR_iff.mpr (by omega)⟩))
    have qr := inR_iff.mp qr
    have pd' : p ∈ d := by
      by_cases eq : q = p
      · rw [← eq]; exact qd
      · obtain ⟨z, zc, zr⟩ := List.any_eq_true.mp ((same q (by omega) (by omega)).mpr (List.any_eq_true.mpr ⟨q, qd, inR_iff.mpr (by omega)⟩))
        have zr := inR_iff.mp zr
        have := pge z zc (by omega)
        omega
    exact same_below hc hd pc pd h n p (by omega) c hcc d hdd hp.1 pd' y yc (pge y yc hlt)
theorem asc_ext {a b : List Int} (ha : Asc a) (hb : Asc b) (h : ∀ x, x ∈ a ↔ x ∈ b) : a = b := by
  have na : a.Nodup := ha.imp fun h => by omega
  have nb : b.Nodup := hb.imp fun h => by omega
  have p : a.Perm b := (List.perm_ext_iff_of_nodup na nb).mpr h
  exact PySem.W.ksm_same p (ha.imp fun h => by omega) (hb.imp fun h => by omega)
theorem mem_meet {cs : List (List Int)} {x : Int} : x ∈ cs.flatten ↔ 0 < meetI cs x x := by
  unfold meetI
  rw [List.length_pos_iff_exists_mem]
  constructor
  · intro h
    obtain ⟨c, hc, xc⟩ := List.mem_flatten.mp h
    exact ⟨c, List.mem_filter.mpr ⟨hc, List.any_eq_true.mpr ⟨x, xc, inR_iff.mpr (by omega)⟩⟩⟩
  · rintro ⟨c, hc⟩
    obtain ⟨hc, h⟩ := List.mem_filter.mp hc
    obtain ⟨y, yc, yr⟩ := List.any_eq_true.mp h
    have := inR_iff.mp yr
    have : y = x := by omega
    exact List.mem_flatten.mpr ⟨c, hc, this ▸ yc⟩
theorem chain_in {cs ds : List (List Int)} (hc : CHS cs) (hd : CHS ds) (h : ∀ lo hi, 0 < lo → meetI cs lo hi = meetI ds lo hi) : ∀ c ∈ cs, c ∈ ds := by
  intro c cc
  have mx := maxI_mem (hc.ne c cc)
  have mg : ∀ z ∈ c, z ≤ maxI c := fun z hz => maxI_ge hz
  generalize maxI c = x at mx mg
  have xf : x ∈ cs.flatten := List.mem_flatten.mpr ⟨c, cc, mx⟩
  have x0 := hc.pos x xf
  have xd := mem_meet.mp xf
  rw [h x x x0] at xd
  obtain ⟨d, dd, xd⟩ := List.mem_flatten.mp (mem_meet.mpr xd)
  have h' := fun lo hi hlo => (h lo hi hlo).symm
  have e : c = d := asc_ext (hc.asc c cc) (hd.asc d dd) fun y => ⟨fun yc => same_below hc.nd hd.nd hc.pos hd.pos h x.toNat x (Nat.le_refl _) c cc d dd mx xd y yc (mg y yc), fun yd => by
    by_cases yx : y ≤ x
    · exact same_below hd.nd hc.nd hd.pos hc.pos h' x.toNat x (Nat.le_refl _) d dd c cc xd mx y yd yx
    · exfalso
      have zx := maxI_mem (hd.ne d dd)
      have zg : y ≤ maxI d := maxI_ge yd
      generalize maxI d = z at zx zg
      have zf : z ∈ ds.flatten := List.mem_flatten.mpr ⟨d, dd, zx⟩
      have z0 := hd.pos z zf
      have zd := mem_meet.mp zf
      rw [h' z z z0] at zd
      obtain ⟨c', cc', zc'⟩ := List.mem_flatten.mp (mem_meet.mpr zd)
      have xc' := same_below hd.nd hc.nd hd.pos hc.pos h' z.toNat z (Nat.le_refl _) d dd c' cc' zx zc' x xd (by omega)
      have := chain_uniq hc.nd cc cc' mx xc'
      have := mg z (this ▸ zc')
      omega⟩
  rw [e]; exact dd
theorem CHS.nodup {cs : List (List Int)} (h : CHS cs) : cs.Nodup := by
  have nd := h.nd
  have ne := h.ne
  clear h
  induction cs with
  | nil => exact List.nodup_nil
  | cons c cs ih =>
    rw [List.flatten_cons, List.nodup_append] at nd
    refine List.nodup_cons.mpr ⟨fun z => ?_, ih nd.2.1 fun d hd => ne d (List.mem_cons_of_mem _ hd)⟩
    obtain ⟨x, xs, e⟩ := List.exists_cons_of_ne_nil (ne c List.mem_cons_self)
    have hx : x ∈ c := by rw [e]; exact List.mem_cons_self
    exact nd.2.2 x hx x (List.mem_flatten.mpr ⟨c, z, hx⟩) rfl
/-- THE COUNTS TELL THE CHAINS -/
theorem chs_uniq {cs ds : List (List Int)} (hc : CHS cs) (hd : CHS ds) (h : ∀ lo hi, 0 < lo → meetI cs lo hi = meetI ds lo hi) : cs = ds :=
  perm_sorted_eq ((List.perm_ext_iff_of_nodup hc.nodup hd.nodup).mpr fun c => ⟨chain_in hc hd h c, chain_in hd hc (fun lo hi hlo => (h lo hi hlo).symm) c⟩) hc.srt hd.srt
/-! ### the chains of a list -/
def Pos (v : List Int) : Prop := ∀ x ∈ v, 0 < x
def Ch (v : List Int) : List (List Int) := (chainsL (linksOf v)).getD []
theorem chs_of_links {es : List (Int × Int)} (h : LC es) (hpos : ∀ k ∈ keysL es, 0 < k) : ∃ cs, chainsL es = some cs ∧ CHS cs ∧ (∀ k, k ∈ cs.flatten ↔ k ∈ keysL es) ∧ ∀ lo hi, 0 < lo → meetI cs lo hi = Mc es lo hi := by
  obtain ⟨cs, h1, h2, h3, h4⟩ := chains_of_links h hpos
  refine ⟨cs, h1, ⟨fun c hc => (h2 c hc).1, fun c hc => (h2 c hc).2, (h3.nodup_iff).mpr h.ok.nd, fun k hk => hpos k (h3.mem_iff.mp hk), ?_⟩, fun k => h3.mem_iff, h4⟩
  unfold chainsL at h1
  obtain ⟨fo, _, e⟩ := Option.map_eq_some_iff.mp h1
  rw [← e]
  exact sortL_srt _
theorem ch_all {v : List Int} (hv : Pos v) : chainsL (linksOf v) = some (Ch v) ∧ CHS (Ch v) ∧ (∀ k, k ∈ (Ch v).flatten ↔ k ∈ v) ∧ ∀ lo hi, 0 < lo → (meetI (Ch v) lo hi : Int) = longI lo hi v := by
  obtain ⟨cs, h1, h2, h3, h4⟩ := chs_of_links (LC.links hv) fun k hk => hv k ((keys_links v k).mp hk)
  have e : Ch v = cs := by unfold Ch; rw [h1]; rfl
  rw [e]
  exact ⟨h1, h2, fun k => (h3 k).trans (keys_links v k), fun lo hi hlo => by rw [h4 lo hi hlo, Mc_long hv lo hi hlo]⟩
theorem ch_some {v : List Int} (hv : Pos v) : chainsL (linksOf v) = some (Ch v) := (ch_all hv).1
theorem ch_chs {v : List Int} (hv : Pos v) : CHS (Ch v) := (ch_all hv).2.1
theorem ch_mem {v : List Int} (hv : Pos v) {k : Int} : k ∈ (Ch v).flatten ↔ k ∈ v := (ch_all hv).2.2.1 k
theorem ch_meet {v : List Int} (hv : Pos v) {lo hi : Int} (h : 0 < lo) : (meetI (Ch v) lo hi : Int) = longI lo hi v := (ch_all hv).2.2.2 lo hi h
theorem ch_uniq {v : List Int} {cs : List (List Int)} (hv : Pos v) (hc : CHS cs) (h : ∀ lo hi, 0 < lo → (meetI cs lo hi : Int) = longI lo hi v) : cs = Ch v :=
  chs_uniq hc (ch_chs hv) fun lo hi hlo => Int.ofNat.inj (by
    have a := h lo hi hlo
    have b := ch_meet (hi := hi) hv hlo
    show ((meetI cs lo hi : Nat) : Int) = (meetI (Ch v) lo hi : Nat)
    omega)
theorem ch_eq {v w : List Int} (hv : Pos v) (hw : Pos w) : Ch v = Ch w ↔ LEq v w :=
  ⟨fun e lo hi hlo => by rw [← ch_meet hv hlo, ← ch_meet hw hlo, e], fun h => ch_uniq hw (ch_chs hv) fun lo hi hlo => by rw [ch_meet hv hlo, h lo hi hlo]⟩
end DL

namespace DL
open PySem
/-! ### visits for chains -/
theorem filter_two {α : Type} (p : α → Bool) : ∀ l : List α, l.length = (l.filter p).length + (l.filter fun x => !p x).length
  | [] => rfl
  | x :: l => by
    rw [List.filter_cons, List.filter_cons, List.length_cons, filter_two p l]
    cases p x <;> simp <;> omega
theorem count_chains {s : List Int} : ∀ {cs : List (List Int)} {lo hi : Int}, (∀ x ∈ s, ∃ c ∈ cs, x ∈ c) → (s.Pairwise fun x y => ∀ c ∈ cs, ¬ (x ∈ c ∧ y ∈ c)) → (∀ x ∈ s, inR lo hi x = true) → s.length ≤ meetI cs lo hi := by
  intro cs
  induction cs generalizing s with
  | nil =>
    intro lo hi h _ _
    cases s with
    | nil => exact Nat.zero_le _
    | cons x s => obtain ⟨c, hc, _⟩ := h x List.mem_cons_self; cases hc
  | cons c cs ih =>
    intro lo hi h p r
    have e := filter_two (fun x => decide (x ∈ c)) s
    rw [e, meetI_cons]
    have i2 := ih (s := s.filter fun x => !decide (x ∈ c)) (lo := lo) (hi := hi) (fun x hx => by
      obtain ⟨hx1, hx2⟩ := List.mem_filter.mp hx
      obtain ⟨d, hd, xd⟩ := h x hx1
      rcases List.mem_cons.mp hd with rfl | hd
      · simp [xd] at hx2
      · exact ⟨d, hd, xd⟩) ((p.sublist List.filter_sublist).imp fun q c hc => q c (List.mem_cons_of_mem _ hc)) fun x hx => r x (List.mem_filter.mp hx).1
    have i1 : (s.filter fun x => decide (x ∈ c)).length ≤ if c.any (inR lo hi) = true then 1 else 0 := by
      have p' := p.sublist (List.filter_sublist (p := fun x => decide (x ∈ c)))
      have m : ∀ x ∈ s.filter (fun x => decide (x ∈ c)), x ∈ c ∧ inR lo hi x = true := fun x hx => ⟨of_decide_eq_true (List.mem_filter.mp hx).2, r x (List.mem_filter.mp hx).1⟩
      generalize s.filter (fun x => decide (x ∈ c)) = t at p' m
      match t, p', m with
      | [], _, _ => exact Nat.zero_le _
      | [x], _, m =>
        obtain ⟨m1, m2⟩ := m x (by simp)
        rw [if_pos (List.any_eq_true.mpr ⟨x, m1, m2⟩)]; exact Nat.le_refl _
      | x :: y :: t, p', m =>
        exact absurd ⟨(m x (by simp)).1, (m y (by simp)).1⟩ ((List.pairwise_cons.mp p').1 y (by simp) c (by simp))
    omega
theorem first_of {cs : List (List Int)} {b x : Int} (hasc : ∀ c ∈ cs, Asc c) (nd : cs.flatten.Nodup) (hx : x ∈ (firstsI cs b).flatten) : b < x ∧ ∀ c ∈ cs, x ∈ c → ∀ z ∈ c, b < z → x ≤ z := by
  obtain ⟨l, hl, xl⟩ := List.mem_flatten.mp hx
  obtain ⟨c, hc, rfl⟩ := List.mem_map.mp hl
  have xm := List.mem_of_mem_take xl
  obtain ⟨xc, bx⟩ := List.mem_filter.mp xm
  refine ⟨of_decide_eq_true bx, fun d hd xd z zd bz => ?_⟩
  have e : c = d := chain_uniq nd hc hd xc xd
  rw [← e] at zd
  have zf : z ∈ c.filter fun y => decide (b < y) := List.mem_filter.mpr ⟨zd, decide_eq_true bz⟩
  have a := hasc c hc
  have af : Asc (c.filter fun y => decide (b < y)) := by unfold Asc at a ⊢; exact a.sublist List.filter_sublist
  cases hf : c.filter fun y => decide (b < y) with
  | nil => rw [hf] at zf; cases zf
  | cons y ys =>
    rw [hf] at xl zf af
    have : x = y := by simpa using xl
    rw [this]
    rcases List.mem_cons.mp zf with rfl | q
    · exact Int.le_refl _
    · exact Int.le_of_lt ((List.pairwise_cons.mp af).1 z q)
theorem firsts_in {cs : List (List Int)} {b x : Int} (hx : x ∈ (firstsI cs b).flatten) : x ∈ cs.flatten := by
  obtain ⟨l, hl, xl⟩ := List.mem_flatten.mp hx
  obtain ⟨c, hc, rfl⟩ := List.mem_map.mp hl
  exact List.mem_flatten.mpr ⟨c, hc, (List.mem_filter.mp (List.mem_of_mem_take xl)).1⟩
theorem firsts_sub (b : Int) : ∀ cs : List (List Int), (firstsI cs b).flatten.Sublist cs.flatten
  | [] => List.Sublist.refl _
  | c :: cs => by
    show ((c.filter fun x => decide (b < x)).take 1 ++ (firstsI cs b).flatten).Sublist (c ++ cs.flatten)
    exact ((List.take_sublist _ _).trans List.filter_sublist).append (firsts_sub b cs)
theorem firsts_len {lo hi b : Int} : ∀ {cs : List (List Int)}, (∀ c ∈ cs, Asc c) → (∀ x ∈ cs.flatten, b < x ↔ lo ≤ x) → ((firstsI cs b).flatten.filter fun x => decide (x ≤ hi)).length = meetI cs lo hi
  | [], _, _ => rfl
  | c :: cs, ha, hb => by
    have ih := firsts_len (hi := hi) (fun d hd => ha d (List.mem_cons_of_mem _ hd)) fun x hx => hb x (by rw [List.flatten_cons]; exact List.mem_append_right _ hx)
    show ((((c.filter fun x => decide (b < x)).take 1) ++ (firstsI cs b).flatten).filter fun x => decide (x ≤ hi)).length = _
    rw [List.filter_append, List.length_append, ih, meetI_cons]
    congr 1
    have a := ha c List.mem_cons_self
    have hbc : ∀ x ∈ c, b < x ↔ lo ≤ x := fun x hx => hb x (by rw [List.flatten_cons]; exact List.mem_append_left _ hx)
    clear ih
    induction c with
    | nil => rfl
    | cons x c ih =>
      obtain ⟨a1, a2⟩ := List.pairwise_cons.mp a
      by_cases h : b < x
      · have hlx := (hbc x List.mem_cons_self).mp h
        rw [List.filter_cons_of_pos (by simpa using h)]
        by_cases hx : x ≤ hi
        · have e1 : (x :: c).any (inR lo hi) = true := List.any_eq_true.mpr ⟨x, List.mem_cons_self, inR_iff.mpr ⟨hlx, hx⟩⟩
          rw [if_pos e1]; simp [hx]
        · have e1 : ¬ (x :: c).any (inR lo hi) = true := fun z => by
            obtain ⟨y, hy, yr⟩ := List.any_eq_true.mp z
            have := inR_iff.mp yr
            rcases List.mem_cons.mp hy with rfl | q
            · omega
            · have := a1 y q; omega
          rw [if_neg e1]; simp [hx]
      · have hlx : ¬ lo ≤ x := fun z => h ((hbc x List.mem_cons_self).mpr z)
        rw [List.filter_cons_of_neg (by simpa using h), ih (fun d hd => by
          rcases List.mem_cons.mp hd with rfl | hd
          · exact a2
          · exact ha d (List.mem_cons_of_mem _ hd)) (fun y hy => hb y (by
          rw [List.flatten_cons] at hy ⊢
          rcases List.mem_append.mp hy with q | q
          · exact List.mem_append_left _ (List.mem_cons_of_mem _ q)
          · exact List.mem_append_right _ q)) a2 fun y hy => hbc y (List.mem_cons_of_mem _ hy)]
        have : inR lo hi x = false := by
          cases e : inR lo hi x with
          | false => rfl
          | true => exact absurd (inR_iff.mp e).1 hlx
        rw [List.any_cons, this, Bool.false_or]
theorem ranks_mem {cs : List (List Int)} {x : Int} : x ∈ ranksI cs ↔ x ∈ cs.flatten := (sortI_perm _).mem_iff
/-- visits for chains have these chains -/
theorem long_visits {cs : List (List Int)} (h : CHS cs) {lo hi : Int} (hlo : 0 < lo) : longI lo hi (visitsI cs) = (meetI cs lo hi : Int) := by
  apply Int.le_antisymm
  · obtain ⟨s, s1, s2, s3, s4⟩ := long_has (v := visitsI cs) (lo := lo) hi
    rw [← s4]
    have vin : ∀ x ∈ visitsI cs, x ∈ cs.flatten := fun x hx => by
      obtain ⟨b, _, hb⟩ := List.mem_flatMap.mp hx
      exact firsts_in ((sortI_perm _).mem_iff.mp hb)
    have pw : (visitsI cs).Pairwise fun x y => x < y → ∀ c ∈ cs, ¬ (x ∈ c ∧ y ∈ c) := by
      have two : ∀ b1 b2 x y : Int, b2 ≤ b1 → x ∈ (firstsI cs b1).flatten → y ∈ (firstsI cs b2).flatten → x < y → ∀ c ∈ cs, ¬ (x ∈ c ∧ y ∈ c) := fun b1 b2 x y hb hx hy xy c hc z => by
        have f1 := first_of h.asc h.nd hx
        have f2 := first_of h.asc h.nd hy
        have := f2.2 c hc z.2 x z.1 (by omega)
        omega
      unfold visitsI
      rw [List.flatMap_def, List.pairwise_flatten]
      constructor
      · intro l hl
        obtain ⟨b, _, rfl⟩ := List.mem_map.mp hl
        exact List.Pairwise.imp_of_mem (fun hx hy _ => two b b _ _ (Int.le_refl _) ((sortI_perm _).mem_iff.mp hx) ((sortI_perm _).mem_iff.mp hy)) (sortI_sorted _)
      · rw [List.pairwise_map, List.pairwise_reverse]
        have st : (0 :: ranksI cs).Pairwise (· < ·) := List.pairwise_cons.mpr ⟨fun x hx => h.pos x (ranks_mem.mp hx), sortI_strict h.nd⟩
        exact st.imp fun hb x hx y hy => two _ _ x y (Int.le_of_lt hb) ((sortI_perm _).mem_iff.mp hx) ((sortI_perm _).mem_iff.mp hy)
    have := count_chains (s := s) (cs := cs) (lo := lo) (hi := hi) (fun x hx => by
      obtain ⟨c, hc, xc⟩ := List.mem_flatten.mp (vin x (s1.subset hx))
      exact ⟨c, hc, xc⟩) (by
      have := (pw.sublist s1).and s2
      exact this.imp fun ⟨a, b⟩ => a b) s3
    omega
  · have bm := maxI_mem (ns := (0 :: ranksI cs).filter fun x => decide (x < lo)) (List.ne_nil_of_mem (List.mem_filter.mpr ⟨List.mem_cons_self, decide_eq_true hlo⟩))
    have bg : ∀ x ∈ ranksI cs, x < lo → x ≤ maxI ((0 :: ranksI cs).filter fun x => decide (x < lo)) := fun x hx z => maxI_ge (List.mem_filter.mpr ⟨List.mem_cons_of_mem _ hx, decide_eq_true z⟩)
    generalize maxI ((0 :: ranksI cs).filter fun x => decide (x < lo)) = b at bm bg
    obtain ⟨bm1, bm2⟩ := List.mem_filter.mp bm
    have bl : b < lo := of_decide_eq_true bm2
    have hb : ∀ x ∈ cs.flatten, b < x ↔ lo ≤ x := fun x hx => ⟨fun z => by
      by_cases q : x < lo
      · have := bg x (ranks_mem.mpr hx) q; omega
      · omega, fun z => by omega⟩
    have fl := firsts_len (hi := hi) h.asc hb
    have perm := (sortI_perm (firstsI cs b).flatten).filter fun x => decide (x ≤ hi)
    have nd : (firstsI cs b).flatten.Nodup := h.nd.sublist (firsts_sub b cs)
    have sub : (sortI (firstsI cs b).flatten).Sublist (visitsI cs) := by
      unfold visitsI
      rw [List.flatMap_def]
      exact List.sublist_flatten_of_mem (List.mem_map.mpr ⟨b, List.mem_reverse.mpr bm1, rfl⟩)
    have := long_ge (v := visitsI cs) (lo := lo) hi ((sortI (firstsI cs b).flatten).filter fun x => decide (x ≤ hi)) ((List.filter_sublist).trans sub) ((sortI_strict nd).sublist List.filter_sublist) fun x hx => by
      obtain ⟨x1, x2⟩ := List.mem_filter.mp hx
      have x1 := (sortI_perm _).mem_iff.mp x1
      exact inR_iff.mpr ⟨(hb x (firsts_in x1)).mp (first_of h.asc h.nd x1).1, of_decide_eq_true x2⟩
    rw [perm.length_eq, fl] at this
    exact this
theorem visits_in {cs : List (List Int)} {x : Int} (hx : x ∈ visitsI cs) : x ∈ cs.flatten := by
  obtain ⟨b, _, hb⟩ := List.mem_flatMap.mp hx
  exact firsts_in ((sortI_perm _).mem_iff.mp hb)
theorem visits_pos {cs : List (List Int)} (h : CHS cs) : Pos (visitsI cs) := fun x hx => h.pos x (visits_in hx)
/-- every set of chains belongs to some list -/
theorem ch_visits {cs : List (List Int)} (h : CHS cs) : Ch (visitsI cs) = cs := (ch_uniq (visits_pos h) h fun lo hi hlo => (long_visits h hlo).symm).symm
end DL

namespace DL
open PySem
/-! ### the links of chains -/
def prsC (c : List Int) : List (Int × Int) := c.zip (0 :: c)
theorem foldPut_new : ∀ (l : List (Int × Int)) (es : List (Int × Int)), (∀ p ∈ l, p.2 ∉ keysL es) → (l.map (·.2)).Nodup → l.foldl (fun es p => putI es p.2 p.1) es = es ++ l.map Prod.swap
  | [], es, _, _ => by simp
  | p :: l, es, h, nd => by
    rw [List.map_cons] at nd
    obtain ⟨n1, n2⟩ := List.nodup_cons.mp nd
    rw [List.foldl_cons, putI_new (h p List.mem_cons_self), foldPut_new l _ (fun q hq z => by
      unfold keysL at z
      rw [List.map_append] at z
      rcases List.mem_append.mp z with z | z
      · exact h q (List.mem_cons_of_mem _ hq) z
      · have : q.2 = p.2 := by simpa using z
        exact n1 (by rw [← this]; exact List.mem_map.mpr ⟨q, hq, rfl⟩)) n2]
    simp [List.append_assoc]
    rfl
theorem prs_keys (c : List Int) : (prsC c).map (·.1) = c := by
  unfold prsC
  exact List.map_fst_zip (by simp)
theorem prs_swap (c : List Int) : ((0 :: c).zip c).map Prod.swap = prsC c := by
  unfold prsC
  have gen : ∀ a b : List Int, (a.zip b).map Prod.swap = b.zip a := by
    intro a
    induction a with
    | nil => intro b; cases b <;> rfl
    | cons x a ih =>
      intro b
      cases b with
      | nil => rfl
      | cons y b => rw [List.zip_cons_cons, List.zip_cons_cons, List.map_cons, ih b]; rfl
  exact gen _ _
theorem linkC_new {es : List (Int × Int)} {c : List Int} (h : ∀ x ∈ c, x ∉ keysL es) (nd : c.Nodup) : linkC es c = es ++ prsC c := by
  unfold linkC
  have e : (((0 :: c).zip c).map (·.2)) = c := List.map_snd_zip (by simp)
  rw [foldPut_new _ _ (fun p hp => h p.2 (by rw [← e]; exact List.mem_map.mpr ⟨p, hp, rfl⟩)) (by rw [e]; exact nd), prs_swap]
theorem links_flat : ∀ (cs : List (List Int)) (es : List (Int × Int)), (keysL es ++ cs.flatten).Nodup → cs.foldl linkC es = es ++ cs.flatMap prsC
  | [], es, _ => by simp
  | c :: cs, es, nd => by
    rw [List.flatten_cons, List.nodup_append] at nd
    obtain ⟨n1, n2, n3⟩ := nd
    rw [List.nodup_append] at n2
    have k : keysL (es ++ prsC c) = keysL es ++ c := by unfold keysL; rw [List.map_append, prs_keys]
    rw [List.foldl_cons, linkC_new (fun x hx z => n3 x z x (List.mem_append_left _ hx) rfl) n2.1, links_flat cs _ (by
      rw [k, List.append_assoc, List.nodup_append, List.nodup_append]
      exact ⟨n1, n2, n3⟩), List.flatMap_cons, List.append_assoc]
theorem linksI_flat {cs : List (List Int)} (nd : cs.flatten.Nodup) : linksI cs = cs.flatMap prsC := by
  unfold linksI
  rw [links_flat cs [] (by simpa [keysL] using nd), List.nil_append]
theorem linksI_keys {cs : List (List Int)} (nd : cs.flatten.Nodup) : keysL (linksI cs) = cs.flatten := by
  rw [linksI_flat nd]
  clear nd
  induction cs with
  | nil => rfl
  | cons c cs ih =>
    rw [List.flatMap_cons, List.flatten_cons, ← ih]
    unfold keysL
    rw [List.map_append, prs_keys]
theorem lookI_mem {es : List (Int × Int)} (nd : (keysL es).Nodup) {p : Int × Int} (h : p ∈ es) : atK es p.1 = p.2 := by
  unfold atK lookI
  induction es with
  | nil => cases h
  | cons q es ih =>
    unfold keysL at nd
    rw [List.map_cons] at nd
    obtain ⟨n1, n2⟩ := List.nodup_cons.mp nd
    rcases List.mem_cons.mp h with rfl | h
    · simp
    · have ne : q.1 ≠ p.1 := fun z => n1 (by rw [z]; exact List.mem_map.mpr ⟨p, h, rfl⟩)
      rw [List.find?_cons_of_neg (by simpa using ne)]
      exact ih n2 h
theorem map_at {es : List (Int × Int)} (nd : (keysL es).Nodup) : (keysL es).map (fun o => (o, atK es o)) = es := by
  unfold keysL
  rw [List.map_map]
  have : ∀ p ∈ es, ((fun o => (o, atK es o)) ∘ fun p : Int × Int => p.1) p = id p := fun p hp => by
    show (p.1, atK es p.1) = p
    rw [lookI_mem nd hp]
  rw [List.map_congr_left this, List.map_id]
theorem prs_val {c : List Int} (a : Asc c) (hp : ∀ x ∈ c, 0 < x) : ∀ p ∈ prsC c, 0 ≤ p.2 ∧ p.2 < p.1 ∧ (p.2 = 0 ∨ p.2 ∈ c) := by
  have gen : ∀ (c : List Int) (b : Int), Asc (b :: c) → 0 ≤ b → ∀ p ∈ c.zip (b :: c), 0 ≤ p.2 ∧ p.2 < p.1 ∧ (p.2 = b ∨ p.2 ∈ c) := by
    intro c
    induction c with
    | nil => intro b _ _ p h; cases h
    | cons x c ih =>
      intro b a hb p h
      obtain ⟨a1, a2⟩ := List.pairwise_cons.mp a
      have bx := a1 x List.mem_cons_self
      rw [List.zip_cons_cons] at h
      rcases List.mem_cons.mp h with rfl | h
      · exact ⟨hb, bx, .inl rfl⟩
      · obtain ⟨i1, i2, i3⟩ := ih x a2 (by omega) p h
        refine ⟨i1, i2, .inr ?_⟩
        rcases i3 with e | e
        · rw [e]; exact List.mem_cons_self
        · exact List.mem_cons_of_mem _ e
  exact gen c 0 (List.pairwise_cons.mpr ⟨hp, a⟩) (Int.le_refl _)
theorem prs_cnt {lo hi : Int} (hlo : 0 < lo) {c : List Int} (a : Asc c) (hp : ∀ x ∈ c, 0 < x) : cnt lo hi (prsC c) = if c.any (inR lo hi) = true then 1 else 0 := by
  have gen : ∀ (c : List Int) (b : Int), Asc (b :: c) → cnt lo hi (c.zip (b :: c)) = if b < lo then (if c.any (inR lo hi) = true then 1 else 0) else 0 := by
    intro c
    induction c with
    | nil => intro b _; show 0 = _; split <;> rfl
    | cons x c ih =>
      intro b a
      obtain ⟨a1, a2⟩ := List.pairwise_cons.mp a
      have bx := a1 x List.mem_cons_self
      rw [List.zip_cons_cons, cnt_cons, ih x a2, List.any_cons]
      by_cases hb : b < lo
      · rw [if_pos hb]
        by_cases hx : x < lo
        · have n : ¬ inR lo hi x = true := fun z => by have := inR_iff.mp z; omega
          rw [if_neg (fun z => n z.1), if_pos hx, Nat.zero_add]
          simp only [Bool.not_eq_true] at n
          rw [n, Bool.false_or]
        · rw [if_neg hx, Nat.add_zero]
          by_cases hi' : x ≤ hi
          · have n : inR lo hi x = true := inR_iff.mpr (by omega)
            rw [if_pos ⟨n, hb⟩, n, Bool.true_or, if_pos rfl]
          · have n : ¬ inR lo hi x = true := fun z => by have := inR_iff.mp z; omega
            have m : ¬ c.any (inR lo hi) = true := fun z => by
              obtain ⟨y, hy, yr⟩ := List.any_eq_true.mp z
              have := inR_iff.mp yr
              have := (List.pairwise_cons.mp a2).1 y hy
              omega
            rw [if_neg (fun z => n z.1)]
            simp only [Bool.not_eq_true] at n m
            rw [n, m]; rfl
      · rw [if_neg hb, if_neg (fun z => hb z.2), if_neg (by omega)]
  have := gen c 0 (List.pairwise_cons.mpr ⟨hp, a⟩)
  rw [if_pos hlo] at this
  exact this
theorem Mc_links {cs : List (List Int)} (h : CHS cs) {lo hi : Int} (hlo : 0 < lo) : Mc (linksI cs) lo hi = meetI cs lo hi := by
  have nd : (keysL (linksI cs)).Nodup := by rw [linksI_keys h.nd]; exact h.nd
  rw [Mc_keys, map_at nd, linksI_flat h.nd]
  have ha := h.asc
  have hp := h.pos
  clear nd h
  induction cs with
  | nil => rfl
  | cons c cs ih =>
    rw [List.flatMap_cons, cnt_append, meetI_cons, prs_cnt hlo (ha c List.mem_cons_self) fun x hx => hp x (by rw [List.flatten_cons]; exact List.mem_append_left _ hx), ih (fun d hd => ha d (List.mem_cons_of_mem _ hd)) fun x hx => hp x (by rw [List.flatten_cons]; exact List.mem_append_right _ hx)]
theorem LC.chains {cs : List (List Int)} (h : CHS cs) : LC (linksI cs) := by
  have ek := linksI_keys h.nd
  have nd : (keysL (linksI cs)).Nodup := by rw [ek]; exact h.nd
  have key : ∀ k ∈ keysL (linksI cs), ∃ c ∈ cs, ∃ p ∈ prsC c, p.1 = k ∧ atK (linksI cs) k = p.2 := fun k hk => by
    obtain ⟨p, hp, rfl⟩ := List.mem_map.mp hk
    have hp' := hp
    rw [linksI_flat h.nd] at hp'
    obtain ⟨c, hc, pc⟩ := List.mem_flatMap.mp hp'
    exact ⟨c, hc, p, pc, rfl, lookI_mem nd hp⟩
  have cp : ∀ c ∈ cs, ∀ x ∈ c, 0 < x := fun c hc x hx => h.pos x (List.mem_flatten.mpr ⟨c, hc, hx⟩)
  refine ⟨⟨nd, fun k hk => ?_⟩, fun k hk => ?_, fun x hx => ?_⟩
  · obtain ⟨c, hc, p, pc, rfl, e⟩ := key k hk
    rw [e]
    have := prs_val (h.asc c hc) (cp c hc) p pc
    exact ⟨this.1, this.2.1⟩
  · obtain ⟨c, hc, p, pc, rfl, e⟩ := key k hk
    rw [e, ek]
    rcases (prs_val (h.asc c hc) (cp c hc) p pc).2.2 with q | q
    · exact .inl q
    · exact .inr (List.mem_flatten.mpr ⟨c, hc, q⟩)
  · have e1 : (keysL (linksI cs)).map (atK (linksI cs)) = (linksI cs).map (·.2) := by
      have := congrArg (List.map (·.2)) (map_at nd)
      rw [List.map_map] at this
      exact this
    rw [e1, linksI_flat h.nd]
    have le : ∀ cs : List (List Int), ((cs.flatMap prsC).map (·.2)).count x ≤ cs.flatten.count x := by
      intro cs
      induction cs with
      | nil => simp
      | cons c cs ih =>
        rw [List.flatMap_cons, List.map_append, List.count_append, List.flatten_cons, List.count_append]
        have : ((prsC c).map (·.2)).count x ≤ c.count x := by
          unfold prsC
          have e : (c.zip (0 :: c)).map (·.2) = (0 :: c).take c.length := by
            rw [← List.map_snd_zip (l₁ := c) (l₂ := (0 :: c).take c.length) (by simp)]
            congr 1
            have gen : ∀ (c : List Int) (b : Int), c.zip (b :: c) = c.zip ((b :: c).take c.length) := by
              intro c
              induction c with
              | nil => intro b; rfl
              | cons y c ih => intro b; rw [List.length_cons, List.take_succ_cons, List.zip_cons_cons, List.zip_cons_cons, ← ih y]
            exact gen c 0
          rw [e]
          have := (List.take_sublist c.length (0 :: c)).count_le x
          rw [List.count_cons] at this
          have z : ((0 : Int) == x) = false := by simp [Ne.symm hx]
          simpa [z] using this
        omega
    exact Nat.le_trans (le cs) (List.nodup_iff_count.mp h.nd x)
/-! ### visits behind links -/
theorem LC.fold {es : List (Int × Int)} (h : LC es) : ∀ {w : List Int}, Pos w → LC (w.foldl visitL es) := by
  intro w
  induction w using list_snoc_ind with
  | h0 => intro _; exact h
  | h1 w r ih =>
    intro hw
    rw [List.foldl_append]
    exact (ih fun x hx => hw x (List.mem_append_left _ hx)).visit (hw r (by simp))
theorem fold_keysL (es : List (Int × Int)) (w : List Int) (k : Int) : k ∈ keysL (w.foldl visitL es) ↔ k ∈ keysL es ∨ k ∈ w := by
  induction w using list_snoc_ind with
  | h0 => simp
  | h1 w r ih =>
    rw [List.foldl_append]
    show k ∈ keysL (visitL (w.foldl visitL es) r) ↔ _
    rw [show keysL (visitL (w.foldl visitL es) r) = addK (keysL (w.foldl visitL es)) r from visitL_keys _ r, mem_addK, ih]
    simp [or_assoc]
theorem Mc_fold {es : List (Int × Int)} {v : List Int} (h : LC es) (hm : ∀ lo hi, 0 < lo → (Mc es lo hi : Int) = longI lo hi v) : ∀ {w : List Int}, Pos w → ∀ lo hi, 0 < lo → (Mc (w.foldl visitL es) lo hi : Int) = longI lo hi (v ++ w) := by
  intro w
  induction w using list_snoc_ind with
  | h0 => intro _ lo hi hlo; rw [List.append_nil]; exact hm lo hi hlo
  | h1 w r ih =>
    intro hw lo hi hlo
    have hw' : Pos w := fun x hx => hw x (List.mem_append_left _ hx)
    have ih' := ih hw'
    rw [List.foldl_append, ← List.append_assoc]
    show ((Mc (visitL (w.foldl visitL es) r) lo hi : Nat) : Int) = _
    rw [Mc_step (h.fold hw').ok hi hlo, long_step]
    have e1 := ih' lo hi hlo
    have e2 := ih' lo (r - 1) hlo
    split
    · omega
    · exact e1
end DL

namespace DL
open PySem
/-! ### ranks from 1 to 12 -/
def Rk (v : List Int) : Prop := ∀ x ∈ v, 1 ≤ x ∧ x ≤ 12
theorem Rk.pos {v : List Int} (h : Rk v) : Pos v := fun x hx => by have := h x hx; omega
theorem Rk.app {v w : List Int} (h : Rk v) (g : Rk w) : Rk (v ++ w) := fun x hx => by
  rcases List.mem_append.mp hx with q | q
  · exact h x q
  · exact g x q
theorem Rk.nil : Rk [] := nofun
theorem Rk.sub {v w : List Int} (h : Rk w) (s : ∀ x ∈ v, x ∈ w) : Rk v := fun x hx => h x (s x hx)
theorem rk_len {l : List Int} (nd : l.Nodup) (h : Rk l) : l.length ≤ 12 := by
  have e := asc_len (sortI l) 12 (sortI_strict nd) (fun x hx => h x ((sortI_perm l).mem_iff.mp hx)) (by decide)
  rw [sortI_len] at e
  omega
structure CR (cs : List (List Int)) : Prop where
  chs : CHS cs
  rk : Rk cs.flatten
theorem CR.flen {cs : List (List Int)} (h : CR cs) : cs.flatten.length ≤ 12 := rk_len h.chs.nd h.rk
theorem flat_len {cs : List (List Int)} (ne : ∀ c ∈ cs, c ≠ []) : cs.length ≤ cs.flatten.length := by
  induction cs with
  | nil => exact Nat.le_refl _
  | cons c cs ih =>
    have := ih fun d hd => ne d (List.mem_cons_of_mem _ hd)
    have : 0 < c.length := List.length_pos_iff.mpr (ne c List.mem_cons_self)
    rw [List.flatten_cons, List.length_append, List.length_cons]; omega
theorem mem_len {cs : List (List Int)} {c : List Int} (h : c ∈ cs) : c.length ≤ cs.flatten.length := (List.sublist_flatten_of_mem h).length_le
theorem CR.clen {cs : List (List Int)} (h : CR cs) : cs.length ≤ 12 := Nat.le_trans (flat_len h.chs.ne) h.flen
theorem CR.each {cs : List (List Int)} (h : CR cs) : ∀ c ∈ cs, c.length ≤ 12 := fun c hc => Nat.le_trans (mem_len hc) h.flen
theorem ch_cr {v : List Int} (h : Rk v) : CR (Ch v) := ⟨ch_chs h.pos, fun k hk => h k ((ch_mem h.pos).mp hk)⟩
theorem CR.visits {cs : List (List Int)} (h : CR cs) : Rk (visitsI cs) := fun x hx => h.rk x (visits_in hx)
theorem CR.eq {cs : List (List Int)} (h : CR cs) : Ch (visitsI cs) = cs := ch_visits h.chs
theorem linkC_take {cs : List (List Int)} (h : CR cs) (k : Nat) : ((cs.take k).foldl linkC []).length ≤ 12 := by
  have fs : (cs.take k).flatten.Sublist cs.flatten := by
    have e : cs.flatten = (cs.take k).flatten ++ (cs.drop k).flatten := by rw [← List.flatten_append, List.take_append_drop]
    rw [e]; exact List.sublist_append_left _ _
  have nd : (cs.take k).flatten.Nodup := h.chs.nd.sublist fs
  have e := congrArg List.length (linksI_keys nd)
  unfold keysL linksI at e
  rw [List.length_map] at e
  rw [e]
  exact Nat.le_trans fs.length_le h.flen
/-! ### the program's functions -/
theorem c_chains {v : List Int} (h : Rk v) (hl : v.length < 60) : fn_chains_of [iL v] = some (chT (Ch v)) := fn_chains_eq hl (ch_some h.pos)
theorem c_meeting {cs : List (List Int)} (h : CR cs) (lo hi : Int) : fn_meeting [chT cs, .int lo, .int hi] = some (.int (meetI cs lo hi)) :=
  fn_meeting_eq (by have := h.clen; omega) fun c hc => by have := h.each c hc; omega
theorem c_followed {v w : List Int} (hv : Rk v) (hw : Rk w) : fn_followed [chT (Ch v), chT (Ch w)] = some (chT (Ch (v ++ w))) := by
  have cv := ch_cr hv
  have cw := ch_cr hw
  have vp := visits_pos cw.chs
  have hlc := LC.chains cv.chs
  have kk : ∀ u : List Int, Rk u → (u.foldl visitL (linksI (Ch v))).length ≤ 12 := fun u hu => by
    have nd := (hlc.fold hu.pos).ok.nd
    have := rk_len nd fun x hx => by
      rcases (fold_keysL _ _ _).mp hx with q | q
      · rw [linksI_keys cv.chs.nd] at q; exact cv.rk x q
      · exact hu x q
    unfold keysL at this
    rwa [List.length_map] at this
  obtain ⟨es, h1, h2, h3, h4⟩ := chs_of_links (hlc.fold vp) fun k hk => by
    rcases (fold_keysL _ _ _).mp hk with q | q
    · rw [linksI_keys cv.chs.nd] at q; exact cv.chs.pos k q
    · exact vp k q
  have e : es = Ch (v ++ w) := ch_uniq (hv.app hw).pos h2 fun lo hi hlo => by
    rw [h4 lo hi hlo, Mc_fold hlc (v := v) (fun lo hi hlo => by rw [Mc_links cv.chs hlo, ch_meet hv.pos hlo]) vp lo hi hlo]
    exact LEq.app (fun _ _ _ => rfl) (fun lo hi hlo => by rw [long_visits cw.chs hlo, ch_meet hw.pos hlo]) lo hi hlo
  rw [← e]
  have l1 := cw.flen
  have l2 := cw.clen
  exact fn_followed_eq (fun c hc => by have := cv.each c hc; omega) (fun k => by have := linkC_take cv k; omega) (by omega) (by omega) (fun c hc => by have := cw.each c hc; omega) (fun k => by
    have := kk ((visitsI (Ch w)).take k) (cw.visits.sub fun x hx => List.mem_of_mem_take hx)
    omega) h1
theorem c_visits {cs : List (List Int)} (h : CR cs) : fn_visits_for [chT cs] = some (iL (visitsI cs)) :=
  fn_visits_eq (by have := h.flen; omega) (by have := h.clen; omega) fun c hc => by have := h.each c hc; omega
theorem c_dosame {v w : List Int} (hv : Rk v) (hw : Rk w) (lv : v.length < 60) (lw : w.length < 60) : fn_do_same [iL v, iL w] = some (.bool (decide (Ch v = Ch w))) := fn_dosame_eq lv lw (ch_some hv.pos) (ch_some hw.pos)
end DL

namespace DL
open PySem
/-! ### repetitions -/
def rep (k : Nat) (v : List Int) : List Int := (List.replicate k v).flatten
theorem ch_nil : Ch [] = [] := by simp [Ch, chainsL, linksOf, sortI, sortL]
theorem rep_zero (v : List Int) : rep 0 v = [] := rfl
theorem rep_succ (k : Nat) (v : List Int) : rep (k + 1) v = v ++ rep k v := by unfold rep; rw [List.replicate_succ, List.flatten_cons]
theorem rep_snoc (k : Nat) (v : List Int) : rep (k + 1) v = rep k v ++ v := by
  unfold rep
  rw [List.replicate_succ', List.flatten_append]
  simp
theorem rep_add (j k : Nat) (v : List Int) : rep (j + k) v = rep j v ++ rep k v := by
  unfold rep
  rw [← List.replicate_append_replicate, List.flatten_append]
theorem rep_mem {k : Nat} {v : List Int} {x : Int} (h : x ∈ rep k v) : x ∈ v := by
  unfold rep at h
  obtain ⟨l, hl, hx⟩ := List.mem_flatten.mp h
  rw [(List.mem_replicate.mp hl).2] at hx
  exact hx
theorem Rk.rep {v : List Int} (h : Rk v) (k : Nat) : Rk (rep k v) := h.sub fun _ => rep_mem
theorem asc_in_rep {v : List Int} : ∀ {s : List Int} {k : Nat}, (∀ x ∈ s, x ∈ v) → s.length ≤ k → s.Sublist (rep k v)
  | [], k, _, _ => List.nil_sublist _
  | x :: s, 0, _, h => by simp at h
  | x :: s, k + 1, h, hl => by
    rw [rep_succ]
    have := asc_in_rep (k := k) (fun y hy => h y (List.mem_cons_of_mem _ hy)) (by simpa using hl)
    exact (List.singleton_sublist.mpr (h x List.mem_cons_self)).append this
/-- all different ranks of a range -/
def setR (lo hi : Int) (v : List Int) : List Int := (setI v).filter (inR lo hi)
theorem long_le_set {v w : List Int} (h : ∀ x ∈ w, x ∈ v) (lo hi : Int) : longI lo hi w ≤ (setR lo hi v).length := by
  obtain ⟨s, s1, s2, s3, s4⟩ := long_has (v := w) (lo := lo) hi
  rw [← s4]
  have : s.length ≤ (setR lo hi v).length := List.Nodup.length_le_of_subset (s2.imp fun h => by omega) fun x hx => List.mem_filter.mpr ⟨setI_mem.mpr (h x (s1.subset hx)), s3 x hx⟩
  omega
theorem long_ge_set {v w : List Int} {k : Nat} (h : ∀ x ∈ w, x ∈ v) (lo hi : Int) (hk : (setI w).length ≤ k) : ((setR lo hi w).length : Int) ≤ longI lo hi (rep k v) :=
  long_ge hi (setR lo hi w) (asc_in_rep (fun x hx => h x (setI_mem.mp (List.mem_filter.mp hx).1)) (Nat.le_trans (List.length_filter_le _ _) hk)) ((setI_asc w).sublist List.filter_sublist) fun x hx => (List.mem_filter.mp hx).2
theorem long_rep {v : List Int} {k : Nat} (hk : (setI v).length ≤ k) (lo hi : Int) : longI lo hi (rep k v) = (setR lo hi v).length :=
  Int.le_antisymm (long_le_set (fun x hx => rep_mem hx) lo hi) (long_ge_set (fun _ h => h) lo hi hk)
theorem set_len {v : List Int} (h : Rk v) : (setI v).length ≤ 12 := rk_len ((setI_asc v).imp fun h => by omega) fun x hx => h x (setI_mem.mp hx)
theorem least_of {P : Nat → Prop} : ∀ {N : Nat}, P N → ∃ n, n ≤ N ∧ P n ∧ ∀ k, k < n → ¬ P k := by
  intro N
  induction N using Nat.strongRecOn with
  | _ N ih =>
    intro h
    by_cases c : ∃ k, k < N ∧ P k
    · obtain ⟨k, k1, k2⟩ := c
      obtain ⟨n, n1, n2, n3⟩ := ih k k1 k2
      exact ⟨n, by omega, n2, n3⟩
    · exact ⟨N, Nat.le_refl _, h, fun k hk hp => c ⟨k, hk, hp⟩⟩
/-- the number of repetitions that settle -/
theorem settle_ex {v : List Int} (h : Rk v) : ∃ n, n ≤ 12 ∧ Ch (rep n v) = Ch (rep (n + 1) v) ∧ ∀ k, k < n → Ch (rep k v) ≠ Ch (rep (k + 1) v) := by
  have e : Ch (rep 12 v) = Ch (rep 13 v) := (ch_eq (h.rep 12).pos (h.rep 13).pos).mpr fun lo hi _ => by
    have := set_len h
    rw [long_rep (by omega), long_rep (by omega)]
  obtain ⟨n, n1, n2, n3⟩ := least_of (P := fun n => Ch (rep n v) = Ch (rep (n + 1) v)) e
  exact ⟨n, n1, n2, n3⟩
theorem rep_stay {v : List Int} (h : Rk v) {n : Nat} (e : Ch (rep n v) = Ch (rep (n + 1) v)) : ∀ k, n ≤ k → Ch (rep k v) = Ch (rep n v) := by
  intro k hk
  induction k with
  | zero => have : n = 0 := by omega
            rw [this]
  | succ k ih =>
    by_cases c : n = k + 1
    · rw [c]
    · have ih := ih (by omega)
      rw [e]
      refine (ch_eq (h.rep _).pos (h.rep _).pos).mpr ?_
      rw [rep_snoc, rep_snoc]
      exact LEq.app ((ch_eq (h.rep _).pos (h.rep _).pos).mp ih) fun _ _ _ => rfl
theorem reps_of {v : List Int} (h : Rk v) {n : Nat} (e : Ch (rep n v) = Ch (rep (n + 1) v)) (l : ∀ k, k < n → Ch (rep k v) ≠ Ch (rep (k + 1) v)) : Reps (Ch v) (fun k => Ch (rep k v)) n :=
  ⟨ch_nil, fun k _ => by
    show _ = some (chT (Ch (rep (k + 1) v)))
    rw [rep_snoc]; exact c_followed (h.rep k) h, l, e⟩
theorem c_repeated {v : List Int} (h : Rk v) (m : Nat) : fn_repeated [chT (Ch v), .int m] = some (chT (Ch (rep m v))) := by
  obtain ⟨n, n1, n2, n3⟩ := settle_ex h
  rw [fn_repeated_eq (m := m) (reps_of h n2 n3) (by omega)]
  by_cases c : m ≤ n
  · rw [Nat.min_eq_left c]
  · rw [Nat.min_eq_right (by omega), rep_stay h n2 m (by omega)]
end DL

namespace DL
open PySem
/-! ### rooms -/
theorem insT_self {T : List Int} {r : Int} (h : Asc T) : r ∈ T → insT T r = T := by
  induction T with
  | nil => intro z; cases z
  | cons t T ih =>
    intro hr
    obtain ⟨h1, h2⟩ := List.pairwise_cons.mp h
    show (if r ≤ t then r :: T else t :: insT T r) = _
    rcases List.mem_cons.mp hr with rfl | hr
    · rw [if_pos (Int.le_refl _)]
    · have := h1 r hr
      rw [if_neg (by omega), ih h2 hr]
theorem insT_max {T : List Int} {r : Int} (h : ∀ t ∈ T, t < r) : insT T r = T ++ [r] := by
  induction T with
  | nil => rfl
  | cons t T ih =>
    have := h t List.mem_cons_self
    show (if r ≤ t then r :: T else t :: insT T r) = _
    rw [if_neg (by omega), ih fun x hx => h x (List.mem_cons_of_mem _ hx)]; rfl
theorem tops_asc_self {T : List Int} : Asc T → topsI T = T := by
  induction T using list_snoc_ind with
  | h0 => intro _; rfl
  | h1 T r ih =>
    intro h
    unfold Asc at h
    rw [List.pairwise_append] at h
    rw [topsI_snoc, ih h.1, insT_max fun t ht => h.2.2 t ht r (by simp)]
theorem tops_mem {v : List Int} {x : Int} : x ∈ topsI v → x ∈ v := by
  induction v using list_snoc_ind with
  | h0 => intro h; cases h
  | h1 v r ih =>
    rw [topsI_snoc]
    intro h
    rcases insT_mem h with q | q
    · rw [q]; simp
    · exact List.mem_append_left _ (ih q)
theorem insT_mem_iff : ∀ {T : List Int} {r x : Int}, Asc T → (x ∈ insT T r ↔ x = r ∨ (x ∈ T ∧ ¬ (r < x ∧ ∀ y ∈ T, r ≤ y → x ≤ y)))
  | [], r, x, _ => by simp [insT]
  | t :: T, r, x, h => by
    obtain ⟨h1, h2⟩ := List.pairwise_cons.mp h
    show x ∈ (if r ≤ t then r :: T else t :: insT T r) ↔ _
    by_cases hr : r ≤ t
    · rw [if_pos hr, List.mem_cons, List.mem_cons]
      constructor
      · rintro (e | e)
        · exact .inl e
        · exact .inr ⟨.inr e, fun z => by have := z.2 t List.mem_cons_self hr; have := h1 x e; omega⟩
      · rintro (e | ⟨e | e, n⟩)
        · exact .inl e
        · by_cases q : x = r
          · exact .inl q
          · exfalso
            refine n ⟨by omega, fun y hy _ => ?_⟩
            rcases List.mem_cons.mp hy with w | w
            · omega
            · have := h1 y w; omega
        · exact .inr e
    · rw [if_neg hr, List.mem_cons, insT_mem_iff h2, List.mem_cons]
      constructor
      · rintro (e | e | ⟨e, n⟩)
        · exact .inr ⟨.inl e, fun z => by omega⟩
        · exact .inl e
        · refine .inr ⟨.inr e, fun z => n ⟨z.1, fun y hy hry => z.2 y (List.mem_cons_of_mem _ hy) hry⟩⟩
      · rintro (e | ⟨e | e, n⟩)
        · exact .inr (.inl e)
        · exact .inl e
        · refine .inr (.inr ⟨e, fun z => n ⟨z.1, fun y hy hry => ?_⟩⟩)
          rcases List.mem_cons.mp hy with w | w
          · omega
          · exact z.2 y w hry
theorem entered_insT {room : List Int} {r : Int} (h : Asc room) : enteredI room r = insT room r := by
  refine asc_ext (setI_asc _) (insT_asc r h) fun x => ?_
  unfold enteredI
  rw [setI_mem, List.mem_filter, List.mem_append, List.mem_singleton, insT_mem_iff h, decide_eq_true_eq]
  unfold leaverI
  by_cases hr : r ∈ room
  · rw [if_pos hr]
    constructor
    · rintro ⟨e | e, _⟩
      · by_cases q : x = r
        · exact .inl q
        · exact .inr ⟨e, fun z => by have := z.2 r hr (Int.le_refl _); omega⟩
      · exact .inl e
    · rintro (e | ⟨e, _⟩)
      · exact ⟨.inr e, nofun⟩
      · exact ⟨.inl e, nofun⟩
  · rw [if_neg hr]
    have ha : Asc (room.filter fun x => decide (r < x)) := by unfold Asc at h ⊢; exact h.sublist List.filter_sublist
    have hm : ∀ y, y ∈ room.filter (fun x => decide (r < x)) ↔ y ∈ room ∧ r < y := fun y => by rw [List.mem_filter, decide_eq_true_eq]
    cases hf : room.filter fun x => decide (r < x) with
    | nil =>
      rw [hf] at hm
      constructor
      · rintro ⟨e | e, _⟩
        · exact .inr ⟨e, fun z => by have := (hm x).mpr ⟨e, z.1⟩; cases this⟩
        · exact .inl e
      · rintro (e | ⟨e, _⟩)
        · exact ⟨.inr e, nofun⟩
        · exact ⟨.inl e, nofun⟩
    | cons g gs =>
      rw [hf] at hm ha
      have hg := (hm g).mp List.mem_cons_self
      have gle : ∀ y ∈ room, r ≤ y → g ≤ y := fun y hy hry => by
        have : r ≠ y := fun z => hr (z ▸ hy)
        rcases List.mem_cons.mp ((hm y).mpr ⟨hy, by omega⟩) with w | w
        · omega
        · have := (List.pairwise_cons.mp ha).1 y w; omega
      have hne : (some x ≠ (g :: gs).head?) ↔ x ≠ g := by simp
      rw [hne]
      constructor
      · rintro ⟨e | e, n⟩
        · refine .inr ⟨e, fun z => n ?_⟩
          have := z.2 g hg.1 (by omega)
          have := gle x e (by omega)
          omega
        · exact .inl e
      · rintro (e | ⟨e, n⟩)
        · exact ⟨.inr e, by omega⟩
        · exact ⟨.inl e, fun z => n ⟨by omega, fun y hy hry => by rw [z]; exact gle y hy hry⟩⟩
/-- the room behind visits -/
theorem room_tops {room v : List Int} (h : Asc room) : roomI room v = topsI (room ++ v) := by
  induction v using list_snoc_ind with
  | h0 => rw [List.append_nil, tops_asc_self h]; rfl
  | h1 v r ih => rw [roomI_snoc, ih, ← List.append_assoc, topsI_snoc, entered_insT (topsI_asc _)]
theorem tops_upto {w : List Int} (h : Pos w) (r : Int) : (((topsI w).filter fun t => decide (t ≤ r)).length : Int) = longI 1 r w := by
  have e1 : ∀ l : List Int, l.filter (fun t => decide (t ≤ r)) = l.filter fun t => decide (t < r + 1) := fun l => List.filter_congr fun x _ => by rw [decide_eq_decide]; omega
  have e2 : w.filter (inR 1 r) = w.filter fun t => decide (t < r + 1) := List.filter_congr fun x hx => by
    have := h x hx
    rw [Bool.eq_iff_iff, inR_iff, decide_eq_true_eq]; omega
  rw [e1, tops_filter, long_tops, e2]
theorem c_room {room v : List Int} (h : Asc room) (hl : room.length + v.length < 60) : fn_room_after [iT room, iL v] = some (iT (topsI (room ++ v))) := by rw [fn_room_eq hl, room_tops h]
/-! ### the result of chains -/
theorem best_long {v room : List Int} (hv : Rk v) (ha : Asc room) (hp : Rk room) {r : Int} (hr : 0 ≤ r) : bestI (Ch v) room r = longI 1 r (room ++ v) := by
  have people : ∀ b, (((room.filter fun x => decide (x ≤ b)).length : Nat) : Int) = longI 1 b room := fun b => by
    have := tops_upto hp.pos b
    rwa [tops_asc_self ha] at this
  have hm : ∀ b, 0 ≤ b → (meetI (Ch v) (b + 1) r : Int) = longI (b + 1) r v := fun b hb => ch_meet hv.pos (by omega)
  have hb0 : ∀ b ∈ 0 :: room.filter (fun x => decide (x ≤ r)), 0 ≤ b ∧ b ≤ r := fun b hb => by
    rcases List.mem_cons.mp hb with e | e
    · omega
    · obtain ⟨e1, e2⟩ := List.mem_filter.mp e
      have := hp b e1
      have := of_decide_eq_true e2
      omega
  unfold bestI
  refine (maxI_uniq ?_ fun y hy => ?_).symm
  · obtain ⟨m, m1, m2, e⟩ := long_app_has (v := room) (w := v) (lo := 1) (hi := r) (by omega)
    have bm := maxI_mem (ns := (0 :: room.filter fun x => decide (x ≤ r)).filter fun x => decide (x ≤ m)) (List.ne_nil_of_mem (List.mem_filter.mpr ⟨List.mem_cons_self, decide_eq_true (by omega)⟩))
    have bg : ∀ x ∈ room, x ≤ m → x ≤ maxI ((0 :: room.filter fun x => decide (x ≤ r)).filter fun x => decide (x ≤ m)) := fun x hx z => maxI_ge (List.mem_filter.mpr ⟨List.mem_cons_of_mem _ (List.mem_filter.mpr ⟨hx, decide_eq_true (by omega)⟩), decide_eq_true z⟩)
    generalize maxI ((0 :: room.filter fun x => decide (x ≤ r)).filter fun x => decide (x ≤ m)) = b at bm bg
    obtain ⟨b1, b2⟩ := List.mem_filter.mp bm
    have b2 : b ≤ m := of_decide_eq_true b2
    obtain ⟨b3, b4⟩ := hb0 b b1
    refine List.mem_map.mpr ⟨b, b1, ?_⟩
    have eN : longI 1 b room = longI 1 m room := by
      rw [← people, ← people]
      congr 2
      refine List.filter_congr fun x hx => ?_
      rw [decide_eq_decide]
      exact ⟨fun z => by omega, fun z => bg x hx z⟩
    have e2 : longI (m + 1) r v ≤ longI (b + 1) r v := long_sub (List.Sublist.refl _) (by omega) (Int.le_refl _)
    have e3 := long_app_ge (v := room) (w := v) (lo := 1) (hi := r) (m := b) (by omega) b4
    rw [people, hm b b3]
    omega
  · obtain ⟨b, hb, rfl⟩ := List.mem_map.mp hy
    obtain ⟨b3, b4⟩ := hb0 b hb
    rw [people, hm b b3]
    exact long_app_ge (by omega) b4
theorem upto_fold {T : List Int} (hT : Asc T) {f : Int → Int} : ∀ (S fo : List Int) (lo : Int), S.Pairwise (· < ·) → (∀ x ∈ S, lo < x) → (∀ x ∈ T, x ≤ lo ∨ x ∈ S) → fo = T.filter (fun t => decide (t ≤ lo)) →
    (∀ r ∈ S, f r = ((T.filter fun t => decide (t ≤ r)).length : Int)) → S.foldl (fun fo r => if (fo.length : Int) < f r then fo ++ [r] else fo) fo = T
  | [], fo, lo, _, _, hc, hf, _ => by
    rw [hf]
    exact List.filter_eq_self.mpr fun x hx => decide_eq_true ((hc x hx).resolve_right nofun)
  | r :: S, fo, lo, hS, hlo, hc, hf, hr => by
    obtain ⟨s1, s2⟩ := List.pairwise_cons.mp hS
    have lr := hlo r List.mem_cons_self
    rw [List.foldl_cons]
    refine upto_fold hT S _ r s2 s1 (fun x hx => ?_) ?_ fun x hx => hr x (List.mem_cons_of_mem _ hx)
    · rcases hc x hx with e | e
      · exact .inl (by omega)
      · rcases List.mem_cons.mp e with e | e
        · exact .inl (by omega)
        · exact .inr e
    · -- one more place
      have e2 : T.filter (fun t => decide (t ≤ r)) = T.filter (fun t => decide (t ≤ lo)) ++ if r ∈ T then [r] else [] := by
        clear hr hf
        induction T with
        | nil => simp
        | cons t T ih =>
          obtain ⟨t1, t2⟩ := List.pairwise_cons.mp hT
          have ih := ih t2 fun x hx => hc x (List.mem_cons_of_mem _ hx)
          rw [List.filter_cons, List.filter_cons]
          by_cases a : t ≤ lo
          · have : t ≠ r := by omega
            rw [if_pos (decide_eq_true a), if_pos (by simp; omega), ih]
            simp [Ne.symm this]
          · have tS := (hc t List.mem_cons_self).resolve_left a
            have none : T.filter (fun x => decide (x ≤ lo)) = [] := List.filter_eq_nil_iff.mpr fun x hx => by have := t1 x hx; simp; omega
            rcases List.mem_cons.mp tS with e | e
            · subst e
              have n1 : t ∉ T := fun z => by have := t1 t z; omega
              have none2 : T.filter (fun x => decide (x ≤ t)) = [] := List.filter_eq_nil_iff.mpr fun x hx => by have := t1 x hx; simp; omega
              rw [if_pos (by simp), if_neg (by simpa using a), none, none2]
              simp
            · have := s1 t e
              have none2 : T.filter (fun x => decide (x ≤ r)) = [] := List.filter_eq_nil_iff.mpr fun x hx => by have := t1 x hx; simp; omega
              have n1 : r ∉ t :: T := fun z => by
                rcases List.mem_cons.mp z with w | w
                · omega
                · have := t1 r w; omega
              rw [if_neg (by simp; omega), if_neg (by simpa using a), none, none2, if_neg n1]; rfl
      rw [hr r List.mem_cons_self, e2, hf]
      by_cases c : r ∈ T
      · rw [if_pos c, List.length_append, if_pos (by simp; omega)]
      · rw [if_neg c, List.append_nil, if_neg (by omega)]
theorem result_tops {v room : List Int} (hv : Rk v) (ha : Asc room) (hp : Rk room) : resultI (Ch v) room = topsI (room ++ v) := by
  unfold resultI
  have hb : Rk (room ++ v) := hp.app hv
  refine upto_fold (f := bestI (Ch v) room) (topsI_asc _) _ [] 0 (setI_asc _) (fun x hx => ?_) (fun x hx => ?_) ?_ fun r hr => ?_
  · rcases List.mem_append.mp (setI_mem.mp hx) with q | q
    · exact (ch_chs hv.pos).pos x (ranks_mem.mp q)
    · have := hp x q; omega
  · refine .inr (setI_mem.mpr (List.mem_append.mpr ?_))
    rcases List.mem_append.mp (tops_mem hx) with q | q
    · exact .inr q
    · exact .inl (ranks_mem.mpr ((ch_mem hv.pos).mpr q))
  · exact (List.filter_eq_nil_iff.mpr fun x hx => by have := hb x (tops_mem hx); simp; omega).symm
  · have : 0 ≤ r := by
      rcases List.mem_append.mp (setI_mem.mp hr) with q | q
      · have := (ch_chs hv.pos).pos r (ranks_mem.mp q); omega
      · have := hp r q; omega
    rw [best_long hv ha hp this, tops_upto hb.pos]
theorem c_result {v room : List Int} (hv : Rk v) (ha : Asc room) (hp : Rk room) : fn_result [chT (Ch v), iT room] = some (iT (topsI (room ++ v))) := by
  have c := ch_cr hv
  have l1 := c.flen
  have l2 : room.length ≤ 12 := rk_len (ha.imp fun h => by omega) hp
  have l3 := c.clen
  rw [fn_result_eq (by omega) (by omega) fun d hd => by have := c.each d hd; omega, result_tops hv ha hp]
theorem c_rmany {v room : List Int} (hv : Rk v) (hl : v.length < 60) (ha : Asc room) (hp : Rk room) (m : Nat) : fn_room_after_many [iT room, iL v, .int m] = some (iT (topsI (room ++ rep m v))) := by
  obtain ⟨n, n1, n2, n3⟩ := settle_ex hv
  have e : Ch (rep (min m n) v) = Ch (rep m v) := by
    by_cases c : m ≤ n
    · rw [Nat.min_eq_left c]
    · rw [Nat.min_eq_right (by omega), rep_stay hv n2 m (by omega)]
  have c := ch_cr (hv.rep (min m n))
  have l1 := c.flen
  have l2 : room.length ≤ 12 := rk_len (ha.imp fun h => by omega) hp
  have l3 := c.clen
  rw [fn_rmany_eq (es := []) hl (ch_some hv.pos) (reps_of hv n2 n3) (by omega) (by omega) (by omega) fun d hd => by have := c.each d hd; omega, e, result_tops (hv.rep m) ha hp]
end DL

namespace DL
open PySem
/-! ### k87: the lists without an ascent -/
theorem pil_row (row : List Int) (lo hi : Int) : Pil row lo hi row (partedI row lo hi) := pil_all row lo hi row [] (by simp)
theorem parts_len (row : List Int) (lo hi : Int) : longI lo hi row = ((partedI row lo hi).length : Int) := by
  have := congrArg List.length (pil_row row lo hi).tops
  rw [List.length_map] at this
  rw [long_tops, ← this]
theorem restr_len (cs : List (List Int)) (lo hi : Int) : (restrI cs lo hi).length = meetI cs lo hi := by
  unfold restrI
  rw [(sortL_perm _).length_eq, List.filter_map, List.length_map]
  unfold meetI
  congr 1
  refine List.filter_congr fun c _ => ?_
  show decide (0 < (c.filter (inR lo hi)).length) = c.any (inR lo hi)
  rw [Bool.eq_iff_iff, decide_eq_true_eq, List.length_pos_iff_exists_mem, List.any_eq_true]
  simp only [List.mem_filter]
theorem filter_all {v : List Int} (h : Rk v) : v.filter (inR 1 12) = v := List.filter_eq_self.mpr fun x hx => inR_iff.mpr (h x hx)
theorem kept_long {row : List Int} (h : Rk row) (lo hi : Int) : longI 1 12 (row.filter (inR lo hi)) = longI lo hi row := by
  rw [long_tops, long_tops, filter_all (h.sub fun x hx => (List.mem_filter.mp hx).1)]
theorem ch_len {v : List Int} (h : Rk v) : ((Ch v).length : Int) = longI 1 12 v := by
  rw [← ch_meet h.pos (by decide)]
  unfold meetI
  have := ch_cr h
  rw [List.filter_eq_self.mpr fun c hc => by
    obtain ⟨x, xs, e⟩ := List.exists_cons_of_ne_nil (this.chs.ne c hc)
    have hx : x ∈ c := by rw [e]; exact List.mem_cons_self
    exact List.any_eq_true.mpr ⟨x, hx, inR_iff.mpr (this.rk x (List.mem_flatten.mpr ⟨c, hc, hx⟩))⟩]
/-- values of indices -/
def valsI (row : List Int) (p : List Int) : List Int := p.map fun x => row.getD x.toNat 0
structure PartOk (row : List Int) (lo hi : Int) (p : List Int) (j : Nat) : Prop where
  ne : p ≠ []
  idx : ∀ x ∈ p, 0 ≤ x ∧ x < row.length
  mem : ∀ x : Int, x ∈ p ↔ ∃ k : Nat, x = k ∧ (endsI lo hi row)[k]? = some ((j : Int) + 1)
  desc : (valsI row p).Pairwise (· ≥ ·)
  lt : j < (partedI row lo hi).length
theorem part_ok {row : List Int} {lo hi : Int} {p : List Int} {j : Nat} (h : (partedI row lo hi)[j]? = some p) : PartOk row lo hi p j := by
  have P := pil_row row lo hi
  have m := P.mem j p h
  have hp := List.mem_of_getElem? h
  refine ⟨P.ne p hp, fun x hx => ?_, m, P.desc p hp, (List.getElem?_eq_some_iff.mp h).1⟩
  obtain ⟨k, rfl, hk⟩ := (m x).mp hx
  have := (List.getElem?_eq_some_iff.mp hk).1
  rw [endsI_len] at this
  omega
theorem getD_mem {row : List Int} {k : Int} (h : 0 ≤ k ∧ k < row.length) : row.getD k.toNat 0 ∈ row := by
  have : k.toNat < row.length := by omega
  rw [List.getD_eq_getElem?_getD, List.getElem?_eq_getElem this]
  exact List.getElem_mem this
theorem PartOk.vals {row : List Int} {lo hi : Int} {p : List Int} {j : Nat} (h : PartOk row lo hi p j) : ∀ x ∈ valsI row p, x ∈ row := fun x hx => by
  obtain ⟨k, hk, rfl⟩ := List.mem_map.mp hx
  exact getD_mem (h.idx k hk)
theorem ends_get {row : List Int} {lo hi k : Int} {l : Int} (h : 0 ≤ k ∧ k < row.length) : (endsI lo hi row)[k.toNat]? = some l ↔ (endsI lo hi row).getD k.toNat 0 = l := by
  have : k.toNat < (endsI lo hi row).length := by rw [endsI_len]; omega
  rw [List.getD_eq_getElem?_getD, List.getElem?_eq_getElem this]
  simp
/-- of each list one -/
theorem choice_one {row : List Int} {lo hi : Int} {p : List Int} {j : Nat} (h : PartOk row lo hi p j) : ((choiceI lo hi row).filter fun k => decide (k ∈ p)).length = 1 := by
  obtain ⟨c1, c2, c3, c4, c5, c6⟩ := choice_ok lo hi row
  have hl : (choiceI lo hi row).length = (partedI row lo hi).length := by have := parts_len row lo hi; omega
  generalize choiceI lo hi row = C at c1 c2 c3 c4 c5 c6 hl
  have lab : ∀ (i : Nat) (k : Int), C[i]? = some k → (k ∈ p ↔ i = j) := fun i k hk => by
    have e := c6 i k hk
    have b := c2 k (List.mem_of_getElem? hk)
    rw [h.mem k]
    constructor
    · rintro ⟨n, rfl, hn⟩
      rw [Int.toNat_natCast, List.getD_eq_getElem?_getD, hn] at e
      have : (j : Int) + 1 = 1 + i := e
      omega
    · intro ij
      exact ⟨k.toNat, by omega, (ends_get b).mpr (by rw [e, ij]; omega)⟩
  have hj : j < C.length := by rw [hl]; exact h.lt
  have gen : ∀ (C : List Int) (n : Nat), (∀ (i : Nat) (k : Int), C[i]? = some k → (k ∈ p ↔ i + n = j)) → (C.filter fun k => decide (k ∈ p)).length = if n ≤ j ∧ j < n + C.length then 1 else 0 := by
    intro C
    induction C with
    | nil => intro n _; rw [if_neg (by simp)]; rfl
    | cons k C ih =>
      intro n hh
      have ih := ih (n + 1) fun i k hk => by have := hh (i + 1) k hk; rwa [show i + 1 + n = i + (n + 1) by omega] at this
      have h0 := hh 0 k rfl
      rw [List.filter_cons]
      by_cases q : k ∈ p
      · have := h0.mp q
        rw [if_pos (decide_eq_true q), List.length_cons, ih, if_neg (by omega), if_pos (by simp; omega)]
      · have : ¬ 0 + n = j := fun z => q (h0.mpr z)
        rw [if_neg (by simpa using q), ih]
        by_cases w : n + 1 ≤ j ∧ j < n + 1 + C.length
        · rw [if_pos w, if_pos (by simp; omega)]
        · rw [if_neg w, if_neg (by simp; omega)]
  rw [gen C 0 fun i k hk => by rw [lab i k hk]; omega, if_pos (by omega)]
/-! ### a list without an ascent -/
theorem desc_long {w : List Int} (h : w.Pairwise (· ≥ ·)) {lo hi : Int} : longI lo hi w = if w.any (inR lo hi) = true then 1 else 0 := by
  obtain ⟨s, s1, s2, s3, s4⟩ := long_has (v := w) (lo := lo) hi
  have up : s.length ≤ 1 := by
    match s, s1, s2 with
    | [], _, _ => exact Nat.zero_le _
    | [x], _, _ => exact Nat.le_refl _
    | x :: y :: t, s1, s2 =>
      have a := (List.pairwise_cons.mp (h.sublist s1)).1 y (by simp)
      have b := (List.pairwise_cons.mp s2).1 y (by simp)
      omega
  by_cases c : w.any (inR lo hi) = true
  · rw [if_pos c]
    obtain ⟨x, hx, xr⟩ := List.any_eq_true.mp c
    have := long_ge (v := w) (lo := lo) hi [x] (List.singleton_sublist.mpr hx) (List.pairwise_singleton _ _) fun y hy => by rw [List.mem_singleton.mp hy]; exact xr
    simp at this
    omega
  · rw [if_neg c, ← s4]
    cases s with
    | nil => rfl
    | cons x s => exact absurd (List.any_eq_true.mpr ⟨x, s1.subset List.mem_cons_self, s3 x List.mem_cons_self⟩) c
theorem set_ne {w : List Int} (h : w ≠ []) : setI w ≠ [] := by
  obtain ⟨x, xs, rfl⟩ := List.exists_cons_of_ne_nil h
  exact List.ne_nil_of_mem (setI_mem.mpr List.mem_cons_self)
theorem one_chs {c : List Int} (ha : Asc c) (hn : c ≠ []) (hp : Pos c) : CHS [c] :=
  ⟨fun d hd => by rw [List.mem_singleton.mp hd]; exact ha, fun d hd => by rw [List.mem_singleton.mp hd]; exact hn, by simpa using (show c.Nodup from ha.imp fun h => by omega), fun k hk => hp k (by simpa using hk), List.pairwise_singleton _ _⟩
theorem desc_ch {w : List Int} (hw : Rk w) (hn : w ≠ []) (h : w.Pairwise (· ≥ ·)) : Ch w = [setI w] := by
  refine (ch_uniq hw.pos (one_chs (setI_asc w) (set_ne hn) fun x hx => hw.pos x (setI_mem.mp hx)) fun lo hi hlo => ?_).symm
  rw [desc_long h, meetI_cons]
  have : (setI w).any (inR lo hi) = w.any (inR lo hi) := by
    rw [Bool.eq_iff_iff, List.any_eq_true, List.any_eq_true]
    simp only [setI_mem]
  rw [this]
  show (((if _ then 1 else 0) + 0 : Nat) : Int) = _
  split <;> rfl
theorem dedup_sub : ∀ l : List Int, (dedupI l).Sublist l
  | [] => List.Sublist.refl _
  | [x] => List.Sublist.refl _
  | x :: y :: r => by
    show (if x = y then dedupI (y :: r) else x :: dedupI (y :: r)).Sublist _
    split
    · exact (dedup_sub (y :: r)).trans (List.sublist_cons_self _ _)
    · exact (dedup_sub (y :: r)).cons_cons x
theorem desc_rev {w : List Int} (hw : Rk w) (h : w.Pairwise (· ≥ ·)) : longI 1 12 w.reverse = ((setI w).length : Int) := by
  apply Int.le_antisymm
  · have := long_le_set (v := w) (w := w.reverse) (fun x hx => List.mem_reverse.mp hx) 1 12
    have e : (setR 1 12 w).length ≤ (setI w).length := List.length_filter_le _ _
    omega
  · refine long_ge 12 (setI w) ?_ (setI_asc w) fun x hx => inR_iff.mpr (hw x (setI_mem.mp hx))
    have srt : w.reverse.Pairwise (· ≤ ·) := by rw [List.pairwise_reverse]; exact h.imp fun h => by omega
    have e : w.reverse = sortI w := sortI_uniq (List.reverse_perm w) srt
    rw [e]
    unfold setI
    exact dedup_sub _
theorem tops_desc {w : List Int} (h : w.Pairwise (· ≥ ·)) (x : Int) (hx : w.getLast? = some x) : topsI w = [x] := by
  induction w using list_snoc_ind generalizing x with
  | h0 => cases hx
  | h1 w r ih =>
    rw [List.getLast?_append] at hx
    have hx : r = x := by simpa using hx
    rw [← hx, topsI_snoc]
    rw [List.pairwise_append] at h
    cases hw : w.getLast? with
    | none => rw [List.getLast?_eq_none_iff.mp hw]; rfl
    | some y =>
      rw [ih h.1 y hw]
      have := h.2.2 y (List.mem_of_getLast? hw) r (by simp)
      show (if r ≤ y then [r] else _) = _
      rw [if_pos this]
theorem tops_rep {w : List Int} (hw : Rk w) {k : Nat} (hk : (setI w).length ≤ k) : topsI (rep k w) = setI w := by
  refine asc_ext (topsI_asc _) (setI_asc _) fun x => ⟨fun h => setI_mem.mpr (rep_mem (tops_mem h)), fun h => ?_⟩
  -- as many as there are
  have e1 := tops_upto (hw.rep k).pos 12
  rw [long_rep hk] at e1
  have e2 : (topsI (rep k w)).filter (fun t => decide (t ≤ 12)) = topsI (rep k w) := List.filter_eq_self.mpr fun y hy => decide_eq_true ((hw.rep k) y (tops_mem hy)).2
  have e3 : setR 1 12 w = setI w := List.filter_eq_self.mpr fun y hy => inR_iff.mpr (hw y (setI_mem.mp hy))
  rw [e2, e3] at e1
  have sub : topsI (rep k w) ⊆ setI w := fun y hy => setI_mem.mpr (rep_mem (tops_mem hy))
  apply Classical.byContradiction
  intro n
  have := List.Nodup.length_le_of_subset (l₁ := x :: topsI (rep k w)) (l₂ := setI w) (List.nodup_cons.mpr ⟨n, (topsI_asc _).imp fun h => by omega⟩) fun y hy => by
    rcases List.mem_cons.mp hy with rfl | hy
    · exact h
    · exact sub hy
  rw [List.length_cons] at this
  omega
/-! ### a list taken away -/
def enumI : Int → List Int → List (Int × Int)
  | _, [] => []
  | k, r :: rs => (k, r) :: enumI (k + 1) rs
def leftI (row gone : List Int) : List Int := ((enumI 0 row).filter fun p => decide (p.1 ∉ gone)).map (·.2)
theorem left_rest {row : List Int} {lo hi : Int} {p : List Int} {j : Nat} (h : PartOk row lo hi p j) : leftI row p = restE lo hi row ((j : Int) + 1) := by
  unfold leftI restE
  have gen : ∀ (E : List (Int × Int)) (n : Nat), (∀ (i : Nat) (q : Int × Int), E[i]? = some q → (((n + i : Nat) : Int) ∈ p ↔ q.2 = (j : Int) + 1)) → ((enumI n (E.map (·.1))).filter fun q => decide (q.1 ∉ p)).map (·.2) = (E.filter fun q => decide (q.2 ≠ (j : Int) + 1)).map (·.1) := by
    intro E
    induction E with
    | nil => intro n _; rfl
    | cons q E ih =>
      intro n hh
      have ih := ih (n + 1) fun i q hq => by have := hh (i + 1) q hq; rwa [show n + (i + 1) = n + 1 + i by omega] at this
      have h0 := hh 0 q rfl
      rw [Nat.add_zero] at h0
      rw [List.map_cons]
      show (((((n : Int), q.1)) :: enumI ((n : Int) + 1) (E.map (·.1))).filter _).map _ = _
      have en : ((n : Int) + 1) = ((n + 1 : Nat) : Int) := by omega
      rw [en, List.filter_cons, List.filter_cons]
      by_cases c : (n : Int) ∈ p
      · rw [if_neg (by simpa using c), if_neg (by simpa using h0.mp c), ih]
      · have : ¬ q.2 = (j : Int) + 1 := fun z => c (h0.mpr z)
        rw [if_pos (by simpa using c), if_pos (by simpa using this), List.map_cons, List.map_cons, ih]
  have := gen (endsE lo hi row) 0 fun i q hq => by
    rw [Nat.zero_add, h.mem]
    have e : (endsI lo hi row)[i]? = some q.2 := by unfold endsI; rw [List.getElem?_map, hq]; rfl
    constructor
    · rintro ⟨k, e1, e2⟩
      have : i = k := by omega
      subst this
      rw [e] at e2
      exact Option.some.inj e2
    · intro z
      exact ⟨i, rfl, by rw [e, z]⟩
  rw [endsE_fst] at this
  exact this
theorem left_long {row : List Int} {lo hi : Int} {p : List Int} {j : Nat} (h : PartOk row lo hi p j) : longI lo hi (leftI row p) = ((partedI row lo hi).length : Int) - 1 := by
  have e := parts_len row lo hi
  have := h.lt
  rw [left_rest h, long_rest (by omega) (by omega), e]
theorem left_mem {row gone : List Int} {x : Int} (h : x ∈ leftI row gone) : x ∈ row := by
  obtain ⟨p, hp, rfl⟩ := List.mem_map.mp h
  have hp := (List.mem_filter.mp hp).1
  have gen : ∀ (row : List Int) (k : Int) (p : Int × Int), p ∈ enumI k row → p.2 ∈ row := by
    intro row
    induction row with
    | nil => intro k p h; cases h
    | cons r rs ih =>
      intro k p h
      rcases List.mem_cons.mp h with rfl | h
      · exact List.mem_cons_self
      · exact List.mem_cons_of_mem _ (ih _ p h)
  exact gen row 0 p hp
theorem enumI_len : ∀ (row : List Int) (k : Int), (enumI k row).length = row.length
  | [], _ => rfl
  | _ :: rs, k => by show (enumI (k + 1) rs).length + 1 = _; rw [enumI_len rs]; rfl
theorem left_len (row gone : List Int) : (leftI row gone).length ≤ row.length := by
  unfold leftI
  rw [List.length_map, ← enumI_len row 0]
  exact List.length_filter_le _ _
end DL

namespace DL
open PySem PySem.Spec L2
/-! ### plain values as data -/
abbrev eL {α : Type} (e : α → D) (xs : List α) : D := .list (xs.map e)
abbrev eT {α : Type} (e : α → D) (xs : List α) : D := .tuple (xs.map e)
abbrev eP {α β : Type} (e : α → D) (f : β → D) (p : α × β) : D := .tuple [e p.1, f p.2]
structure EncOk {α : Type} (e : α → D) (n : Nat) : Prop where
  lay : ∀ x, (e x).canLay0 = true
  dep : ∀ x, PyData.depth (e x) ≤ n
  eqv : ∀ x y, PyData.eqv (e x) (e y) = true ↔ x = y
theorem encI : EncOk PyData.int 0 := ⟨fun _ => rfl, fun _ => Nat.le_refl _, fun x y => by show decide (x = y) = true ↔ _; rw [decide_eq_true_eq]⟩
theorem EncOk.lays {α : Type} {e : α → D} {n : Nat} (h : EncOk e n) : ∀ xs : List α, PyData.canLayAll0 (xs.map e) = true
  | [] => rfl
  | x :: xs => by
    show ((e x).canLay0 && PyData.canLayAll0 (xs.map e)) = true
    rw [h.lay x, h.lays xs]; rfl
theorem EncOk.deps {α : Type} {e : α → D} {n : Nat} (h : EncOk e n) : ∀ xs : List α, PyData.depthAll (xs.map e) ≤ n
  | [] => Nat.zero_le _
  | x :: xs => by
    show max (PyData.depth (e x)) (PyData.depthAll (xs.map e)) ≤ n
    have := h.dep x
    have := h.deps xs
    omega
theorem EncOk.eqvs {α : Type} {e : α → D} {n : Nat} (h : EncOk e n) : ∀ xs ys : List α, PyData.eqvAll (xs.map e) (ys.map e) = true ↔ xs = ys
  | [], [] => by simp [PyData.eqvAll]
  | [], _ :: _ => by simp [PyData.eqvAll]
  | _ :: _, [] => by simp [PyData.eqvAll]
  | x :: xs, y :: ys => by
    show (PyData.eqv (e x) (e y) && PyData.eqvAll (xs.map e) (ys.map e)) = true ↔ _
    rw [Bool.and_eq_true, h.eqv x y, h.eqvs xs ys, List.cons.injEq]
theorem encL {α : Type} {e : α → D} {n : Nat} (h : EncOk e n) : EncOk (eL e) (n + 1) :=
  ⟨h.lays, fun xs => by show PyData.depthAll (xs.map e) + 1 ≤ _; have := h.deps xs; omega, h.eqvs⟩
theorem encT {α : Type} {e : α → D} {n : Nat} (h : EncOk e n) : EncOk (eT e) (n + 1) :=
  ⟨h.lays, fun xs => by show PyData.depthAll (xs.map e) + 1 ≤ _; have := h.deps xs; omega, h.eqvs⟩
theorem encP {α β : Type} {e : α → D} {f : β → D} {n : Nat} (h : EncOk e n) (g : EncOk f n) : EncOk (eP e f) (n + 1) :=
  ⟨fun p => by show ((e p.1).canLay0 && ((f p.2).canLay0 && true)) = true; rw [h.lay, g.lay]; rfl, fun p => by
    show max (PyData.depth (e p.1)) (max (PyData.depth (f p.2)) 0) + 1 ≤ _
    have := h.dep p.1; have := g.dep p.2; omega, fun p q => by
    show (PyData.eqv (e p.1) (e q.1) && (PyData.eqv (f p.2) (f q.2) && true)) = true ↔ _
    rw [Bool.and_eq_true, Bool.and_eq_true, h.eqv, g.eqv, Prod.ext_iff]; simp⟩
theorem EncOk.shaped {α : Type} {e : α → D} {n : Nat} (h : EncOk e n) (hn : n ≤ 64) (x : α) : SeqAt.shaped (e x) = true := by
  unfold SeqAt.shaped
  rw [h.lay x, Bool.true_and, decide_eq_true_eq]
  exact Nat.le_trans (h.dep x) hn
theorem EncOk.beq {α : Type} [DecidableEq α] {e : α → D} {n : Nat} (h : EncOk e n) (x y : α) : PyData.eqv (e x) (e y) = decide (x = y) := by
  rw [Bool.eq_iff_iff, h.eqv, decide_eq_true_eq]
theorem pEq_e {α : Type} [DecidableEq α] {e : α → D} {n : Nat} (h : EncOk e n) (hn : n ≤ 64) (x y : α) : pEq (e x) (e y) = some (.frz (.bool (decide (x = y)))) := by
  unfold pEq; rw [if_pos ⟨h.shaped hn x, h.shaped hn y⟩, h.beq]
theorem pNe_e {α : Type} [DecidableEq α] {e : α → D} {n : Nat} (h : EncOk e n) (hn : n ≤ 64) (x y : α) : pNe (e x) (e y) = some (.frz (.bool (!decide (x = y)))) := by
  unfold pNe; rw [if_pos ⟨h.shaped hn x, h.shaped hn y⟩, h.beq]
theorem any_e {α : Type} [DecidableEq α] {e : α → D} {n : Nat} (h : EncOk e n) (x : α) : ∀ xs : List α, ((xs.map e).any fun z => PyData.eqv z (e x)) = decide (x ∈ xs)
  | [] => rfl
  | y :: xs => by
    rw [List.map_cons, List.any_cons, any_e h x xs, h.beq]
    by_cases q : y = x
    · simp [q]
    · simp [q, Ne.symm q]
theorem pIn_e {α : Type} [DecidableEq α] {e : α → D} {n : Nat} (h : EncOk e n) (hn : n < 64) (x : α) (xs : List α) : pIn (e x) (eL e xs) = some (.frz (.bool (decide (x ∈ xs)))) := by
  unfold pIn inD
  show Option.map _ (if _ then _ else _) = _
  rw [if_pos ⟨h.shaped (by omega) x, (encL h).shaped (by omega) xs⟩, any_e h]; rfl
theorem pNotIn_e {α : Type} [DecidableEq α] {e : α → D} {n : Nat} (h : EncOk e n) (hn : n < 64) (x : α) (xs : List α) : pNotIn (e x) (eL e xs) = some (.frz (.bool (!decide (x ∈ xs)))) := by
  unfold pNotIn inD
  show Option.map _ (if _ then _ else _) = _
  rw [if_pos ⟨h.shaped (by omega) x, (encL h).shaped (by omega) xs⟩, any_e h]; rfl
theorem pNotIn_t (x : Int) (xs : List Int) : pNotIn (.int x) (iT xs) = some (.frz (.bool (!decide (x ∈ xs)))) := by
  unfold pNotIn inD
  simp only [flatD, flat_ints, any_eqv, and_self, if_true, Option.map_some]
/-! ### comprehensions -/
theorem lcGo_e {α : Type} {h : HT} {ft : FT} {fe : FE} {vs : List Nat} {ρw : Ce} (e : α → D) (R : α → Ce) (p : α → Bool) (O : α → Opd) (f : α → D) : ∀ (xs : List α) (acc : List D),
    (∀ x ∈ xs, h (e x) ρw = some (R x)) → (∀ x ∈ xs, ft (R x) = some (p x, R x)) → (∀ x ∈ xs, p x = true → fe (R x) = some (O x, R x) ∧ frD (O x) = some (f x)) → (∀ x ∈ xs, wipeC (R x) vs = ρw) → acc.length + xs.length ≤ 100000 →
    lcGo h ft fe vs (xs.map e) ρw acc = some (acc ++ (xs.filter p).map f, ρw)
  | [], acc, _, _, _, _, _ => by simp [lcGo]
  | x :: xs, acc, h1, h2, h3, h4, hl => by
    simp only [List.length_cons] at hl
    have ih := fun acc hl => lcGo_e (h := h) (ft := ft) (fe := fe) (vs := vs) (ρw := ρw) e R p O f xs acc (fun y hy => h1 y (List.mem_cons_of_mem _ hy)) (fun y hy => h2 y (List.mem_cons_of_mem _ hy)) (fun y hy => h3 y (List.mem_cons_of_mem _ hy)) (fun y hy => h4 y (List.mem_cons_of_mem _ hy)) hl
    rw [List.map_cons]
    simp only [lcGo, h1 x List.mem_cons_self, Option.bind_some, h2 x List.mem_cons_self]
    cases hp : p x with
    | false =>
      rw [cond_false, h4 x List.mem_cons_self, ih acc (by omega), List.filter_cons_of_neg (by simp [hp])]
    | true =>
      obtain ⟨e1, e2⟩ := h3 x List.mem_cons_self hp
      rw [cond_true, e1]
      simp only [Option.bind_some, e2]
      rw [if_pos (Nat.lt_of_lt_of_le (by omega : acc.length < 100001) (by decide)), h4 x List.mem_cons_self, ih _ (by rw [List.length_append, List.length_singleton]; omega), List.filter_cons_of_pos hp]
      simp
/-- [fe for x in fi if ft] -/
theorem fLc_e {α β : Type} {fi : FI} {h : HT} {ft : FT} {fe : FE} {vs : List Nat} {ρ0 ρ1 ρw : Ce} {os : Option Nat} {xs : List α} {e : α → D} {R : α → Ce} {p : α → Bool} {O : α → Opd} (e2 : β → D) {g : α → β}
    (hi : fi ρ0 = some (xs.map e, os, ρ1)) (hw : wipeC ρ1 (vs ++ hsO os) = ρw) (hh : ∀ x, h (e x) ρw = some (R x)) (ht : ∀ x ∈ xs, ft (R x) = some (p x, R x)) (he : ∀ x ∈ xs, p x = true → fe (R x) = some (O x, R x)) (hf : ∀ x, frD (O x) = some (e2 (g x)))
    (hv : ∀ x, wipeC (R x) vs = ρw) (hr : restC ρ1 (vs ++ hsO os) ρw = ρ1) (hl : xs.length ≤ 100000) : fLc fi h ft fe vs ρ0 = some (.new (eL e2 ((xs.filter p).map g)), ρ1) := by
  unfold fLc
  rw [hi, Option.bind_some]
  simp only [hw]
  rw [lcGo_e e R p O (fun x => e2 (g x)) xs [] (fun x _ => hh x) ht (fun x hx hp => ⟨he x hx hp, hf x⟩) (fun x _ => hv x) (by simpa using hl), Option.bind_some, List.nil_append, hr]
  simp only [eL, List.map_map]; rfl
/-- [fe for x in fi] -/
theorem fLc_m {α β : Type} {fi : FI} {h : HT} {fe : FE} {vs : List Nat} {ρ0 ρ1 ρw : Ce} {os : Option Nat} {xs : List α} {e : α → D} {R : α → Ce} {O : α → Opd} (e2 : β → D) {g : α → β}
    (hi : fi ρ0 = some (xs.map e, os, ρ1)) (hw : wipeC ρ1 (vs ++ hsO os) = ρw) (hh : ∀ x, h (e x) ρw = some (R x)) (he : ∀ x ∈ xs, fe (R x) = some (O x, R x)) (hf : ∀ x, frD (O x) = some (e2 (g x)))
    (hv : ∀ x, wipeC (R x) vs = ρw) (hr : restC ρ1 (vs ++ hsO os) ρw = ρ1) (hl : xs.length ≤ 100000) : fLc fi h fYes fe vs ρ0 = some (.new (eL e2 (xs.map g)), ρ1) := by
  have := fLc_e (ft := fYes) (p := fun _ => true) e2 hi hw hh (fun x _ => rfl) (fun x hx _ => he x hx) hf hv hr hl
  rwa [List.filter_eq_self.mpr fun _ _ => rfl] at this
/-! ### one statement after the other -/
section
variable {α : Type} {en : Rs → Option α} {c : Option α} {ρ ρ1 ρ2 : Ce} {g g1 g2 : FS} {fe : FE} {ft : FT} {o : Opd} {d : D}
theorem bSet {i : Nat} (h : fe ρ = some (o, ρ1)) (hd : frD o = some d) (h2 : ρ1.set i (.val d) = ρ2) (k : (g ρ2).bind en = c) : (gSeq (gSet i fe) g ρ).bind en = c := by
  rw [gSeq_nx ((gSet_of h hd).trans (by rw [h2])), k]
theorem bIf_f (h : ft ρ = some (false, ρ1)) (k : (g ρ1).bind en = c) : (gSeq (gIf ft g1 gNil) g ρ).bind en = c := by
  rw [gSeq_nx (ρ1 := ρ1) (by rw [gIf_f h]; rfl), k]
theorem bIf_t (h : ft ρ = some (true, ρ1)) (h2 : g1 ρ1 = some (.nx ρ2)) (k : (g ρ2).bind en = c) : (gSeq (gIf ft g1 g2) g ρ).bind en = c := by
  rw [gSeq_nx (ρ1 := ρ2) (by rw [gIf_t h, h2]), k]
theorem bSeq (h : g1 ρ = some (.nx ρ1)) (k : (g ρ1).bind en = c) : (gSeq g1 g ρ).bind en = c := by rw [gSeq_nx h, k]
theorem bRet (h : fe ρ = some (o, ρ1)) (k : en (.rt o ρ1) = c) : (gRet fe ρ).bind en = c := by rw [gRet_of h]; exact k
end
/-! ### the law's own comparison -/
theorem c_same {d e : D} (h : e = d) (s : Short d) (hd : PyData.depth d < 8) : fn__law_same [e, d] = some (.bool true) := by rw [h]; exact same_ok s 8 hd
theorem Short.ints (ns : List Int) (h : ns.length ≤ 1000) : Short (iL ns) ∧ Short (iT ns) :=
  ⟨.lst _ (by simpa using h) fun d hd => by obtain ⟨i, _, rfl⟩ := List.mem_map.mp hd; exact .int i, .tup _ (by simpa using h) fun d hd => by obtain ⟨i, _, rfl⟩ := List.mem_map.mp hd; exact .int i⟩
theorem Urn.mono {k j : Nat} {w : D} (h : Urn k w) (hk : k ≤ j) : Urn j w := by
  obtain ⟨a, b, c, h1, h2, h3⟩ := h
  exact ⟨a, b, c, h1, h2, by omega⟩
theorem pIx_at {ns : List Int} {k : Int} (h : 0 ≤ k ∧ k < ns.length) : pIx (iL ns) (.int k) = some (.frz (.int (ns.getD k.toNat 0))) := by
  have := pIx_iL ns k.toNat (by omega)
  rwa [Int.toNat_of_nonneg h.1] at this
theorem cut_from1 (ns : List D) : cutD ns (some 1) none = ns.drop 1 := by
  cases ns with
  | nil => rfl
  | cons n ns =>
    simp [cutD, HT.sIx]
    try exact List.take_of_length_le (by omega)
theorem enumD_ints : ∀ (row : List Int) (k : Int), enumD k (row.map .int) = (enumI k row).map pairD
  | [], _ => rfl
  | r :: rs, k => by show _ :: enumD (k + 1) (rs.map .int) = _ :: (enumI (k + 1) rs).map pairD; rw [enumD_ints rs]; rfl
end DL

namespace DL
open PySem PySem.Spec L2
/-! ### ranges -/
def rngI (a b : Int) : List Int := (List.range (b - a).toNat).map fun (k : Nat) => a + (k : Int)
theorem rngD_gen (a : Int) : ∀ n : Nat, rngD a 1 n = ((List.range n).map fun (k : Nat) => a + (k : Int)).map .int := by
  intro n
  induction n generalizing a with
  | zero => rfl
  | succ n ih =>
    rw [List.range_succ_eq_map]
    show PyData.int a :: rngD (a + 1) 1 n = _
    rw [ih (a + 1)]
    simp only [List.map_cons, List.map_map]
    congr 1
    · simp
    · refine List.map_congr_left fun k _ => ?_
      show PyData.int _ = PyData.int _
      congr 1
      show a + 1 + (k : Int) = a + ((k + 1 : Nat) : Int)
      omega
theorem mem_rngI {a b x : Int} : x ∈ rngI a b ↔ a ≤ x ∧ x < b := by
  unfold rngI
  rw [List.mem_map]
  constructor
  · rintro ⟨k, hk, rfl⟩
    have := List.mem_range.mp hk
    omega
  · intro h
    exact ⟨(x - a).toNat, List.mem_range.mpr (by omega), by omega⟩
theorem rngI_len (a b : Int) : (rngI a b).length = (b - a).toNat := by unfold rngI; rw [List.length_map, List.length_range]
theorem rngI_asc (a b : Int) : (rngI a b).Pairwise (· < ·) := by
  unfold rngI
  rw [List.pairwise_map]
  exact List.pairwise_lt_range.imp fun h => by omega
theorem okR_int {i : Int} (h : -100000 ≤ i ∧ i ≤ 100000) : okR i = true := by
  unfold okR
  rw [two62]
  exact decide_eq_true (by omega)
theorem fRng_2 {fa fb : FE} {ρ : Ce} {i j : Int} (h1 : fa ρ = some (.frz (.int i), ρ)) (h2 : fb ρ = some (.frz (.int j), ρ)) (hi : -100000 ≤ i ∧ i ≤ 100000) (hj : -100000 ≤ j ∧ j ≤ 100000) : fRng (faC fa (faC fb faN)) ρ = some ((rngI i j).map .int, none, ρ) := by
  have : faC fa (faC fb faN) ρ = some ([.frz (.int i), .frz (.int j)], ρ) := faC_of h1 (faC_of h2 rfl)
  unfold fRng
  rw [this, Option.bind_some]
  dsimp only
  rw [okR_int hi, okR_int hj, if_pos ⟨rfl, rfl⟩, rngD_gen]; rfl
theorem fRng_1i {fa : FE} {ρ : Ce} {j : Int} (h1 : fa ρ = some (.frz (.int j), ρ)) (hj : -100000 ≤ j ∧ j ≤ 100000) : fRng (faC fa faN) ρ = some ((rngI 0 j).map .int, none, ρ) := by
  have : faC fa faN ρ = some ([.frz (.int j)], ρ) := faC_of h1 rfl
  rw [fRng_1 this (okR_int hj) rfl, rngD_gen]
  unfold rngI
  rw [Int.sub_zero]
/-! ### a method that changes what a slot holds, its arguments draw -/
theorem fM_app2 {fe : FE} {fa : FA} {ρ ρ1 : Ce} {ds : List D} {d w0 : D} {i : Nat} {b b0 : Bool} (h : fe ρ = some (.own i, ρ)) (h0 : ρ[i]? = some (.own b0 w0)) (hT : tyD "list" w0 = true) (h2 : fa ρ = some ([.frz d], ρ1)) (hi : ρ1[i]? = some (.own b (.list ds))) (hl : ds.length ≤ 100000) : fM "list" mApp fe fa ρ = some (.frz .none, ρ1.set i (.own b (.list (ds ++ [d])))) := by
  have hl2 : ds.length < sizeLine := Nat.lt_of_le_of_lt hl (by decide)
  unfold fM
  simp only [h, Option.bind_some, h0, hT, if_true, h2, hi, frzs, mApp, if_pos hl2]
theorem fCallU_e {fn : FnU} {fa : FA} {ρ ρ1 ρ2 : Ce} {i : Nat} {os : List Opd} {b : Bool} {w r w' : D} {ds : List D} (h3 : fn w ds = some (r, w')) (h : fa ρ = some (.own i :: os, ρ1)) (hi : ρ1[i]? = some (.own b w)) (h2 : frzs os = some ds) (h5 : ρ1.set i (.own b w') = ρ2) : fCallU fn fa ρ = some (.frz r, ρ2) := by
  rw [← h5]; exact fCallU_of h hi h2 h3
section
variable {α : Type} {en : Rs → Option α} {c : Option α} {ρ ρ1 ρ2 : Ce} {g g1 g2 : FS} {fe : FE} {ft : FT} {o : Opd} {d : D}
theorem bOwn {i : Nat} (h : fe ρ = some (.new d, ρ1)) (h2 : ρ1.set i (.own false d) = ρ2) (k : (g ρ2).bind en = c) : (gSeq (gOwn i fe) g ρ).bind en = c := by
  refine bSeq (ρ1 := ρ2) ?_ k
  unfold gOwn
  rw [h, Option.bind_some, ← h2]
theorem bFrz {i : Nat} (h : ρ[i]? = some (.own false d)) (h2 : ρ.set i (.val d) = ρ2) (k : (g ρ2).bind en = c) : (gSeq (gFrz i) g ρ).bind en = c := by
  refine bSeq (ρ1 := ρ2) ?_ k
  unfold gFrz
  rw [h, ← h2]
end
end DL

namespace DL
open PySem PySem.Spec L2
/-- def is_integer(thing): -/
def g_is_integer : FS := gRet (fAndV (fIs (isD "int") (fN 0)) (fNotV (fIs (isD "bool") (fN 0))))
def fn_is_integer : Fn := fnP 1 1 g_is_integer
/-- def is_rank(size, thing): -/
def g_is_rank : FS := gRet (fAndV (fCall fn_is_integer (faC (fN 1) (faN))) (fCh pLe pLe (fC (.int 1)) (fN 1) (fN 0)))
def fn_is_rank : Fn := fnP 2 2 g_is_rank
/-- def settles(chains): -/
def g_settles : FS := gRet (f2 pSub (fB pLen (faC (fCall fn_repetitions (faC (fN 0) (faN))) (faN))) (fC (.int 1)))
def fn_settles : Fn := fnP 1 1 g_settles
/-- def difference(first, second): -/
def g_difference : FS := gSeq (gTupS [(2, false), (3, false)] (faCn (fCall fn_chains_of (faC (fN 0) (faN))) (faCn (fCall fn_chains_of (faC (fN 1) (faN))) (faN)))) (gSeq (gFor (fRng (faC (fC (.int 1)) (faC (f2 pAdd (fC (.int 12)) (fC (.int 1))) (faN)))) (hN 4) (gFor (fRng (faC (fN 4) (faC (f2 pAdd (fC (.int 12)) (fC (.int 1))) (faN)))) (hN 5) (gIf (fT (f2 pNe (fCall fn_meeting (faC (fN 2) (faC (fN 4) (faC (fN 5) (faN))))) (fCall fn_meeting (faC (fN 3) (faC (fN 4) (faC (fN 5) (faN))))))) (gRet (fTup (faC (fN 4) (faC (fN 5) (faN))))) (gNil)))) (gRet (fC .none)))
def fn_difference : Fn := fnP 6 2 g_difference
/-- def separating_room(first, second): -/
def g_separating_room : FS := gSeq (gSet 2 (fCall fn_difference (faC (fN 0) (faC (fN 1) (faN))))) (gRet (fIf (fT (f2 pIsN (fN 2) (fC .none))) (fC .none) (fTupRg (fC (.int 1)) (f2 pIx (fN 2) (fC (.int 0))))))
def fn_separating_room : Fn := fnP 3 2 g_separating_room
/-- def shows_difference(first, second, thing): -/
def g_shows_difference : FS := gSeq (gIf (fOr (fNot (fT (fIs (isD "tuple") (fN 2)))) (fOr (fT (f2 pNe (fB pLen (faC (fN 2) (faN))) (fC (.int 2)))) (fNot (fT (fB pAll (faC (fLc (fSeq (fN 2)) (hN 5) (fYes) (fCall fn_is_rank (faC (fC (.int 12)) (faC (fN 5) (faN)))) [5]) (faN))))))) (gRet (fC (.bool false))) (gNil)) (gSeq (gUnp (hT [3, 4]) (fN 2)) (gRet (fAndV (f2 pLe (fN 3) (fN 4)) (f2 pNe (fCall fn_longest (faC (fN 0) (faC (fN 3) (faC (fN 4) (faN))))) (fCall fn_longest (faC (fN 1) (faC (fN 3) (faC (fN 4) (faN)))))))))
def fn_shows_difference : Fn := fnP 6 3 g_shows_difference
/-- def all_rooms(size): -/
def g_all_rooms : FS := gSeq (gSet 1 (fLst (faC (fTup (faN)) (faN)))) (gSeq (gFor (fRng (faC (fN 0) (faC (fC (.int 0)) (faC (fNeg (fC (.int 1))) (faN))))) (hN 2) (gSet 1 (f2 pAdd (f2 pAdd (fLst (faC (fTup (faN)) (faN))) (fLc (fSeq (fN 1)) (hN 3) (fYes) (fTup (faC (fN 2) (fStar (fN 3) (faN)))) [3])) (fSl (fN 1) (fo1 (fC (.int 1))) (fo0))))) (gRet (fN 1)))
def fn_all_rooms : Fn := fnP 4 1 g_all_rooms
/-- def staying(size, chains): -/
def g_staying : FS := gRet (fLc (fSeq (fCall fn_all_rooms (faC (fN 0) (faN)))) (hN 2) (fT (f2 pEq (fCall fn_result (faC (fN 1) (faC (fN 2) (faN)))) (fN 2))) (fN 2) [2])
def fn_staying : Fn := fnP 3 2 g_staying
/-- def _law_crowd(urn, size): -/
def g__law_crowd : FS := gRet (fB pTuple (faC (fLc (fRng (faC (fC (.int 1)) (faC (f2 pAdd (fN 1) (fC (.int 1))) (faN)))) (hN 2) (fT (f2 pEq (fCallU fn__law_take (faC (fN 0) (faC (fC (.int 2)) (faN)))) (fC (.int 0)))) (fN 2) [2]) (faN)))
def fn__law_crowd : FnU := fnU 3 2 g__law_crowd
/-- def _law_come(room, rank): -/
def g__law_come : FS := gSeq (gSet 2 (fLc (fSeq (fN 0)) (hN 4) (fT (f2 pGt (fN 4) (fN 1))) (fN 4) [4])) (gSeq (gSet 3 (fIf (fAnd (fT (f2 pNotIn (fN 1) (fN 0))) (fT (f2 pNe (fN 2) (fLst (faN))))) (f2 pIx (fN 2) (fC (.int 0))) (fC .none))) (gRet (fB pTuple (faC (fSortSet (f2 pAdd (fLc (fSeq (fN 0)) (hN 4) (fT (f2 pNe (fN 4) (fN 3))) (fN 4) [4]) (fLst (faC (fN 1) (faN))))) (faN)))))
def fn__law_come : Fn := fnP 5 2 g__law_come
/-- def _law_led(room, row): -/
def g__law_led : FS := gSeq (gFor (fSeq (fN 1)) (hN 2) (gSet 0 (fCall fn__law_come (faC (fN 0) (faC (fN 2) (faN)))))) (gRet (fN 0))
def fn__law_led : Fn := fnP 3 2 g__law_led
/-- def _law_rooms_so(size): -/
def g__law_rooms_so : FS := gSeq (gSet 1 (fLst (faC (fTup (faN)) (faN)))) (gSeq (gFor (fRng (faC (fC (.int 1)) (faC (f2 pAdd (fN 0) (fC (.int 1))) (faN)))) (hN 2) (gSet 1 (f2 pAdd (fN 1) (fLc (fSeq (fN 1)) (hN 3) (fYes) (f2 pAdd (fN 3) (fTup (faC (fN 2) (faN)))) [3])))) (gRet (fB pSortE (faC (fN 1) (faN)))))
def fn__law_rooms_so : Fn := fnP 4 1 g__law_rooms_so
/-- def _law_of(urn, some): -/
def g__law_of : FS := gRet (f2 pIx (fN 1) (fCallU fn__law_take (faC (fN 0) (faC (fB pLen (faC (fN 1) (faN))) (faN)))))
def fn__law_of : FnU := fnU 2 2 g__law_of
end DL

namespace DL
open PySem PySem.Spec L2
/-! ### a loop that searches -/
theorem goFor_search {α : Type} {h : HT} {g : FS} (f : α → D) (P : Ce → Prop) (hit : α → Option D) : ∀ (xs : List α) (ρ : Ce),
    (∀ x ∈ xs, ∀ ρ, P ρ → ∃ ρ1, h (f x) ρ = some ρ1 ∧ ((hit x = none ∧ ∃ ρ2, g ρ1 = some (.nx ρ2) ∧ P ρ2) ∨ ∃ d ρ2, hit x = some d ∧ g ρ1 = some (.rt (.frz d) ρ2))) → P ρ →
    (xs.findSome? hit = none ∧ ∃ ρ', goFor h g (xs.map f) ρ = some (.nx ρ') ∧ P ρ') ∨ (∃ d ρ', xs.findSome? hit = some d ∧ goFor h g (xs.map f) ρ = some (.rt (.frz d) ρ'))
  | [], ρ, _, hp => .inl ⟨rfl, ρ, rfl, hp⟩
  | x :: xs, ρ, H, hp => by
    obtain ⟨ρ1, h1, h2⟩ := H x List.mem_cons_self ρ hp
    rcases h2 with ⟨e, ρ2, h3, h4⟩ | ⟨d, ρ2, e, h3⟩
    · have ih := goFor_search f P hit xs ρ2 (fun y hy => H y (List.mem_cons_of_mem _ hy)) h4
      have eg : goFor h g ((x :: xs).map f) ρ = goFor h g (xs.map f) ρ2 := by
        simp only [List.map_cons, goFor, h1, Option.bind_some, h3]
      rw [eg, List.findSome?_cons, e]
      exact ih
    · refine .inr ⟨d, ρ2, by rw [List.findSome?_cons, e], ?_⟩
      simp only [List.map_cons, goFor, h1, Option.bind_some, h3]
/-! ### difference, separating_room, shows_difference -/
def difI (v w : List Int) (lo hi : Int) : Option (Int × Int) := if meetI (Ch v) lo hi = meetI (Ch w) lo hi then none else some (lo, hi)
def diffI (v w : List Int) : Option (Int × Int) := (rngI 1 13).findSome? fun lo => (rngI lo 13).findSome? fun hi => difI v w lo hi
def pairO : Option (Int × Int) → D
  | some p => pairD p
  | none => .none
theorem find_map {α β : Type} (f : α → Option (Int × Int)) (e : Int × Int → D) : ∀ xs : List α, xs.findSome? (fun x => (f x).map e) = (xs.findSome? f).map e
  | [] => rfl
  | x :: xs => by
    rw [List.findSome?_cons, List.findSome?_cons]
    cases h : f x with
    | none => exact find_map (β := β) f e xs
    | some p => rfl
theorem c_difference {v w : List Int} (hv : Rk v) (hw : Rk w) (lv : v.length < 60) (lw : w.length < 60) : fn_difference [iL v, iL w] = some (pairO (diffI v w)) := by
  unfold fn_difference
  let ρ0 : Ce := [.val (iL v), .val (iL w), .un, .un, .un, .un]
  let st : Cell → Cell → Ce := fun c d => [.val (iL v), .val (iL w), .val (chT (Ch v)), .val (chT (Ch w)), c, d]
  refine Eq.trans (fnP_at ρ0 rfl rfl) ?_
  unfold g_difference
  have h1 : fCall fn_chains_of (faC (fN 0) (faN)) ρ0 = some (.frz (chT (Ch v)), ρ0) := fCall_of (faC_of rfl rfl) rfl (c_chains hv lv)
  have h2 : fCall fn_chains_of (faC (fN 1) (faN)) ρ0 = some (.frz (chT (Ch w)), ρ0) := fCall_of (faC_of rfl rfl) rfl (c_chains hw lw)
  refine bSeq (ρ1 := st .un .un) ?_ ?_
  · unfold gTupS faCn
    rw [h1, Option.bind_some]
    show Option.bind (Option.bind (Option.bind (fCall fn_chains_of (faC (fN 1) (faN)) ρ0) _) _) _ = _
    rw [h2]; rfl
  have inner : ∀ lo d, 1 ≤ lo ∧ lo ≤ 12 → (((rngI lo 13).findSome? fun hi => (difI v w lo hi).map pairD) = none ∧ ∃ ρ', gFor (fRng (faC (fN 4) (faC (f2 pAdd (fC (.int 12)) (fC (.int 1))) (faN)))) (hN 5) (gIf (fT (f2 pNe (fCall fn_meeting (faC (fN 2) (faC (fN 4) (faC (fN 5) (faN))))) (fCall fn_meeting (faC (fN 3) (faC (fN 4) (faC (fN 5) (faN))))))) (gRet (fTup (faC (fN 4) (faC (fN 5) (faN))))) (gNil)) (st (.val (.int lo)) d) = some (.nx ρ') ∧ ∃ d, ρ' = st (.val (.int lo)) d) ∨
      ∃ z ρ', ((rngI lo 13).findSome? fun hi => (difI v w lo hi).map pairD) = some z ∧ gFor (fRng (faC (fN 4) (faC (f2 pAdd (fC (.int 12)) (fC (.int 1))) (faN)))) (hN 5) (gIf (fT (f2 pNe (fCall fn_meeting (faC (fN 2) (faC (fN 4) (faC (fN 5) (faN))))) (fCall fn_meeting (faC (fN 3) (faC (fN 4) (faC (fN 5) (faN))))))) (gRet (fTup (faC (fN 4) (faC (fN 5) (faN))))) (gNil)) (st (.val (.int lo)) d) = some (.rt (.frz z) ρ') := by
    intro lo d hlo
    have hr : fRng (faC (fN 4) (faC (f2 pAdd (fC (.int 12)) (fC (.int 1))) (faN))) (st (.val (.int lo)) d) = some ((rngI lo 13).map .int, none, st (.val (.int lo)) d) := fRng_2 (i := lo) (j := 13) rfl rfl (by omega) (by decide)
    rw [gFor_of hr]
    refine goFor_search PyData.int (fun ρ => ∃ d, ρ = st (.val (.int lo)) d) (fun hi => (difI v w lo hi).map pairD) (rngI lo 13) _ (fun hi _ ρ hp => ?_) ⟨_, rfl⟩
    obtain ⟨d, rfl⟩ := hp
    let ρ := st (.val (.int lo)) (.val (.int hi))
    have t := fT_of (f2_of (ρ := ρ) (ρ1 := ρ) (ρ2 := ρ) (fCall_of (fa := faC (fN 2) (faC (fN 4) (faC (fN 5) (faN)))) (faC_of rfl (faC_of rfl (faC_of rfl rfl))) rfl (c_meeting (ch_cr hv) lo hi)) (fCall_of (fa := faC (fN 3) (faC (fN 4) (faC (fN 5) (faN)))) (faC_of rfl (faC_of rfl (faC_of rfl rfl))) rfl (c_meeting (ch_cr hw) lo hi)) rfl rfl (pNe_ii _ _))
    refine ⟨ρ, rfl, ?_⟩
    unfold difI
    by_cases c : meetI (Ch v) lo hi = meetI (Ch w) lo hi
    · rw [decide_eq_true (by rw [c])] at t
      rw [if_pos c]
      exact .inl ⟨rfl, ρ, by rw [gIf_f t]; rfl, _, rfl⟩
    · rw [decide_eq_false (show ¬ ((meetI (Ch v) lo hi : Nat) : Int) = ((meetI (Ch w) lo hi : Nat) : Int) from fun z => c (by omega))] at t
      rw [if_neg c]
      exact .inr ⟨pairD (lo, hi), ρ, rfl, by rw [gIf_t t]; exact gRet_of (fTup_of (faC_of rfl (faC_of rfl rfl)) rfl (by simp))⟩
  have hr : fRng (faC (fC (.int 1)) (faC (f2 pAdd (fC (.int 12)) (fC (.int 1))) (faN))) (st .un .un) = some ((rngI 1 13).map .int, none, st .un .un) := fRng_2 (i := 1) (j := 13) rfl rfl (by decide) (by decide)
  have key := goFor_search (h := DL.hN 4) (g := gFor (fRng (faC (fN 4) (faC (f2 pAdd (fC (.int 12)) (fC (.int 1))) (faN)))) (hN 5) (gIf (fT (f2 pNe (fCall fn_meeting (faC (fN 2) (faC (fN 4) (faC (fN 5) (faN))))) (fCall fn_meeting (faC (fN 3) (faC (fN 4) (faC (fN 5) (faN))))))) (gRet (fTup (faC (fN 4) (faC (fN 5) (faN))))) (gNil))) PyData.int (fun ρ => ∃ c d, ρ = st c d) (fun lo => (rngI lo 13).findSome? fun hi => (difI v w lo hi).map pairD) (rngI 1 13) (st .un .un) (fun lo hlo ρ hp => by
    obtain ⟨c, d, rfl⟩ := hp
    have hlo := mem_rngI.mp hlo
    refine ⟨st (.val (.int lo)) d, rfl, ?_⟩
    rcases inner lo d (by omega) with ⟨e, ρ', e1, d', rfl⟩ | ⟨z, ρ', e, e1⟩
    · exact .inl ⟨e, _, e1, _, _, rfl⟩
    · exact .inr ⟨z, ρ', e, e1⟩) ⟨_, _, rfl⟩
  have ed : ((rngI 1 13).findSome? fun lo => (rngI lo 13).findSome? fun hi => (difI v w lo hi).map pairD) = (diffI v w).map pairD := by
    unfold diffI
    rw [← find_map (β := Unit) _ pairD]
    congr 1
    funext lo
    exact find_map (β := Unit) (fun hi => difI v w lo hi) pairD (rngI lo 13)
  rw [ed] at key
  rcases key with ⟨e, ρ', e1, c, d, rfl⟩ | ⟨z, ρ', e, e1⟩
  · refine bSeq ((gFor_of hr).trans e1) ?_
    have : diffI v w = none := Option.map_eq_none_iff.mp e
    rw [this]; rfl
  · obtain ⟨p, e2, rfl⟩ := Option.map_eq_some_iff.mp e
    rw [gSeq_rt ((gFor_of hr).trans e1), e2]; rfl
theorem findSome_none {α β : Type} {f : α → Option β} : ∀ {xs : List α}, xs.findSome? f = none → ∀ x ∈ xs, f x = none
  | y :: xs, h, x, hx => by
    rw [List.findSome?_cons] at h
    cases e : f y with
    | some b => rw [e] at h; cases h
    | none =>
      rw [e] at h
      rcases List.mem_cons.mp hx with rfl | hx
      · exact e
      · exact findSome_none h x hx
theorem findSome_some {α β : Type} {f : α → Option β} {b : β} : ∀ {xs : List α}, xs.findSome? f = some b → ∃ x ∈ xs, f x = some b
  | y :: xs, h => by
    rw [List.findSome?_cons] at h
    cases e : f y with
    | some c =>
      rw [e] at h
      exact ⟨y, List.mem_cons_self, by rw [e]; exact h⟩
    | none =>
      rw [e] at h
      obtain ⟨x, hx, ex⟩ := findSome_some h
      exact ⟨x, List.mem_cons_of_mem _ hx, ex⟩
theorem long_top {v : List Int} (h : Rk v) {lo hi : Int} (hh : 12 ≤ hi) : longI lo hi v = longI lo 12 v := by
  rw [long_tops, long_tops]
  congr 2
  refine congrArg topsI (List.filter_congr fun x hx => ?_)
  have := h x hx
  rw [Bool.eq_iff_iff, inR_iff, inR_iff]; omega
theorem diff_none {v w : List Int} (hv : Rk v) (hw : Rk w) : diffI v w = none ↔ Ch v = Ch w := by
  constructor
  · intro h
    refine (ch_eq hv.pos hw.pos).mpr fun lo hi hlo => ?_
    have base : ∀ lo hi, 1 ≤ lo → lo ≤ hi → hi ≤ 12 → longI lo hi v = longI lo hi w := fun lo hi h1 h2 h3 => by
      have a := findSome_none h lo (mem_rngI.mpr (by omega))
      have b := findSome_none a hi (mem_rngI.mpr (by omega))
      unfold difI at b
      by_cases c : meetI (Ch v) lo hi = meetI (Ch w) lo hi
      · rw [← ch_meet hv.pos (by omega), ← ch_meet hw.pos (by omega), c]
      · rw [if_neg c] at b; cases b
    by_cases c1 : 12 ≤ hi
    · rw [long_top hv c1, long_top hw c1]
      by_cases c2 : lo ≤ 12
      · exact base lo 12 (by omega) c2 (by omega)
      · rw [long_none (by omega), long_none (by omega)]
    · by_cases c2 : lo ≤ hi
      · exact base lo hi (by omega) c2 (by omega)
      · rw [long_none (by omega), long_none (by omega)]
  · intro e
    cases h : diffI v w with
    | none => rfl
    | some p =>
      obtain ⟨lo, _, a⟩ := findSome_some h
      obtain ⟨hi, _, b⟩ := findSome_some a
      unfold difI at b
      rw [e, if_pos rfl] at b
      cases b
theorem diff_some {v w : List Int} (hv : Rk v) (hw : Rk w) {p : Int × Int} (h : diffI v w = some p) : 1 ≤ p.1 ∧ p.1 ≤ p.2 ∧ p.2 ≤ 12 ∧ longI p.1 p.2 v ≠ longI p.1 p.2 w := by
  obtain ⟨lo, hlo, a⟩ := findSome_some h
  obtain ⟨hi, hhi, b⟩ := findSome_some a
  have h1 := mem_rngI.mp hlo
  have h2 := mem_rngI.mp hhi
  unfold difI at b
  by_cases c : meetI (Ch v) lo hi = meetI (Ch w) lo hi
  · rw [if_pos c] at b; cases b
  · rw [if_neg c] at b
    cases b
    refine ⟨h1.1, h2.1, by dsimp only; omega, fun z => c ?_⟩
    dsimp only at z
    rw [← ch_meet hv.pos (by omega), ← ch_meet hw.pos (by omega)] at z
    exact Int.ofNat.inj z
theorem c_seproom {v w : List Int} (hv : Rk v) (hw : Rk w) (lv : v.length < 60) (lw : w.length < 60) {p : Int × Int} (hp : diffI v w = some p) : fn_separating_room [iL v, iL w] = some (iT (rngI 1 p.1)) := by
  have hb := diff_some hv hw hp
  unfold fn_separating_room
  let ρ0 : Ce := [.val (iL v), .val (iL w), .un]
  let ρ1 : Ce := [.val (iL v), .val (iL w), .val (pairD p)]
  refine Eq.trans (fnP_at ρ0 rfl rfl) ?_
  unfold g_separating_room
  refine bSet (ρ2 := ρ1) (fCall_of (faC_of rfl (faC_of rfl rfl)) rfl (c_difference hv hw lv lw)) rfl (by rw [hp]; rfl) ?_
  have t : fT (f2 pIsN (fN 2) (fC .none)) ρ1 = some (false, ρ1) := rfl
  have e : fTupRg (fC (.int 1)) (f2 pIx (fN 2) (fC (.int 0))) ρ1 = some (.frz (iT (rngI 1 p.1)), ρ1) := by
    have hx : f2 pIx (fN 2) (fC (.int 0)) ρ1 = some (.frz (.int p.1), ρ1) := rfl
    unfold fTupRg
    show Option.bind (some (Opd.frz (.int 1), ρ1)) _ = _
    rw [Option.bind_some]
    dsimp only
    rw [hx, Option.bind_some]
    show (if okR 1 = true ∧ okR p.1 = true ∧ (p.1 - 1).toNat ≤ 100000 then some (Opd.frz (.tuple (rngD 1 1 (p.1 - 1).toNat)), ρ1) else none) = _
    rw [if_pos ⟨okR_int (by decide), okR_int (by omega), by omega⟩, rngD_gen]; rfl
  refine bRet ((fIf_of t).trans e) rfl
theorem c_isrank (n x : Int) : fn_is_rank [.int n, .int x] = some (.bool (decide (1 ≤ x) && decide (x ≤ n))) := by
  unfold fn_is_rank
  let ρ0 : Ce := [.val (.int n), .val (.int x)]
  refine Eq.trans (fnP_at ρ0 rfl rfl) ?_
  refine bRet (fAndV_of (b := true) (c := decide (1 ≤ x) && decide (x ≤ n)) (fCall_of (faC_of (o := .frz (.int x)) (ρ1 := ρ0) rfl rfl) rfl rfl) fun _ => fCh_le rfl rfl rfl) (by rw [Bool.true_and]; rfl)
theorem c_shows {v w : List Int} {lo hi : Int} (lv : v.length ≤ 1000) (lw : w.length ≤ 1000) (h1 : 1 ≤ lo) (h2 : lo ≤ hi) (h3 : hi ≤ 12) : fn_shows_difference [iL v, iL w, pairD (lo, hi)] = some (.bool (!decide (longI lo hi v = longI lo hi w))) := by
  unfold fn_shows_difference
  let ρ0 : Ce := [.val (iL v), .val (iL w), .val (pairD (lo, hi)), .un, .un, .un]
  let ρ1 : Ce := [.val (iL v), .val (iL w), .val (pairD (lo, hi)), .val (.int lo), .val (.int hi), .un]
  refine Eq.trans (fnP_at ρ0 rfl rfl) ?_
  unfold g_shows_difference
  have hall : fLc (fSeq (fN 2)) (hN 5) (fYes) (fCall fn_is_rank (faC (fC (.int 12)) (faC (fN 5) (faN)))) [5] ρ0 = some (.new (eL PyData.bool [true, true]), ρ0) := by
    have := fLc_m (fi := fSeq (fN 2)) (h := DL.hN 5) (fe := fCall fn_is_rank (faC (fC (.int 12)) (faC (fN 5) (faN)))) (vs := [5]) (ρ0 := ρ0) (ρ1 := ρ0) (ρw := ρ0) (xs := [lo, hi]) (e := PyData.int) (R := fun x => ρ0.set 5 (.val (.int x))) (O := fun x => .frz (.bool true)) PyData.bool (g := fun _ => true) rfl rfl (fun _ => rfl) (fun x hx => fCall_of (faC_of (o := .frz (.int 12)) (ρ1 := ρ0.set 5 (.val (.int x))) rfl (faC_of (o := .frz (.int x)) (ρ1 := ρ0.set 5 (.val (.int x))) rfl rfl)) rfl (by
      rw [c_isrank]
      have : x = lo ∨ x = hi := by simpa using hx
      rw [decide_eq_true (by omega), decide_eq_true (by omega)]; rfl)) (fun _ => rfl) (fun _ => rfl) rfl (by simp)
    exact this
  refine bIf_f (ρ1 := ρ0) (fOr_of (b := false) (c := false) rfl fun _ => fOr_of (b := false) (c := false) rfl fun _ => fNot_of (b := true) (fT_of (fB_of (faC_of hall rfl) rfl rfl))) ?_
  refine bSeq (ρ1 := ρ1) rfl ?_
  refine bRet (fAndV_of (b := true) (c := !decide (longI lo hi v = longI lo hi w)) ?_ fun _ => f2_of (ρ1 := ρ1) (ρ2 := ρ1) (fCall_of (faC_of rfl (faC_of rfl (faC_of rfl rfl))) rfl (fn_longest_eq lv)) (fCall_of (faC_of rfl (faC_of rfl (faC_of rfl rfl))) rfl (fn_longest_eq lw)) rfl rfl (pNe_ii _ _)) (by rw [Bool.true_and]; rfl)
  have := f2_of (ρ := ρ1) (ρ1 := ρ1) (ρ2 := ρ1) (fe := fN 3) (fb := fN 4) rfl rfl rfl rfl (pLe_ii lo hi)
  rwa [decide_eq_true h2] at this
end DL

namespace DL
open PySem PySem.Spec L2
theorem pAdd_g (a b : List D) (h : a.length + b.length ≤ 100000) : pAdd (.list a) (.list b) = some (.new (.list (a ++ b))) := by
  show Option.or none (Option.or (if a.length + b.length ≤ sizeLine then some (Opd.new (.list (a ++ b))) else none) _) = _
  rw [if_pos (size_ge h)]; rfl
theorem frzs_frz : ∀ ds : List D, frzs (ds.map .frz) = some ds
  | [] => rfl
  | d :: ds => by show (frzs (ds.map .frz)).bind _ = _; rw [frzs_frz ds]; rfl
/-! ### all rooms, from the highest rank down -/
def dnI (a : Int) (k : Nat) : List Int := (List.range k).map fun (j : Nat) => a - (j : Int)
theorem rngD_dn : ∀ (k : Nat) (a : Int), rngD a (-1) k = (dnI a k).map .int
  | 0, _ => rfl
  | k + 1, a => by
    show PyData.int a :: rngD (a + -1) (-1) k = _
    rw [rngD_dn k]
    unfold dnI
    rw [List.range_succ_eq_map]
    simp only [List.map_cons, List.map_map]
    congr 1
    · simp
    · refine List.map_congr_left fun j _ => ?_
      show PyData.int _ = PyData.int _
      congr 1
      show a + -1 - (j : Int) = a - ((j + 1 : Nat) : Int)
      omega
theorem dnI_snoc (a : Int) (k : Nat) : dnI a (k + 1) = dnI a k ++ [a - (k : Int)] := by unfold dnI; rw [List.range_succ, List.map_append]; rfl
def arStep (found : List (List Int)) (r : Int) : List (List Int) := [[]] ++ found.map (r :: ·) ++ found.drop 1
def allRooms (n : Nat) : List (List Int) := (dnI n n).foldl arStep [[]]
def Rm (lo hi : Int) (R : List Int) : Prop := Asc R ∧ ∀ x ∈ R, lo ≤ x ∧ x ≤ hi
theorem ar_inv (n : Int) : ∀ k : Nat, ((dnI n k).foldl arStep [[]]).length = 2 ^ k ∧ (∃ t, (dnI n k).foldl arStep [[]] = [] :: t) ∧ ∀ R, R ∈ (dnI n k).foldl arStep [[]] ↔ Rm (n - k + 1) n R
  | 0 => by
    refine ⟨rfl, ⟨[], rfl⟩, fun R => ?_⟩
    show R ∈ [[]] ↔ _
    rw [List.mem_singleton]
    constructor
    · rintro rfl; exact ⟨List.Pairwise.nil, nofun⟩
    · rintro ⟨_, h⟩
      cases R with
      | nil => rfl
      | cons x R => have := h x List.mem_cons_self; omega
  | k + 1 => by
    obtain ⟨i1, ⟨t, i2⟩, i3⟩ := ar_inv n k
    rw [dnI_snoc, List.foldl_append]
    show (arStep _ _).length = _ ∧ (∃ t, arStep _ _ = _) ∧ ∀ R, R ∈ arStep _ _ ↔ _
    rw [i2] at i1 i3 ⊢
    refine ⟨?_, ⟨_, rfl⟩, fun R => ?_⟩
    · unfold arStep
      simp only [List.length_append, List.length_map, List.length_cons, List.length_nil, List.drop_one, List.tail_cons] at i1 ⊢
      rw [Nat.pow_succ]; omega
    · unfold arStep
      rw [List.append_assoc, List.mem_append, List.mem_append, List.mem_map, List.mem_singleton]
      show R = [] ∨ (∃ a, a ∈ [] :: t ∧ (n - (k : Int)) :: a = R) ∨ R ∈ t ↔ _
      constructor
      · rintro (rfl | ⟨a, ha, rfl⟩ | h)
        · exact ⟨List.Pairwise.nil, nofun⟩
        · obtain ⟨a1, a2⟩ := (i3 a).mp ha
          refine ⟨List.pairwise_cons.mpr ⟨fun x hx => by have := a2 x hx; omega, a1⟩, fun x hx => ?_⟩
          rcases List.mem_cons.mp hx with rfl | hx
          · constructor <;> omega
          · have := a2 x hx
            constructor <;> omega
        · obtain ⟨a1, a2⟩ := (i3 R).mp (List.mem_cons_of_mem _ h)
          exact ⟨a1, fun x hx => by have := a2 x hx; constructor <;> omega⟩
      · rintro ⟨a1, a2⟩
        cases R with
        | nil => exact .inl rfl
        | cons x R =>
          obtain ⟨b1, b2⟩ := List.pairwise_cons.mp a1
          have hx := a2 x List.mem_cons_self
          by_cases e : x = n - k
          · refine .inr (.inl ⟨R, (i3 R).mpr ⟨b2, fun y hy => ?_⟩, by rw [e]⟩)
            have := b1 y hy
            have := a2 y (List.mem_cons_of_mem _ hy)
            constructor <;> omega
          · refine .inr (.inr ?_)
            have := (i3 (x :: R)).mpr ⟨a1, fun y hy => ?_⟩
            · rcases List.mem_cons.mp this with w | w
              · cases w
              · exact w
            · have h2 := a2 y hy
              refine ⟨?_, h2.2⟩
              rcases List.mem_cons.mp hy with rfl | hy
              · omega
              · have := b1 y hy; omega
theorem mem_allRooms {n : Nat} {R : List Int} : R ∈ allRooms n ↔ Rm 1 n R := by
  have := (ar_inv n n).2.2 R
  rw [show ((n : Int) - (n : Nat) + 1) = 1 by omega] at this
  exact this
theorem allRooms_len {n : Nat} (h : n ≤ 12) : (allRooms n).length ≤ 4096 := by
  rw [show (allRooms n).length = 2 ^ n from (ar_inv n n).1]
  exact Nat.le_trans (Nat.pow_le_pow_right (by decide) h) (by decide)
theorem c_allrooms {n : Nat} (h : n ≤ 12) : fn_all_rooms [.int n] = some (eL iT (allRooms n)) := by
  unfold fn_all_rooms
  let st : List (List Int) → Cell → Ce := fun f c => [.val (.int n), .val (eL iT f), c, .un]
  let ρ0 : Ce := [.val (.int n), .un, .un, .un]
  refine Eq.trans (fnP_at ρ0 rfl rfl) ?_
  unfold g_all_rooms
  refine bSet (ρ2 := st [[]] .un) (d := eL iT [[]]) rfl rfl rfl ?_
  obtain ⟨ρ', hf, c, rfl⟩ := goFor_mapped (h := DL.hN 2) (g := gSet 1 (f2 pAdd (f2 pAdd (fLst (faC (fTup (faN)) (faN))) (fLc (fSeq (fN 1)) (hN 3) (fYes) (fTup (faC (fN 2) (fStar (fN 3) (faN)))) [3])) (fSl (fN 1) (fo1 (fC (.int 1))) (fo0)))) PyData.int (dnI n n) (fun pre ρ => ∃ c, ρ = st (pre.foldl arStep [[]]) c) (fun pre r post ρ e hp => by
    obtain ⟨c, rfl⟩ := hp
    have hpre : pre = dnI n pre.length ∧ pre.length < n := by
      have hl := congrArg List.length e
      have hd : (dnI (n : Int) n).length = n := by unfold dnI; rw [List.length_map, List.length_range]
      rw [hd, List.length_append, List.length_cons] at hl
      refine ⟨?_, by omega⟩
      have : (dnI (n : Int) n).take pre.length = pre := by rw [e, List.take_left]
      conv => lhs; rw [← this]
      unfold dnI
      rw [← List.map_take, List.take_range, Nat.min_eq_left (by omega)]
    have hlen : (pre.foldl arStep [[]]).length ≤ 4096 := by
      rw [hpre.1, (ar_inv n pre.length).1]
      exact Nat.le_trans (Nat.pow_le_pow_right (by decide) (show pre.length ≤ 12 by omega)) (by decide)
    let f := pre.foldl arStep [[]]
    let ρa := st f (.val (.int r))
    have h1 : fLc (fSeq (fN 1)) (DL.hN 3) (fYes) (fTup (faC (fN 2) (fStar (fN 3) (faN)))) [3] ρa = some (.new (eL iT (f.map (r :: ·))), ρa) := by
      refine fLc_m (ρ1 := ρa) (ρw := ρa) (xs := f) (e := iT) (R := fun x => ρa.set 3 (.val (iT x))) (O := fun x => .frz (iT (r :: x))) iT (g := fun x => r :: x) rfl rfl (fun _ => rfl) (fun x hx => ?_) (fun _ => rfl) (fun _ => rfl) rfl (by show (pre.foldl arStep [[]]).length ≤ _; omega)
      have hxl : x.length ≤ 1000 := by
        have hx' : x ∈ (dnI n pre.length).foldl arStep [[]] := hpre.1 ▸ hx
        obtain ⟨a1, a2⟩ := ((ar_inv n pre.length).2.2 x).mp hx'
        have := rk_len (l := x) (a1.imp fun h => by omega) fun y hy => by have := a2 y hy; constructor <;> omega
        omega
      have hs : fStar (fN 3) (faN) (ρa.set 3 (.val (iT x))) = some ((x.map PyData.int).map .frz ++ [], ρa.set 3 (.val (iT x))) := rfl
      have ha : faC (fN 2) (fStar (fN 3) (faN)) (ρa.set 3 (.val (iT x))) = some (.frz (.int r) :: (x.map PyData.int).map .frz, ρa.set 3 (.val (iT x))) := by
        have := faC_of (fe := fN 2) (ρ := ρa.set 3 (.val (iT x))) (o := .frz (.int r)) (ρ1 := ρa.set 3 (.val (iT x))) rfl hs
        rwa [List.append_nil] at this
      exact fTup_of ha (by show frzs ((PyData.int r :: x.map PyData.int).map .frz) = _; exact frzs_frz _) (by simp; omega)
    have h2 : fSl (fN 1) (fo1 (fC (.int 1))) (fo0) ρa = some (.new (.list ((f.map iT).drop 1)), ρa) := by
      show some (Opd.new (.list (cutD (f.map iT) (some 1) none)), ρa) = _
      rw [cut_from1]
    have h3 : f2 pAdd (fLst (faC (fTup (faN)) (faN))) (fLc (fSeq (fN 1)) (DL.hN 3) (fYes) (fTup (faC (fN 2) (fStar (fN 3) (faN)))) [3]) ρa = some (.new (.list ([iT []] ++ (f.map (r :: ·)).map iT)), ρa) :=
      f2_of (ρ1 := ρa) (x := .new (.list [iT []])) rfl h1 rfl rfl (pAdd_g _ _ (by have : f.length ≤ 4096 := hlen; simp; omega))
    have h4 := f2_of h3 h2 rfl rfl (pAdd_g _ _ (by have : f.length ≤ 4096 := hlen; simp; omega))
    refine ⟨ρa, st ((pre ++ [r]).foldl arStep [[]]) (.val (.int r)), rfl, .inl ?_, _, rfl⟩
    rw [gSet_of (i := 1) h4 rfl]
    show some (Rs.nx ([_, .val (.list _), _, _] : Ce)) = some (Rs.nx ([_, .val (.list (((pre ++ [r]).foldl arStep [[]]).map iT)), _, _] : Ce))
    rw [List.foldl_append]
    show some (Rs.nx ([_, .val (.list _), _, _] : Ce)) = some (Rs.nx ([_, .val (.list ((arStep f r).map iT)), _, _] : Ce))
    unfold arStep
    rw [List.map_append, List.map_append, List.map_drop]
    rfl) (dnI n n) [] (st [[]] .un) rfl ⟨_, rfl⟩
  have hr : fRng (faC (fN 0) (faC (fC (.int 0)) (faC (fNeg (fC (.int 1))) (faN)))) (st [[]] .un) = some ((dnI n n).map .int, none, st [[]] .un) := by
    have ha : faC (fN 0) (faC (fC (.int 0)) (faC (fNeg (fC (.int 1))) (faN))) (st [[]] .un) = some ([.frz (.int n), .frz (.int 0), .frz (.int (-1))], st [[]] .un) := rfl
    rw [fRng_3 ha (okR_int (i := n) (by omega)) (okR_int (i := 0) (by decide)) rfl rfl, show ((n : Int) - 0).toNat = n by omega, rngD_dn]
  refine bSeq ((gFor_of hr).trans hf) ?_
  rfl
theorem rk_room {n : Nat} {R : List Int} (h : n ≤ 12) (hR : Rm 1 n R) : Rk R := fun x hx => by have := hR.2 x hx; omega
theorem c_staying {n : Nat} {v : List Int} (h : n ≤ 12) (hv : Rk v) : fn_staying [.int n, chT (Ch v)] = some (eL iT ((allRooms n).filter fun R => decide (topsI (R ++ v) = R))) := by
  unfold fn_staying
  let ρ0 : Ce := [.val (.int n), .val (chT (Ch v)), .un]
  refine Eq.trans (fnP_at ρ0 rfl rfl) ?_
  have h1 : fSeq (fCall fn_all_rooms (faC (fN 0) (faN))) ρ0 = some ((allRooms n).map iT, none, ρ0) := fSeq_l (fCall_of (faC_of (o := .frz (.int n)) (ρ1 := ρ0) rfl rfl) rfl (c_allrooms h)) rfl
  have h2 := fLc_e (h := DL.hN 2) (ft := fT (f2 pEq (fCall fn_result (faC (fN 1) (faC (fN 2) (faN)))) (fN 2))) (fe := fN 2) (vs := [2]) (ρ0 := ρ0) (ρ1 := ρ0) (ρw := ρ0) (xs := allRooms n) (e := iT) (R := fun x => ρ0.set 2 (.val (iT x))) (p := fun R => decide (topsI (R ++ v) = R)) (O := fun x => .frz (iT x)) iT (g := fun x => x) h1 rfl (fun _ => rfl) (fun R hR => by
    have hm := mem_allRooms.mp hR
    refine fT_of (f2_of (ρ1 := ρ0.set 2 (.val (iT R))) (ρ2 := ρ0.set 2 (.val (iT R))) (fCall_of (faC_of (o := .frz (chT (Ch v))) (ρ1 := ρ0.set 2 (.val (iT R))) rfl (faC_of (o := .frz (iT R)) (ρ1 := ρ0.set 2 (.val (iT R))) rfl rfl)) rfl (c_result hv hm.1 (rk_room h hm))) rfl rfl rfl (pEq_e (encT encI) (by decide) _ _))) (fun _ _ _ => rfl) (fun _ => rfl) (fun _ => rfl) rfl (by have := allRooms_len h; omega)
  rw [List.map_id'] at h2
  exact bRet h2 rfl
/-! ### the law's own rooms -/
theorem leaver_ne (room : List Int) (r : Int) : some r ≠ leaverI room r := by
  unfold leaverI
  split
  · nofun
  · intro h
    have := List.mem_of_head? h.symm
    have := of_decide_eq_true (List.mem_filter.mp this).2
    omega
theorem c_come {room : List Int} {r : Int} (ha : Asc room) (hl : room.length < 60) : fn__law_come [iT room, .int r] = some (iT (insT room r)) := by
  unfold fn__law_come
  let ab := room.filter fun x => decide (r < x)
  let ρ0 : Ce := [.val (iT room), .val (.int r), .un, .un, .un]
  let ρ1 : Ce := [.val (iT room), .val (.int r), .val (iL ab), .un, .un]
  let ρ2 : Ce := [.val (iT room), .val (.int r), .val (iL ab), .val (optI (leaverI room r)), .un]
  have hab : ab.length ≤ room.length := List.length_filter_le _ _
  refine Eq.trans (fnP_at ρ0 rfl rfl) ?_
  unfold g__law_come
  have h1 := fLc_e (fi := fSeq (fN 0)) (h := DL.hN 4) (ft := fT (f2 pGt (fN 4) (fN 1))) (fe := fN 4) (vs := [4]) (ρ0 := ρ0) (ρ1 := ρ0) (ρw := ρ0) (xs := room) (e := PyData.int) (R := fun x => ρ0.set 4 (.val (.int x))) (p := fun x => decide (r < x)) (O := fun x => .frz (.int x)) PyData.int (g := fun x => x) rfl rfl (fun _ => rfl) (fun x _ => fT_of (f2_of (ρ1 := ρ0.set 4 (.val (.int x))) (ρ2 := ρ0.set 4 (.val (.int x))) rfl rfl rfl rfl (pGt_ii x r))) (fun _ _ _ => rfl) (fun _ => rfl) (fun _ => rfl) rfl (by omega)
  rw [List.map_id'] at h1
  refine bSet (ρ2 := ρ1) h1 rfl rfl ?_
  have t1 : fT (f2 pNotIn (fN 1) (fN 0)) ρ1 = some (!decide (r ∈ room), ρ1) := fT_of (f2_of (ρ1 := ρ1) (ρ2 := ρ1) rfl rfl rfl rfl (pNotIn_t r room))
  have t2 : fT (f2 pNe (fN 2) (fLst (faN))) ρ1 = some (!decide (ab = []), ρ1) := fT_of (f2_of (ρ1 := ρ1) (ρ2 := ρ1) (y := .new (iL [])) rfl rfl rfl rfl (pNe_e (encL encI) (by decide) ab []))
  have t3 := fAnd_of t1 fun _ => t2
  have h2 : fIf (fAnd (fT (f2 pNotIn (fN 1) (fN 0))) (fT (f2 pNe (fN 2) (fLst (faN))))) (f2 pIx (fN 2) (fC (.int 0))) (fC .none) ρ1 = some (.frz (optI (leaverI room r)), ρ1) := by
    rw [fIf_of t3]
    unfold leaverI
    by_cases c : r ∈ room
    · rw [decide_eq_true c, if_pos c]; rfl
    · rw [decide_eq_false c, if_neg c]
      cases e : room.filter (fun x => decide (r < x)) with
      | nil =>
        rw [decide_eq_true (show ab = [] from e)]; rfl
      | cons y ys =>
        have e' : ab = y :: ys := e
        rw [decide_eq_false (by rw [e']; simp)]
        show f2 pIx (fN 2) (fC (.int 0)) ρ1 = some (.frz (.int y), ρ1)
        refine f2_of (ρ1 := ρ1) (ρ2 := ρ1) (x := .frz (iL ab)) rfl rfl rfl rfl ?_
        rw [pIx_li, e', atI_0]; rfl
  refine bSet (d := optI (leaverI room r)) (ρ2 := ρ2) h2 rfl rfl ?_
  have h3 := fLc_e (fi := fSeq (fN 0)) (h := DL.hN 4) (ft := fT (f2 pNe (fN 4) (fN 3))) (fe := fN 4) (vs := [4]) (ρ0 := ρ2) (ρ1 := ρ2) (ρw := ρ2) (xs := room) (e := PyData.int) (R := fun x => ρ2.set 4 (.val (.int x))) (p := fun x => decide (some x ≠ leaverI room r)) (O := fun x => .frz (.int x)) PyData.int (g := fun x => x) rfl rfl (fun _ => rfl) (fun x _ => ft_ne (i := 0) rfl rfl) (fun _ _ _ => rfl) (fun _ => rfl) (fun _ => rfl) rfl (by omega)
  rw [List.map_id'] at h3
  let L := (room.filter fun x => decide (some x ≠ leaverI room r)) ++ [r]
  have hLl : L.length ≤ room.length + 1 := by
    show (_ ++ [r]).length ≤ _
    rw [List.length_append, List.length_singleton]
    have := List.length_filter_le (fun x => decide (some x ≠ leaverI room r)) room
    omega
  have h4 : f2 pAdd (fLc (fSeq (fN 0)) (DL.hN 4) (fT (f2 pNe (fN 4) (fN 3))) (fN 4) [4]) (fLst (faC (fN 1) (faN))) ρ2 = some (.new (iL L), ρ2) :=
    f2_of (ρ2 := ρ2) (y := .new (iL [r])) h3 rfl rfl rfl (pAdd_ll _ [r] (by
      have := List.length_filter_le (fun x => decide (some x ≠ leaverI room r)) room
      rw [List.length_singleton]; omega))
  have h5 : fSortSet (f2 pAdd (fLc (fSeq (fN 0)) (DL.hN 4) (fT (f2 pNe (fN 4) (fN 3))) (fN 4) [4]) (fLst (faC (fN 1) (faN)))) ρ2 = some (.new (iL (setI L)), ρ2) := by
    unfold fSortSet
    rw [h4, Option.bind_some]
    show ((intsD (L.map .int)).bind fun ns => if ns.length < 64 then some (Opd.new (.list ((setI ns).map .int)), ρ2) else none) = _
    rw [intsD_map, Option.bind_some, if_pos (by omega)]
  have e5 : setI L = insT room r := by
    rw [← entered_insT ha]
    unfold enteredI
    rw [List.filter_append, List.filter_cons_of_pos (by simpa using leaver_ne room r), List.filter_nil]
  refine bRet (fB_of (faC_of h5 rfl) rfl (pTuple_l _)) ?_
  show some (PyData.tuple ((setI L).map .int)) = _
  rw [e5]
theorem topsI_fold {T : List Int} (h : Asc T) (v : List Int) : topsI (T ++ v) = v.foldl insT T := by
  have := tops_asc_self h
  unfold topsI at this ⊢
  rw [List.foldl_append, this]
theorem tops_tops (a b : List Int) : topsI (topsI a ++ b) = topsI (a ++ b) := by
  rw [topsI_fold (topsI_asc a)]
  unfold topsI
  rw [List.foldl_append]
theorem tops_len {w : List Int} (h : Rk w) : (topsI w).length ≤ 12 := rk_len ((topsI_asc w).imp fun h => by omega) fun x hx => h x (tops_mem hx)
theorem c_led {room v : List Int} (ha : Asc room) (hr : Rk room) (hv : Rk v) : fn__law_led [iT room, iL v] = some (iT (topsI (room ++ v))) := by
  unfold fn__law_led
  let st : List Int → Cell → Ce := fun R c => [.val (iT R), .val (iL v), c]
  refine Eq.trans (fnP_at (st room .un) rfl rfl) ?_
  unfold g__law_led
  obtain ⟨ρ', hf, c, rfl⟩ := goFor_mapped (h := DL.hN 2) (g := gSet 0 (fCall fn__law_come (faC (fN 0) (faC (fN 2) (faN))))) PyData.int v (fun pre ρ => ∃ c, ρ = st (topsI (room ++ pre)) c) (fun pre r post ρ e hp => by
    obtain ⟨c, rfl⟩ := hp
    have hpre : Rk (room ++ pre) := hr.app (hv.sub fun x hx => by rw [e]; simp [hx])
    have hl := tops_len hpre
    refine ⟨st (topsI (room ++ pre)) (.val (.int r)), st (topsI (room ++ (pre ++ [r]))) (.val (.int r)), rfl, .inl ?_, _, rfl⟩
    refine (gSet_of (fCall_of (faC_of (o := .frz (iT (topsI (room ++ pre)))) (ρ1 := st (topsI (room ++ pre)) (.val (.int r))) rfl (faC_of (o := .frz (.int r)) (ρ1 := st (topsI (room ++ pre)) (.val (.int r))) rfl rfl)) rfl (c_come (topsI_asc _) (by omega))) rfl).trans ?_
    rw [← List.append_assoc, topsI_snoc]; rfl) v [] (st room .un) rfl ⟨_, by rw [List.append_nil, tops_asc_self ha]⟩
  refine bSeq ((gFor_of (ds := v.map .int) (ρ1 := st room .un) rfl).trans hf) ?_
  rfl
/-! ### all rooms, sorted -/
def soStep (f : List (List Int)) (r : Int) : List (List Int) := f ++ f.map (· ++ [r])
def roomsSo (n : Nat) : List (List Int) := sortL ((rngI 1 (n + 1)).foldl soStep [[]])
theorem rngI_snoc (k : Nat) : rngI 1 ((k : Int) + 1 + 1) = rngI 1 ((k : Int) + 1) ++ [(k : Int) + 1] := by
  unfold rngI
  rw [show ((k : Int) + 1 + 1 - 1).toNat = k + 1 by omega, show ((k : Int) + 1 - 1).toNat = k by omega, List.range_succ, List.map_append]
  simp; omega
theorem so_inv : ∀ k : Nat, ((rngI 1 (k + 1)).foldl soStep [[]]).length = 2 ^ k ∧ ∀ R, R ∈ (rngI 1 ((k : Int) + 1)).foldl soStep [[]] ↔ Rm 1 k R
  | 0 => by
    refine ⟨rfl, fun R => ?_⟩
    show R ∈ [[]] ↔ _
    rw [List.mem_singleton]
    constructor
    · rintro rfl; exact ⟨List.Pairwise.nil, nofun⟩
    · rintro ⟨_, h⟩
      cases R with
      | nil => rfl
      | cons x R => have := h x List.mem_cons_self; omega
  | k + 1 => by
    obtain ⟨i1, i3⟩ := so_inv k
    have e : (((k + 1 : Nat) : Int) + 1) = (k : Int) + 1 + 1 := by omega
    rw [e, rngI_snoc, List.foldl_append]
    generalize (rngI 1 ((k : Int) + 1)).foldl soStep [[]] = F at i1 i3 ⊢
    show (soStep F _).length = _ ∧ ∀ R, R ∈ soStep F _ ↔ _
    unfold soStep
    refine ⟨by rw [List.length_append, List.length_map, i1, Nat.pow_succ]; omega, fun R => ?_⟩
    rw [List.mem_append, List.mem_map]
    constructor
    · rintro (h | ⟨a, ha, rfl⟩)
      · obtain ⟨a1, a2⟩ := (i3 R).mp h
        exact ⟨a1, fun x hx => by have := a2 x hx; constructor <;> omega⟩
      · obtain ⟨a1, a2⟩ := (i3 a).mp ha
        refine ⟨?_, fun x hx => ?_⟩
        · unfold Asc
          rw [List.pairwise_append]
          exact ⟨a1, List.pairwise_singleton _ _, fun x hx y hy => by rw [List.mem_singleton.mp hy]; have := a2 x hx; omega⟩
        · rcases List.mem_append.mp hx with hx | hx
          · have := a2 x hx; constructor <;> omega
          · rw [List.mem_singleton.mp hx]; constructor <;> omega
    · rintro ⟨a1, a2⟩
      rcases List.eq_nil_or_concat R with rfl | ⟨R', x, rfl⟩
      · exact .inl ((i3 []).mpr ⟨List.Pairwise.nil, nofun⟩)
      · rw [List.concat_eq_append] at a1 a2 ⊢
        have a1' := a1
        unfold Asc at a1
        rw [List.pairwise_append] at a1
        have hx := a2 x (by simp)
        have lt : ∀ y ∈ R', y < x := fun y hy => a1.2.2 y hy x (by simp)
        by_cases e : x = (k : Int) + 1
        · refine .inr ⟨R', (i3 R').mpr ⟨a1.1, fun y hy => ?_⟩, by rw [e]⟩
          have := lt y hy
          have := a2 y (List.mem_append_left _ hy)
          constructor <;> omega
        · refine .inl ((i3 _).mpr ⟨a1', fun y hy => ?_⟩)
          have h2 := a2 y hy
          refine ⟨h2.1, ?_⟩
          rcases List.mem_append.mp hy with hy | hy
          · have := lt y hy; omega
          · rw [List.mem_singleton.mp hy]; omega
theorem mem_roomsSo {n : Nat} {R : List Int} : R ∈ roomsSo n ↔ Rm 1 n R := by
  unfold roomsSo
  rw [(sortL_perm _).mem_iff]
  exact (so_inv n).2 R
theorem roomsSo_len {n : Nat} (h : n ≤ 12) : (roomsSo n).length ≤ 4096 := by
  unfold roomsSo
  rw [(sortL_perm _).length_eq, (so_inv n).1]
  exact Nat.le_trans (Nat.pow_le_pow_right (by decide) h) (by decide)
theorem c_roomsso {n : Nat} (h : n ≤ 12) : fn__law_rooms_so [.int n] = some (eL iT (roomsSo n)) := by
  unfold fn__law_rooms_so
  let st : List (List Int) → Cell → Ce := fun f c => [.val (.int n), .val (eL iT f), c, .un]
  let ρ0 : Ce := [.val (.int n), .un, .un, .un]
  refine Eq.trans (fnP_at ρ0 rfl rfl) ?_
  unfold g__law_rooms_so
  refine bSet (ρ2 := st [[]] .un) (d := eL iT [[]]) rfl rfl rfl ?_
  have take : ∀ (pre post : List Int) (r : Int), rngI 1 ((n : Int) + 1) = pre ++ r :: post → pre = rngI 1 ((pre.length : Int) + 1) ∧ pre.length < n := by
    intro pre post r e
    have hl := congrArg List.length e
    rw [rngI_len, List.length_append, List.length_cons] at hl
    refine ⟨?_, by omega⟩
    have : (rngI 1 ((n : Int) + 1)).take pre.length = pre := by rw [e, List.take_left]
    conv => lhs; rw [← this]
    unfold rngI
    rw [← List.map_take, List.take_range, Nat.min_eq_left (by omega), show ((pre.length : Int) + 1 - 1).toNat = pre.length by omega]
  obtain ⟨ρ', hf, c, rfl⟩ := goFor_mapped (h := DL.hN 2) (g := gSet 1 (f2 pAdd (fN 1) (fLc (fSeq (fN 1)) (hN 3) (fYes) (f2 pAdd (fN 3) (fTup (faC (fN 2) (faN)))) [3]))) PyData.int (rngI 1 ((n : Int) + 1)) (fun pre ρ => ∃ c, ρ = st (pre.foldl soStep [[]]) c) (fun pre r post ρ e hp => by
    obtain ⟨c, rfl⟩ := hp
    have hpre := take pre post r e
    have hlen : (pre.foldl soStep [[]]).length ≤ 4096 := by
      rw [hpre.1, (so_inv pre.length).1]
      exact Nat.le_trans (Nat.pow_le_pow_right (by decide) (show pre.length ≤ 12 by omega)) (by decide)
    let f := pre.foldl soStep [[]]
    let ρa := st f (.val (.int r))
    have h1 : fLc (fSeq (fN 1)) (DL.hN 3) (fYes) (f2 pAdd (fN 3) (fTup (faC (fN 2) (faN)))) [3] ρa = some (.new (eL iT (f.map (· ++ [r]))), ρa) := by
      refine fLc_m (ρ1 := ρa) (ρw := ρa) (xs := f) (e := iT) (R := fun x => ρa.set 3 (.val (iT x))) (O := fun x => .frz (iT (x ++ [r]))) iT (g := fun x => x ++ [r]) rfl rfl (fun _ => rfl) (fun x hx => ?_) (fun _ => rfl) (fun _ => rfl) rfl (by show (pre.foldl soStep [[]]).length ≤ _; omega)
      have hxl : x.length ≤ 1000 := by
        have hx' : x ∈ (rngI 1 ((pre.length : Int) + 1)).foldl soStep [[]] := hpre.1 ▸ hx
        obtain ⟨a1, a2⟩ := ((so_inv pre.length).2 x).mp hx'
        have := rk_len (l := x) (a1.imp fun h => by omega) fun y hy => by have := a2 y hy; constructor <;> omega
        omega
      exact f2_of (ρ1 := ρa.set 3 (.val (iT x))) (ρ2 := ρa.set 3 (.val (iT x))) (x := .frz (iT x)) (y := .frz (iT [r])) rfl rfl rfl rfl (pAdd_tt x [r] (by rw [List.length_singleton]; omega))
    have h4 := f2_of (ρ := ρa) (ρ1 := ρa) (fe := fN 1) (x := .frz (eL iT f)) rfl h1 rfl rfl (pAdd_g _ _ (by rw [List.length_map, List.length_map, List.length_map]; show (pre.foldl soStep [[]]).length + (pre.foldl soStep [[]]).length ≤ _; omega))
    refine ⟨ρa, st ((pre ++ [r]).foldl soStep [[]]) (.val (.int r)), rfl, .inl ?_, _, rfl⟩
    rw [gSet_of (i := 1) h4 rfl]
    show some (Rs.nx ([_, .val (.list _), _, _] : Ce)) = some (Rs.nx ([_, .val (.list (((pre ++ [r]).foldl soStep [[]]).map iT)), _, _] : Ce))
    rw [List.foldl_append]
    show some (Rs.nx ([_, .val (.list _), _, _] : Ce)) = some (Rs.nx ([_, .val (.list ((soStep f r).map iT)), _, _] : Ce))
    unfold soStep
    rw [List.map_append]) (rngI 1 ((n : Int) + 1)) [] (st [[]] .un) rfl ⟨_, rfl⟩
  refine bSeq ((gFor_of (fRng_2 (ρ := st [[]] .un) (i := 1) (j := (n : Int) + 1) rfl rfl (by decide) (by omega))).trans hf) ?_
  refine bRet (fB_of (ds := [eL iT ((rngI 1 ((n : Int) + 1)).foldl soStep [[]])]) (o := .new (eL iT (roomsSo n))) rfl rfl ?_) rfl
  show (tupsE (((rngI 1 ((n : Int) + 1)).foldl soStep [[]]).map tupD)).map _ = _
  rw [tupsE_map]; rfl
end DL

namespace DL
open PySem PySem.Spec L2
theorem c_settles {v : List Int} (h : Rk v) : ∃ n : Nat, n ≤ 12 ∧ Ch (rep n v) = Ch (rep (n + 1) v) ∧ (∀ k, k < n → Ch (rep k v) ≠ Ch (rep (k + 1) v)) ∧ fn_settles [chT (Ch v)] = some (.int n) := by
  obtain ⟨n, n1, n2, n3⟩ := settle_ex h
  refine ⟨n, n1, n2, n3, ?_⟩
  unfold fn_settles
  let ρ0 : Ce := [.val (chT (Ch v))]
  refine Eq.trans (fnP_at ρ0 rfl rfl) ?_
  have h1 := fn_reps_eq (reps_of h n2 n3) (by omega)
  have h2 : fB pLen (faC (fCall fn_repetitions (faC (fN 0) (faN))) (faN)) ρ0 = some (.frz (.int ((n : Int) + 1)), ρ0) := by
    refine (fB_of (ρ1 := ρ0) (faC_of (fa := faN) (fCall_of (faC_of (o := .frz (chT (Ch v))) (ρ1 := ρ0) rfl rfl) rfl h1) rfl) rfl (pLen_l ((List.range (n + 1)).map fun k => chT (Ch (rep k v))))).trans ?_
    rw [List.length_map, List.length_range]; rfl
  refine bRet (f2_of (ρ2 := ρ0) (y := .frz (.int 1)) h2 rfl rfl rfl rfl) ?_
  show some (PyData.int ((n : Int) + 1 - 1)) = _
  congr 2; omega
theorem of_ok {α : Type} (e : α → D) {k : Nat} {w : D} {xs : List α} (U : Urn k w) (hk : k ≤ 500000) (h0 : xs ≠ []) (h1 : xs.length ≤ 1000) : ∃ x ∈ xs, ∃ w', fn__law_of w [eL e xs] = some (e x, w') ∧ Urn (k + 1) w' := by
  have hp : 0 < xs.length := List.length_pos_iff.mpr h0
  obtain ⟨d, w1, e1, d0, d1, U1⟩ := take_ok (n := (xs.length : Int)) U (by omega) (by omega) (by omega)
  obtain ⟨t, rfl⟩ : ∃ t : Nat, d = t := ⟨d.toNat, by omega⟩
  have ht : t < xs.length := by omega
  refine ⟨xs[t], List.getElem_mem ht, w1, ?_, U1⟩
  let ρ0 : Ce := [.own true w, .val (eL e xs)]
  let ρ1 : Ce := [.own true w1, .val (eL e xs)]
  unfold fn__law_of
  refine Eq.trans (fnU_at ρ0 rfl rfl) ?_
  unfold g__law_of
  have l1 : fB pLen (faC (fN 1) (faN)) ρ0 = some (.frz (.int (xs.length : Nat)), ρ0) := by
    refine (fB_of (faC_of rfl rfl) rfl (pLen_l (xs.map e))).trans ?_
    rw [List.length_map]
  have l2 : fCallU fn__law_take (faC (fN 0) (faC (fB pLen (faC (fN 1) (faN))) (faN))) ρ0 = some (.frz (.int (t : Int)), ρ1) := by
    have : faC (fN 0) (faC (fB pLen (faC (fN 1) (faN))) (faN)) ρ0 = some ([.own 0, .frz (.int (xs.length : Nat))], ρ0) := faC_of (o := .own 0) (ρ1 := ρ0) rfl (faC_of l1 rfl)
    exact fCallU_e e1 (i := 0) (b := true) this rfl rfl rfl
  refine bRet (f2_of (ρ1 := ρ0) (x := .frz (eL e xs)) rfl l2 rfl rfl (o := .frz (e xs[t])) ?_) rfl
  show (atI (xs.map e) (t : Int)).map Opd.frz = _
  rw [atI_map, atI_nat (List.getElem?_eq_getElem ht)]; rfl
theorem lcGo_drawT {h : HT} {ft : FT} {fe : FE} {vs : List Nat} (P : Nat → Ce → Prop) (N : Nat) : ∀ (xs : List Int) (acc : List D) (k : Nat) (ρ : Ce), P k ρ → k + xs.length ≤ N → (∀ x ∈ xs, ∀ j ρ, j < N → P j ρ → ∃ ρ1 b ρ2, h (.int x) ρ = some ρ1 ∧ ft ρ1 = some (b, ρ2) ∧ (b = true → ∃ ρ3, fe ρ2 = some (.frz (.int x), ρ3) ∧ P (j + 1) (wipeC ρ3 vs)) ∧ (b = false → P (j + 1) (wipeC ρ2 vs))) → acc.length + xs.length ≤ 100000 →
    ∃ (ys : List Int) (ρ' : Ce), ys.Sublist xs ∧ lcGo h ft fe vs (xs.map .int) ρ acc = some (acc ++ ys.map .int, ρ') ∧ P (k + xs.length) ρ'
  | [], acc, k, ρ, hp, _, _, _ => ⟨[], ρ, List.Sublist.refl _, by simp [lcGo], hp⟩
  | x :: xs, acc, k, ρ, hp, hN, H, hl => by
    simp only [List.length_cons] at hl hN
    obtain ⟨ρ1, b, ρ2, h1, h2, h3, h4⟩ := H x List.mem_cons_self k ρ (by omega) hp
    cases b with
    | false =>
      obtain ⟨ys, ρ', s, e, p⟩ := lcGo_drawT P N xs acc (k + 1) _ (h4 rfl) (by omega) (fun y hy => H y (List.mem_cons_of_mem _ hy)) (by omega)
      refine ⟨ys, ρ', s.cons x, ?_, by rw [List.length_cons, show k + (xs.length + 1) = k + 1 + xs.length by omega]; exact p⟩
      simp only [List.map_cons, lcGo, h1, Option.bind_some, h2, cond_false]
      exact e
    | true =>
      obtain ⟨ρ3, f1, f2⟩ := h3 rfl
      obtain ⟨ys, ρ', s, e, p⟩ := lcGo_drawT P N xs (acc ++ [.int x]) (k + 1) _ f2 (by omega) (fun y hy => H y (List.mem_cons_of_mem _ hy)) (by rw [List.length_append, List.length_singleton]; omega)
      refine ⟨x :: ys, ρ', s.cons_cons x, ?_, by rw [List.length_cons, show k + (xs.length + 1) = k + 1 + xs.length by omega]; exact p⟩
      simp only [List.map_cons, lcGo, h1, Option.bind_some, h2, cond_true, f1, frD]
      rw [if_pos (Nat.lt_of_lt_of_le (by omega : acc.length < 100001) (by decide)), e]
      simp
theorem crowd_ok {k n : Nat} {w : D} (U : Urn k w) (hk : k ≤ 500000) (hn : n ≤ 12) : ∃ (R : List Int) (w' : D), fn__law_crowd w [.int n] = some (iT R, w') ∧ Rm 1 n R ∧ Urn (k + 12) w' := by
  let st : D → Ce := fun w => [.own true w, .val (.int n), .un]
  have hlen : (rngI 1 ((n : Int) + 1)).length = n := by rw [rngI_len]; omega
  obtain ⟨ys, ρ', s, e, w', rfl, U'⟩ := lcGo_drawT (h := DL.hN 2) (ft := fT (f2 pEq (fCallU fn__law_take (faC (fN 0) (faC (fC (.int 2)) (faN)))) (fC (.int 0)))) (fe := fN 2) (vs := [2]) (fun j ρ => ∃ w, ρ = st w ∧ Urn (k + j) w) 12 (rngI 1 ((n : Int) + 1)) [] 0 (st w) ⟨w, rfl, U⟩ (by omega) (fun x _ j ρ hj hp => by
    obtain ⟨w, rfl, U⟩ := hp
    obtain ⟨d, w1, e1, d0, d1, U1⟩ := take_ok (n := 2) U (by omega) (by decide) (by decide)
    let ρa : Ce := [.own true w, .val (.int n), .val (.int x)]
    let ρb : Ce := [.own true w1, .val (.int n), .val (.int x)]
    have l2 : fCallU fn__law_take (faC (fN 0) (faC (fC (.int 2)) (faN))) ρa = some (.frz (.int d), ρb) := fCallU_e e1 (i := 0) (b := true) (faC_of (o := .own 0) (ρ1 := ρa) rfl (faC_of (o := .frz (.int 2)) (ρ1 := ρa) rfl rfl)) rfl rfl rfl
    refine ⟨ρa, decide (d = 0), ρb, rfl, fT_of (f2_of (ρ2 := ρb) (y := .frz (.int 0)) l2 rfl rfl rfl (pEq_ii d 0)), fun _ => ⟨ρb, rfl, w1, rfl, ?_⟩, fun _ => ⟨w1, rfl, ?_⟩⟩ <;> exact U1) (by rw [hlen, List.length_nil]; omega)
  have asc : Asc ys := (rngI_asc _ _).sublist s
  refine ⟨ys, w', ?_, ⟨asc, fun x hx => by have := mem_rngI.mp (s.subset hx); omega⟩, U'.mono (by rw [hlen]; omega)⟩
  unfold fn__law_crowd
  refine Eq.trans (fnU_at (st w) rfl rfl) ?_
  unfold g__law_crowd
  have hl : fLc (fRng (faC (fC (.int 1)) (faC (f2 pAdd (fN 1) (fC (.int 1))) (faN)))) (hN 2) (fT (f2 pEq (fCallU fn__law_take (faC (fN 0) (faC (fC (.int 2)) (faN)))) (fC (.int 0)))) (fN 2) [2] (st w) = some (.new (iL ys), st w') := by
    unfold fLc
    rw [fRng_2 (ρ := st w) (i := 1) (j := (n : Int) + 1) rfl rfl (by decide) (by omega), Option.bind_some]
    show (lcGo _ _ _ _ _ (st w) []).bind _ = _
    rw [e]; rfl
  exact bRet (fB_of (faC_of hl rfl) rfl (pTuple_l _)) rfl
/-! ### longest choices and repetitions -/
theorem LEq.rfl' {v : List Int} : LEq v v := fun _ _ _ => rfl
theorem LEq.symm {v w : List Int} (h : LEq v w) : LEq w v := fun lo hi hlo => (h lo hi hlo).symm
theorem LEq.trans {u v w : List Int} (h : LEq u v) (g : LEq v w) : LEq u w := fun lo hi hlo => (h lo hi hlo).trans (g lo hi hlo)
theorem rep_shift (m : Nat) (r n : List Int) : rep m (r ++ n) ++ r = r ++ rep m (n ++ r) := by
  induction m with
  | zero => simp [rep_zero]
  | succ m ih => rw [rep_succ, List.append_assoc, ih, rep_succ]; simp [List.append_assoc]
theorem rep_leq {v w : List Int} (h : LEq v w) (m : Nat) : LEq (rep m v) (rep m w) := by
  induction m with
  | zero => exact LEq.rfl'
  | succ m ih => rw [rep_succ, rep_succ]; exact h.app ih
theorem rep_swap {r n : List Int} (h : LEq (r ++ n) (n ++ r)) (m : Nat) : LEq (n ++ rep m r) (rep m r ++ n) := by
  induction m with
  | zero => rw [rep_zero, List.append_nil, List.nil_append]; exact LEq.rfl'
  | succ m ih =>
    rw [rep_succ]
    have a : LEq (n ++ (r ++ rep m r)) (r ++ (n ++ rep m r)) := by
      rw [← List.append_assoc, ← List.append_assoc]
      exact h.symm.app LEq.rfl'
    have b : LEq (r ++ (n ++ rep m r)) (r ++ (rep m r ++ n)) := LEq.rfl'.app ih
    rw [List.append_assoc]
    exact a.trans b
theorem rep_comm {r n : List Int} (h : LEq (r ++ n) (n ++ r)) (m : Nat) : LEq (rep m (r ++ n)) (rep m r ++ rep m n) := by
  induction m with
  | zero => exact LEq.rfl'
  | succ m ih =>
    rw [rep_succ, rep_succ, rep_succ]
    have a : LEq (r ++ n ++ rep m (r ++ n)) (r ++ n ++ (rep m r ++ rep m n)) := LEq.rfl'.app ih
    have b : LEq (r ++ (n ++ rep m r) ++ rep m n) (r ++ (rep m r ++ n) ++ rep m n) := (LEq.rfl'.app (rep_swap h m)).app LEq.rfl'
    have e1 : r ++ n ++ (rep m r ++ rep m n) = r ++ (n ++ rep m r) ++ rep m n := by simp [List.append_assoc]
    have e2 : r ++ (rep m r ++ n) ++ rep m n = r ++ rep m r ++ (n ++ rep m n) := by simp [List.append_assoc]
    rw [e1] at a
    rw [e2] at b
    exact a.trans b
theorem setR_same {v w : List Int} (h : ∀ x, x ∈ v ↔ x ∈ w) (lo hi : Int) : setR lo hi v = setR lo hi w := by
  have : setI v = setI w := asc_ext (setI_asc _) (setI_asc _) fun x => by rw [setI_mem, setI_mem, h]
  unfold setR; rw [this]
/-- far enough on: only which ranks there are matters -/
theorem far_leq {v w : List Int} (hv : Rk v) (h : ∀ x ∈ w, x ∈ v) {k : Nat} (hk : 12 ≤ k) (u : List Int) (hu : (rep k v).Sublist u) (hu2 : ∀ x ∈ u, x ∈ v) : ∀ lo hi, longI lo hi u = (setR lo hi v).length := fun lo hi =>
  Int.le_antisymm (long_le_set hu2 lo hi) (by
    have a := long_rep (v := v) (k := k) (by have := set_len hv; omega) lo hi
    have b := long_sub hu (Int.le_refl lo) (Int.le_refl hi)
    omega)
theorem tops_leq {v w R : List Int} (hv : Rk v) (hw : Rk w) (ha : Asc R) (hr : Rk R) (h : LEq v w) : topsI (R ++ v) = topsI (R ++ w) := by
  rw [← result_tops hv ha hr, ← result_tops hw ha hr, (ch_eq hv.pos hw.pos).mpr h]
theorem long_split {v : List Int} {a b : Int} (hi : Int) (h : a ≤ b) : longI a hi v ≤ longI b hi v + (b - a) := by
  obtain ⟨s, s1, s2, s3, s4⟩ := long_has (v := v) (lo := a) hi
  have e := filter_two (fun x => decide (x < b)) s
  have e1 := asc_len ((s.filter fun x => decide (x < b)).map fun x => x - a + 1) (b - a) (by
    unfold Asc at s2 ⊢
    rw [List.pairwise_map]
    exact (s2.sublist List.filter_sublist).imp fun h => by omega) (fun x hx => by
    obtain ⟨y, hy, rfl⟩ := List.mem_map.mp hx
    obtain ⟨y1, y2⟩ := List.mem_filter.mp hy
    have := inR_iff.mp (s3 y y1)
    have := of_decide_eq_true y2
    omega) (by omega)
  rw [List.length_map] at e1
  have e2 := long_ge (v := v) (lo := b) hi (s.filter fun x => !decide (x < b)) (List.filter_sublist.trans s1) (s2.sublist List.filter_sublist) fun x hx => by
    obtain ⟨y1, y2⟩ := List.mem_filter.mp hx
    have := inR_iff.mp (s3 x y1)
    have : ¬ x < b := by simpa using y2
    exact inR_iff.mpr (by omega)
  omega
theorem long_width {v : List Int} {lo hi : Int} (h : lo ≤ hi + 1) : longI lo hi v ≤ hi - lo + 1 := by
  have := long_split (v := v) hi h
  rw [long_none (show hi < hi + 1 by omega)] at this
  omega
/-- the room that tells two lists apart -/
theorem sep_count {v : List Int} {lo hi : Int} (h1 : 1 ≤ lo) (h2 : lo ≤ hi) : longI 1 hi (rngI 1 lo ++ v) = lo - 1 + longI lo hi v := by
  have hR : longI 1 (lo - 1) (rngI 1 lo) = lo - 1 := by
    apply Int.le_antisymm
    · have := long_width (v := rngI 1 lo) (lo := 1) (hi := lo - 1) (by omega); omega
    · have := long_ge (v := rngI 1 lo) (lo := 1) (lo - 1) (rngI 1 lo) (List.Sublist.refl _) (rngI_asc _ _) fun x hx => inR_iff.mpr (by have := mem_rngI.mp hx; omega)
      rw [rngI_len] at this
      omega
  apply Int.le_antisymm
  · obtain ⟨m, m1, m2, e⟩ := long_app_has (v := rngI 1 lo) (w := v) (lo := 1) (hi := hi) (by omega)
    rw [e]
    by_cases c : m ≤ lo - 1
    · have a := long_width (v := rngI 1 lo) (lo := 1) (hi := m) (by omega)
      have b := long_split (v := v) (a := m + 1) (b := lo) hi (by omega)
      omega
    · have a : longI 1 m (rngI 1 lo) ≤ lo - 1 := by
        obtain ⟨s, s1, s2, s3, s4⟩ := long_has (v := rngI 1 lo) (lo := 1) m
        have := long_ge (v := rngI 1 lo) (lo := 1) (lo - 1) s s1 s2 fun x hx => inR_iff.mpr (by have := mem_rngI.mp (s1.subset hx); omega)
        omega
      have b := long_sub (List.Sublist.refl v) (lo := m + 1) (hi := hi) (lo' := lo) (hi' := hi) (by omega) (Int.le_refl _)
      omega
  · have := long_app_ge (v := rngI 1 lo) (w := v) (lo := 1) (hi := hi) (m := lo - 1) (by omega) (by omega)
    rw [show lo - 1 + 1 = lo by omega] at this
    omega
theorem sep_differs {v w : List Int} (hv : Rk v) (hw : Rk w) {p : Int × Int} (hp : diffI v w = some p) : topsI (rngI 1 p.1 ++ v) ≠ topsI (rngI 1 p.1 ++ w) := fun e => by
  obtain ⟨h1, h2, h3, h4⟩ := diff_some hv hw hp
  have hR : Rk (rngI 1 p.1) := fun x hx => by have := mem_rngI.mp hx; omega
  have a := tops_upto (hR.app hv).pos p.2
  have b := tops_upto (hR.app hw).pos p.2
  rw [e, b, sep_count h1 h2, sep_count h1 h2] at a
  omega
theorem long_over {v : List Int} {lo hi : Int} (h : ∀ x ∈ v, x < lo) : longI lo hi v = 0 := by
  obtain ⟨s, s1, s2, s3, s4⟩ := long_has (v := v) (lo := lo) hi
  cases s with
  | nil => exact s4.symm
  | cons x s =>
    have a := h x (s1.subset List.mem_cons_self)
    have b := inR_iff.mp (s3 x List.mem_cons_self)
    omega
theorem sep_room {n : Nat} {v w : List Int} (hn : n ≤ 12) (hv : ∀ x ∈ v, 1 ≤ x ∧ x ≤ n) (hw : ∀ x ∈ w, 1 ≤ x ∧ x ≤ n) {p : Int × Int} (hp : diffI v w = some p) : Rm 1 n (rngI 1 p.1) := by
  have rv : Rk v := fun x hx => by have := hv x hx; omega
  have rw' : Rk w := fun x hx => by have := hw x hx; omega
  obtain ⟨h1, h2, h3, h4⟩ := diff_some rv rw' hp
  refine ⟨rngI_asc _ _, fun x hx => ?_⟩
  have := mem_rngI.mp hx
  refine ⟨this.1, ?_⟩
  apply Classical.byContradiction
  intro c
  apply h4
  rw [long_over fun y hy => by have := hv y hy; omega, long_over fun y hy => by have := hw y hy; omega]
/-- two lists do the same exactly if they lead every room to the same -/
theorem same_rooms {n : Nat} {v w : List Int} (hn : n ≤ 12) (hv : ∀ x ∈ v, 1 ≤ x ∧ x ≤ n) (hw : ∀ x ∈ w, 1 ≤ x ∧ x ≤ n) : (∀ R, Rm 1 n R → topsI (R ++ v) = topsI (R ++ w)) ↔ Ch v = Ch w := by
  have rv : Rk v := fun x hx => by have := hv x hx; omega
  have rw' : Rk w := fun x hx => by have := hw x hx; omega
  constructor
  · intro h
    apply (diff_none rv rw').mp
    cases hp : diffI v w with
    | none => rfl
    | some p => exact absurd (h _ (sep_room hn hv hw hp)) (sep_differs rv rw' hp)
  · intro e R hR
    exact tops_leq rv rw' hR.1 (rk_room hn hR) ((ch_eq rv.pos rw'.pos).mp e)
end DL

namespace DL
open PySem PySem.Spec L2
/-! ### parallel assignments -/
theorem faCn_of {fe : FE} {fa : FA} {ρ ρ1 ρ2 : Ce} {o : Opd} {os : List Opd} (h : fe ρ = some (o, ρ1)) (h2 : fa ρ1 = some (os, ρ2)) : faCn fe fa ρ = some (o :: os, ρ2) := by
  unfold faCn; rw [h]; simp only [Option.bind_some, h2]
theorem gTup_of {is : List (Nat × Bool)} {fa : FA} {ρ ρ1 ρ2 : Ce} {os : List Opd} (h : fa ρ = some (os, ρ1)) (h2 : asg is os ρ1 = some ρ2) : gTupS is fa ρ = some (.nx ρ2) := by
  unfold gTupS; rw [h]; simp only [Option.bind_some, h2]
theorem bTup {α : Type} {en : Rs → Option α} {c : Option α} {is : List (Nat × Bool)} {fa : FA} {g : FS} {ρ ρ1 ρ2 : Ce} {os : List Opd} (h : fa ρ = some (os, ρ1)) (h2 : asg is os ρ1 = some ρ2) (k : (g ρ2).bind en = c) : (gSeq (gTupS is fa) g ρ).bind en = c := bSeq (gTup_of h h2) k
/-! ### the law's own comparison: truth values too -/
theorem same_bool {r : Fn} (b : Bool) : fnP 4 2 (g__law_same r) [.bool b, .bool b] = some (.bool true) := by cases b <;> rfl
theorem same_none {r : Fn} : fnP 4 2 (g__law_same r) [.none, .none] = some (.bool true) := rfl
inductive Short2 : D → Prop
  | int (i : Int) : Short2 (.int i)
  | bool (b : Bool) : Short2 (.bool b)
  | none : Short2 .none
  | lst (ds : List D) : ds.length ≤ 1000 → (∀ d ∈ ds, Short2 d) → Short2 (.list ds)
  | tup (ds : List D) : ds.length ≤ 1000 → (∀ d ∈ ds, Short2 d) → Short2 (.tuple ds)
theorem same_ok2 {d : D} (h : Short2 d) : ∀ k, PyData.depth d < k → fa__law_same k [d, d] = some (.bool true) := by
  induction h with
  | int i =>
    intro k hk
    obtain ⟨j, rfl⟩ : ∃ j, k = j + 1 := ⟨k - 1, by omega⟩
    exact same_int i
  | bool b =>
    intro k hk
    obtain ⟨j, rfl⟩ : ∃ j, k = j + 1 := ⟨k - 1, by omega⟩
    exact same_bool b
  | none =>
    intro k hk
    obtain ⟨j, rfl⟩ : ∃ j, k = j + 1 := ⟨k - 1, by omega⟩
    exact same_none
  | lst ds hl hs ih =>
    intro k hk
    obtain ⟨j, rfl⟩ : ∃ j, k = j + 1 := ⟨k - 1, by omega⟩
    refine same_seq (.inl rfl) hl fun x hx => ih x hx j ?_
    have h1 : PyData.depth (.list ds) = PyData.depthAll ds + 1 := rfl
    have := depth_mem hx
    omega
  | tup ds hl hs ih =>
    intro k hk
    obtain ⟨j, rfl⟩ : ∃ j, k = j + 1 := ⟨k - 1, by omega⟩
    refine same_seq (.inr rfl) hl fun x hx => ih x hx j ?_
    have h1 : PyData.depth (.tuple ds) = PyData.depthAll ds + 1 := rfl
    have := depth_mem hx
    omega
theorem c_same2 {d e : D} (h : e = d) (s : Short2 d) (hd : PyData.depth d < 8) : fn__law_same [e, d] = some (.bool true) := by rw [h]; exact same_ok2 s 8 hd
theorem Short2.L {α : Type} {e : α → D} {xs : List α} (hl : xs.length ≤ 1000) (h : ∀ x ∈ xs, Short2 (e x)) : Short2 (eL e xs) := .lst _ (by simpa using hl) fun d hd => by obtain ⟨x, hx, rfl⟩ := List.mem_map.mp hd; exact h x hx
theorem Short2.T {α : Type} {e : α → D} {xs : List α} (hl : xs.length ≤ 1000) (h : ∀ x ∈ xs, Short2 (e x)) : Short2 (eT e xs) := .tup _ (by simpa using hl) fun d hd => by obtain ⟨x, hx, rfl⟩ := List.mem_map.mp hd; exact h x hx
theorem encC : EncOk chT 2 := encT (encT encI)
theorem CR.short {cs : List (List Int)} (h : CR cs) : Short2 (chT cs) := Short2.T (e := eT PyData.int) (by have := h.clen; omega) fun c hc => Short2.T (e := PyData.int) (by have := h.each c hc; omega) fun x _ => .int x
theorem short_iT {R : List Int} (h : R.length ≤ 1000) : Short2 (iT R) := Short2.T (e := PyData.int) h fun x _ => .int x
theorem short_iL {R : List Int} (h : R.length ≤ 1000) : Short2 (iL R) := Short2.L (e := PyData.int) h fun x _ => .int x
theorem EncOk.dep8 {α : Type} {e : α → D} {n : Nat} (h : EncOk e n) (hn : n < 8) (x : α) : PyData.depth (e x) < 8 := Nat.lt_of_le_of_lt (h.dep x) hn
theorem pIn_yes {α : Type} [DecidableEq α] {e : α → D} {n : Nat} (h : EncOk e n) (hn : n < 64) {x : α} {xs : List α} (hx : x ∈ xs) : pIn (e x) (eL e xs) = some (.frz (.bool true)) := by rw [pIn_e h hn, decide_eq_true hx]
theorem pIn_no {α : Type} [DecidableEq α] {e : α → D} {n : Nat} (h : EncOk e n) (hn : n < 64) {x : α} {xs : List α} (hx : x ∉ xs) : pIn (e x) (eL e xs) = some (.frz (.bool false)) := by rw [pIn_e h hn, decide_eq_false hx]
/-! ### ranges of naturals -/
theorem fRng_nat {fa : FE} {ρ : Ce} {n : Nat} (h1 : fa ρ = some (.frz (.int (n : Int)), ρ)) (hn : n ≤ 100000) : fRng (faC fa faN) ρ = some ((List.range n).map (fun (m : Nat) => PyData.int (m : Int)), none, ρ) := by
  rw [fRng1 h1 hn]
  unfold iotaI
  rw [List.map_map]; rfl
theorem range_at {n : Nat} {pre post : List Nat} {x : Nat} (e : List.range n = pre ++ x :: post) : x = pre.length ∧ pre.length < n := by
  have hl := congrArg List.length e
  rw [List.length_range, List.length_append, List.length_cons] at hl
  have h1 : (List.range n)[pre.length]? = some x := by rw [e, List.getElem?_append_right (Nat.le_refl _), Nat.sub_self]; rfl
  rw [List.getElem?_range (by omega)] at h1
  exact ⟨(Option.some.inj h1).symm, by omega⟩
theorem pow_ok {n : Nat} (h : n ≤ 100) : pI gPow (.int 10) (.int n) = some (.frz (.int ((10 ^ n : Nat) : Int))) := by
  have : gPow 10 n = some (.int ((10 ^ n : Nat) : Int)) := by
    unfold gPow
    rw [if_pos ⟨⟨by omega, by omega⟩, by decide⟩, Int.toNat_natCast]
    congr 2
  show Option.map _ (gPow 10 n) = _
  rw [this]; rfl
theorem pRep_of {ds : List D} {k : Nat} (h : ds.length * k ≤ 100000) (hk : k ≤ 100000) : pMul (.list ds) (.int k) = some (.new (.list (List.replicate k ds).flatten)) := by
  have e : pI gMul (.list ds) (.int k) = none := rfl
  unfold pMul
  rw [e, Option.none_or]
  have two63 : (2 : Int) ^ 63 = 9223372036854775808 := by decide +kernel
  unfold pRep
  rw [two63]
  dsimp only
  rw [if_pos (by
    rw [Int.toNat_natCast]
    exact ⟨by omega, by omega, size_ge h⟩), Int.toNat_natCast]
end DL

namespace DL
open PySem PySem.Spec L2
/-- def _law_box(script, k): -/
def g__law_box : FS := gSeq (gSet 2 (fIf (fT (f2 pLt (fN 1) (fB pLen (faC (fN 0) (faN))))) (f2 pIx (fN 0) (fN 1)) (fC (.int 0)))) (gRet (fLst (faC (f2 pMul (fB pAbs (faC (fN 2) (faN))) (fB pInt (faC (f2 pGe (fB pAbs (faC (fN 2) (faN))) (f2 (pI gPow) (fC (.int 10)) (fC (.int 18)))) (faN)))) (faC (f2 pAdd (f2 pAdd (f2 (pI gMod) (fB pInt (faC (fN 2) (faN))) (fC (.int 2305843009213693951))) (f2 pMul (fC (.int 41203)) (fN 1))) (fC (.int 16180339))) (faC (fC (.int 0)) (faN))))))
def fn__law_box : Fn := fnN 3 2 g__law_box
/-- def _law_many(chains, many): -/
def g__law_many : FS := gSeq (gSet 2 (fTup (faN))) (gSeq (gFor (fRng (faC (fN 1) (faN))) (hN 3) (gSet 2 (fCall fn_followed (faC (fN 2) (faC (fN 0) (faN)))))) (gRet (fN 2)))
def fn__law_many : Fn := fnP 4 2 g__law_many
/-- def _law_least(row, size): -/
def g__law_least : FS := gSeq (gSet 2 (fCall fn__law_rooms_so (faC (fN 1) (faN)))) (gSeq (gTupS [(3, false), (4, false)] (faCn (fN 2) (faCn (fC (.int 0)) (faN)))) (gSeq (goW (fT (f2 pLt (fN 4) (fC (.int 14)))) (gSeq (gSet 5 (fLc (fSeq (fN 3)) (hN 6) (fYes) (fCall fn__law_led (faC (fN 6) (faC (fN 0) (faN)))) [6])) (gSeq (gIf (fT (f2 pEq (fN 5) (fN 3))) (gRet (fN 4)) (gNil)) (gTupS [(3, false), (4, false)] (faCn (fN 5) (faCn (f2 pAdd (fN 4) (fC (.int 1))) (faN)))))) 1000) (gRet (fN 4))))
def fn__law_least : Fn := fnP 7 2 g__law_least
/-- def _law_turns_right(urn, one, other, row, near, size): -/
def g__law_turns_right : FS := gSeq (gTupS [(6, false), (7, false)] (faCn (fCall fn_followed (faC (fN 1) (faC (fN 2) (faN)))) (faCn (fCall fn_followed (faC (fN 2) (faC (fN 1) (faN)))) (faN)))) (gSeq (gFor (fSeq (fLst (faC (fC (.int 0)) (faC (fC (.int 1)) (faC (fC (.int 2)) (faC (fC (.int 3)) (faC (fC (.int 5)) (faC (fC (.int 13)) (faN))))))))) (hN 8) (gSeq (gTupS [(9, false), (10, false)] (faCn (fCall fn_repeated (faC (fN 6) (faC (fN 8) (faN)))) (faCn (fCall fn_repeated (faC (fN 7) (faC (fN 8) (faN)))) (faN)))) (gSeq (gSet 11 (fLst (faC (fN 9) (faC (fCall fn_followed (faC (fN 9) (faC (fN 1) (faN)))) (faC (fCall fn_repeated (faC (fN 6) (faC (f2 pAdd (fN 8) (fC (.int 1))) (faN)))) (faC (fCall fn_followed (faC (fCall fn_followed (faC (fN 2) (faC (fN 9) (faN)))) (faC (fN 1) (faN)))) (faC (fCall fn_followed (faC (fN 2) (faC (fN 9) (faN)))) (faN)))))))) (gSeq (gSet 12 (fLst (faC (fCall fn__law_many (faC (fN 6) (faC (fN 8) (faN)))) (faC (fCall fn_followed (faC (fN 1) (faC (fN 10) (faN)))) (faC (fCall fn_followed (faC (fCall fn_followed (faC (fN 1) (faC (fN 10) (faN)))) (faC (fN 2) (faN)))) (faC (fCall fn_repeated (faC (fN 7) (faC (f2 pAdd (fN 8) (fC (.int 1))) (faN)))) (faC (fCall fn_followed (faC (fN 10) (faC (fN 2) (faN)))) (faN)))))))) (gIf (fNot (fT (fCall fn__law_same (faC (fN 11) (faC (fN 12) (faN)))))) (gRet (fC (.bool false))) (gNil)))))) (gSeq (gTupS [(13, false), (14, false)] (faCn (fCall fn_settles (faC (fN 6) (faN))) (faCn (fCall fn_settles (faC (fN 7) (faN))) (faN)))) (gSeq (gIf (fOr (fNot (fT (fCh pLe pLe (fNeg (fC (.int 1))) (f2 pSub (fN 13) (fN 14)) (fC (.int 1))))) (fNot (fT (fCall fn__law_same (faC (fLst (faC (fN 13) (faC (fN 14) (faN)))) (faC (fLst (faC (fCall fn__law_least (faC (f2 pAdd (fN 3) (fN 4)) (faC (fN 5) (faN)))) (faC (fCall fn__law_least (faC (f2 pAdd (fN 4) (fN 3)) (faC (fN 5) (faN)))) (faN)))) (faN))))))) (gRet (fC (.bool false))) (gNil)) (gSeq (gSet 15 (fLst (faC (fCallU fn__law_of (faC (fN 0) (faC (fLst (faC (fC (.int 13)) (faC (fC (.int 1000000)) (faC (fC (.int 999999999999)) (faN))))) (faN)))) (faC (f2 (pI gPow) (fC (.int 10)) (fC (.int 12))) (faN))))) (gRet (fAndV (fCall fn__law_same (faC (fLc (fSeq (fN 15)) (hN 8) (fYes) (fCall fn_repeated (faC (fN 6) (faC (fN 8) (faN)))) [8]) (faC (f2 pMul (fLst (faC (fCall fn_repeated (faC (fN 6) (faC (fN 13) (faN)))) (faN))) (fC (.int 2))) (faN)))) (f2 pEq (fCall fn_repeated (faC (fN 6) (faC (f2 pAdd (fN 13) (fC (.int 1))) (faN)))) (fCall fn_repeated (faC (fN 7) (faC (f2 pAdd (fN 14) (fC (.int 1))) (faN)))))))))))
def fn__law_turns_right : FnU := fnU 16 6 g__law_turns_right
/-- law, behind its first line -/
def g_law : FS := gSeq (gSet 2 (f2 pAdd (fC (.int 2)) (fCallU fn__law_take (faC (fN 1) (faC (fC (.int 5)) (faN)))))) (gSeq (gTupS [(3, false), (4, false), (5, false)] (faCn (fCallU fn__law_list (faC (fN 1) (faC (fN 2) (faC (fC (.int 7)) (faN))))) (faCn (fCallU fn__law_list (faC (fN 1) (faC (fN 2) (faC (fC (.int 7)) (faN))))) (faCn (fCallU fn__law_crowd (faC (fN 1) (faC (fN 2) (faN)))) (faN))))) (gSeq (gIf (fT (f2 pEq (fCallU fn__law_take (faC (fN 1) (faC (fC (.int 3)) (faN)))) (fC (.int 0)))) (gSet 4 (fCallU fn__law_of (faC (fN 1) (faC (fLst (faC (fN 3) (faC (f2 pAdd (fN 3) (fN 3)) (faC (fSl (fN 3) (fo0) (fo1 (fC (.int 1)))) (faC (fLst (faN)) (faC (fSortSet (fN 3)) (faC (f2 pMul (fN 3) (fC (.int 3))) (faN)))))))) (faN))))) (gNil)) (gSeq (gTupS [(6, false), (7, false)] (faCn (fCall fn_chains_of (faC (fN 3) (faN))) (faCn (fCall fn_chains_of (faC (fN 4) (faN))) (faN)))) (gSeq (gIf (fNot (fT (fCallU fn__law_turns_right (faC (fN 1) (faC (fN 6) (faC (fN 7) (faC (fN 3) (faC (fN 4) (faC (fN 2) (faN)))))))))) (gRet (fC (.bool false))) (gNil)) (gSeq (gSet 8 (fCall fn__law_rooms_so (faC (fN 2) (faN)))) (gSeq (gSet 9 (f2 pEq (fLc (fSeq (fN 8)) (hN 19) (fYes) (fCall fn__law_led (faC (fN 19) (faC (f2 pAdd (fN 3) (fN 4)) (faN)))) [19]) (fLc (fSeq (fN 8)) (hN 19) (fYes) (fCall fn__law_led (faC (fN 19) (faC (f2 pAdd (fN 4) (fN 3)) (faN)))) [19]))) (gSeq (gIf (fNot (fT (fCall fn__law_same (faC (fLst (faC (f2 pEq (fCall fn_followed (faC (fN 6) (faC (fN 7) (faN)))) (fCall fn_followed (faC (fN 7) (faC (fN 6) (faN))))) (faC (fCall fn_do_same (faC (f2 pAdd (fN 3) (fN 4)) (faC (f2 pAdd (fN 4) (fN 3)) (faN)))) (faC (f2 pIsN (fCall fn_difference (faC (f2 pAdd (fN 3) (fN 4)) (faC (f2 pAdd (fN 4) (fN 3)) (faN)))) (fC .none)) (faN))))) (faC (f2 pMul (fLst (faC (fN 9) (faN))) (fC (.int 3))) (faN)))))) (gRet (fC (.bool false))) (gNil)) (gSeq (gSet 10 (fCallU fn__law_take (faC (fN 1) (faC (fC (.int 5)) (faN))))) (gSeq (gIf (fT (fN 9)) (gIf (fNot (fT (fCall fn__law_same (faC (fCall fn_repeated (faC (fCall fn_followed (faC (fN 6) (faC (fN 7) (faN)))) (faC (fN 10) (faN)))) (faC (fCall fn_followed (faC (fCall fn_repeated (faC (fN 6) (faC (fN 10) (faN)))) (faC (fCall fn_repeated (faC (fN 7) (faC (fN 10) (faN)))) (faN)))) (faN)))))) (gRet (fC (.bool false))) (gNil)) (gSeq (gUnp (hT [11, 12]) (fCall fn_difference (faC (f2 pAdd (fN 3) (fN 4)) (faC (f2 pAdd (fN 4) (fN 3)) (faN))))) (gSeq (gSet 13 (fCall fn_separating_room (faC (f2 pAdd (fN 3) (fN 4)) (faC (f2 pAdd (fN 4) (fN 3)) (faN))))) (gSeq (gIf (fOr (fT (f2 pNotB (fCall fn_shows_difference (faC (f2 pAdd (fN 4) (fN 3)) (faC (f2 pAdd (fN 3) (fN 4)) (faC (fTup (faC (fN 11) (faC (fN 12) (faN)))) (faN))))) (fC (.bool true)))) (fT (f2 pEq (fCall fn__law_led (faC (fN 13) (faC (f2 pAdd (fN 3) (fN 4)) (faN)))) (fCall fn__law_led (faC (fN 13) (faC (f2 pAdd (fN 4) (fN 3)) (faN))))))) (gRet (fC (.bool false))) (gNil)) (gIf (fT (f2 pEq (fCall fn_result (faC (fCall fn_followed (faC (fN 6) (faC (fN 7) (faN)))) (faC (fN 13) (faN)))) (fCall fn_result (faC (fCall fn_followed (faC (fN 7) (faC (fN 6) (faN)))) (faC (fN 13) (faN)))))) (gRet (fC (.bool false))) (gNil)))))) (gSeq (gTupS [(14, false), (15, false), (16, false)] (faCn (fLst (faN)) (faCn (fLst (faN)) (faCn (fN 5) (faN))))) (gSeq (gFor (fRng (faC (f2 pAdd (fN 10) (fC (.int 1))) (faN))) (hN 17) (gSeq (gSet 14 (f2 pAdd (fN 14) (fLst (faC (fCall fn_room_after_many (faC (fN 5) (faC (f2 pAdd (fN 3) (fN 4)) (faC (fN 17) (faN))))) (faC (fCall fn_result (faC (fCall fn_repeated (faC (fCall fn_followed (faC (fN 6) (faC (fN 7) (faN)))) (faC (fN 17) (faN)))) (faC (fN 5) (faN)))) (faN)))))) (gSeq (gSet 15 (f2 pAdd (fN 15) (fLst (faC (fN 16) (faC (fN 16) (faN)))))) (gSet 16 (fCall fn__law_led (faC (fN 16) (faC (f2 pAdd (fN 3) (fN 4)) (faN)))))))) (gSeq (gSet 18 (fN 5)) (gSeq (gFor (fRng (faC (fC (.int 14)) (faN))) (hN 17) (gSet 18 (fCall fn__law_led (faC (fN 18) (faC (f2 pAdd (fN 3) (fN 4)) (faN)))))) (gSeq (gSet 14 (f2 pAdd (fN 14) (fLst (faC (fCall fn_room_after_many (faC (fN 5) (faC (f2 pAdd (fN 3) (fN 4)) (faC (f2 (pI gPow) (fC (.int 10)) (fC (.int 12))) (faN))))) (faC (fCall fn_room_after (faC (fN 18) (faC (fN 4) (faN)))) (faC (f2 pIn (fN 18) (fCall fn_staying (faC (fN 2) (faC (fCall fn_followed (faC (fN 7) (faC (fN 6) (faN)))) (faN))))) (faN))))))) (gRet (fCall fn__law_same (faC (fN 14) (faC (f2 pAdd (fN 15) (fLst (faC (fN 18) (faC (fN 18) (faC (fC (.bool true)) (faN)))))) (faN)))))))))))))))))))
def lawOk : Prop := ∀ zs : List Int, zs ≠ [] → ∃ urn, fn__law_box [.list (zs.map .int), .int 0] = some urn ∧ (g_law (cellsL 20 urn)).bind endD = some (.bool true)
end DL

namespace DL
open PySem PySem.Spec L2
theorem c_many {v : List Int} (h : Rk v) {m : Nat} (hm : m ≤ 1000) : fn__law_many [chT (Ch v), .int m] = some (chT (Ch (rep m v))) := by
  unfold fn__law_many
  let st : Nat → Cell → Ce := fun k c => [.val (chT (Ch v)), .val (.int m), .val (chT (Ch (rep k v))), c]
  let ρ0 : Ce := [.val (chT (Ch v)), .val (.int m), .un, .un]
  refine Eq.trans (fnP_at ρ0 rfl rfl) ?_
  unfold g__law_many
  refine bSet (d := chT []) (ρ2 := st 0 .un) rfl rfl (by show ([_, _, .val (chT []), _] : Ce) = [_, _, .val (chT (Ch [])), _]; rw [ch_nil]) ?_
  obtain ⟨ρ', hf, c, rfl⟩ := goFor_mapped (h := DL.hN 3) (g := gSet 2 (fCall fn_followed (faC (fN 2) (faC (fN 0) (faN))))) (fun (m : Nat) => PyData.int (m : Int)) (List.range m) (fun pre ρ => ∃ c, ρ = st pre.length c) (fun pre x post ρ e hp => by
    obtain ⟨c, rfl⟩ := hp
    refine ⟨st pre.length (.val (.int x)), st (pre ++ [x]).length (.val (.int x)), rfl, .inl ?_, _, rfl⟩
    refine (gSet_of (fCall_of (faC_of (o := .frz (chT (Ch (rep pre.length v)))) (ρ1 := st pre.length (.val (.int x))) rfl (faC_of (o := .frz (chT (Ch v))) (ρ1 := st pre.length (.val (.int x))) rfl rfl)) rfl (c_followed (h.rep _) h)) rfl).trans ?_
    rw [← rep_snoc, List.length_append, List.length_singleton]; rfl) (List.range m) [] (st 0 .un) rfl ⟨_, rfl⟩
  rw [List.length_range] at hf
  refine bSeq ((gFor_of (fRng_nat (ρ := st 0 .un) (n := m) rfl (by omega))).trans hf) ?_
  rfl
theorem c_least {n : Nat} {v : List Int} (hn : n ≤ 12) (hv : ∀ x ∈ v, 1 ≤ x ∧ x ≤ n) {s : Nat} (s1 : s ≤ 12) (s2 : Ch (rep s v) = Ch (rep (s + 1) v)) (s3 : ∀ k, k < s → Ch (rep k v) ≠ Ch (rep (k + 1) v)) : fn__law_least [iL v, .int n] = some (.int s) := by
  have rv : Rk v := fun x hx => by have := hv x hx; omega
  unfold fn__law_least
  let lev : Nat → List (List Int) := fun k => (roomsSo n).map fun R => topsI (R ++ rep k v)
  let st : Nat → Cell → Ce := fun k c => [.val (iL v), .val (.int n), .val (eL iT (roomsSo n)), .val (eL iT (lev k)), .val (.int k), c, .un]
  let ρ0 : Ce := [.val (iL v), .val (.int n), .un, .un, .un, .un, .un]
  let ρ1 : Ce := [.val (iL v), .val (.int n), .val (eL iT (roomsSo n)), .un, .un, .un, .un]
  have hl := roomsSo_len hn
  have lev0 : lev 0 = roomsSo n := by
    have : ∀ R ∈ roomsSo n, topsI (R ++ rep 0 v) = id R := fun R hR => by rw [rep_zero, List.append_nil, tops_asc_self (mem_roomsSo.mp hR).1]; rfl
    show (roomsSo n).map _ = _
    rw [List.map_congr_left this, List.map_id]
  have levEq : ∀ k, lev (k + 1) = lev k ↔ Ch (rep k v) = Ch (rep (k + 1) v) := fun k => by
    have hk : ∀ j, ∀ x ∈ rep j v, 1 ≤ x ∧ x ≤ n := fun j x hx => hv x (rep_mem hx)
    rw [← same_rooms hn (hk k) (hk (k + 1))]
    show List.map _ _ = List.map _ _ ↔ _
    rw [List.map_inj_left]
    exact ⟨fun h R hR => (h R (mem_roomsSo.mpr hR)).symm, fun h R hR => (h R (mem_roomsSo.mp hR)).symm⟩
  refine Eq.trans (fnP_at ρ0 rfl rfl) ?_
  unfold g__law_least
  refine bSet (ρ2 := ρ1) (fCall_of (faC_of (o := .frz (.int n)) (ρ1 := ρ0) rfl rfl) rfl (c_roomsso hn)) rfl rfl ?_
  refine bTup (os := [.frz (eL iT (roomsSo n)), .frz (.int 0)]) (ρ2 := st 0 .un) (faCn_of rfl (faCn_of rfl rfl)) (by
    show some ([_, _, _, .val (eL iT (roomsSo n)), _, _, _] : Ce) = some [_, _, _, .val (eL iT (lev 0)), _, _, _]
    rw [lev0]; rfl) ?_
  have ht : ∀ k c, k < 14 → fT (f2 pLt (fN 4) (fC (.int 14))) (st k c) = some (true, st k c) := fun k c hk => by
    have := fT_of (f2_of (ρ := st k c) (ρ1 := st k c) (ρ2 := st k c) (fe := fN 4) (fb := fC (.int 14)) rfl rfl rfl rfl (pLt_ii k 14))
    rwa [decide_eq_true (by omega)] at this
  have h5 : ∀ k c, fLc (fSeq (fN 3)) (hN 6) (fYes) (fCall fn__law_led (faC (fN 6) (faC (fN 0) (faN)))) [6] (st k c) = some (.new (eL iT (lev (k + 1))), st k c) := fun k c => by
    have := fLc_m (fi := fSeq (fN 3)) (h := DL.hN 6) (fe := fCall fn__law_led (faC (fN 6) (faC (fN 0) (faN)))) (vs := [6]) (ρ0 := st k c) (ρ1 := st k c) (ρw := st k c) (xs := lev k) (e := iT) (R := fun x => (st k c).set 6 (.val (iT x))) (O := fun x => .frz (iT (topsI (x ++ v)))) iT (g := fun x => topsI (x ++ v)) rfl rfl (fun _ => rfl) (fun x hx => by
      obtain ⟨R, hR, rfl⟩ := List.mem_map.mp hx
      have hm := mem_roomsSo.mp hR
      exact fCall_of (faC_of (o := .frz (iT (topsI (R ++ rep k v)))) (ρ1 := (st k c).set 6 (.val (iT (topsI (R ++ rep k v))))) rfl (faC_of (o := .frz (iL v)) (ρ1 := (st k c).set 6 (.val (iT (topsI (R ++ rep k v))))) rfl rfl)) rfl (c_led (topsI_asc _) (((rk_room hn hm).app (rv.rep k)).sub fun x hx => tops_mem hx) rv)) (fun _ => rfl) (fun _ => rfl) rfl (by show ((roomsSo n).map _).length ≤ _; rw [List.length_map]; omega)
    rw [this]
    show some (Opd.new (eL iT (((roomsSo n).map fun R => topsI (R ++ rep k v)).map fun x => topsI (x ++ v))), st k c) = _
    rw [List.map_map]
    have e : (roomsSo n).map ((fun x => topsI (x ++ v)) ∘ fun R => topsI (R ++ rep k v)) = lev (k + 1) := List.map_congr_left fun R _ => by
      show topsI (topsI (R ++ rep k v) ++ v) = topsI (R ++ rep (k + 1) v)
      rw [tops_tops, rep_snoc, List.append_assoc]
    rw [e]
  have run : ∀ (j k fuel : Nat) (c : Cell), k + j = s → j < fuel → ∃ e : Cell, goW (fT (f2 pLt (fN 4) (fC (.int 14)))) (gSeq (gSet 5 (fLc (fSeq (fN 3)) (hN 6) (fYes) (fCall fn__law_led (faC (fN 6) (faC (fN 0) (faN)))) [6])) (gSeq (gIf (fT (f2 pEq (fN 5) (fN 3))) (gRet (fN 4)) (gNil)) (gTupS [(3, false), (4, false)] (faCn (fN 5) (faCn (f2 pAdd (fN 4) (fC (.int 1))) (faN)))))) fuel (st k c) = some (.rt (.frz (.int s)) (st s e)) := by
    intro j
    induction j with
    | zero =>
      intro k fuel c hk hf
      obtain ⟨f, rfl⟩ : ∃ f, fuel = f + 1 := ⟨fuel - 1, by omega⟩
      have : k = s := by omega
      subst this
      refine ⟨.val (eL iT (lev (k + 1))), ?_⟩
      let ρa := st k (.val (eL iT (lev (k + 1))))
      have t : fT (f2 pEq (fN 5) (fN 3)) ρa = some (true, ρa) := by
        have := fT_of (f2_of (ρ := ρa) (ρ1 := ρa) (ρ2 := ρa) (fe := fN 5) (fb := fN 3) rfl rfl rfl rfl (pEq_e (encL (encT encI)) (by decide) (lev (k + 1)) (lev k)))
        rwa [decide_eq_true ((levEq k).mpr s2)] at this
      simp only [goW, ht k c (by omega), Option.bind_some, cond_true]
      rw [gSeq_nx (ρ1 := ρa) (gSet_of (h5 k c) rfl), gSeq_rt (ρ1 := ρa) (o := .frz (.int k)) (by rw [gIf_t t]; rfl)]
      rfl
    | succ j ih =>
      intro k fuel c hk hfu
      obtain ⟨f, rfl⟩ : ∃ f, fuel = f + 1 := ⟨fuel - 1, by omega⟩
      let ρa := st k (.val (eL iT (lev (k + 1))))
      obtain ⟨c', hc'⟩ := ih (k + 1) f (.val (eL iT (lev (k + 1)))) (by omega) (by omega)
      refine ⟨c', ?_⟩
      have t : fT (f2 pEq (fN 5) (fN 3)) ρa = some (false, ρa) := by
        have := fT_of (f2_of (ρ := ρa) (ρ1 := ρa) (ρ2 := ρa) (fe := fN 5) (fb := fN 3) rfl rfl rfl rfl (pEq_e (encL (encT encI)) (by decide) (lev (k + 1)) (lev k)))
        rwa [decide_eq_false (fun z => s3 k (by omega) ((levEq k).mp z))] at this
      simp only [goW, ht k c (by omega), Option.bind_some, cond_true]
      rw [gSeq_nx (ρ1 := ρa) (gSet_of (h5 k c) rfl), gSeq_nx (ρ1 := ρa) (by rw [gIf_f t]; rfl), gTup_of (os := [.frz (eL iT (lev (k + 1))), .frz (.int ((k : Int) + 1))]) (ρ2 := st (k + 1) (.val (eL iT (lev (k + 1))))) (faCn_of rfl (faCn_of rfl rfl)) rfl]
      exact hc'
  obtain ⟨c, hrun⟩ := run s 0 1000 .un (by omega) (by omega)
  rw [gSeq_rt hrun]; rfl
theorem same_chs {xs ys : List (List Int)} (h : xs = ys) (hx : ∀ v ∈ ys, Rk v) (hl : ys.length ≤ 1000) : fn__law_same [eL chT (xs.map Ch), eL chT (ys.map Ch)] = some (.bool true) :=
  c_same2 (by rw [h]) (Short2.L (e := chT) (by rw [List.length_map]; exact hl) fun c hc => by
    obtain ⟨v, hv, rfl⟩ := List.mem_map.mp hc
    exact (ch_cr (hx v hv)).short) ((encL encC).dep8 (by decide) _)
theorem turns_ok {k n : Nat} {w : D} {row near : List Int} (U : Urn k w) (hk : k ≤ 400000) (hn : n ≤ 12) (hr : ∀ x ∈ row, 1 ≤ x ∧ x ≤ n) (hs : ∀ x ∈ near, 1 ≤ x ∧ x ≤ n) (lr : row.length ≤ 21) (ln : near.length ≤ 21) :
    ∃ w', fn__law_turns_right w [chT (Ch row), chT (Ch near), iL row, iL near, .int n] = some (.bool true, w') ∧ Urn (k + 1) w' := by
  have rr : Rk row := fun x hx => by have := hr x hx; omega
  have rn : Rk near := fun x hx => by have := hs x hx; omega
  generalize hA : row ++ near = A
  generalize hB : near ++ row = B
  have rA : Rk A := by rw [← hA]; exact rr.app rn
  have rB : Rk B := by rw [← hB]; exact rn.app rr
  have bA : ∀ x ∈ A, 1 ≤ x ∧ x ≤ n := fun x hx => by
    rw [← hA] at hx
    rcases List.mem_append.mp hx with q | q
    · exact hr x q
    · exact hs x q
  have bB : ∀ x ∈ B, 1 ≤ x ∧ x ≤ n := fun x hx => by
    rw [← hB] at hx
    rcases List.mem_append.mp hx with q | q
    · exact hs x q
    · exact hr x q
  have lA : A.length ≤ 42 := by rw [← hA, List.length_append]; omega
  have lB : B.length ≤ 42 := by rw [← hB, List.length_append]; omega
  have shA : ∀ m, rep m A ++ row = row ++ rep m B := fun m => by rw [← hA, ← hB]; exact rep_shift m row near
  have shB : ∀ m, rep m B ++ near = near ++ rep m A := fun m => by rw [← hA, ← hB]; exact rep_shift m near row
  have fA : ∀ m, rep (m + 1) A = row ++ rep m B ++ near := fun m => by
    rw [List.append_assoc, shB, rep_succ, ← hA, List.append_assoc]
  have fB' : ∀ m, rep (m + 1) B = near ++ rep m A ++ row := fun m => by
    rw [List.append_assoc, shA, rep_succ, ← hB, List.append_assoc]
  obtain ⟨s, s1, s2, s3, s4⟩ := c_settles rA
  obtain ⟨t, t1, t2, t3, t4⟩ := c_settles rB
  -- at most one apart
  have near1 : ∀ {C E x y : List Int}, Rk C → Rk E → Rk x → Rk y → (∀ m, rep (m + 1) C = x ++ rep m E ++ y) → ∀ {p q : Nat}, (∀ k, k < p → Ch (rep k C) ≠ Ch (rep (k + 1) C)) → Ch (rep q E) = Ch (rep (q + 1) E) → p ≤ q + 1 := fun rC rE rx ry f p q hp hq => by
    apply Classical.byContradiction
    intro c
    apply hp (q + 1) (by omega)
    rw [f, f]
    exact (ch_eq ((rx.app (rE.rep _)).app ry).pos ((rx.app (rE.rep _)).app ry).pos).mpr ((LEq.rfl'.app ((ch_eq (rE.rep _).pos (rE.rep _).pos).mp hq)).app LEq.rfl')
  have a1 := near1 rA rB rr rn fA s3 t2
  have a2 := near1 rB rA rn rr fB' t3 s2
  obtain ⟨N, hNN⟩ : ∃ N : Nat, N = 10 ^ 12 := ⟨_, rfl⟩
  have hN12 : 12 ≤ N := by rw [hNN]; decide
  have pN : pI gPow (.int 10) (.int 12) = some (.frz (.int (N : Int))) := by rw [hNN]; exact pow_ok (n := 12) (by decide)
  let great0 : List Int := [13, 1000000, 999999999999]
  obtain ⟨g, hg, w', e1, U1⟩ := of_ok PyData.int (xs := great0) U (by omega) (by simp [great0]) (by simp [great0])
  obtain ⟨G, rfl, hG⟩ : ∃ G : Nat, g = G ∧ 12 ≤ G := ⟨g.toNat, by
    have : g = 13 ∨ g = 1000000 ∨ g = 999999999999 := by simpa [great0] using hg
    omega, by
    have : g = 13 ∨ g = 1000000 ∨ g = 999999999999 := by simpa [great0] using hg
    omega⟩
  refine ⟨w', ?_, U1⟩
  let st : D → Cell → Cell → Cell → Cell → Cell → Cell → Cell → Cell → Ce := fun w c8 c9 c10 c11 c12 c13 c14 c15 =>
    [.own true w, .val (chT (Ch row)), .val (chT (Ch near)), .val (iL row), .val (iL near), .val (.int n), .val (chT (Ch A)), .val (chT (Ch B)), c8, c9, c10, c11, c12, c13, c14, c15]
  let ρ0 : Ce := [.own true w, .val (chT (Ch row)), .val (chT (Ch near)), .val (iL row), .val (iL near), .val (.int n), .un, .un, .un, .un, .un, .un, .un, .un, .un, .un]
  unfold fn__law_turns_right
  refine Eq.trans (fnU_at ρ0 rfl rfl) ?_
  unfold g__law_turns_right
  have f1 : fCall fn_followed (faC (fN 1) (faC (fN 2) (faN))) ρ0 = some (.frz (chT (Ch A)), ρ0) := fCall_of (faC_of (o := .frz (chT (Ch row))) (ρ1 := ρ0) rfl (faC_of (o := .frz (chT (Ch near))) (ρ1 := ρ0) rfl rfl)) rfl (by rw [c_followed rr rn, hA])
  have f2' : fCall fn_followed (faC (fN 2) (faC (fN 1) (faN))) ρ0 = some (.frz (chT (Ch B)), ρ0) := fCall_of (faC_of (o := .frz (chT (Ch near))) (ρ1 := ρ0) rfl (faC_of (o := .frz (chT (Ch row))) (ρ1 := ρ0) rfl rfl)) rfl (by rw [c_followed rn rr, hB])
  refine bTup (ρ2 := st w .un .un .un .un .un .un .un .un) (faCn_of f1 (faCn_of f2' rfl)) rfl ?_
  -- the loop
  obtain ⟨ρ', hf, c8, c9, c10, c11, c12, rfl⟩ := goFor_mapped (h := DL.hN 8) (g := gSeq (gTupS [(9, false), (10, false)] (faCn (fCall fn_repeated (faC (fN 6) (faC (fN 8) (faN)))) (faCn (fCall fn_repeated (faC (fN 7) (faC (fN 8) (faN)))) (faN)))) (gSeq (gSet 11 (fLst (faC (fN 9) (faC (fCall fn_followed (faC (fN 9) (faC (fN 1) (faN)))) (faC (fCall fn_repeated (faC (fN 6) (faC (f2 pAdd (fN 8) (fC (.int 1))) (faN)))) (faC (fCall fn_followed (faC (fCall fn_followed (faC (fN 2) (faC (fN 9) (faN)))) (faC (fN 1) (faN)))) (faC (fCall fn_followed (faC (fN 2) (faC (fN 9) (faN)))) (faN)))))))) (gSeq (gSet 12 (fLst (faC (fCall fn__law_many (faC (fN 6) (faC (fN 8) (faN)))) (faC (fCall fn_followed (faC (fN 1) (faC (fN 10) (faN)))) (faC (fCall fn_followed (faC (fCall fn_followed (faC (fN 1) (faC (fN 10) (faN)))) (faC (fN 2) (faN)))) (faC (fCall fn_repeated (faC (fN 7) (faC (f2 pAdd (fN 8) (fC (.int 1))) (faN)))) (faC (fCall fn_followed (faC (fN 10) (faC (fN 2) (faN)))) (faN)))))))) (gIf (fNot (fT (fCall fn__law_same (faC (fN 11) (faC (fN 12) (faN)))))) (gRet (fC (.bool false))) (gNil))))) (fun (m : Nat) => PyData.int (m : Int)) [0, 1, 2, 3, 5, 13] (fun _ ρ => ∃ c8 c9 c10 c11 c12, ρ = st w c8 c9 c10 c11 c12 .un .un .un) (fun pre m post ρ e hp => by
    obtain ⟨c8, c9, c10, c11, c12, rfl⟩ := hp
    have hm : m ≤ 13 := by
      have : m ∈ [0, 1, 2, 3, 5, 13] := by rw [e]; simp
      simp at this; omega
    let ra := rep m A
    let rb := rep m B
    let got : List (List Int) := [ra, ra ++ row, rep (m + 1) A, near ++ ra ++ row, near ++ ra]
    let goal : List (List Int) := [ra, row ++ rb, row ++ rb ++ near, rep (m + 1) B, rb ++ near]
    have hgg : got = goal := by
      show [rep m A, rep m A ++ row, rep (m + 1) A, near ++ rep m A ++ row, near ++ rep m A] = [rep m A, row ++ rep m B, row ++ rep m B ++ near, rep (m + 1) B, rep m B ++ near]
      rw [shA, fA, ← fB', shB]
    have rra : Rk ra := rA.rep m
    have rrb : Rk rb := rB.rep m
    let ρa := st w (.val (.int m)) c9 c10 c11 c12 .un .un .un
    let ρb := st w (.val (.int m)) (.val (chT (Ch ra))) (.val (chT (Ch rb))) c11 c12 .un .un .un
    let ρc := st w (.val (.int m)) (.val (chT (Ch ra))) (.val (chT (Ch rb))) (.val (eL chT (got.map Ch))) c12 .un .un .un
    let ρd := st w (.val (.int m)) (.val (chT (Ch ra))) (.val (chT (Ch rb))) (.val (eL chT (got.map Ch))) (.val (eL chT (goal.map Ch))) .un .un .un
    have k1 : fCall fn_repeated (faC (fN 6) (faC (fN 8) (faN))) ρa = some (.frz (chT (Ch ra)), ρa) := fCall_of (faC_of (o := .frz (chT (Ch A))) (ρ1 := ρa) rfl (faC_of (o := .frz (.int m)) (ρ1 := ρa) rfl rfl)) rfl (c_repeated rA m)
    have k2 : fCall fn_repeated (faC (fN 7) (faC (fN 8) (faN))) ρa = some (.frz (chT (Ch rb)), ρa) := fCall_of (faC_of (o := .frz (chT (Ch B))) (ρ1 := ρa) rfl (faC_of (o := .frz (.int m)) (ρ1 := ρa) rfl rfl)) rfl (c_repeated rB m)
    have k3 : fLst (faC (fN 9) (faC (fCall fn_followed (faC (fN 9) (faC (fN 1) (faN)))) (faC (fCall fn_repeated (faC (fN 6) (faC (f2 pAdd (fN 8) (fC (.int 1))) (faN)))) (faC (fCall fn_followed (faC (fCall fn_followed (faC (fN 2) (faC (fN 9) (faN)))) (faC (fN 1) (faN)))) (faC (fCall fn_followed (faC (fN 2) (faC (fN 9) (faN)))) (faN)))))) ρb = some (.new (eL chT (got.map Ch)), ρb) := by
      have q1 : fCall fn_followed (faC (fN 2) (faC (fN 9) (faN))) ρb = some (.frz (chT (Ch (near ++ ra))), ρb) := fCall_of (faC_of (o := .frz (chT (Ch near))) (ρ1 := ρb) rfl (faC_of (o := .frz (chT (Ch ra))) (ρ1 := ρb) rfl rfl)) rfl (c_followed rn rra)
      refine fLst_of (ds := got.map fun v => chT (Ch v)) (faC_of (o := .frz (chT (Ch ra))) (ρ1 := ρb) rfl (faC_of (fCall_of (faC_of (o := .frz (chT (Ch ra))) (ρ1 := ρb) rfl (faC_of (o := .frz (chT (Ch row))) (ρ1 := ρb) rfl rfl)) rfl (c_followed rra rr)) (faC_of (fCall_of (faC_of (o := .frz (chT (Ch A))) (ρ1 := ρb) rfl (faC_of (o := .frz (.int ((m + 1 : Nat) : Int))) (ρ1 := ρb) rfl rfl)) rfl (c_repeated rA (m + 1))) (faC_of (fCall_of (faC_of q1 (faC_of (o := .frz (chT (Ch row))) (ρ1 := ρb) rfl rfl)) rfl (c_followed (rn.app rra) rr)) (faC_of q1 rfl))))) rfl (by show 5 ≤ 100000; decide)
    have k4 : fLst (faC (fCall fn__law_many (faC (fN 6) (faC (fN 8) (faN)))) (faC (fCall fn_followed (faC (fN 1) (faC (fN 10) (faN)))) (faC (fCall fn_followed (faC (fCall fn_followed (faC (fN 1) (faC (fN 10) (faN)))) (faC (fN 2) (faN)))) (faC (fCall fn_repeated (faC (fN 7) (faC (f2 pAdd (fN 8) (fC (.int 1))) (faN)))) (faC (fCall fn_followed (faC (fN 10) (faC (fN 2) (faN)))) (faN)))))) ρc = some (.new (eL chT (goal.map Ch)), ρc) := by
      have q1 : fCall fn_followed (faC (fN 1) (faC (fN 10) (faN))) ρc = some (.frz (chT (Ch (row ++ rb))), ρc) := fCall_of (faC_of (o := .frz (chT (Ch row))) (ρ1 := ρc) rfl (faC_of (o := .frz (chT (Ch rb))) (ρ1 := ρc) rfl rfl)) rfl (c_followed rr rrb)
      refine fLst_of (ds := goal.map fun v => chT (Ch v)) (faC_of (fCall_of (faC_of (o := .frz (chT (Ch A))) (ρ1 := ρc) rfl (faC_of (o := .frz (.int m)) (ρ1 := ρc) rfl rfl)) rfl (c_many rA (by omega))) (faC_of q1 (faC_of (fCall_of (faC_of q1 (faC_of (o := .frz (chT (Ch near))) (ρ1 := ρc) rfl rfl)) rfl (c_followed (rr.app rrb) rn)) (faC_of (fCall_of (faC_of (o := .frz (chT (Ch B))) (ρ1 := ρc) rfl (faC_of (o := .frz (.int ((m + 1 : Nat) : Int))) (ρ1 := ρc) rfl rfl)) rfl (c_repeated rB (m + 1))) (faC_of (fCall_of (faC_of (o := .frz (chT (Ch rb))) (ρ1 := ρc) rfl (faC_of (o := .frz (chT (Ch near))) (ρ1 := ρc) rfl rfl)) rfl (c_followed rrb rn)) rfl))))) rfl (by show 5 ≤ 100000; decide)
    have hsame := same_chs hgg (fun v hv => by
      have : v = ra ∨ v = row ++ rb ∨ v = row ++ rb ++ near ∨ v = rep (m + 1) B ∨ v = rb ++ near := by simpa [goal] using hv
      rcases this with rfl | rfl | rfl | rfl | rfl
      · exact rra
      · exact rr.app rrb
      · exact (rr.app rrb).app rn
      · exact rB.rep _
      · exact rrb.app rn) (by show 5 ≤ 1000; decide)
    have t5 : fNot (fT (fCall fn__law_same (faC (fN 11) (faC (fN 12) (faN))))) ρd = some (false, ρd) := fNot_of (b := true) (fT_of (fCall_of (faC_of (o := .frz (eL chT (got.map Ch))) (ρ1 := ρd) rfl (faC_of (o := .frz (eL chT (goal.map Ch))) (ρ1 := ρd) rfl rfl)) rfl hsame))
    refine ⟨ρa, ρd, rfl, .inl ?_, _, _, _, _, _, rfl⟩
    refine (gSeq_nx (ρ1 := ρb) (gTup_of (faCn_of k1 (faCn_of k2 rfl)) rfl)).trans ?_
    refine (gSeq_nx (ρ1 := ρc) (gSet_of k3 rfl)).trans ?_
    refine (gSeq_nx (ρ1 := ρd) (gSet_of k4 rfl)).trans ?_
    rw [gIf_f t5]; rfl) [0, 1, 2, 3, 5, 13] [] (st w .un .un .un .un .un .un .un .un) rfl ⟨_, _, _, _, _, rfl⟩
  refine bSeq ((gFor_of (ds := [0, 1, 2, 3, 5, 13].map fun (m : Nat) => PyData.int (m : Int)) (ρ1 := st w .un .un .un .un .un .un .un .un) rfl).trans hf) ?_
  -- where they settle
  let ρ2 := st w c8 c9 c10 c11 c12 .un .un .un
  let ρ3 := st w c8 c9 c10 c11 c12 (.val (.int s)) (.val (.int t)) .un
  refine bTup (ρ1 := ρ2) (ρ2 := ρ3) (os := [.frz (.int s), .frz (.int t)]) (faCn_of (fCall_of (faC_of (o := .frz (chT (Ch A))) (ρ1 := ρ2) rfl rfl) rfl s4) (faCn_of (fCall_of (faC_of (o := .frz (chT (Ch B))) (ρ1 := ρ2) rfl rfl) rfl t4) rfl)) rfl ?_
  have u1 : fT (fCh pLe pLe (fNeg (fC (.int 1))) (f2 pSub (fN 13) (fN 14)) (fC (.int 1))) ρ3 = some (true, ρ3) := by
    have := fT_of (fCh_le (ρ := ρ3) (fa := fNeg (fC (.int 1))) (fb := f2 pSub (fN 13) (fN 14)) (fc := fC (.int 1)) (a := -1) (b := (s : Int) - t) (c := 1) rfl rfl rfl)
    rwa [decide_eq_true (by omega), decide_eq_true (by omega)] at this
  have hst : fn__law_same [.list [.int s, .int t], .list [.int s, .int t]] = some (.bool true) := c_same2 rfl (.lst _ (by simp) fun d hd => by
    have : d = .int s ∨ d = .int t := by simpa using hd
    rcases this with rfl | rfl <;> exact .int _) (by show PyData.depthAll [PyData.int s, PyData.int t] + 1 < 8; simp [PyData.depthAll, PyData.depth])
  have pl : ∀ x y : List Int, x.length ≤ 21 → y.length ≤ 21 → pAdd (iL x) (iL y) = some (.new (iL (x ++ y))) := fun x y hx hy => pAdd_ll x y (by omega)
  have u2 : fT (fCall fn__law_same (faC (fLst (faC (fN 13) (faC (fN 14) (faN)))) (faC (fLst (faC (fCall fn__law_least (faC (f2 pAdd (fN 3) (fN 4)) (faC (fN 5) (faN)))) (faC (fCall fn__law_least (faC (f2 pAdd (fN 4) (fN 3)) (faC (fN 5) (faN)))) (faN)))) (faN)))) ρ3 = some (true, ρ3) := by
    have q1 : f2 pAdd (fN 3) (fN 4) ρ3 = some (.new (iL A), ρ3) := by rw [← hA]; exact f2_of (ρ1 := ρ3) (ρ2 := ρ3) (x := .frz (iL row)) (y := .frz (iL near)) rfl rfl rfl rfl (pl row near lr ln)
    have q2 : f2 pAdd (fN 4) (fN 3) ρ3 = some (.new (iL B), ρ3) := by rw [← hB]; exact f2_of (ρ1 := ρ3) (ρ2 := ρ3) (x := .frz (iL near)) (y := .frz (iL row)) rfl rfl rfl rfl (pl near row ln lr)
    exact fT_of (fCall_of (faC_of (fLst_of (ds := [.int s, .int t]) (faC_of (o := .frz (.int s)) (ρ1 := ρ3) rfl (faC_of (o := .frz (.int t)) (ρ1 := ρ3) rfl rfl)) rfl (by simp)) (faC_of (fLst_of (ds := [.int s, .int t]) (faC_of (fCall_of (faC_of q1 (faC_of (o := .frz (.int n)) (ρ1 := ρ3) rfl rfl)) rfl (c_least hn bA s1 s2 s3)) (faC_of (fCall_of (faC_of q2 (faC_of (o := .frz (.int n)) (ρ1 := ρ3) rfl rfl)) rfl (c_least hn bB t1 t2 t3)) rfl)) rfl (by simp)) rfl)) rfl hst)
  refine bIf_f (ρ1 := ρ3) (fOr_of (b := false) (c := false) (fNot_of (b := true) u1) fun _ => fNot_of (b := true) u2) ?_
  -- many turns
  let ρ4 := st w' c8 c9 c10 c11 c12 (.val (.int s)) (.val (.int t)) .un
  let ρ5 := st w' c8 c9 c10 c11 c12 (.val (.int s)) (.val (.int t)) (.val (eL (fun (m : Nat) => PyData.int (m : Int)) [G, N]))
  have v1 : fCallU fn__law_of (faC (fN 0) (faC (fLst (faC (fC (.int 13)) (faC (fC (.int 1000000)) (faC (fC (.int 999999999999)) (faN))))) (faN))) ρ3 = some (.frz (.int (G : Int)), ρ4) := by
    have : faC (fN 0) (faC (fLst (faC (fC (.int 13)) (faC (fC (.int 1000000)) (faC (fC (.int 999999999999)) (faN))))) (faN)) ρ3 = some ([.own 0, .frz (eL PyData.int great0)], ρ3) := faC_of (o := .own 0) (ρ1 := ρ3) rfl (faC_of (o := .new (eL PyData.int great0)) (ρ1 := ρ3) (fLst_of (ds := great0.map PyData.int) (faC_of (o := .frz (.int 13)) (ρ1 := ρ3) rfl (faC_of (o := .frz (.int 1000000)) (ρ1 := ρ3) rfl (faC_of (o := .frz (.int 999999999999)) (ρ1 := ρ3) rfl rfl))) rfl (by show 3 ≤ 100000; decide)) rfl)
    exact fCallU_e e1 (i := 0) (b := true) this rfl rfl rfl
  refine bSet (ρ1 := ρ4) (ρ2 := ρ5) (d := eL (fun (m : Nat) => PyData.int (m : Int)) [G, N]) (fLst_of (faC_of v1 (faC_of (f2_of (ρ1 := ρ4) (ρ2 := ρ4) (x := .frz (.int 10)) (y := .frz (.int 12)) rfl rfl rfl rfl pN) rfl)) rfl (by simp)) rfl rfl ?_
  have stay : ∀ m, 12 ≤ m → Ch (rep m A) = Ch (rep s A) := fun m hm => rep_stay rA s2 m (by omega)
  have w1 : fLc (fSeq (fN 15)) (hN 8) (fYes) (fCall fn_repeated (faC (fN 6) (faC (fN 8) (faN)))) [8] ρ5 = some (.new (eL chT [Ch (rep s A), Ch (rep s A)]), ρ5) := by
    let ρw := st w' .un c9 c10 c11 c12 (.val (.int s)) (.val (.int t)) (.val (eL (fun (m : Nat) => PyData.int (m : Int)) [G, N]))
    refine fLc_m (ρ1 := ρ5) (ρw := ρw) (xs := [G, N]) (e := fun (m : Nat) => PyData.int (m : Int)) (R := fun x => ρw.set 8 (.val (.int x))) (O := fun x => .frz (chT (Ch (rep s A)))) chT (g := fun _ => Ch (rep s A)) rfl rfl (fun _ => rfl) (fun m hm => ?_) (fun _ => rfl) (fun _ => rfl) rfl (by simp)
    have hm12 : 12 ≤ m := by
      have : m = G ∨ m = N := by simpa using hm
      rcases this with rfl | rfl <;> omega
    exact fCall_of (faC_of (o := .frz (chT (Ch A))) (ρ1 := ρw.set 8 (.val (.int m))) rfl (faC_of (o := .frz (.int m)) (ρ1 := ρw.set 8 (.val (.int m))) rfl rfl)) rfl (by rw [c_repeated rA m, stay m hm12])
  have w2 : fCall fn_repeated (faC (fN 6) (faC (fN 13) (faN))) ρ5 = some (.frz (chT (Ch (rep s A))), ρ5) := fCall_of (faC_of (o := .frz (chT (Ch A))) (ρ1 := ρ5) rfl (faC_of (o := .frz (.int s)) (ρ1 := ρ5) rfl rfl)) rfl (c_repeated rA s)
  have w3 : f2 pMul (fLst (faC (fCall fn_repeated (faC (fN 6) (faC (fN 13) (faN)))) (faN))) (fC (.int 2)) ρ5 = some (.new (eL chT [Ch (rep s A), Ch (rep s A)]), ρ5) :=
    f2_of (ρ2 := ρ5) (y := .frz (.int ((2 : Nat) : Int))) (fLst_of (ds := [chT (Ch (rep s A))]) (faC_of w2 rfl) rfl (by simp)) rfl rfl rfl (pRep_of (ds := [chT (Ch (rep s A))]) (k := 2) (by simp) (by decide))
  have w4 : fCall fn__law_same (faC (fLc (fSeq (fN 15)) (hN 8) (fYes) (fCall fn_repeated (faC (fN 6) (faC (fN 8) (faN)))) [8]) (faC (f2 pMul (fLst (faC (fCall fn_repeated (faC (fN 6) (faC (fN 13) (faN)))) (faN))) (fC (.int 2))) (faN))) ρ5 = some (.frz (.bool true), ρ5) :=
    fCall_of (faC_of w1 (faC_of w3 rfl)) rfl (same_chs (xs := [rep s A, rep s A]) (ys := [rep s A, rep s A]) rfl (fun v hv => by
      have : v = rep s A := by simpa using hv
      rw [this]; exact rA.rep s) (by simp))
  have far : Ch (rep (s + 1) A) = Ch (rep (t + 1) B) := by
    rw [← s2, ← stay 12 (by omega), ← t2, ← rep_stay rB t2 12 (by omega)]
    refine (ch_eq (rA.rep _).pos (rB.rep _).pos).mpr fun lo hi _ => ?_
    rw [long_rep (by have := set_len rA; omega), long_rep (by have := set_len rB; omega), setR_same (v := A) (w := B) (fun x => by rw [← hA, ← hB, List.mem_append, List.mem_append]; exact or_comm)]
  have w5 : f2 pEq (fCall fn_repeated (faC (fN 6) (faC (f2 pAdd (fN 13) (fC (.int 1))) (faN)))) (fCall fn_repeated (faC (fN 7) (faC (f2 pAdd (fN 14) (fC (.int 1))) (faN)))) ρ5 = some (.frz (.bool true), ρ5) := by
    have := f2_of (ρ := ρ5) (ρ1 := ρ5) (ρ2 := ρ5) (fCall_of (fa := faC (fN 6) (faC (f2 pAdd (fN 13) (fC (.int 1))) (faN))) (faC_of (o := .frz (chT (Ch A))) (ρ1 := ρ5) rfl (faC_of (o := .frz (.int ((s + 1 : Nat) : Int))) (ρ1 := ρ5) rfl rfl)) rfl (c_repeated rA (s + 1))) (fCall_of (fa := faC (fN 7) (faC (f2 pAdd (fN 14) (fC (.int 1))) (faN))) (faC_of (o := .frz (chT (Ch B))) (ρ1 := ρ5) rfl (faC_of (o := .frz (.int ((t + 1 : Nat) : Int))) (ρ1 := ρ5) rfl rfl)) rfl (c_repeated rB (t + 1))) rfl rfl (pEq_chT _ _)
    rwa [decide_eq_true far] at this
  exact bRet (fAndV_of w4 fun _ => w5) rfl
end DL

namespace DL
open PySem PySem.Spec L2
theorem short_bools (b : Bool) : fn__law_same [eL PyData.bool [b, b, b], eL PyData.bool [b, b, b]] = some (.bool true) :=
  c_same2 rfl (Short2.L (e := PyData.bool) (by show 3 ≤ 1000; decide) fun x _ => .bool x) (by cases b <;> decide)
theorem law_true : lawOk := by
  intro zs hz
  obtain ⟨urn, hbox, U⟩ := box_ok (cm := 41203) (ca := 16180339) hz (by decide)
  refine ⟨urn, hbox, ?_⟩
  obtain ⟨d, w1, e1, d0, d1, U1⟩ := take_ok (n := 5) U (by decide) (by decide) (by decide)
  obtain ⟨n, hn, hn6⟩ : ∃ n : Nat, (2 + d : Int) = n ∧ n ≤ 6 := ⟨(2 + d).toNat, by omega, by omega⟩
  obtain ⟨row, w2, e2, lr, hr, U2⟩ := list_ok (n := n) (m := 7) U1 (by decide) (by omega) (by omega) (by decide) (by decide)
  obtain ⟨near0, w3, e3, ln0, hs0, U3⟩ := list_ok (n := n) (m := 7) U2 (by decide) (by omega) (by omega) (by decide) (by decide)
  obtain ⟨room, w4, e4, hR, U4⟩ := crowd_ok (n := n) U3 (by decide) (by omega)
  obtain ⟨z, w5, e5, z0, z1, U5⟩ := take_ok (n := 3) U4 (by decide) (by decide) (by decide)
  have hrm : Rk room := rk_room (by omega) hR
  have rr : Rk row := fun x hx => by have := hr x hx; omega
  let st0 : D → Cell → Cell → Cell → Cell → Ce := fun w c2 c3 c4 c5 => [.un, .own false w, c2, c3, c4, c5, .un, .un, .un, .un, .un, .un, .un, .un, .un, .un, .un, .un, .un, .un]
  show (g_law (st0 urn .un .un .un .un)).bind endD = _
  unfold g_law
  have h2 : fCallU fn__law_take (faC (fN 1) (faC (fC (.int 5)) (faN))) (st0 urn .un .un .un .un) = some (.frz (.int d), st0 w1 .un .un .un .un) :=
    fCallU_e e1 (i := 1) (b := false) (faC_of (o := .own 1) (ρ1 := st0 urn .un .un .un .un) rfl (faC_of (o := .frz (.int 5)) (ρ1 := st0 urn .un .un .un .un) rfl rfl)) rfl rfl rfl
  refine bSet (d := .int n) (ρ2 := st0 w1 (.val (.int n)) .un .un .un) (f2_of (ρ1 := st0 urn .un .un .un .un) (x := .frz (.int 2)) (o := .frz (.int n)) rfl h2 rfl rfl (by rw [pAdd_ii, hn])) rfl rfl ?_
  let σ1 := st0 w1 (.val (.int n)) .un .un .un
  let σ2 := st0 w2 (.val (.int n)) .un .un .un
  let σ3 := st0 w3 (.val (.int n)) .un .un .un
  let σ4 := st0 w4 (.val (.int n)) .un .un .un
  let σ5 := st0 w4 (.val (.int n)) (.val (iL row)) (.val (iL near0)) (.val (iT room))
  have k1 : fCallU fn__law_list (faC (fN 1) (faC (fN 2) (faC (fC (.int 7)) (faN)))) σ1 = some (.frz (iL row), σ2) :=
    fCallU_e e2 (i := 1) (b := false) (faC_of (o := .own 1) (ρ1 := σ1) rfl (faC_of (o := .frz (.int n)) (ρ1 := σ1) rfl (faC_of (o := .frz (.int 7)) (ρ1 := σ1) rfl rfl))) rfl rfl rfl
  have k2 : fCallU fn__law_list (faC (fN 1) (faC (fN 2) (faC (fC (.int 7)) (faN)))) σ2 = some (.frz (iL near0), σ3) :=
    fCallU_e e3 (i := 1) (b := false) (faC_of (o := .own 1) (ρ1 := σ2) rfl (faC_of (o := .frz (.int n)) (ρ1 := σ2) rfl (faC_of (o := .frz (.int 7)) (ρ1 := σ2) rfl rfl))) rfl rfl rfl
  have k3 : fCallU fn__law_crowd (faC (fN 1) (faC (fN 2) (faN))) σ3 = some (.frz (iT room), σ4) :=
    fCallU_e e4 (i := 1) (b := false) (faC_of (o := .own 1) (ρ1 := σ3) rfl (faC_of (o := .frz (.int n)) (ρ1 := σ3) rfl rfl)) rfl rfl rfl
  refine bTup (ρ2 := σ5) (faCn_of k1 (faCn_of k2 (faCn_of k3 rfl))) rfl ?_
  -- the other list
  obtain ⟨near, w6, hs, ln, U6, hnear⟩ : ∃ (near : List Int) (w6 : D), (∀ x ∈ near, 1 ≤ x ∧ x ≤ n) ∧ near.length ≤ 21 ∧ Urn 5000 w6 ∧ gIf (fT (f2 pEq (fCallU fn__law_take (faC (fN 1) (faC (fC (.int 3)) (faN)))) (fC (.int 0)))) (gSet 4 (fCallU fn__law_of (faC (fN 1) (faC (fLst (faC (fN 3) (faC (f2 pAdd (fN 3) (fN 3)) (faC (fSl (fN 3) (fo0) (fo1 (fC (.int 1)))) (faC (fLst (faN)) (faC (fSortSet (fN 3)) (faC (f2 pMul (fN 3) (fC (.int 3))) (faN)))))))) (faN))))) (gNil) σ5 = some (.nx (st0 w6 (.val (.int n)) (.val (iL row)) (.val (iL near)) (.val (iT room)))) := by
    let σ6 := st0 w5 (.val (.int n)) (.val (iL row)) (.val (iL near0)) (.val (iT room))
    have q1 : fCallU fn__law_take (faC (fN 1) (faC (fC (.int 3)) (faN))) σ5 = some (.frz (.int z), σ6) :=
      fCallU_e e5 (i := 1) (b := false) (faC_of (o := .own 1) (ρ1 := σ5) rfl (faC_of (o := .frz (.int 3)) (ρ1 := σ5) rfl rfl)) rfl rfl rfl
    have q2 : fT (f2 pEq (fCallU fn__law_take (faC (fN 1) (faC (fC (.int 3)) (faN)))) (fC (.int 0))) σ5 = some (decide (z = 0), σ6) := fT_of (f2_of (ρ2 := σ6) (y := .frz (.int 0)) q1 rfl rfl rfl (pEq_ii z 0))
    by_cases c : z = 0
    · let opts : List (List Int) := [row, row ++ row, row.take 1, [], setI row, row ++ (row ++ row)]
      obtain ⟨near, hm, w6, e6, U6⟩ := of_ok iL (xs := opts) U5 (by decide) (by simp [opts]) (by show 6 ≤ 1000; decide)
      have hsub : ∀ x ∈ near, x ∈ row := fun x hx => by
        have : near = row ∨ near = row ++ row ∨ near = row.take 1 ∨ near = [] ∨ near = setI row ∨ near = row ++ (row ++ row) := by simpa [opts] using hm
        rcases this with rfl | rfl | rfl | rfl | rfl | rfl
        · exact hx
        · simpa using hx
        · exact List.mem_of_mem_take hx
        · cases hx
        · exact setI_mem.mp hx
        · simpa using hx
      refine ⟨near, w6, fun x hx => hr x (hsub x hx), ?_, U6.mono (by decide), ?_⟩
      · have : near = row ∨ near = row ++ row ∨ near = row.take 1 ∨ near = [] ∨ near = setI row ∨ near = row ++ (row ++ row) := by simpa [opts] using hm
        have sl := set_len rr
        have tl := List.length_take_le 1 row
        rcases this with rfl | rfl | rfl | rfl | rfl | rfl
        · omega
        · rw [List.length_append]; omega
        · omega
        · simp
        · omega
        · rw [List.length_append, List.length_append]; omega
      · rw [decide_eq_true c] at q2
        rw [gIf_t q2]
        have o2 : f2 pAdd (fN 3) (fN 3) σ6 = some (.new (iL (row ++ row)), σ6) := f2_of (ρ1 := σ6) (ρ2 := σ6) (x := .frz (iL row)) (y := .frz (iL row)) rfl rfl rfl rfl (pAdd_ll row row (by omega))
        have o3 : fSl (fN 3) (fo0) (fo1 (fC (.int 1))) σ6 = some (.new (iL (row.take 1)), σ6) := by
          show some (Opd.new (.list (cutD (row.map .int) none (some 1))), σ6) = _
          rw [cutD_1]
        have o5 : fSortSet (fN 3) σ6 = some (.new (iL (setI row)), σ6) := by
          show ((intsD (row.map .int)).bind fun ns => if ns.length < 64 then some (Opd.new (.list ((setI ns).map .int)), σ6) else none) = _
          rw [intsD_map, Option.bind_some, if_pos (by omega)]
        have o6 : f2 pMul (fN 3) (fC (.int 3)) σ6 = some (.new (iL (row ++ (row ++ row))), σ6) := by
          refine f2_of (ρ1 := σ6) (ρ2 := σ6) (x := .frz (iL row)) (y := .frz (.int ((3 : Nat) : Int))) rfl rfl rfl rfl ?_
          rw [pRep_of (k := 3) (by rw [List.length_map]; omega) (by decide)]
          simp [List.replicate]
        have o7 : fLst (faC (fN 3) (faC (f2 pAdd (fN 3) (fN 3)) (faC (fSl (fN 3) (fo0) (fo1 (fC (.int 1)))) (faC (fLst (faN)) (faC (fSortSet (fN 3)) (faC (f2 pMul (fN 3) (fC (.int 3))) (faN))))))) σ6 = some (.new (eL iL opts), σ6) :=
          fLst_of (ds := opts.map iL) (faC_of (o := .frz (iL row)) (ρ1 := σ6) rfl (faC_of o2 (faC_of o3 (faC_of (o := .new (iL [])) (ρ1 := σ6) rfl (faC_of o5 (faC_of o6 rfl)))))) rfl (by show 6 ≤ 100000; decide)
        have o8 : faC (fN 1) (faC (fLst (faC (fN 3) (faC (f2 pAdd (fN 3) (fN 3)) (faC (fSl (fN 3) (fo0) (fo1 (fC (.int 1)))) (faC (fLst (faN)) (faC (fSortSet (fN 3)) (faC (f2 pMul (fN 3) (fC (.int 3))) (faN)))))))) (faN)) σ6 = some ([.own 1, .frz (eL iL opts)], σ6) := faC_of (o := .own 1) (ρ1 := σ6) rfl (faC_of o7 rfl)
        exact gSet_of (fCallU_e e6 (i := 1) (b := false) o8 rfl rfl (ρ2 := st0 w6 (.val (.int n)) (.val (iL row)) (.val (iL near0)) (.val (iT room))) rfl) rfl
    · refine ⟨near0, w5, hs0, by omega, U5.mono (by decide), ?_⟩
      rw [decide_eq_false c] at q2
      rw [gIf_f q2]; rfl
  refine bSeq hnear ?_
  have rn : Rk near := fun x hx => by have := hs x hx; omega
  obtain ⟨w7, e7, U7⟩ := turns_ok (n := n) U6 (by decide) (by omega) hr hs (by omega) ln
  obtain ⟨m0, w8, e8, m0', m1', U8⟩ := take_ok (n := 5) U7 (by decide) (by decide) (by decide)
  obtain ⟨m, rfl⟩ : ∃ m : Nat, m0 = m := ⟨m0.toNat, by omega⟩
  have hm4 : m ≤ 4 := by omega
  generalize hA : row ++ near = A
  generalize hB : near ++ row = B
  have rA : Rk A := by rw [← hA]; exact rr.app rn
  have rB : Rk B := by rw [← hB]; exact rn.app rr
  have bA : ∀ x ∈ A, 1 ≤ x ∧ x ≤ n := fun x hx => by
    rw [← hA] at hx
    rcases List.mem_append.mp hx with q | q
    · exact hr x q
    · exact hs x q
  have bB : ∀ x ∈ B, 1 ≤ x ∧ x ≤ n := fun x hx => by
    rw [← hB] at hx
    rcases List.mem_append.mp hx with q | q
    · exact hs x q
    · exact hr x q
  have lA : A.length ≤ 28 := by rw [← hA, List.length_append]; omega
  have lB : B.length ≤ 28 := by rw [← hB, List.length_append]; omega
  have hrl : room.length ≤ 12 := rk_len (hR.1.imp fun h => by omega) hrm
  -- all later states
  let st : D → Cell → Cell → Cell → Cell → Cell → Cell → Cell → Cell → Cell → Cell → Cell → Ce := fun w c8 c9 c10 c11 c12 c13 c14 c15 c16 c17 c18 =>
    [.un, .own false w, .val (.int n), .val (iL row), .val (iL near), .val (iT room), .val (chT (Ch row)), .val (chT (Ch near)), c8, c9, c10, c11, c12, c13, c14, c15, c16, c17, c18, .un]
  let τ0 := st0 w6 (.val (.int n)) (.val (iL row)) (.val (iL near)) (.val (iT room))
  let τ1 := st w6 .un .un .un .un .un .un .un .un .un .un .un
  have g1 : fCall fn_chains_of (faC (fN 3) (faN)) τ0 = some (.frz (chT (Ch row)), τ0) := fCall_of (faC_of (o := .frz (iL row)) (ρ1 := τ0) rfl rfl) rfl (c_chains rr (by omega))
  have g2 : fCall fn_chains_of (faC (fN 4) (faN)) τ0 = some (.frz (chT (Ch near)), τ0) := fCall_of (faC_of (o := .frz (iL near)) (ρ1 := τ0) rfl rfl) rfl (c_chains rn (by omega))
  refine bTup (ρ2 := τ1) (faCn_of g1 (faCn_of g2 rfl)) rfl ?_
  let τ2 := st w7 .un .un .un .un .un .un .un .un .un .un .un
  have g3 : fCallU fn__law_turns_right (faC (fN 1) (faC (fN 6) (faC (fN 7) (faC (fN 3) (faC (fN 4) (faC (fN 2) (faN))))))) τ1 = some (.frz (.bool true), τ2) :=
    fCallU_e e7 (i := 1) (b := false) (faC_of (o := .own 1) (ρ1 := τ1) rfl (faC_of (o := .frz (chT (Ch row))) (ρ1 := τ1) rfl (faC_of (o := .frz (chT (Ch near))) (ρ1 := τ1) rfl (faC_of (o := .frz (iL row)) (ρ1 := τ1) rfl (faC_of (o := .frz (iL near)) (ρ1 := τ1) rfl (faC_of (o := .frz (.int n)) (ρ1 := τ1) rfl rfl)))))) rfl rfl rfl
  refine bIf_f (ρ1 := τ2) (fNot_of (b := true) (fT_of g3)) ?_
  let τ3 := st w7 (.val (eL iT (roomsSo n))) .un .un .un .un .un .un .un .un .un .un
  refine bSet (ρ2 := τ3) (fCall_of (faC_of (o := .frz (.int n)) (ρ1 := τ2) rfl rfl) rfl (c_roomsso (by omega))) rfl rfl ?_
  -- sums of both
  have sA : ∀ ρ : Ce, fN 3 ρ = some (.frz (iL row), ρ) → fN 4 ρ = some (.frz (iL near), ρ) → f2 pAdd (fN 3) (fN 4) ρ = some (.new (iL A), ρ) := fun ρ a b => by
    rw [← hA]; exact f2_of a b rfl rfl (pAdd_ll row near (by omega))
  have sB : ∀ ρ : Ce, fN 3 ρ = some (.frz (iL row), ρ) → fN 4 ρ = some (.frz (iL near), ρ) → f2 pAdd (fN 4) (fN 3) ρ = some (.new (iL B), ρ) := fun ρ a b => by
    rw [← hB]; exact f2_of b a rfl rfl (pAdd_ll near row (by omega))
  have both : ∀ ρ : Ce, fN 6 ρ = some (.frz (chT (Ch row)), ρ) → fN 7 ρ = some (.frz (chT (Ch near)), ρ) → fCall fn_followed (faC (fN 6) (faC (fN 7) (faN))) ρ = some (.frz (chT (Ch A)), ρ) := fun ρ a b => fCall_of (faC_of a (faC_of b rfl)) rfl (by rw [← hA]; exact c_followed rr rn)
  have back : ∀ ρ : Ce, fN 6 ρ = some (.frz (chT (Ch row)), ρ) → fN 7 ρ = some (.frz (chT (Ch near)), ρ) → fCall fn_followed (faC (fN 7) (faC (fN 6) (faN))) ρ = some (.frz (chT (Ch B)), ρ) := fun ρ a b => fCall_of (faC_of b (faC_of a rfl)) rfl (by rw [← hB]; exact c_followed rn rr)
  let al : Bool := decide (Ch A = Ch B)
  let τ4 := st w7 (.val (eL iT (roomsSo n))) (.val (.bool al)) .un .un .un .un .un .un .un .un .un
  have hl := roomsSo_len (n := n) (by omega)
  have ledL : ∀ (V : List Int), Rk V → ∀ (fv : FE), (∀ x, fv (τ3.set 19 (.val (iT x))) = some (.new (iL V), τ3.set 19 (.val (iT x)))) → fLc (fSeq (fN 8)) (hN 19) (fYes) (fCall fn__law_led (faC (fN 19) (faC fv (faN)))) [19] τ3 = some (.new (eL iT ((roomsSo n).map fun R => topsI (R ++ V))), τ3) := fun V rV fv hfv => by
    refine fLc_m (ρ1 := τ3) (ρw := τ3) (xs := roomsSo n) (e := iT) (R := fun x => τ3.set 19 (.val (iT x))) (O := fun x => .frz (iT (topsI (x ++ V)))) iT (g := fun x => topsI (x ++ V)) rfl rfl (fun _ => rfl) (fun R hR' => ?_) (fun _ => rfl) (fun _ => rfl) rfl (by omega)
    have hm := mem_roomsSo.mp hR'
    exact fCall_of (faC_of (o := .frz (iT R)) (ρ1 := τ3.set 19 (.val (iT R))) rfl (faC_of (hfv R) rfl)) rfl (c_led hm.1 (rk_room (by omega) hm) rV)
  have hal : f2 pEq (fLc (fSeq (fN 8)) (hN 19) (fYes) (fCall fn__law_led (faC (fN 19) (faC (f2 pAdd (fN 3) (fN 4)) (faN)))) [19]) (fLc (fSeq (fN 8)) (hN 19) (fYes) (fCall fn__law_led (faC (fN 19) (faC (f2 pAdd (fN 4) (fN 3)) (faN)))) [19]) τ3 = some (.frz (.bool al), τ3) := by
    have := f2_of (ledL A rA _ fun x => sA _ rfl rfl) (ledL B rB _ fun x => sB _ rfl rfl) rfl rfl (pEq_e (encL (encT encI)) (by decide) ((roomsSo n).map fun R => topsI (R ++ A)) ((roomsSo n).map fun R => topsI (R ++ B)))
    rw [this]
    have e : ((roomsSo n).map fun R => topsI (R ++ A)) = ((roomsSo n).map fun R => topsI (R ++ B)) ↔ Ch A = Ch B := by
      rw [← same_rooms (n := n) (by omega) bA bB, List.map_inj_left]
      exact ⟨fun h R hR => h R (mem_roomsSo.mpr hR), fun h R hR => h R (mem_roomsSo.mp hR)⟩
    show some (Opd.frz (PyData.bool (decide _)), τ3) = some (Opd.frz (PyData.bool (decide _)), τ3)
    rw [decide_eq_decide.mpr e]
  refine bSet (ρ2 := τ4) hal rfl rfl ?_
  -- the three answers
  have hdiff : f2 pIsN (fCall fn_difference (faC (f2 pAdd (fN 3) (fN 4)) (faC (f2 pAdd (fN 4) (fN 3)) (faN)))) (fC .none) τ4 = some (.frz (.bool al), τ4) := by
    have q := fCall_of (faC_of (sA τ4 rfl rfl) (faC_of (fa := faN) (sB τ4 rfl rfl) rfl)) rfl (c_difference rA rB (by omega) (by omega))
    refine f2_of (ρ2 := τ4) (y := .frz .none) q rfl rfl rfl ?_
    cases hd : diffI A B with
    | none =>
      have : al = true := decide_eq_true ((diff_none rA rB).mp hd)
      rw [this]; rfl
    | some p =>
      have : al = false := decide_eq_false fun e => by rw [(diff_none rA rB).mpr e] at hd; cases hd
      rw [this]; rfl
  have hthree : fLst (faC (f2 pEq (fCall fn_followed (faC (fN 6) (faC (fN 7) (faN)))) (fCall fn_followed (faC (fN 7) (faC (fN 6) (faN))))) (faC (fCall fn_do_same (faC (f2 pAdd (fN 3) (fN 4)) (faC (f2 pAdd (fN 4) (fN 3)) (faN)))) (faC (f2 pIsN (fCall fn_difference (faC (f2 pAdd (fN 3) (fN 4)) (faC (f2 pAdd (fN 4) (fN 3)) (faN)))) (fC .none)) (faN)))) τ4 = some (.new (eL PyData.bool [al, al, al]), τ4) :=
    fLst_of (ds := [al, al, al].map PyData.bool) (faC_of (f2_of (both τ4 rfl rfl) (back τ4 rfl rfl) rfl rfl (pEq_chT _ _)) (faC_of (fCall_of (faC_of (sA τ4 rfl rfl) (faC_of (sB τ4 rfl rfl) rfl)) rfl (c_dosame rA rB (by omega) (by omega))) (faC_of hdiff rfl))) rfl (by show 3 ≤ 100000; decide)
  have hthree' : f2 pMul (fLst (faC (fN 9) (faN))) (fC (.int 3)) τ4 = some (.new (eL PyData.bool [al, al, al]), τ4) :=
    f2_of (ρ1 := τ4) (ρ2 := τ4) (x := .new (.list [.bool al])) (y := .frz (.int ((3 : Nat) : Int))) rfl rfl rfl rfl (pRep_of (ds := [.bool al]) (k := 3) (by simp) (by decide))
  refine bIf_f (ρ1 := τ4) (fNot_of (b := true) (fT_of (fCall_of (faC_of hthree (faC_of hthree' rfl)) rfl (short_bools al)))) ?_
  let τ5 := st w8 (.val (eL iT (roomsSo n))) (.val (.bool al)) .un .un .un .un .un .un .un .un .un
  let τ6 := st w8 (.val (eL iT (roomsSo n))) (.val (.bool al)) (.val (.int m)) .un .un .un .un .un .un .un .un
  have g4 : fCallU fn__law_take (faC (fN 1) (faC (fC (.int 5)) (faN))) τ4 = some (.frz (.int m), τ5) :=
    fCallU_e e8 (i := 1) (b := false) (faC_of (o := .own 1) (ρ1 := τ4) rfl (faC_of (o := .frz (.int 5)) (ρ1 := τ4) rfl rfl)) rfl rfl rfl
  refine bSet (ρ2 := τ6) g4 rfl rfl ?_
  -- alike or not
  let τ7 : Cell → Cell → Cell → Ce := fun c11 c12 c13 => st w8 (.val (eL iT (roomsSo n))) (.val (.bool al)) (.val (.int m)) c11 c12 c13 .un .un .un .un .un
  obtain ⟨c11, c12, c13, hcase⟩ : ∃ c11 c12 c13, gIf (fT (fN 9)) (gIf (fNot (fT (fCall fn__law_same (faC (fCall fn_repeated (faC (fCall fn_followed (faC (fN 6) (faC (fN 7) (faN)))) (faC (fN 10) (faN)))) (faC (fCall fn_followed (faC (fCall fn_repeated (faC (fN 6) (faC (fN 10) (faN)))) (faC (fCall fn_repeated (faC (fN 7) (faC (fN 10) (faN)))) (faN)))) (faN)))))) (gRet (fC (.bool false))) (gNil)) (gSeq (gUnp (hT [11, 12]) (fCall fn_difference (faC (f2 pAdd (fN 3) (fN 4)) (faC (f2 pAdd (fN 4) (fN 3)) (faN))))) (gSeq (gSet 13 (fCall fn_separating_room (faC (f2 pAdd (fN 3) (fN 4)) (faC (f2 pAdd (fN 4) (fN 3)) (faN))))) (gSeq (gIf (fOr (fT (f2 pNotB (fCall fn_shows_difference (faC (f2 pAdd (fN 4) (fN 3)) (faC (f2 pAdd (fN 3) (fN 4)) (faC (fTup (faC (fN 11) (faC (fN 12) (faN)))) (faN))))) (fC (.bool true)))) (fT (f2 pEq (fCall fn__law_led (faC (fN 13) (faC (f2 pAdd (fN 3) (fN 4)) (faN)))) (fCall fn__law_led (faC (fN 13) (faC (f2 pAdd (fN 4) (fN 3)) (faN))))))) (gRet (fC (.bool false))) (gNil)) (gIf (fT (f2 pEq (fCall fn_result (faC (fCall fn_followed (faC (fN 6) (faC (fN 7) (faN)))) (faC (fN 13) (faN)))) (fCall fn_result (faC (fCall fn_followed (faC (fN 7) (faC (fN 6) (faN)))) (faC (fN 13) (faN)))))) (gRet (fC (.bool false))) (gNil))))) τ6 = some (.nx (τ7 c11 c12 c13)) := by
    by_cases c : Ch A = Ch B
    · refine ⟨.un, .un, .un, ?_⟩
      have t9 : fT (fN 9) τ6 = some (true, τ6) := by
        show some (al, τ6) = _
        rw [show al = true from decide_eq_true c]
      rw [gIf_t t9]
      have q1 : fCall fn_repeated (faC (fCall fn_followed (faC (fN 6) (faC (fN 7) (faN)))) (faC (fN 10) (faN))) τ6 = some (.frz (chT (Ch (rep m A))), τ6) := fCall_of (faC_of (both τ6 rfl rfl) (faC_of (o := .frz (.int m)) (ρ1 := τ6) rfl rfl)) rfl (c_repeated rA m)
      have q2 : fCall fn_repeated (faC (fN 6) (faC (fN 10) (faN))) τ6 = some (.frz (chT (Ch (rep m row))), τ6) := fCall_of (faC_of (o := .frz (chT (Ch row))) (ρ1 := τ6) rfl (faC_of (o := .frz (.int m)) (ρ1 := τ6) rfl rfl)) rfl (c_repeated rr m)
      have q3 : fCall fn_repeated (faC (fN 7) (faC (fN 10) (faN))) τ6 = some (.frz (chT (Ch (rep m near))), τ6) := fCall_of (faC_of (o := .frz (chT (Ch near))) (ρ1 := τ6) rfl (faC_of (o := .frz (.int m)) (ρ1 := τ6) rfl rfl)) rfl (c_repeated rn m)
      have q4 : fCall fn_followed (faC (fCall fn_repeated (faC (fN 6) (faC (fN 10) (faN)))) (faC (fCall fn_repeated (faC (fN 7) (faC (fN 10) (faN)))) (faN))) τ6 = some (.frz (chT (Ch (rep m row ++ rep m near))), τ6) := fCall_of (faC_of q2 (faC_of q3 rfl)) rfl (c_followed (rr.rep m) (rn.rep m))
      have q5 : Ch (rep m A) = Ch (rep m row ++ rep m near) := (ch_eq (rA.rep m).pos ((rr.rep m).app (rn.rep m)).pos).mpr (by
        rw [← hA]
        refine rep_comm ?_ m
        rw [hA, hB]
        exact (ch_eq rA.pos rB.pos).mp c)
      have q6 : fn__law_same [chT (Ch (rep m A)), chT (Ch (rep m row ++ rep m near))] = some (.bool true) := c_same2 (by rw [q5]) (ch_cr ((rr.rep m).app (rn.rep m))).short (encC.dep8 (by decide) _)
      rw [gIf_f (fNot_of (b := true) (fT_of (fCall_of (faC_of q1 (faC_of q4 rfl)) rfl q6)))]; rfl
    · have t9 : fT (fN 9) τ6 = some (false, τ6) := by
        show some (al, τ6) = _
        rw [show al = false from decide_eq_false c]
      obtain ⟨p, hp⟩ : ∃ p, diffI A B = some p := by
        cases hd : diffI A B with
        | none => exact absurd ((diff_none rA rB).mp hd) c
        | some p => exact ⟨p, rfl⟩
      obtain ⟨p1, p2, p3, p4⟩ := diff_some rA rB hp
      have hsr := sep_room (n := n) (by omega) bA bB hp
      have hne := sep_differs rA rB hp
      have hsk := rk_room (by omega) hsr
      refine ⟨.val (.int p.1), .val (.int p.2), .val (iT (rngI 1 p.1)), ?_⟩
      rw [gIf_f t9]
      let υ1 := τ7 (.val (.int p.1)) (.val (.int p.2)) .un
      let υ2 := τ7 (.val (.int p.1)) (.val (.int p.2)) (.val (iT (rngI 1 p.1)))
      have q1 : gUnp (DL.hT [11, 12]) (fCall fn_difference (faC (f2 pAdd (fN 3) (fN 4)) (faC (f2 pAdd (fN 4) (fN 3)) (faN)))) τ6 = some (.nx υ1) := by
        unfold gUnp
        rw [fCall_of (faC_of (sA τ6 rfl rfl) (faC_of (fa := faN) (sB τ6 rfl rfl) rfl)) rfl (c_difference rA rB (by omega) (by omega)), hp]
        rfl
      refine (gSeq_nx q1).trans ?_
      have qsep : fCall fn_separating_room (faC (f2 pAdd (fN 3) (fN 4)) (faC (f2 pAdd (fN 4) (fN 3)) (faN))) υ1 = some (.frz (iT (rngI 1 p.1)), υ1) := fCall_of (faC_of (sA υ1 rfl rfl) (faC_of (fa := faN) (sB υ1 rfl rfl) rfl)) rfl (c_seproom rA rB (by omega) (by omega) hp)
      refine (gSeq_nx (ρ1 := υ2) (gSet_of qsep rfl)).trans ?_
      have q2 : fT (f2 pNotB (fCall fn_shows_difference (faC (f2 pAdd (fN 4) (fN 3)) (faC (f2 pAdd (fN 3) (fN 4)) (faC (fTup (faC (fN 11) (faC (fN 12) (faN)))) (faN))))) (fC (.bool true))) υ2 = some (false, υ2) := by
        have qtup : fTup (faC (fN 11) (faC (fN 12) (faN))) υ2 = some (.frz (pairD p), υ2) := fTup_of (ds := [.int p.1, .int p.2]) (os := [.frz (.int p.1), .frz (.int p.2)]) rfl rfl (by simp)
        have this : fCall fn_shows_difference (faC (f2 pAdd (fN 4) (fN 3)) (faC (f2 pAdd (fN 3) (fN 4)) (faC (fTup (faC (fN 11) (faC (fN 12) (faN)))) (faN)))) υ2 = some (.frz (.bool (!decide (longI p.1 p.2 B = longI p.1 p.2 A))), υ2) := fCall_of (faC_of (sB υ2 rfl rfl) (faC_of (sA υ2 rfl rfl) (faC_of qtup rfl))) rfl (c_shows (v := B) (w := A) (lo := p.1) (hi := p.2) (by omega) (by omega) p1 p2 p3)
        rw [decide_eq_false (Ne.symm p4)] at this
        exact fT_of (f2_of (ρ2 := υ2) (y := .frz (.bool true)) this rfl rfl rfl rfl)
      have q3 : fT (f2 pEq (fCall fn__law_led (faC (fN 13) (faC (f2 pAdd (fN 3) (fN 4)) (faN)))) (fCall fn__law_led (faC (fN 13) (faC (f2 pAdd (fN 4) (fN 3)) (faN))))) υ2 = some (false, υ2) := by
        have l1 : fCall fn__law_led (faC (fN 13) (faC (f2 pAdd (fN 3) (fN 4)) (faN))) υ2 = some (.frz (iT (topsI (rngI 1 p.1 ++ A))), υ2) := fCall_of (faC_of (o := .frz (iT (rngI 1 p.1))) (ρ1 := υ2) rfl (faC_of (sA υ2 rfl rfl) rfl)) rfl (c_led hsr.1 hsk rA)
        have l2 : fCall fn__law_led (faC (fN 13) (faC (f2 pAdd (fN 4) (fN 3)) (faN))) υ2 = some (.frz (iT (topsI (rngI 1 p.1 ++ B))), υ2) := fCall_of (faC_of (o := .frz (iT (rngI 1 p.1))) (ρ1 := υ2) rfl (faC_of (sB υ2 rfl rfl) rfl)) rfl (c_led hsr.1 hsk rB)
        have := fT_of (f2_of l1 l2 rfl rfl (pEq_e (encT encI) (by decide) _ _))
        rwa [decide_eq_false hne] at this
      refine (gSeq_nx (ρ1 := υ2) (by rw [gIf_f (fOr_of (b := false) (c := false) q2 fun _ => q3)]; rfl)).trans ?_
      have q4 : fT (f2 pEq (fCall fn_result (faC (fCall fn_followed (faC (fN 6) (faC (fN 7) (faN)))) (faC (fN 13) (faN)))) (fCall fn_result (faC (fCall fn_followed (faC (fN 7) (faC (fN 6) (faN)))) (faC (fN 13) (faN))))) υ2 = some (false, υ2) := by
        have l1 : fCall fn_result (faC (fCall fn_followed (faC (fN 6) (faC (fN 7) (faN)))) (faC (fN 13) (faN))) υ2 = some (.frz (iT (topsI (rngI 1 p.1 ++ A))), υ2) := fCall_of (faC_of (both υ2 rfl rfl) (faC_of (o := .frz (iT (rngI 1 p.1))) (ρ1 := υ2) rfl rfl)) rfl (c_result rA hsr.1 hsk)
        have l2 : fCall fn_result (faC (fCall fn_followed (faC (fN 7) (faC (fN 6) (faN)))) (faC (fN 13) (faN))) υ2 = some (.frz (iT (topsI (rngI 1 p.1 ++ B))), υ2) := fCall_of (faC_of (back υ2 rfl rfl) (faC_of (o := .frz (iT (rngI 1 p.1))) (ρ1 := υ2) rfl rfl)) rfl (c_result rB hsr.1 hsk)
        have := fT_of (f2_of l1 l2 rfl rfl (pEq_e (encT encI) (by decide) _ _))
        rwa [decide_eq_false hne] at this
      rw [gIf_f q4]; rfl
  refine bSeq hcase ?_
  -- rooms after many turns
  let υ : List D → List D → List Int → Cell → Cell → Ce := fun got goal now c17 c18 => st w8 (.val (eL iT (roomsSo n))) (.val (.bool al)) (.val (.int m)) c11 c12 c13 (.val (.list got)) (.val (.list goal)) (.val (iT now)) c17 c18
  refine bTup (os := [.new (.list []), .new (.list []), .frz (iT room)]) (ρ2 := υ [] [] room .un .un) (faCn_of rfl (faCn_of rfl (faCn_of rfl rfl))) rfl ?_
  have rtA : ∀ j, Rk (topsI (room ++ rep j A)) := fun j => (hrm.app (rA.rep j)).sub fun x hx => tops_mem hx
  have stepA : ∀ j, topsI (topsI (room ++ rep j A) ++ A) = topsI (room ++ rep (j + 1) A) := fun j => by rw [tops_tops, rep_snoc, List.append_assoc]
  obtain ⟨ρz, hf, L, c17, hL, hLr, rfl⟩ := goFor_mapped (h := DL.hN 17) (g := gSeq (gSet 14 (f2 pAdd (fN 14) (fLst (faC (fCall fn_room_after_many (faC (fN 5) (faC (f2 pAdd (fN 3) (fN 4)) (faC (fN 17) (faN))))) (faC (fCall fn_result (faC (fCall fn_repeated (faC (fCall fn_followed (faC (fN 6) (faC (fN 7) (faN)))) (faC (fN 17) (faN)))) (faC (fN 5) (faN)))) (faN)))))) (gSeq (gSet 15 (f2 pAdd (fN 15) (fLst (faC (fN 16) (faC (fN 16) (faN)))))) (gSet 16 (fCall fn__law_led (faC (fN 16) (faC (f2 pAdd (fN 3) (fN 4)) (faN))))))) (fun (j : Nat) => PyData.int (j : Int)) (List.range (m + 1))
    (fun pre ρ => ∃ (L : List (List Int)) (c17 : Cell), L.length = 2 * pre.length ∧ (∀ R ∈ L, Rm 1 12 R) ∧ ρ = υ (L.map iT) (L.map iT) (topsI (room ++ rep pre.length A)) c17 .un) (fun pre j post ρ e hp => by
    obtain ⟨L, c17, hL, hLr, rfl⟩ := hp
    obtain ⟨hj, hj2⟩ := range_at e
    subst hj
    let J := pre.length
    let now := topsI (room ++ rep J A)
    let a0 := υ (L.map iT) (L.map iT) now (.val (.int J)) .un
    let L' := L ++ [now, now]
    let a1 := υ (L'.map iT) (L.map iT) now (.val (.int J)) .un
    let a2 := υ (L'.map iT) (L'.map iT) now (.val (.int J)) .un
    have q1 : fCall fn_room_after_many (faC (fN 5) (faC (f2 pAdd (fN 3) (fN 4)) (faC (fN 17) (faN)))) a0 = some (.frz (iT now), a0) := fCall_of (faC_of (o := .frz (iT room)) (ρ1 := a0) rfl (faC_of (sA a0 rfl rfl) (faC_of (o := .frz (.int J)) (ρ1 := a0) rfl rfl))) rfl (c_rmany rA (by omega) hR.1 hrm J)
    have q2 : fCall fn_result (faC (fCall fn_repeated (faC (fCall fn_followed (faC (fN 6) (faC (fN 7) (faN)))) (faC (fN 17) (faN)))) (faC (fN 5) (faN))) a0 = some (.frz (iT now), a0) := fCall_of (faC_of (fCall_of (faC_of (both a0 rfl rfl) (faC_of (o := .frz (.int J)) (ρ1 := a0) rfl rfl)) rfl (c_repeated rA J)) (faC_of (o := .frz (iT room)) (ρ1 := a0) rfl rfl)) rfl (c_result (rA.rep J) hR.1 hrm)
    have eL' : L'.map iT = L.map iT ++ [iT now, iT now] := by show (L ++ [now, now]).map iT = _; rw [List.map_append]; rfl
    have q3 := f2_of (ρ := a0) (ρ1 := a0) (fe := fN 14) (x := .frz (.list (L.map iT))) rfl (fLst_of (ds := [iT now, iT now]) (faC_of q1 (faC_of (fa := faN) q2 rfl)) rfl (by show 2 ≤ 100000; decide)) rfl rfl (pAdd_g (L.map iT) [iT now, iT now] (by rw [List.length_map]; show L.length + 2 ≤ _; omega))
    rw [← eL'] at q3
    have q4 := f2_of (ρ := a1) (ρ1 := a1) (fe := fN 15) (x := .frz (.list (L.map iT))) rfl (fLst_of (ds := [iT now, iT now]) (faC_of (fe := fN 16) (o := .frz (iT now)) (ρ1 := a1) rfl (faC_of (fe := fN 16) (fa := faN) (o := .frz (iT now)) (ρ1 := a1) rfl rfl)) rfl (by show 2 ≤ 100000; decide)) rfl rfl (pAdd_g (L.map iT) [iT now, iT now] (by rw [List.length_map]; show L.length + 2 ≤ _; omega))
    rw [← eL'] at q4
    have q5 : fCall fn__law_led (faC (fN 16) (faC (f2 pAdd (fN 3) (fN 4)) (faN))) a2 = some (.frz (iT (topsI (room ++ rep (J + 1) A))), a2) := by
      rw [← stepA J]
      exact fCall_of (faC_of (o := .frz (iT now)) (ρ1 := a2) rfl (faC_of (sA a2 rfl rfl) rfl)) rfl (c_led (topsI_asc _) (rtA J) rA)
    refine ⟨a0, υ (L'.map iT) (L'.map iT) (topsI (room ++ rep (pre ++ [J]).length A)) (.val (.int J)) .un, rfl, .inl ?_, L', _, by show (L ++ [now, now]).length = _; rw [List.length_append, List.length_append]; simp; omega, fun R hR' => ?_, rfl⟩
    · refine (gSeq_nx (ρ1 := a1) (gSet_of q3 rfl)).trans ?_
      refine (gSeq_nx (ρ1 := a2) (gSet_of q4 rfl)).trans ?_
      refine (gSet_of q5 rfl).trans ?_
      rw [List.length_append, List.length_singleton]; rfl
    · have hnow : Rm 1 12 now := ⟨topsI_asc _, fun x hx => by have := rtA J x hx; omega⟩
      rcases List.mem_append.mp hR' with q | q
      · exact hLr R q
      · have : R = now := by simpa using q
        rw [this]; exact hnow) (List.range (m + 1)) [] (υ [] [] room .un .un) rfl ⟨[], .un, rfl, nofun, by rw [show ([] : List Nat).length = 0 from rfl, rep_zero, List.append_nil, tops_asc_self hR.1]; rfl⟩
  refine bSeq ((gFor_of (fRng_nat (ρ := υ [] [] room .un .un) (n := m + 1) rfl (by omega))).trans hf) ?_
  rw [List.length_range] at hL
  let nowE := topsI (room ++ rep (List.range (m + 1)).length A)
  let b0 := υ (L.map iT) (L.map iT) nowE c17 .un
  let b1 : List Int → Cell → Ce := fun far c17 => υ (L.map iT) (L.map iT) nowE c17 (.val (iT far))
  refine bSet (ρ2 := b1 room c17) (d := iT room) (o := .frz (iT room)) (ρ1 := b0) rfl rfl rfl ?_
  obtain ⟨ρy, hf2, c17', rfl⟩ := goFor_mapped (h := DL.hN 17) (g := gSet 18 (fCall fn__law_led (faC (fN 18) (faC (f2 pAdd (fN 3) (fN 4)) (faN))))) (fun (j : Nat) => PyData.int (j : Int)) (List.range 14) (fun pre ρ => ∃ c, ρ = b1 (topsI (room ++ rep pre.length A)) c) (fun pre j post ρ e hp => by
    obtain ⟨c, rfl⟩ := hp
    let a0 := b1 (topsI (room ++ rep pre.length A)) (.val (.int j))
    have q5 : fCall fn__law_led (faC (fN 18) (faC (f2 pAdd (fN 3) (fN 4)) (faN))) a0 = some (.frz (iT (topsI (room ++ rep (pre.length + 1) A))), a0) := by
      rw [← stepA pre.length]
      exact fCall_of (faC_of (o := .frz (iT (topsI (room ++ rep pre.length A)))) (ρ1 := a0) rfl (faC_of (sA a0 rfl rfl) rfl)) rfl (c_led (topsI_asc _) (rtA _) rA)
    refine ⟨a0, b1 (topsI (room ++ rep (pre ++ [j]).length A)) (.val (.int j)), rfl, .inl ?_, _, rfl⟩
    refine (gSet_of q5 rfl).trans ?_
    rw [List.length_append, List.length_singleton]; rfl) (List.range 14) [] (b1 room c17) rfl ⟨c17, by rw [show ([] : List Nat).length = 0 from rfl, rep_zero, List.append_nil, tops_asc_self hR.1]⟩
  refine bSeq ((gFor_of (fRng_nat (ρ := b1 room c17) (n := 14) rfl (by decide))).trans hf2) ?_
  rw [List.length_range]
  generalize hfar : topsI (room ++ rep 14 A) = far
  have rfar : Rk far := by rw [← hfar]; exact rtA 14
  have afar : Asc far := by rw [← hfar]; exact topsI_asc _
  obtain ⟨N, hNN⟩ : ∃ N : Nat, N = 10 ^ 12 := ⟨_, rfl⟩
  have hN12 : 12 ≤ N := by rw [hNN]; decide
  have pN : pI gPow (.int 10) (.int 12) = some (.frz (.int (N : Int))) := by rw [hNN]; exact pow_ok (n := 12) (by decide)
  -- far on nothing changes
  have farS : ∀ u : List Int, (rep 12 A).Sublist u → (∀ x ∈ u, x ∈ A) → topsI (room ++ u) = far := fun u h1 h2 => by
    rw [← hfar]
    have ru : Rk u := rA.sub h2
    refine tops_leq ru (rA.rep 14) hR.1 hrm fun lo hi _ => ?_
    rw [far_leq rA (fun _ h => h) (k := 12) (by decide) u h1 h2, far_leq rA (fun _ h => h) (k := 12) (by decide) (rep 14 A) (by rw [rep_add 12 2]; exact List.sublist_append_left _ _) fun x hx => rep_mem hx]
  have sub14 : (rep 12 A).Sublist (rep 14 A) := by rw [rep_add 12 2]; exact List.sublist_append_left _ _
  have farN : topsI (room ++ rep N A) = far := farS _ (by
    obtain ⟨k, hk⟩ : ∃ k, N = 12 + k := ⟨N - 12, by omega⟩
    rw [hk, rep_add]
    exact List.sublist_append_left _ _) fun x hx => rep_mem hx
  have memA : ∀ x, x ∈ row ∨ x ∈ near → x ∈ A := fun x h => by rw [← hA, List.mem_append]; exact h
  have farL : ∀ v : List Int, (∀ x ∈ v, x ∈ A) → topsI (far ++ v) = far := fun v h => by
    conv => lhs; rw [← hfar, tops_tops, List.append_assoc]
    exact farS _ (sub14.trans (List.sublist_append_left _ _)) fun x hx => by
      rcases List.mem_append.mp hx with q | q
      · exact rep_mem q
      · exact h x q
  let b2 := b1 far c17'
  have hL28 : L.length ≤ 100 := by omega
  have q1 : fCall fn_room_after_many (faC (fN 5) (faC (f2 pAdd (fN 3) (fN 4)) (faC (f2 (pI gPow) (fC (.int 10)) (fC (.int 12))) (faN)))) b2 = some (.frz (iT far), b2) := fCall_of (faC_of (o := .frz (iT room)) (ρ1 := b2) rfl (faC_of (sA b2 rfl rfl) (faC_of (f2_of (ρ1 := b2) (ρ2 := b2) (x := .frz (.int 10)) (y := .frz (.int 12)) rfl rfl rfl rfl pN) rfl))) rfl (by rw [← farN]; exact c_rmany rA (by omega) hR.1 hrm N)
  have q2 : fCall fn_room_after (faC (fN 18) (faC (fN 4) (faN))) b2 = some (.frz (iT far), b2) := by
    have fl : far.length ≤ 12 := rk_len (afar.imp fun h => by omega) rfar
    refine fCall_of (faC_of (o := .frz (iT far)) (ρ1 := b2) rfl (faC_of (o := .frz (iL near)) (ρ1 := b2) rfl rfl)) rfl ?_
    show fn_room_after [iT far, iL near] = _
    rw [c_room afar (by omega), farL near fun x hx => memA x (.inr hx)]
  have q3 : f2 pIn (fN 18) (fCall fn_staying (faC (fN 2) (faC (fCall fn_followed (faC (fN 7) (faC (fN 6) (faN)))) (faN)))) b2 = some (.frz (.bool true), b2) := by
    have hmem : far ∈ (allRooms n).filter fun R => decide (topsI (R ++ B) = R) := List.mem_filter.mpr ⟨mem_allRooms.mpr ⟨afar, fun x hx => by
      rw [← hfar] at hx
      rcases List.mem_append.mp (tops_mem hx) with q | q
      · exact hR.2 x q
      · exact bA x (rep_mem q)⟩, decide_eq_true (farL B fun x hx => memA x (by rw [← hB, List.mem_append] at hx; exact hx.symm))⟩
    exact f2_of (ρ1 := b2) (x := .frz (iT far)) rfl (fCall_of (faC_of (o := .frz (.int n)) (ρ1 := b2) rfl (faC_of (back b2 rfl rfl) rfl)) rfl (c_staying (n := n) (by omega) rB)) rfl rfl (pIn_yes (encT encI) (by decide) hmem)
  let fin : List D := L.map iT ++ [iT far, iT far, .bool true]
  let b3 := st w8 (.val (eL iT (roomsSo n))) (.val (.bool al)) (.val (.int m)) c11 c12 c13 (.val (.list fin)) (.val (.list (L.map iT))) (.val (iT nowE)) c17' (.val (iT far))
  refine bSet (ρ2 := b3) (d := .list fin) (f2_of (ρ1 := b2) (x := .frz (.list (L.map iT))) rfl (fLst_of (ds := [iT far, iT far, .bool true]) (faC_of q1 (faC_of q2 (faC_of q3 rfl))) rfl (by show 3 ≤ 100000; decide)) rfl rfl (pAdd_g (L.map iT) [iT far, iT far, .bool true] (by rw [List.length_map]; show L.length + 3 ≤ _; omega))) rfl rfl ?_
  have fl : far.length ≤ 12 := rk_len (afar.imp fun h => by omega) rfar
  have hfin : fn__law_same [.list fin, .list fin] = some (.bool true) := by
    refine c_same2 rfl (.lst _ (by show (L.map iT ++ [iT far, iT far, .bool true]).length ≤ 1000; rw [List.length_append, List.length_map]; show L.length + 3 ≤ _; omega) fun d hd => ?_) ?_
    · rcases List.mem_append.mp hd with q | q
      · obtain ⟨R, hR', rfl⟩ := List.mem_map.mp q
        have := hLr R hR'
        have := rk_len (this.1.imp fun h => by omega) (rk_room (n := 12) (by decide) this)
        exact short_iT (by omega)
      · simp only [List.mem_cons, List.not_mem_nil, or_false] at q
        rcases q with rfl | rfl | rfl
        · exact short_iT (by omega)
        · exact short_iT (by omega)
        · exact .bool true
    · have dl : ∀ l : List D, (∀ d ∈ l, PyData.depth d ≤ 1) → PyData.depthAll l ≤ 1 := by
        intro l
        induction l with
        | nil => intro _; exact Nat.zero_le _
        | cons d l ih =>
          intro h
          show max (PyData.depth d) (PyData.depthAll l) ≤ 1
          have := h d List.mem_cons_self
          have := ih fun x hx => h x (List.mem_cons_of_mem _ hx)
          omega
      have := dl fin fun d hd => by
        rcases List.mem_append.mp hd with q | q
        · obtain ⟨R, hR', rfl⟩ := List.mem_map.mp q
          exact (encT encI).dep R
        · simp only [List.mem_cons, List.not_mem_nil, or_false] at q
          rcases q with rfl | rfl | rfl
          · exact (encT encI).dep far
          · exact (encT encI).dep far
          · exact Nat.zero_le _
      show PyData.depthAll fin + 1 < 8
      omega
  have q5 : f2 pAdd (fN 15) (fLst (faC (fN 18) (faC (fN 18) (faC (fC (.bool true)) (faN))))) b3 = some (.new (.list fin), b3) := f2_of (ρ1 := b3) (x := .frz (.list (L.map iT))) rfl (fLst_of (ds := [iT far, iT far, .bool true]) (faC_of (o := .frz (iT far)) (ρ1 := b3) rfl (faC_of (o := .frz (iT far)) (ρ1 := b3) rfl (faC_of (o := .frz (.bool true)) (ρ1 := b3) rfl rfl))) rfl (by show 3 ≤ 100000; decide)) rfl rfl (pAdd_g (L.map iT) [iT far, iT far, .bool true] (by rw [List.length_map]; show L.length + 3 ≤ _; omega))
  exact bRet (fCall_of (faC_of (o := .frz (.list fin)) (ρ1 := b3) rfl (faC_of q5 rfl)) rfl hfin) rfl
end DL

namespace DL
open PySem PySem.Spec L2
def top (i : Nat) : Stmt := PySem.Challenge.pw_driveout_k90_main_lists_by_turns.main.body.getD i (.Pass ⟨0, 0, 0, 0⟩)
abbrev s_links_of : Stmt := top 1
abbrev s_chains_from_links : Stmt := top 2
abbrev s_linked_visit : Stmt := top 3
abbrev s_is_integer : Stmt := top 5
abbrev s_is_rank : Stmt := top 6
abbrev s_leaver : Stmt := top 7
abbrev s_entered : Stmt := top 8
abbrev s_rooms_along : Stmt := top 9
abbrev s_room_after : Stmt := top 10
abbrev s_people_up_to : Stmt := top 11
abbrev s_chains_of : Stmt := top 13
abbrev s_meeting : Stmt := top 14
abbrev s_ranks_in : Stmt := top 15
abbrev s_visits_for : Stmt := top 16
abbrev s_followed : Stmt := top 17
abbrev s_result : Stmt := top 18
abbrev s_longest_ends : Stmt := top 19
abbrev s_longest : Stmt := top 20
abbrev s_repetitions : Stmt := top 22
abbrev s_repeated : Stmt := top 23
abbrev s_settles : Stmt := top 24
abbrev s_room_after_many : Stmt := top 25
abbrev s_do_same : Stmt := top 28
abbrev s_difference : Stmt := top 29
abbrev s_separating_room : Stmt := top 30
abbrev s_shows_difference : Stmt := top 31
abbrev s_all_rooms : Stmt := top 33
abbrev s_staying : Stmt := top 34
abbrev s__law_box : Stmt := top 36
abbrev s__law_take : Stmt := top 37
abbrev s__law_cells : Stmt := top 38
abbrev s__law_same : Stmt := top 39
abbrev s__law_list : Stmt := top 40
abbrev s__law_crowd : Stmt := top 41
abbrev s__law_come : Stmt := top 42
abbrev s__law_led : Stmt := top 43
abbrev s__law_rooms_so : Stmt := top 44
abbrev s__law_of : Stmt := top 45
abbrev s__law_many : Stmt := top 46
abbrev s__law_least : Stmt := top 47
abbrev s__law_turns_right : Stmt := top 48
abbrev s_law : Stmt := top 49
structure En (K : PySem.W.Frag) (mg : Str → Option Value) where
  f_links_of : Addr
  fd_links_of : FuncData
  F_links_of : Fun K "links_of" "links_of" s_links_of f_links_of fd_links_of
  d_links_of : Df K mg "links_of" f_links_of fd_links_of ["chains"]
  f_chains_from_links : Addr
  fd_chains_from_links : FuncData
  F_chains_from_links : Fun K "chains_from_links" "chains_from_links" s_chains_from_links f_chains_from_links fd_chains_from_links
  d_chains_from_links : Df K mg "chains_from_links" f_chains_from_links fd_chains_from_links ["links"]
  f_linked_visit : Addr
  fd_linked_visit : FuncData
  F_linked_visit : Fun K "linked_visit" "linked_visit" s_linked_visit f_linked_visit fd_linked_visit
  d_linked_visit : Df K mg "linked_visit" f_linked_visit fd_linked_visit ["links", "rank"]
  f_is_integer : Addr
  fd_is_integer : FuncData
  F_is_integer : Fun K "is_integer" "is_integer" s_is_integer f_is_integer fd_is_integer
  d_is_integer : Df K mg "is_integer" f_is_integer fd_is_integer ["thing"]
  f_is_rank : Addr
  fd_is_rank : FuncData
  F_is_rank : Fun K "is_rank" "is_rank" s_is_rank f_is_rank fd_is_rank
  d_is_rank : Df K mg "is_rank" f_is_rank fd_is_rank ["size", "thing"]
  f_leaver : Addr
  fd_leaver : FuncData
  F_leaver : Fun K "leaver" "leaver" s_leaver f_leaver fd_leaver
  d_leaver : Df K mg "leaver" f_leaver fd_leaver ["room", "rank"]
  f_entered : Addr
  fd_entered : FuncData
  F_entered : Fun K "entered" "entered" s_entered f_entered fd_entered
  d_entered : Df K mg "entered" f_entered fd_entered ["room", "rank"]
  f_rooms_along : Addr
  fd_rooms_along : FuncData
  F_rooms_along : Fun K "rooms_along" "rooms_along" s_rooms_along f_rooms_along fd_rooms_along
  d_rooms_along : Df K mg "rooms_along" f_rooms_along fd_rooms_along ["room", "visits"]
  f_room_after : Addr
  fd_room_after : FuncData
  F_room_after : Fun K "room_after" "room_after" s_room_after f_room_after fd_room_after
  d_room_after : Df K mg "room_after" f_room_after fd_room_after ["room", "visits"]
  f_people_up_to : Addr
  fd_people_up_to : FuncData
  F_people_up_to : Fun K "people_up_to" "people_up_to" s_people_up_to f_people_up_to fd_people_up_to
  d_people_up_to : Df K mg "people_up_to" f_people_up_to fd_people_up_to ["room", "rank"]
  f_chains_of : Addr
  fd_chains_of : FuncData
  F_chains_of : Fun K "chains_of" "chains_of" s_chains_of f_chains_of fd_chains_of
  d_chains_of : Df K mg "chains_of" f_chains_of fd_chains_of ["visits"]
  f_meeting : Addr
  fd_meeting : FuncData
  F_meeting : Fun K "meeting" "meeting" s_meeting f_meeting fd_meeting
  d_meeting : Df K mg "meeting" f_meeting fd_meeting ["chains", "low", "high"]
  f_ranks_in : Addr
  fd_ranks_in : FuncData
  F_ranks_in : Fun K "ranks_in" "ranks_in" s_ranks_in f_ranks_in fd_ranks_in
  d_ranks_in : Df K mg "ranks_in" f_ranks_in fd_ranks_in ["chains"]
  f_visits_for : Addr
  fd_visits_for : FuncData
  F_visits_for : Fun K "visits_for" "visits_for" s_visits_for f_visits_for fd_visits_for
  d_visits_for : Df K mg "visits_for" f_visits_for fd_visits_for ["chains"]
  f_followed : Addr
  fd_followed : FuncData
  F_followed : Fun K "followed" "followed" s_followed f_followed fd_followed
  d_followed : Df K mg "followed" f_followed fd_followed ["first", "second"]
  f_result : Addr
  fd_result : FuncData
  F_result : Fun K "result" "result" s_result f_result fd_result
  d_result : Df K mg "result" f_result fd_result ["chains", "room"]
  f_longest_ends : Addr
  fd_longest_ends : FuncData
  F_longest_ends : Fun K "longest_ends" "longest_ends" s_longest_ends f_longest_ends fd_longest_ends
  d_longest_ends : Df K mg "longest_ends" f_longest_ends fd_longest_ends ["visits", "low", "high"]
  f_longest : Addr
  fd_longest : FuncData
  F_longest : Fun K "longest" "longest" s_longest f_longest fd_longest
  d_longest : Df K mg "longest" f_longest fd_longest ["visits", "low", "high"]
  f_repetitions : Addr
  fd_repetitions : FuncData
  F_repetitions : Fun K "repetitions" "repetitions" s_repetitions f_repetitions fd_repetitions
  d_repetitions : Df K mg "repetitions" f_repetitions fd_repetitions ["chains"]
  f_repeated : Addr
  fd_repeated : FuncData
  F_repeated : Fun K "repeated" "repeated" s_repeated f_repeated fd_repeated
  d_repeated : Df K mg "repeated" f_repeated fd_repeated ["chains", "many"]
  f_settles : Addr
  fd_settles : FuncData
  F_settles : Fun K "settles" "settles" s_settles f_settles fd_settles
  d_settles : Df K mg "settles" f_settles fd_settles ["chains"]
  f_room_after_many : Addr
  fd_room_after_many : FuncData
  F_room_after_many : Fun K "room_after_many" "room_after_many" s_room_after_many f_room_after_many fd_room_after_many
  d_room_after_many : Df K mg "room_after_many" f_room_after_many fd_room_after_many ["room", "visits", "many"]
  f_do_same : Addr
  fd_do_same : FuncData
  F_do_same : Fun K "do_same" "do_same" s_do_same f_do_same fd_do_same
  d_do_same : Df K mg "do_same" f_do_same fd_do_same ["first", "second"]
  f_difference : Addr
  fd_difference : FuncData
  F_difference : Fun K "difference" "difference" s_difference f_difference fd_difference
  d_difference : Df K mg "difference" f_difference fd_difference ["first", "second"]
  f_separating_room : Addr
  fd_separating_room : FuncData
  F_separating_room : Fun K "separating_room" "separating_room" s_separating_room f_separating_room fd_separating_room
  d_separating_room : Df K mg "separating_room" f_separating_room fd_separating_room ["first", "second"]
  f_shows_difference : Addr
  fd_shows_difference : FuncData
  F_shows_difference : Fun K "shows_difference" "shows_difference" s_shows_difference f_shows_difference fd_shows_difference
  d_shows_difference : Df K mg "shows_difference" f_shows_difference fd_shows_difference ["first", "second", "thing"]
  f_all_rooms : Addr
  fd_all_rooms : FuncData
  F_all_rooms : Fun K "all_rooms" "all_rooms" s_all_rooms f_all_rooms fd_all_rooms
  d_all_rooms : Df K mg "all_rooms" f_all_rooms fd_all_rooms ["size"]
  f_staying : Addr
  fd_staying : FuncData
  F_staying : Fun K "staying" "staying" s_staying f_staying fd_staying
  d_staying : Df K mg "staying" f_staying fd_staying ["size", "chains"]
  f__law_box : Addr
  fd__law_box : FuncData
  F__law_box : Fun K "_law_box" "_law_box" s__law_box f__law_box fd__law_box
  d__law_box : Df K mg "_law_box" f__law_box fd__law_box ["script", "k"]
  f__law_take : Addr
  fd__law_take : FuncData
  F__law_take : Fun K "_law_take" "_law_take" s__law_take f__law_take fd__law_take
  d__law_take : Df K mg "_law_take" f__law_take fd__law_take ["urn", "below"]
  f__law_cells : Addr
  fd__law_cells : FuncData
  F__law_cells : Fun K "_law_cells" "_law_cells" s__law_cells f__law_cells fd__law_cells
  d__law_cells : Df K mg "_law_cells" f__law_cells fd__law_cells ["script", "many"]
  f__law_same : Addr
  fd__law_same : FuncData
  F__law_same : Fun K "_law_same" "_law_same" s__law_same f__law_same fd__law_same
  d__law_same : Df K mg "_law_same" f__law_same fd__law_same ["got", "goal"]
  f__law_list : Addr
  fd__law_list : FuncData
  F__law_list : Fun K "_law_list" "_law_list" s__law_list f__law_list fd__law_list
  d__law_list : Df K mg "_law_list" f__law_list fd__law_list ["urn", "size", "most"]
  f__law_crowd : Addr
  fd__law_crowd : FuncData
  F__law_crowd : Fun K "_law_crowd" "_law_crowd" s__law_crowd f__law_crowd fd__law_crowd
  d__law_crowd : Df K mg "_law_crowd" f__law_crowd fd__law_crowd ["urn", "size"]
  f__law_come : Addr
  fd__law_come : FuncData
  F__law_come : Fun K "_law_come" "_law_come" s__law_come f__law_come fd__law_come
  d__law_come : Df K mg "_law_come" f__law_come fd__law_come ["room", "rank"]
  f__law_led : Addr
  fd__law_led : FuncData
  F__law_led : Fun K "_law_led" "_law_led" s__law_led f__law_led fd__law_led
  d__law_led : Df K mg "_law_led" f__law_led fd__law_led ["room", "row"]
  f__law_rooms_so : Addr
  fd__law_rooms_so : FuncData
  F__law_rooms_so : Fun K "_law_rooms_so" "_law_rooms_so" s__law_rooms_so f__law_rooms_so fd__law_rooms_so
  d__law_rooms_so : Df K mg "_law_rooms_so" f__law_rooms_so fd__law_rooms_so ["size"]
  f__law_of : Addr
  fd__law_of : FuncData
  F__law_of : Fun K "_law_of" "_law_of" s__law_of f__law_of fd__law_of
  d__law_of : Df K mg "_law_of" f__law_of fd__law_of ["urn", "some"]
  f__law_many : Addr
  fd__law_many : FuncData
  F__law_many : Fun K "_law_many" "_law_many" s__law_many f__law_many fd__law_many
  d__law_many : Df K mg "_law_many" f__law_many fd__law_many ["chains", "many"]
  f__law_least : Addr
  fd__law_least : FuncData
  F__law_least : Fun K "_law_least" "_law_least" s__law_least f__law_least fd__law_least
  d__law_least : Df K mg "_law_least" f__law_least fd__law_least ["row", "size"]
  f__law_turns_right : Addr
  fd__law_turns_right : FuncData
  F__law_turns_right : Fun K "_law_turns_right" "_law_turns_right" s__law_turns_right f__law_turns_right fd__law_turns_right
  d__law_turns_right : Df K mg "_law_turns_right" f__law_turns_right fd__law_turns_right ["urn", "one", "other", "row", "near", "size"]
  f_law : Addr
  fd_law : FuncData
  F_law : Fun K "law" "law" s_law f_law fd_law
  d_law : Df K mg "law" f_law fd_law ["script"]
  b_abs : mg "abs" = none
  b_all : mg "all" = none
  b_any : mg "any" = none
  b_bool : mg "bool" = none
  b_dict : mg "dict" = none
  b_enumerate : mg "enumerate" = none
  b_int : mg "int" = none
  b_isinstance : mg "isinstance" = none
  b_len : mg "len" = none
  b_list : mg "list" = none
  b_max : mg "max" = none
  b_min : mg "min" = none
  b_range : mg "range" = none
  b_set : mg "set" = none
  b_sorted : mg "sorted" = none
  b_str : mg "str" = none
  b_tuple : mg "tuple" = none
  b_zip : mg "zip" = none
  g_TOP_RANK : ∃ t, mg "TOP_RANK" = some (.int 12 t)
section
variable {P : Program} {w : World} {K : PySem.W.Frag} {mg : Str → Option Value} {base : Heap}
theorem sc_links_of : FnScope ["chains", "found", "chain", "before", "rank"] ["chains"] (defScope s_links_of) := ⟨rfl, rfl, rfl, by decide +kernel, rfl, by decide +kernel, by decide +kernel⟩
theorem ok_links_of (B : En K mg) : FnOk P w K mg base CX0 1 B.f_links_of B.fd_links_of ["chains"] (spP K 1 fn_links_of) := by
  refine okP (N := ["chains", "found", "chain", "before", "rank"]) (n := 1) (k := 0) (g := g_links_of) B.F_links_of sc_links_of rfl (by decide) fun cdv A outer s H E hr => ?_
  have nd := sc_links_of.nd
  have hu := hr.units
  have hu1 : _ + 1 < cLine := Nat.lt_of_le_of_lt (Nat.add_le_add_left (by decide) _) hu
  have hu2 : _ + 65 < cLine := hr.units65
  exact ssj_cons (sj_own (i := 1) nd rfl (.inl rfl) (ej_dnew))
    (ssj_cons (sj_for PassesOwn.never rfl (ij_seq (en 0)) (gj_name (i := 2) nd rfl (by first | exact .inl rfl | exact .inr rfl)) (ssj_one (sj_for PassesOwn.never rfl (ij_zip rfl B.b_zip (ej_addU (ej_lst (aj_cons (ej_int) (aj_nil))) (ej_list B.b_list (aj_cons (en 2) (aj_nil)))) (en 2)) (gj_tup (is := [3, 4]) (n := 2) rfl (pgs_cons (pg_name (i := 3) nd rfl (by first | exact .inl rfl | exact .inr rfl)) (pgs_cons (pg_name (i := 4) nd rfl (by first | exact .inl rfl | exact .inr rfl)) (pgs_nil))) rfl rfl) (ssj_one (sj_put hu1 (en 3) (en 1) (en 4))))))
    (ssj_one (sj_ret (en 1))))
theorem sc_chains_from_links : FnScope ["links", "found", "rank", "before"] ["links"] (defScope s_chains_from_links) := ⟨rfl, rfl, rfl, by decide +kernel, rfl, by decide +kernel, by decide +kernel⟩
theorem ok_chains_from_links (B : En K mg) : FnOk P w K mg base CX0 1 B.f_chains_from_links B.fd_chains_from_links ["links"] (spP K 1 fn_chains_from_links) := by
  refine okP (N := ["links", "found", "rank", "before"]) (n := 1) (k := 0) (g := g_chains_from_links) B.F_chains_from_links sc_chains_from_links rfl (by decide) fun cdv A outer s H E hr => ?_
  have nd := sc_chains_from_links.nd
  have hu := hr.units
  have hu1 : _ + 1 < cLine := Nat.lt_of_le_of_lt (Nat.add_le_add_left (by decide) _) hu
  have hu2 : _ + 65 < cLine := hr.units65
  exact ssj_cons (sj_own (i := 1) nd rfl (.inl rfl) (ej_dnew))
    (ssj_cons (sj_for PassesOwn.never rfl (ij_seq (ej_sortedU rfl B.b_sorted (aj_cons (en 0) (aj_nil)))) (gj_name (i := 2) nd rfl (by first | exact .inl rfl | exact .inr rfl)) (ssj_cons (sj_set (i := 3) nd rfl (.inl rfl) (ej_ix hu1 (en 0) (en 2)))
    (ssj_one (sj_put hu1 (ej_addU (ej_if (tj_gt (en 3) (ej_int)) (ej_dpop (en 1) (en 3)) (ej_tup (aj_nil))) (ej_tup (aj_cons (en 2) (aj_nil)))) (en 1) (en 2)))))
    (ssj_one (sj_ret (ej_tuple B.b_tuple (aj_cons (ej_sortV rfl B.b_sorted (en 1)) (aj_nil))))))
theorem sc_linked_visit : FnScope ["links", "rank", "later", "current", "other"] ["links", "rank"] (defScope s_linked_visit) := ⟨rfl, rfl, rfl, by decide +kernel, rfl, by decide +kernel, by decide +kernel⟩
theorem ok_linked_visit (B : En K mg) : FnOk P w K mg base CX0 1 B.f_linked_visit B.fd_linked_visit ["links", "rank"] (spP K 2 fn_linked_visit) := by
  refine okP (N := ["links", "rank", "later", "current", "other"]) (n := 2) (k := 0) (g := g_linked_visit) B.F_linked_visit sc_linked_visit rfl (by decide) fun cdv A outer s H E hr => ?_
  have nd := sc_linked_visit.nd
  have hu := hr.units
  have hu1 : _ + 1 < cLine := Nat.lt_of_le_of_lt (Nat.add_le_add_left (by decide) _) hu
  have hu2 : _ + 65 < cLine := hr.units65
  exact ssj_cons (sj_par (i := 2) (j := 3) (bi := true) (bj := false) rfl nd rfl rfl (by decide) rfl rfl (ajn_cons (ej_dict B.b_dict (aj_cons (en 0) (aj_nil))) (ajn_cons (ej_get2 hu1 (en 0) (en 1) (en 1)) (ajn_nil))) rfl)
    (ssj_cons (sj_put hu1 (ej_int) (en 2) (en 1))
    (ssj_cons (sj_for PassesOwn.never rfl (ij_seq (ej_sortedU rfl B.b_sorted (aj_cons (en 0) (aj_nil)))) (gj_name (i := 4) nd rfl (by first | exact .inl rfl | exact .inr rfl)) (ssj_one (sj_if (tj_w (wj_and (tj_gt (en 4) (en 1)) (wj_and1 (tj_lt (ej_ix hu1 (en 0) (en 4)) (en 3))))) (ssj_one (sj_putSet (i := 3) hu1 rfl nd rfl (by first | exact .inl rfl | exact .inr rfl) (aj_cons (en 3) (aj_cons (ej_ix hu1 (en 0) (en 4)) (aj_nil))) (en 2) (en 4))) (ssj_nil))))
    (ssj_one (sj_ret (en 2)))))
theorem sc_is_integer : FnScope ["thing"] ["thing"] (defScope s_is_integer) := ⟨rfl, rfl, rfl, by decide +kernel, rfl, by decide +kernel, by decide +kernel⟩
theorem ok_is_integer (B : En K mg) : FnOk P w K mg base CX0 1 B.f_is_integer B.fd_is_integer ["thing"] (spP K 1 fn_is_integer) := by
  refine okP (N := ["thing"]) (n := 1) (k := 0) (g := g_is_integer) B.F_is_integer sc_is_integer rfl (by decide) fun cdv A outer s H E hr => ?_
  have nd := sc_is_integer.nd
  have hu := hr.units
  have hu1 : _ + 1 < cLine := Nat.lt_of_le_of_lt (Nat.add_le_add_left (by decide) _) hu
  have hu2 : _ + 65 < cLine := hr.units65
  exact ssj_one (sj_ret (ej_and (ej_isi tk_int B.b_isinstance B.b_int (en 0) (by decide +kernel)) (ej_one (ej_not (ej_isi tk_bool B.b_isinstance B.b_bool (en 0) (by decide +kernel))))))
theorem sc_is_rank : FnScope ["size", "thing"] ["size", "thing"] (defScope s_is_rank) := ⟨rfl, rfl, rfl, by decide +kernel, rfl, by decide +kernel, by decide +kernel⟩
theorem ok_is_rank (B : En K mg) (G_is_integer : FnOk P w K mg base CX0 1 B.f_is_integer B.fd_is_integer ["thing"] (spP K 1 fn_is_integer)) : FnOk P w K mg base CX0 2 B.f_is_rank B.fd_is_rank ["size", "thing"] (spP K 2 fn_is_rank) := by
  refine okP (N := ["size", "thing"]) (n := 2) (k := 1) (g := g_is_rank) B.F_is_rank sc_is_rank rfl (by decide) fun cdv A outer s H E hr => ?_
  have nd := sc_is_rank.nd
  have hu := hr.units
  have hu1 : _ + 1 < cLine := Nat.lt_of_le_of_lt (Nat.add_le_add_left (by decide) _) hu
  have hu2 : _ + 65 < cLine := hr.units65
  exact ssj_one (sj_ret (ej_and (ej_callP B.d_is_integer G_is_integer (hr.mono (by decide)) fnP_len (aj_cons (en 1) (aj_nil))) (ej_one (ej_chain op_le r2_le op_le r2_le (ej_int) (en 1) (en 0)))))
theorem sc_leaver : FnScope ["room", "rank", "higher", "other"] ["room", "rank"] (defScope s_leaver) := ⟨rfl, rfl, rfl, by decide +kernel, rfl, by decide +kernel, by decide +kernel⟩
theorem ok_leaver (B : En K mg) : FnOk P w K mg base CX0 1 B.f_leaver B.fd_leaver ["room", "rank"] (spP K 2 fn_leaver) := by
  refine okP (N := ["room", "rank", "higher", "other"]) (n := 2) (k := 0) (g := g_leaver) B.F_leaver sc_leaver rfl (by decide) fun cdv A outer s H E hr => ?_
  have nd := sc_leaver.nd
  have hu := hr.units
  have hu1 : _ + 1 < cLine := Nat.lt_of_le_of_lt (Nat.add_le_add_left (by decide) _) hu
  have hu2 : _ + 65 < cLine := hr.units65
  exact ssj_cons (sj_setLc (own := [("other", 3)]) (is := [3]) (vs := [3]) rfl nd (i := 2) rfl rfl (sw_true rfl rfl rfl (by decide +kernel)) (ij_seq (en 0)) (blkOk_by (by kernel_rfl)) (fun _ _ _ _ _ => gj_name (i := 3) nd rfl (by first | exact .inl rfl | exact .inr rfl)) (fun _ _ _ _ _ => tsj_one (tj_gt (en 3) (en 1))) (fun _ _ _ _ _ => en 3) rfl (by decide))
    (ssj_one (sj_ret (ej_if (tj_w (wj_or (tj_in hu2 (en 1) (en 0)) (wj_or1 (tj_eq hu (ej_len B.b_len (aj_cons (en 2) (aj_nil))) (ej_int))))) (ej_non) (ej_ix hu1 (en 2) (ej_int)))))
theorem sc_entered : FnScope ["room", "rank", "gone", "other"] ["room", "rank"] (defScope s_entered) := ⟨rfl, rfl, rfl, by decide +kernel, rfl, by decide +kernel, by decide +kernel⟩
theorem ok_entered (B : En K mg) (G_leaver : FnOk P w K mg base CX0 1 B.f_leaver B.fd_leaver ["room", "rank"] (spP K 2 fn_leaver)) : FnOk P w K mg base CX0 2 B.f_entered B.fd_entered ["room", "rank"] (spP K 2 fn_entered) := by
  refine okP (N := ["room", "rank", "gone", "other"]) (n := 2) (k := 1) (g := g_entered) B.F_entered sc_entered rfl (by decide) fun cdv A outer s H E hr => ?_
  have nd := sc_entered.nd
  have hu := hr.units
  have hu1 : _ + 1 < cLine := Nat.lt_of_le_of_lt (Nat.add_le_add_left (by decide) _) hu
  have hu2 : _ + 65 < cLine := hr.units65
  exact ssj_cons (sj_set (i := 2) nd rfl (.inr rfl) (ej_callP B.d_leaver G_leaver (hr.mono (by decide)) fnP_len (aj_cons (en 0) (aj_cons (en 1) (aj_nil)))))
    (ssj_one (sj_ret (ej_tuple B.b_tuple (aj_cons (ej_sortedU rfl B.b_sorted (aj_cons (ej_dc (own := [("other", 3)]) (is := [3]) (vs := [3]) rfl nd (ij_seq (ej_addU (ej_list B.b_list (aj_cons (en 0) (aj_nil))) (ej_lst (aj_cons (en 1) (aj_nil))))) (blkOk_by (by kernel_rfl)) (fun _ _ _ _ _ => gj_name (i := 3) nd rfl (by first | exact .inl rfl | exact .inr rfl)) (fun _ _ _ _ _ => tsj_one (tj_ne hu (en 3) (en 2))) (fun _ _ _ _ _ => en 3) (fun _ _ _ _ _ => ej_bl) rfl (by decide)) (aj_nil))) (aj_nil)))))
theorem sc_rooms_along : FnScope ["room", "visits", "found", "rank"] ["room", "visits"] (defScope s_rooms_along) := ⟨rfl, rfl, rfl, by decide +kernel, rfl, by decide +kernel, by decide +kernel⟩
theorem ok_rooms_along (B : En K mg) (G_entered : FnOk P w K mg base CX0 2 B.f_entered B.fd_entered ["room", "rank"] (spP K 2 fn_entered)) : FnOk P w K mg base CX0 3 B.f_rooms_along B.fd_rooms_along ["room", "visits"] (spP K 2 fn_rooms_along) := by
  refine okP (N := ["room", "visits", "found", "rank"]) (n := 2) (k := 2) (g := g_rooms_along) B.F_rooms_along sc_rooms_along rfl (by decide) fun cdv A outer s H E hr => ?_
  have nd := sc_rooms_along.nd
  have hu := hr.units
  have hu1 : _ + 1 < cLine := Nat.lt_of_le_of_lt (Nat.add_le_add_left (by decide) _) hu
  have hu2 : _ + 65 < cLine := hr.units65
  exact ssj_cons (sj_own (i := 2) nd rfl (.inl rfl) (ej_lst (aj_cons (ej_tuple B.b_tuple (aj_cons (en 0) (aj_nil))) (aj_nil))))
    (ssj_cons (sj_for PassesOwn.never rfl (ij_seq (en 1)) (gj_name (i := 3) nd rfl (by first | exact .inl rfl | exact .inr rfl)) (ssj_one (sj_ex (ej_append (en 2) (aj_cons (ej_callP B.d_entered G_entered (hr.mono (by decide)) fnP_len (aj_cons (ej_ix hu1 (en 2) (ej_neg (ej_int))) (aj_cons (en 3) (aj_nil)))) (aj_nil))))))
    (ssj_one (sj_ret (en 2))))
theorem sc_room_after : FnScope ["room", "visits"] ["room", "visits"] (defScope s_room_after) := ⟨rfl, rfl, rfl, by decide +kernel, rfl, by decide +kernel, by decide +kernel⟩
theorem ok_room_after (B : En K mg) (G_rooms_along : FnOk P w K mg base CX0 3 B.f_rooms_along B.fd_rooms_along ["room", "visits"] (spP K 2 fn_rooms_along)) : FnOk P w K mg base CX0 4 B.f_room_after B.fd_room_after ["room", "visits"] (spP K 2 fn_room_after) := by
  refine okP (N := ["room", "visits"]) (n := 2) (k := 3) (g := g_room_after) B.F_room_after sc_room_after rfl (by decide) fun cdv A outer s H E hr => ?_
  have nd := sc_room_after.nd
  have hu := hr.units
  have hu1 : _ + 1 < cLine := Nat.lt_of_le_of_lt (Nat.add_le_add_left (by decide) _) hu
  have hu2 : _ + 65 < cLine := hr.units65
  exact ssj_one (sj_ret (ej_ix hu1 (ej_callP B.d_rooms_along G_rooms_along (hr.mono (by decide)) fnP_len (aj_cons (en 0) (aj_cons (en 1) (aj_nil)))) (ej_neg (ej_int))))
theorem sc_people_up_to : FnScope ["room", "rank", "other"] ["room", "rank"] (defScope s_people_up_to) := ⟨rfl, rfl, rfl, by decide +kernel, rfl, by decide +kernel, by decide +kernel⟩
theorem ok_people_up_to (B : En K mg) : FnOk P w K mg base CX0 1 B.f_people_up_to B.fd_people_up_to ["room", "rank"] (spP K 2 fn_people_up_to) := by
  refine okP (N := ["room", "rank", "other"]) (n := 2) (k := 0) (g := g_people_up_to) B.F_people_up_to sc_people_up_to rfl (by decide) fun cdv A outer s H E hr => ?_
  have nd := sc_people_up_to.nd
  have hu := hr.units
  have hu1 : _ + 1 < cLine := Nat.lt_of_le_of_lt (Nat.add_le_add_left (by decide) _) hu
  have hu2 : _ + 65 < cLine := hr.units65
  exact ssj_one (sj_ret (ej_len B.b_len (aj_cons (ej_lc (own := [("other", 2)]) (is := [2]) (vs := [2]) rfl nd (ij_seq (en 0)) (blkOk_by (by kernel_rfl)) (fun _ _ _ _ _ => gj_name (i := 2) nd rfl (by first | exact .inl rfl | exact .inr rfl)) (fun _ _ _ _ _ => tsj_one (tj_le (en 2) (en 1))) (fun _ _ _ _ _ => en 2) rfl (by decide)) (aj_nil))))
theorem sc_chains_of : FnScope ["visits", "links", "rank"] ["visits"] (defScope s_chains_of) := ⟨rfl, rfl, rfl, by decide +kernel, rfl, by decide +kernel, by decide +kernel⟩
theorem ok_chains_of (B : En K mg) (G_linked_visit : FnOk P w K mg base CX0 1 B.f_linked_visit B.fd_linked_visit ["links", "rank"] (spP K 2 fn_linked_visit)) (G_chains_from_links : FnOk P w K mg base CX0 1 B.f_chains_from_links B.fd_chains_from_links ["links"] (spP K 1 fn_chains_from_links)) : FnOk P w K mg base CX0 2 B.f_chains_of B.fd_chains_of ["visits"] (spP K 1 fn_chains_of) := by
  refine okP (N := ["visits", "links", "rank"]) (n := 1) (k := 1) (g := g_chains_of) B.F_chains_of sc_chains_of rfl (by decide) fun cdv A outer s H E hr => ?_
  have nd := sc_chains_of.nd
  have hu := hr.units
  have hu1 : _ + 1 < cLine := Nat.lt_of_le_of_lt (Nat.add_le_add_left (by decide) _) hu
  have hu2 : _ + 65 < cLine := hr.units65
  exact ssj_cons (sj_set (i := 1) nd rfl (.inl rfl) (ej_dnew))
    (ssj_cons (sj_for PassesOwn.never rfl (ij_seq (en 0)) (gj_name (i := 2) nd rfl (by first | exact .inl rfl | exact .inr rfl)) (ssj_one (sj_set (i := 1) nd rfl (.inl rfl) (ej_callP B.d_linked_visit G_linked_visit (hr.mono (by decide)) fnP_len (aj_cons (en 1) (aj_cons (en 2) (aj_nil)))))))
    (ssj_one (sj_ret (ej_callP B.d_chains_from_links G_chains_from_links (hr.mono (by decide)) fnP_len (aj_cons (en 1) (aj_nil))))))
theorem sc_meeting : FnScope ["chains", "low", "high", "chain", "rank"] ["chains", "low", "high"] (defScope s_meeting) := ⟨rfl, rfl, rfl, by decide +kernel, rfl, by decide +kernel, by decide +kernel⟩
theorem ok_meeting (B : En K mg) : FnOk P w K mg base CX0 1 B.f_meeting B.fd_meeting ["chains", "low", "high"] (spP K 3 fn_meeting) := by
  refine okP (N := ["chains", "low", "high", "chain", "rank"]) (n := 3) (k := 0) (g := g_meeting) B.F_meeting sc_meeting rfl (by decide) fun cdv A outer s H E hr => ?_
  have nd := sc_meeting.nd
  have hu := hr.units
  have hu1 : _ + 1 < cLine := Nat.lt_of_le_of_lt (Nat.add_le_add_left (by decide) _) hu
  have hu2 : _ + 65 < cLine := hr.units65
  exact ssj_one (sj_ret (ej_len B.b_len (aj_cons (ej_lc (own := [("chain", 3)]) (is := [3]) (vs := [3]) rfl nd (ij_seq (en 0)) (blkOk_by (by kernel_rfl)) (fun _ _ _ _ _ => gj_name (i := 3) nd rfl (by first | exact .inl rfl | exact .inr rfl)) (fun _ _ _ _ _ => tsj_one (tj_val (ej_any rfl B.b_any (aj_cons (ej_lc (own := [("rank", 4)]) (is := [4]) (vs := [4]) rfl nd (ij_seq (en 3)) (blkOk_by (by kernel_rfl)) (fun _ _ _ _ _ => gj_name (i := 4) nd rfl (by first | exact .inl rfl | exact .inr rfl)) (fun _ _ _ _ _ => tsj_nil) (fun _ _ _ _ _ => ej_chain op_le r2_le op_le r2_le (en 1) (en 4) (en 2)) rfl (by decide)) (aj_nil))))) (fun _ _ _ _ _ => en 3) rfl (by decide)) (aj_nil))))
theorem sc_ranks_in : FnScope ["chains", "chain", "rank"] ["chains"] (defScope s_ranks_in) := ⟨rfl, rfl, rfl, by decide +kernel, rfl, by decide +kernel, by decide +kernel⟩
theorem ok_ranks_in (B : En K mg) : FnOk P w K mg base CX0 1 B.f_ranks_in B.fd_ranks_in ["chains"] (spP K 1 fn_ranks_in) := by
  refine okP (N := ["chains", "chain", "rank"]) (n := 1) (k := 0) (g := g_ranks_in) B.F_ranks_in sc_ranks_in rfl (by decide) fun cdv A outer s H E hr => ?_
  have nd := sc_ranks_in.nd
  have hu := hr.units
  have hu1 : _ + 1 < cLine := Nat.lt_of_le_of_lt (Nat.add_le_add_left (by decide) _) hu
  have hu2 : _ + 65 < cLine := hr.units65
  exact ssj_one (sj_ret (ej_sortedU rfl B.b_sorted (aj_cons (ej_lc2 (own := [("chain", 1), ("rank", 2)]) (is := [1]) (is1 := [2]) (vs := [1, 2]) (vs1 := [2]) rfl nd (ij_seq (en 0)) (blkOk_by (by kernel_rfl)) (by decide) (fun _ _ _ _ _ => gj_name (i := 1) nd rfl (by first | exact .inl rfl | exact .inr rfl)) (fun _ _ _ _ _ => tsj_nil) (fun _ _ _ _ _ => ij_seq (en 1)) (fun _ _ _ _ _ => gj_name (i := 2) nd rfl (by first | exact .inl rfl | exact .inr rfl)) (fun _ _ _ _ _ => tsj_nil) (fun _ _ _ _ _ => en 2) rfl (by decide) (by decide)) (aj_nil))))
theorem sc_visits_for : FnScope ["chains", "found", "below", "firsts", "chain", "rank", "first"] ["chains"] (defScope s_visits_for) := ⟨rfl, rfl, rfl, by decide +kernel, rfl, by decide +kernel, by decide +kernel⟩
theorem ok_visits_for (B : En K mg) (G_ranks_in : FnOk P w K mg base CX0 1 B.f_ranks_in B.fd_ranks_in ["chains"] (spP K 1 fn_ranks_in)) : FnOk P w K mg base CX0 2 B.f_visits_for B.fd_visits_for ["chains"] (spP K 1 fn_visits_for) := by
  refine okP (N := ["chains", "found", "below", "firsts", "chain", "rank", "first"]) (n := 1) (k := 1) (g := g_visits_for) B.F_visits_for sc_visits_for rfl (by decide) fun cdv A outer s H E hr => ?_
  have nd := sc_visits_for.nd
  have hu := hr.units
  have hu1 : _ + 1 < cLine := Nat.lt_of_le_of_lt (Nat.add_le_add_left (by decide) _) hu
  have hu2 : _ + 65 < cLine := hr.units65
  exact ssj_cons (sj_own (i := 1) nd rfl (.inl rfl) (ej_lst (aj_nil)))
    (ssj_cons (sj_for PassesOwn.never rfl (ij_seq (ej_rev (ej_lst (aj_cons (ej_int) (aj_star (ej_callP B.d_ranks_in G_ranks_in (hr.mono (by decide)) fnP_len (aj_cons (en 0) (aj_nil))) (aj_nil)))))) (gj_name (i := 2) nd rfl (by first | exact .inl rfl | exact .inr rfl)) (ssj_cons (sj_setLc (own := [("chain", 4)]) (is := [4]) (vs := [4]) rfl nd (i := 3) rfl rfl (sw_true rfl rfl rfl (by decide +kernel)) (ij_seq (en 0)) (blkOk_by (by kernel_rfl)) (fun _ _ _ _ _ => gj_name (i := 4) nd rfl (by first | exact .inl rfl | exact .inr rfl)) (fun _ _ _ _ _ => tsj_nil) (fun _ _ _ _ _ => ej_sl (ej_lc (own := [("rank", 5)]) (is := [5]) (vs := [5]) rfl nd (ij_seq (en 4)) (blkOk_by (by kernel_rfl)) (fun _ _ _ _ _ => gj_name (i := 5) nd rfl (by first | exact .inl rfl | exact .inr rfl)) (fun _ _ _ _ _ => tsj_one (tj_gt (en 5) (en 2))) (fun _ _ _ _ _ => en 5) rfl (by decide)) (oj_none) (oj_some (ej_int))) rfl (by decide))
    (ssj_one (sj_ex (ej_extend (en 1) (aj_cons (ej_sortedU rfl B.b_sorted (aj_cons (ej_lc2 (own := [("first", 6), ("rank", 5)]) (is := [6]) (is1 := [5]) (vs := [6, 5]) (vs1 := [5]) rfl nd (ij_seq (en 3)) (blkOk_by (by kernel_rfl)) (by decide) (fun _ _ _ _ _ => gj_name (i := 6) nd rfl (by first | exact .inl rfl | exact .inr rfl)) (fun _ _ _ _ _ => tsj_nil) (fun _ _ _ _ _ => ij_seq (en 6)) (fun _ _ _ _ _ => gj_name (i := 5) nd rfl (by first | exact .inl rfl | exact .inr rfl)) (fun _ _ _ _ _ => tsj_nil) (fun _ _ _ _ _ => en 5) rfl (by decide) (by decide)) (aj_nil))) (aj_nil)))))))
    (ssj_one (sj_ret (en 1))))
theorem sc_followed : FnScope ["first", "second", "links", "rank"] ["first", "second"] (defScope s_followed) := ⟨rfl, rfl, rfl, by decide +kernel, rfl, by decide +kernel, by decide +kernel⟩
theorem ok_followed (B : En K mg) (G_links_of : FnOk P w K mg base CX0 1 B.f_links_of B.fd_links_of ["chains"] (spP K 1 fn_links_of)) (G_visits_for : FnOk P w K mg base CX0 2 B.f_visits_for B.fd_visits_for ["chains"] (spP K 1 fn_visits_for)) (G_linked_visit : FnOk P w K mg base CX0 1 B.f_linked_visit B.fd_linked_visit ["links", "rank"] (spP K 2 fn_linked_visit)) (G_chains_from_links : FnOk P w K mg base CX0 1 B.f_chains_from_links B.fd_chains_from_links ["links"] (spP K 1 fn_chains_from_links)) : FnOk P w K mg base CX0 3 B.f_followed B.fd_followed ["first", "second"] (spP K 2 fn_followed) := by
  refine okP (N := ["first", "second", "links", "rank"]) (n := 2) (k := 2) (g := g_followed) B.F_followed sc_followed rfl (by decide) fun cdv A outer s H E hr => ?_
  have nd := sc_followed.nd
  have hu := hr.units
  have hu1 : _ + 1 < cLine := Nat.lt_of_le_of_lt (Nat.add_le_add_left (by decide) _) hu
  have hu2 : _ + 65 < cLine := hr.units65
  exact ssj_cons (sj_set (i := 2) nd rfl (.inl rfl) (ej_callP B.d_links_of G_links_of (hr.mono (by decide)) fnP_len (aj_cons (en 0) (aj_nil))))
    (ssj_cons (sj_for PassesOwn.never rfl (ij_seq (ej_callP B.d_visits_for G_visits_for (hr.mono (by decide)) fnP_len (aj_cons (en 1) (aj_nil)))) (gj_name (i := 3) nd rfl (by first | exact .inl rfl | exact .inr rfl)) (ssj_one (sj_set (i := 2) nd rfl (.inl rfl) (ej_callP B.d_linked_visit G_linked_visit (hr.mono (by decide)) fnP_len (aj_cons (en 2) (aj_cons (en 3) (aj_nil)))))))
    (ssj_one (sj_ret (ej_callP B.d_chains_from_links G_chains_from_links (hr.mono (by decide)) fnP_len (aj_cons (en 2) (aj_nil))))))
theorem sc_result : FnScope ["chains", "room", "found", "rank", "begins", "below"] ["chains", "room"] (defScope s_result) := ⟨rfl, rfl, rfl, by decide +kernel, rfl, by decide +kernel, by decide +kernel⟩
theorem ok_result (B : En K mg) (G_ranks_in : FnOk P w K mg base CX0 1 B.f_ranks_in B.fd_ranks_in ["chains"] (spP K 1 fn_ranks_in)) (G_people_up_to : FnOk P w K mg base CX0 1 B.f_people_up_to B.fd_people_up_to ["room", "rank"] (spP K 2 fn_people_up_to)) (G_meeting : FnOk P w K mg base CX0 1 B.f_meeting B.fd_meeting ["chains", "low", "high"] (spP K 3 fn_meeting)) : FnOk P w K mg base CX0 2 B.f_result B.fd_result ["chains", "room"] (spP K 2 fn_result) := by
  refine okP (N := ["chains", "room", "found", "rank", "begins", "below"]) (n := 2) (k := 1) (g := g_result) B.F_result sc_result rfl (by decide) fun cdv A outer s H E hr => ?_
  have nd := sc_result.nd
  have hu := hr.units
  have hu1 : _ + 1 < cLine := Nat.lt_of_le_of_lt (Nat.add_le_add_left (by decide) _) hu
  have hu2 : _ + 65 < cLine := hr.units65
  exact ssj_cons (sj_own (i := 2) nd rfl (.inl rfl) (ej_lst (aj_nil)))
    (ssj_cons (sj_for PassesOwn.never rfl (ij_seq (ej_sortedU rfl B.b_sorted (aj_cons (ej_dc (own := [("rank", 3)]) (is := [3]) (vs := [3]) rfl nd (ij_seq (ej_addU (ej_callP B.d_ranks_in G_ranks_in (hr.mono (by decide)) fnP_len (aj_cons (en 0) (aj_nil))) (ej_list B.b_list (aj_cons (en 1) (aj_nil))))) (blkOk_by (by kernel_rfl)) (fun _ _ _ _ _ => gj_name (i := 3) nd rfl (by first | exact .inl rfl | exact .inr rfl)) (fun _ _ _ _ _ => tsj_nil) (fun _ _ _ _ _ => en 3) (fun _ _ _ _ _ => ej_bl) rfl (by decide)) (aj_nil)))) (gj_name (i := 3) nd rfl (by first | exact .inl rfl | exact .inr rfl)) (ssj_cons (sj_set (i := 4) nd rfl (.inl rfl) (ej_addU (ej_lst (aj_cons (ej_int) (aj_nil))) (ej_lc (own := [("below", 5)]) (is := [5]) (vs := [5]) rfl nd (ij_seq (en 1)) (blkOk_by (by kernel_rfl)) (fun _ _ _ _ _ => gj_name (i := 5) nd rfl (by first | exact .inl rfl | exact .inr rfl)) (fun _ _ _ _ _ => tsj_one (tj_le (en 5) (en 3))) (fun _ _ _ _ _ => en 5) rfl (by decide))))
    (ssj_one (sj_if (tj_gt (ej_max rfl B.b_max (aj_cons (ej_lc (own := [("below", 5)]) (is := [5]) (vs := [5]) rfl nd (ij_seq (en 4)) (blkOk_by (by kernel_rfl)) (fun _ _ _ _ _ => gj_name (i := 5) nd rfl (by first | exact .inl rfl | exact .inr rfl)) (fun _ _ _ _ _ => tsj_nil) (fun _ _ _ _ _ => ej_addU (ej_callP B.d_people_up_to G_people_up_to (hr.mono (by decide)) fnP_len (aj_cons (en 1) (aj_cons (en 5) (aj_nil)))) (ej_callP B.d_meeting G_meeting (hr.mono (by decide)) fnP_len (aj_cons (en 0) (aj_cons (ej_addU (en 5) (ej_int)) (aj_cons (en 3) (aj_nil)))))) rfl (by decide)) (aj_nil))) (ej_len B.b_len (aj_cons (en 2) (aj_nil)))) (ssj_one (sj_ex (ej_append (en 2) (aj_cons (en 3) (aj_nil))))) (ssj_nil)))))
    (ssj_one (sj_ret (ej_tuple B.b_tuple (aj_cons (en 2) (aj_nil))))))
theorem sc_longest_ends : FnScope ["visits", "low", "high", "found", "index", "rank", "lengths", "before"] ["visits", "low", "high"] (defScope s_longest_ends) := ⟨rfl, rfl, rfl, by decide +kernel, rfl, by decide +kernel, by decide +kernel⟩
theorem ok_longest_ends (B : En K mg) : FnOk P w K mg base CX0 1 B.f_longest_ends B.fd_longest_ends ["visits", "low", "high"] (spP K 3 fn_longest_ends) := by
  refine okP (N := ["visits", "low", "high", "found", "index", "rank", "lengths", "before"]) (n := 3) (k := 0) (g := g_longest_ends) B.F_longest_ends sc_longest_ends rfl (by decide) fun cdv A outer s H E hr => ?_
  have nd := sc_longest_ends.nd
  have hu := hr.units
  have hu1 : _ + 1 < cLine := Nat.lt_of_le_of_lt (Nat.add_le_add_left (by decide) _) hu
  have hu2 : _ + 65 < cLine := hr.units65
  exact ssj_cons (sj_own (i := 3) nd rfl (.inr rfl) (ej_lst (aj_nil)))
    (ssj_cons (sj_for PassesOwn.never rfl (ij_enum rfl B.b_enumerate (en 0)) (gj_tup (is := [4, 5]) (n := 2) rfl (pgs_cons (pg_name (i := 4) nd rfl (by first | exact .inl rfl | exact .inr rfl)) (pgs_cons (pg_name (i := 5) nd rfl (by first | exact .inl rfl | exact .inr rfl)) (pgs_nil))) rfl rfl) (ssj_cons (sj_setLc (own := [("before", 7)]) (is := [7]) (vs := [7]) rfl nd (i := 6) rfl rfl (sw_true rfl rfl rfl (by decide +kernel)) (ij_rng1 rfl B.b_range (en 4)) (blkOk_by (by kernel_rfl)) (fun _ _ _ _ _ => gj_name (i := 7) nd rfl (by first | exact .inl rfl | exact .inr rfl)) (fun _ _ _ _ _ => tsj_one (tj_lt (ej_ix hu1 (en 0) (en 7)) (en 5))) (fun _ _ _ _ _ => ej_ix hu1 (en 3) (en 7)) rfl (by decide))
    (ssj_one (sj_ex (ej_append (en 3) (aj_cons (ej_if (tj_chain op_le r2_le op_le r2_le (en 1) (en 5) (en 2)) (ej_addU (ej_int) (ej_max rfl B.b_max (aj_cons (ej_addU (en 6) (ej_lst (aj_cons (ej_int) (aj_nil)))) (aj_nil)))) (ej_int)) (aj_nil)))))))
    (ssj_one (sj_ret (en 3))))
theorem sc_longest : FnScope ["visits", "low", "high"] ["visits", "low", "high"] (defScope s_longest) := ⟨rfl, rfl, rfl, by decide +kernel, rfl, by decide +kernel, by decide +kernel⟩
theorem ok_longest (B : En K mg) (G_longest_ends : FnOk P w K mg base CX0 1 B.f_longest_ends B.fd_longest_ends ["visits", "low", "high"] (spP K 3 fn_longest_ends)) : FnOk P w K mg base CX0 2 B.f_longest B.fd_longest ["visits", "low", "high"] (spP K 3 fn_longest) := by
  refine okP (N := ["visits", "low", "high"]) (n := 3) (k := 1) (g := g_longest) B.F_longest sc_longest rfl (by decide) fun cdv A outer s H E hr => ?_
  have nd := sc_longest.nd
  have hu := hr.units
  have hu1 : _ + 1 < cLine := Nat.lt_of_le_of_lt (Nat.add_le_add_left (by decide) _) hu
  have hu2 : _ + 65 < cLine := hr.units65
  exact ssj_one (sj_ret (ej_max rfl B.b_max (aj_cons (ej_addU (ej_callP B.d_longest_ends G_longest_ends (hr.mono (by decide)) fnP_len (aj_cons (en 0) (aj_cons (en 1) (aj_cons (en 2) (aj_nil))))) (ej_lst (aj_cons (ej_int) (aj_nil)))) (aj_nil))))
theorem sc_repetitions : FnScope ["chains", "found"] ["chains"] (defScope s_repetitions) := ⟨rfl, rfl, rfl, by decide +kernel, rfl, by decide +kernel, by decide +kernel⟩
theorem ok_repetitions (B : En K mg) (G_followed : FnOk P w K mg base CX0 3 B.f_followed B.fd_followed ["first", "second"] (spP K 2 fn_followed)) : FnOk P w K mg base CX0 4 B.f_repetitions B.fd_repetitions ["chains"] (spP K 1 fn_repetitions) := by
  refine okP (N := ["chains", "found"]) (n := 1) (k := 3) (g := g_repetitions) B.F_repetitions sc_repetitions rfl (by decide) fun cdv A outer s H E hr => ?_
  have nd := sc_repetitions.nd
  have hu := hr.units
  have hu1 : _ + 1 < cLine := Nat.lt_of_le_of_lt (Nat.add_le_add_left (by decide) _) hu
  have hu2 : _ + 65 < cLine := hr.units65
  exact ssj_cons (sj_own (i := 1) nd rfl (.inl rfl) (ej_lst (aj_cons (ej_tup (aj_nil)) (aj_nil))))
    (ssj_cons (sj_while 1000 PassesOwn.never (tj_ne hu (ej_callP B.d_followed G_followed (hr.mono (by decide)) fnP_len (aj_cons (ej_ix hu1 (en 1) (ej_neg (ej_int))) (aj_cons (en 0) (aj_nil)))) (ej_ix hu1 (en 1) (ej_neg (ej_int)))) (ssj_one (sj_ex (ej_append (en 1) (aj_cons (ej_callP B.d_followed G_followed (hr.mono (by decide)) fnP_len (aj_cons (ej_ix hu1 (en 1) (ej_neg (ej_int))) (aj_cons (en 0) (aj_nil)))) (aj_nil))))))
    (ssj_one (sj_ret (en 1))))
theorem sc_repeated : FnScope ["chains", "many", "found"] ["chains", "many"] (defScope s_repeated) := ⟨rfl, rfl, rfl, by decide +kernel, rfl, by decide +kernel, by decide +kernel⟩
theorem ok_repeated (B : En K mg) (G_repetitions : FnOk P w K mg base CX0 4 B.f_repetitions B.fd_repetitions ["chains"] (spP K 1 fn_repetitions)) : FnOk P w K mg base CX0 5 B.f_repeated B.fd_repeated ["chains", "many"] (spP K 2 fn_repeated) := by
  refine okP (N := ["chains", "many", "found"]) (n := 2) (k := 4) (g := g_repeated) B.F_repeated sc_repeated rfl (by decide) fun cdv A outer s H E hr => ?_
  have nd := sc_repeated.nd
  have hu := hr.units
  have hu1 : _ + 1 < cLine := Nat.lt_of_le_of_lt (Nat.add_le_add_left (by decide) _) hu
  have hu2 : _ + 65 < cLine := hr.units65
  exact ssj_cons (sj_set (i := 2) nd rfl (.inl rfl) (ej_callP B.d_repetitions G_repetitions (hr.mono (by decide)) fnP_len (aj_cons (en 0) (aj_nil))))
    (ssj_one (sj_ret (ej_ix hu1 (en 2) (ej_min rfl B.b_min (aj_cons (en 1) (aj_cons (ej_sub (ej_len B.b_len (aj_cons (en 2) (aj_nil))) (ej_int)) (aj_nil)))))))
theorem sc_settles : FnScope ["chains"] ["chains"] (defScope s_settles) := ⟨rfl, rfl, rfl, by decide +kernel, rfl, by decide +kernel, by decide +kernel⟩
theorem ok_settles (B : En K mg) (G_repetitions : FnOk P w K mg base CX0 4 B.f_repetitions B.fd_repetitions ["chains"] (spP K 1 fn_repetitions)) : FnOk P w K mg base CX0 5 B.f_settles B.fd_settles ["chains"] (spP K 1 fn_settles) := by
  refine okP (N := ["chains"]) (n := 1) (k := 4) (g := g_settles) B.F_settles sc_settles rfl (by decide) fun cdv A outer s H E hr => ?_
  have nd := sc_settles.nd
  have hu := hr.units
  have hu1 : _ + 1 < cLine := Nat.lt_of_le_of_lt (Nat.add_le_add_left (by decide) _) hu
  have hu2 : _ + 65 < cLine := hr.units65
  exact ssj_one (sj_ret (ej_sub (ej_len B.b_len (aj_cons (ej_callP B.d_repetitions G_repetitions (hr.mono (by decide)) fnP_len (aj_cons (en 0) (aj_nil))) (aj_nil))) (ej_int)))
theorem sc_room_after_many : FnScope ["room", "visits", "many"] ["room", "visits", "many"] (defScope s_room_after_many) := ⟨rfl, rfl, rfl, by decide +kernel, rfl, by decide +kernel, by decide +kernel⟩
theorem ok_room_after_many (B : En K mg) (G_chains_of : FnOk P w K mg base CX0 2 B.f_chains_of B.fd_chains_of ["visits"] (spP K 1 fn_chains_of)) (G_repeated : FnOk P w K mg base CX0 5 B.f_repeated B.fd_repeated ["chains", "many"] (spP K 2 fn_repeated)) (G_result : FnOk P w K mg base CX0 2 B.f_result B.fd_result ["chains", "room"] (spP K 2 fn_result)) : FnOk P w K mg base CX0 6 B.f_room_after_many B.fd_room_after_many ["room", "visits", "many"] (spP K 3 fn_room_after_many) := by
  refine okP (N := ["room", "visits", "many"]) (n := 3) (k := 5) (g := g_room_after_many) B.F_room_after_many sc_room_after_many rfl (by decide) fun cdv A outer s H E hr => ?_
  have nd := sc_room_after_many.nd
  have hu := hr.units
  have hu1 : _ + 1 < cLine := Nat.lt_of_le_of_lt (Nat.add_le_add_left (by decide) _) hu
  have hu2 : _ + 65 < cLine := hr.units65
  exact ssj_one (sj_ret (ej_callP B.d_result G_result (hr.mono (by decide)) fnP_len (aj_cons (ej_callP B.d_repeated G_repeated (hr.mono (by decide)) fnP_len (aj_cons (ej_callP B.d_chains_of G_chains_of (hr.mono (by decide)) fnP_len (aj_cons (en 1) (aj_nil))) (aj_cons (en 2) (aj_nil)))) (aj_cons (en 0) (aj_nil)))))
theorem sc_do_same : FnScope ["first", "second"] ["first", "second"] (defScope s_do_same) := ⟨rfl, rfl, rfl, by decide +kernel, rfl, by decide +kernel, by decide +kernel⟩
theorem ok_do_same (B : En K mg) (G_chains_of : FnOk P w K mg base CX0 2 B.f_chains_of B.fd_chains_of ["visits"] (spP K 1 fn_chains_of)) : FnOk P w K mg base CX0 3 B.f_do_same B.fd_do_same ["first", "second"] (spP K 2 fn_do_same) := by
  refine okP (N := ["first", "second"]) (n := 2) (k := 2) (g := g_do_same) B.F_do_same sc_do_same rfl (by decide) fun cdv A outer s H E hr => ?_
  have nd := sc_do_same.nd
  have hu := hr.units
  have hu1 : _ + 1 < cLine := Nat.lt_of_le_of_lt (Nat.add_le_add_left (by decide) _) hu
  have hu2 : _ + 65 < cLine := hr.units65
  exact ssj_one (sj_ret (ej_eq hu (ej_callP B.d_chains_of G_chains_of (hr.mono (by decide)) fnP_len (aj_cons (en 0) (aj_nil))) (ej_callP B.d_chains_of G_chains_of (hr.mono (by decide)) fnP_len (aj_cons (en 1) (aj_nil)))))
theorem sc_difference : FnScope ["first", "second", "mine", "other", "low", "high"] ["first", "second"] (defScope s_difference) := ⟨rfl, rfl, rfl, by decide +kernel, rfl, by decide +kernel, by decide +kernel⟩
theorem ok_difference (B : En K mg) (G_chains_of : FnOk P w K mg base CX0 2 B.f_chains_of B.fd_chains_of ["visits"] (spP K 1 fn_chains_of)) (G_meeting : FnOk P w K mg base CX0 1 B.f_meeting B.fd_meeting ["chains", "low", "high"] (spP K 3 fn_meeting)) : FnOk P w K mg base CX0 3 B.f_difference B.fd_difference ["first", "second"] (spP K 2 fn_difference) := by
  refine okP (N := ["first", "second", "mine", "other", "low", "high"]) (n := 2) (k := 2) (g := g_difference) B.F_difference sc_difference rfl (by decide) fun cdv A outer s H E hr => ?_
  have nd := sc_difference.nd
  have hu := hr.units
  have hu1 : _ + 1 < cLine := Nat.lt_of_le_of_lt (Nat.add_le_add_left (by decide) _) hu
  have hu2 : _ + 65 < cLine := hr.units65
  exact ssj_cons (sj_par (i := 2) (j := 3) (bi := false) (bj := false) rfl nd rfl rfl (by decide) rfl rfl (ajn_cons (ej_callP B.d_chains_of G_chains_of (hr.mono (by decide)) fnP_len (aj_cons (en 0) (aj_nil))) (ajn_cons (ej_callP B.d_chains_of G_chains_of (hr.mono (by decide)) fnP_len (aj_cons (en 1) (aj_nil))) (ajn_nil))) rfl)
    (ssj_cons (sj_for PassesOwn.never rfl (ij_rng2 rfl B.b_range (ej_int) (ej_addU (ej_globI B.g_TOP_RANK) (ej_int))) (gj_name (i := 4) nd rfl (by first | exact .inl rfl | exact .inr rfl)) (ssj_one (sj_for PassesOwn.never rfl (ij_rng2 rfl B.b_range (en 4) (ej_addU (ej_globI B.g_TOP_RANK) (ej_int))) (gj_name (i := 5) nd rfl (by first | exact .inl rfl | exact .inr rfl)) (ssj_one (sj_if (tj_ne hu (ej_callP B.d_meeting G_meeting (hr.mono (by decide)) fnP_len (aj_cons (en 2) (aj_cons (en 4) (aj_cons (en 5) (aj_nil))))) (ej_callP B.d_meeting G_meeting (hr.mono (by decide)) fnP_len (aj_cons (en 3) (aj_cons (en 4) (aj_cons (en 5) (aj_nil)))))) (ssj_one (sj_ret (ej_tup (aj_cons (en 4) (aj_cons (en 5) (aj_nil)))))) (ssj_nil))))))
    (ssj_one (sj_ret (ej_non))))
theorem sc_separating_room : FnScope ["first", "second", "found"] ["first", "second"] (defScope s_separating_room) := ⟨rfl, rfl, rfl, by decide +kernel, rfl, by decide +kernel, by decide +kernel⟩
theorem ok_separating_room (B : En K mg) (G_difference : FnOk P w K mg base CX0 3 B.f_difference B.fd_difference ["first", "second"] (spP K 2 fn_difference)) : FnOk P w K mg base CX0 4 B.f_separating_room B.fd_separating_room ["first", "second"] (spP K 2 fn_separating_room) := by
  refine okP (N := ["first", "second", "found"]) (n := 2) (k := 3) (g := g_separating_room) B.F_separating_room sc_separating_room rfl (by decide) fun cdv A outer s H E hr => ?_
  have nd := sc_separating_room.nd
  have hu := hr.units
  have hu1 : _ + 1 < cLine := Nat.lt_of_le_of_lt (Nat.add_le_add_left (by decide) _) hu
  have hu2 : _ + 65 < cLine := hr.units65
  exact ssj_cons (sj_set (i := 2) nd rfl (.inl rfl) (ej_callP B.d_difference G_difference (hr.mono (by decide)) fnP_len (aj_cons (en 0) (aj_cons (en 1) (aj_nil)))))
    (ssj_one (sj_ret (ej_if (tj_isN (en 2) (ej_non)) (ej_non) (ej_tupRg rfl B.b_tuple B.b_range (ej_int) (ej_ix hu1 (en 2) (ej_int))))))
theorem sc_shows_difference : FnScope ["first", "second", "thing", "low", "high", "rank"] ["first", "second", "thing"] (defScope s_shows_difference) := ⟨rfl, rfl, rfl, by decide +kernel, rfl, by decide +kernel, by decide +kernel⟩
theorem ok_shows_difference (B : En K mg) (G_is_rank : FnOk P w K mg base CX0 2 B.f_is_rank B.fd_is_rank ["size", "thing"] (spP K 2 fn_is_rank)) (G_longest : FnOk P w K mg base CX0 2 B.f_longest B.fd_longest ["visits", "low", "high"] (spP K 3 fn_longest)) : FnOk P w K mg base CX0 3 B.f_shows_difference B.fd_shows_difference ["first", "second", "thing"] (spP K 3 fn_shows_difference) := by
  refine okP (N := ["first", "second", "thing", "low", "high", "rank"]) (n := 3) (k := 2) (g := g_shows_difference) B.F_shows_difference sc_shows_difference rfl (by decide) fun cdv A outer s H E hr => ?_
  have nd := sc_shows_difference.nd
  have hu := hr.units
  have hu1 : _ + 1 < cLine := Nat.lt_of_le_of_lt (Nat.add_le_add_left (by decide) _) hu
  have hu2 : _ + 65 < cLine := hr.units65
  exact ssj_cons (sj_if (tj_w (wj_or (tj_not (tj_val (ej_isi tk_tuple B.b_isinstance B.b_tuple (en 2) (by decide +kernel)))) (wj_or (tj_ne hu (ej_len B.b_len (aj_cons (en 2) (aj_nil))) (ej_int)) (wj_or1 (tj_not (tj_val (ej_all rfl B.b_all (aj_cons (ej_lc (own := [("rank", 5)]) (is := [5]) (vs := [5]) rfl nd (ij_seq (en 2)) (blkOk_by (by kernel_rfl)) (fun _ _ _ _ _ => gj_name (i := 5) nd rfl (by first | exact .inl rfl | exact .inr rfl)) (fun _ _ _ _ _ => tsj_nil) (fun _ _ _ _ _ => ej_callP B.d_is_rank G_is_rank (hr.mono (by decide)) fnP_len (aj_cons (ej_globI B.g_TOP_RANK) (aj_cons (en 5) (aj_nil)))) rfl (by decide)) (aj_nil))))))))) (ssj_one (sj_ret (ej_bl))) (ssj_nil))
    (ssj_cons (sj_unp (en 2) (gj_tup (is := [3, 4]) (n := 2) rfl (pgs_cons (pg_name (i := 3) nd rfl (by first | exact .inl rfl | exact .inr rfl)) (pgs_cons (pg_name (i := 4) nd rfl (by first | exact .inl rfl | exact .inr rfl)) (pgs_nil))) rfl rfl))
    (ssj_one (sj_ret (ej_and (ej_le (en 3) (en 4)) (ej_one (ej_ne hu (ej_callP B.d_longest G_longest (hr.mono (by decide)) fnP_len (aj_cons (en 0) (aj_cons (en 3) (aj_cons (en 4) (aj_nil))))) (ej_callP B.d_longest G_longest (hr.mono (by decide)) fnP_len (aj_cons (en 1) (aj_cons (en 3) (aj_cons (en 4) (aj_nil)))))))))))
theorem sc_all_rooms : FnScope ["size", "found", "rank", "room"] ["size"] (defScope s_all_rooms) := ⟨rfl, rfl, rfl, by decide +kernel, rfl, by decide +kernel, by decide +kernel⟩
theorem ok_all_rooms (B : En K mg) : FnOk P w K mg base CX0 1 B.f_all_rooms B.fd_all_rooms ["size"] (spP K 1 fn_all_rooms) := by
  refine okP (N := ["size", "found", "rank", "room"]) (n := 1) (k := 0) (g := g_all_rooms) B.F_all_rooms sc_all_rooms rfl (by decide) fun cdv A outer s H E hr => ?_
  have nd := sc_all_rooms.nd
  have hu := hr.units
  have hu1 : _ + 1 < cLine := Nat.lt_of_le_of_lt (Nat.add_le_add_left (by decide) _) hu
  have hu2 : _ + 65 < cLine := hr.units65
  exact ssj_cons (sj_set (i := 1) nd rfl (.inl rfl) (ej_lst (aj_cons (ej_tup (aj_nil)) (aj_nil))))
    (ssj_cons (sj_for PassesOwn.never rfl (ij_rng3 rfl B.b_range (en 0) (ej_int) (ej_neg (ej_int))) (gj_name (i := 2) nd rfl (by first | exact .inl rfl | exact .inr rfl)) (ssj_one (sj_set (i := 1) nd rfl (.inl rfl) (ej_addU (ej_addU (ej_lst (aj_cons (ej_tup (aj_nil)) (aj_nil))) (ej_lc (own := [("room", 3)]) (is := [3]) (vs := [3]) rfl nd (ij_seq (en 1)) (blkOk_by (by kernel_rfl)) (fun _ _ _ _ _ => gj_name (i := 3) nd rfl (by first | exact .inl rfl | exact .inr rfl)) (fun _ _ _ _ _ => tsj_nil) (fun _ _ _ _ _ => ej_tup (aj_cons (en 2) (aj_star (en 3) (aj_nil)))) rfl (by decide))) (ej_sl (en 1) (oj_some (ej_int)) (oj_none))))))
    (ssj_one (sj_ret (en 1))))
theorem sc_staying : FnScope ["size", "chains", "room"] ["size", "chains"] (defScope s_staying) := ⟨rfl, rfl, rfl, by decide +kernel, rfl, by decide +kernel, by decide +kernel⟩
theorem ok_staying (B : En K mg) (G_all_rooms : FnOk P w K mg base CX0 1 B.f_all_rooms B.fd_all_rooms ["size"] (spP K 1 fn_all_rooms)) (G_result : FnOk P w K mg base CX0 2 B.f_result B.fd_result ["chains", "room"] (spP K 2 fn_result)) : FnOk P w K mg base CX0 3 B.f_staying B.fd_staying ["size", "chains"] (spP K 2 fn_staying) := by
  refine okP (N := ["size", "chains", "room"]) (n := 2) (k := 2) (g := g_staying) B.F_staying sc_staying rfl (by decide) fun cdv A outer s H E hr => ?_
  have nd := sc_staying.nd
  have hu := hr.units
  have hu1 : _ + 1 < cLine := Nat.lt_of_le_of_lt (Nat.add_le_add_left (by decide) _) hu
  have hu2 : _ + 65 < cLine := hr.units65
  exact ssj_one (sj_ret (ej_lc (own := [("room", 2)]) (is := [2]) (vs := [2]) rfl nd (ij_seq (ej_callP B.d_all_rooms G_all_rooms (hr.mono (by decide)) fnP_len (aj_cons (en 0) (aj_nil)))) (blkOk_by (by kernel_rfl)) (fun _ _ _ _ _ => gj_name (i := 2) nd rfl (by first | exact .inl rfl | exact .inr rfl)) (fun _ _ _ _ _ => tsj_one (tj_eq hu (ej_callP B.d_result G_result (hr.mono (by decide)) fnP_len (aj_cons (en 1) (aj_cons (en 2) (aj_nil)))) (en 2))) (fun _ _ _ _ _ => en 2) rfl (by decide)))
theorem sc__law_box : FnScope ["script", "k", "cell"] ["script", "k"] (defScope s__law_box) := ⟨rfl, rfl, rfl, by decide +kernel, rfl, by decide +kernel, by decide +kernel⟩
theorem ok__law_box (B : En K mg) : FnOk P w K mg base CX0 1 B.f__law_box B.fd__law_box ["script", "k"] (spN K 2 fn__law_box) := by
  refine okN (N := ["script", "k", "cell"]) (n := 2) (k := 0) (g := g__law_box) B.F__law_box sc__law_box rfl (by decide) fun cdv A outer s H E hr => ?_
  have nd := sc__law_box.nd
  have hu := hr.units
  have hu1 : _ + 1 < cLine := Nat.lt_of_le_of_lt (Nat.add_le_add_left (by decide) _) hu
  have hu2 : _ + 65 < cLine := hr.units65
  exact ssj_cons (sj_set (i := 2) nd rfl (.inl rfl) (ej_if (tj_lt (en 1) (ej_len B.b_len (aj_cons (en 0) (aj_nil)))) (ej_ix hu1 (en 0) (en 1)) (ej_int)))
    (ssj_one (sj_ret (ej_lst (aj_cons (ej_mulU (ej_abs B.b_abs (aj_cons (en 2) (aj_nil))) (ej_toInt B.b_int (aj_cons (ej_ge (ej_abs B.b_abs (aj_cons (en 2) (aj_nil))) (ej_pow (ej_int) (ej_int))) (aj_nil)))) (aj_cons (ej_addU (ej_addU (ej_mod (ej_toInt B.b_int (aj_cons (en 2) (aj_nil))) (ej_int)) (ej_mulU (ej_int) (en 1))) (ej_int)) (aj_cons (ej_int) (aj_nil)))))))
theorem sc__law_take : FnScope ["urn", "below", "drawn", "once", "far", "twice"] ["urn", "below"] (defScope s__law_take) := ⟨rfl, rfl, rfl, by decide +kernel, rfl, by decide +kernel, by decide +kernel⟩
theorem ok__law_take (B : En K mg) : FnOk P w K mg base CX0 1 B.f__law_take B.fd__law_take ["urn", "below"] (spU K 2 fn__law_take) := by
  refine okU (N := ["urn", "below", "drawn", "once", "far", "twice"]) (n := 1) (k := 0) (g := g__law_take) B.F__law_take sc__law_take rfl (by decide) fun cdv A outer s H E hr => ?_
  have nd := sc__law_take.nd
  have hu := hr.units
  have hu1 : _ + 1 < cLine := Nat.lt_of_le_of_lt (Nat.add_le_add_left (by decide) _) hu
  have hu2 : _ + 65 < cLine := hr.units65
  exact ssj_cons (sj_if (tj_gt (ej_ix hu1 (en 0) (ej_int)) (ej_int)) (ssj_cons (sj_set (i := 2) nd rfl (.inl rfl) (ej_mod (ej_toInt B.b_int (aj_cons (ej_ix hu1 (en 0) (ej_int)) (aj_nil))) (en 1)))
    (ssj_cons (sj_put hu1 (ej_div (ej_ix hu1 (en 0) (ej_int)) (en 1)) (en 0) (ej_int))
    (ssj_one (sj_ret (en 2))))) (ssj_nil))
    (ssj_cons (sj_put hu1 (ej_addU (ej_ix hu1 (en 0) (ej_int)) (ej_int)) (en 0) (ej_int))
    (ssj_cons (sj_set (i := 3) nd rfl (.inl rfl) (ej_mod (ej_toInt B.b_int (aj_cons (ej_mulU (ej_addU (ej_ix hu1 (en 0) (ej_int)) (ej_mulU (ej_int) (ej_ix hu1 (en 0) (ej_int)))) (ej_addU (ej_int) (ej_ix hu1 (en 0) (ej_int)))) (aj_nil))) (ej_int)))
    (ssj_cons (sj_set (i := 4) nd rfl (.inl rfl) (ej_addU (ej_mod (ej_toInt B.b_int (aj_cons (en 3) (aj_nil))) (ej_int)) (ej_int)))
    (ssj_cons (sj_set (i := 5) nd rfl (.inl rfl) (ej_mod (ej_toInt B.b_int (aj_cons (ej_mulU (ej_addU (ej_addU (en 3) (ej_ix hu1 (en 0) (ej_int))) (ej_div (ej_ix hu1 (en 0) (ej_int)) (ej_int))) (en 4)) (aj_nil))) (ej_int)))
    (ssj_one (sj_ret (ej_mod (ej_toInt B.b_int (aj_cons (ej_div (ej_mod (ej_toInt B.b_int (aj_cons (ej_addU (ej_mulU (en 5) (ej_int)) (en 3)) (aj_nil))) (ej_int)) (ej_int)) (aj_nil))) (en 1))))))))
theorem sc__law_cells : FnScope ["script", "many", "cells", "k", "cell", "at"] ["script", "many"] (defScope s__law_cells) := ⟨rfl, rfl, rfl, by decide +kernel, rfl, by decide +kernel, by decide +kernel⟩
theorem ok__law_cells (B : En K mg) : FnOk P w K mg base CX0 1 B.f__law_cells B.fd__law_cells ["script", "many"] (spCells K) := by
  refine B.F__law_cells.ok sc__law_cells (fun vs H Q E h => ?_) (fun cdv A outer s H vs Q E hr h => ?_)
  · obtain ⟨a, ns, rfl, _⟩ := h
    rfl
  · obtain ⟨a, ns, rfl, hS, hlen, q⟩ := h
    have nd := sc__law_cells.nd
    have hu := hr.units
    have hu1 : _ + 1 < cLine := Nat.lt_of_le_of_lt (Nat.add_le_add_left (by decide) _) hu
    refine ⟨_, pss_cons (ps_set (i := 2) nd rfl (.inl rfl) (pe_orT (pe_callTy call_list_of rfl B.b_list (by decide +kernel) (pa_cons (pe_slice sl_list (pv 0) po_none (po_some (pv 1))) pa_nil)) (pe_one (pe_lst (pa_cons pe_int pa_nil)))))
      (pss_cons (ps_for (g := canG K (hT [3, 4]) [3, 4]) (tb := canS K gCellsB) PassesOwn.never rfl (pi_enum rfl B.b_enumerate (pa_cons (pe_slice sl_list (pv 0) (po_some (pv 1)) (po_some pe_int)) pa_nil))
        (gj_tup (is := [3, 4]) (n := 2) rfl (pgs_cons (pg_name (i := 3) nd rfl (.inl rfl)) (pgs_cons (pg_name (i := 4) nd rfl (.inl rfl)) pgs_nil)) rfl rfl)
        (ssj_cons (sj_set (i := 5) nd rfl (.inl rfl) (ej_mod (ej_toInt B.b_int (aj_cons (en 3) aj_nil)) (ej_len B.b_len (aj_cons (en 2) aj_nil)))) (ssj_one (sj_put hu1 (ej_addU (ej_ix hu1 (en 2) (en 5)) (ej_mulU (en 4) (ej_addU (en 3) ej_int))) (en 2) (en 5)))))
      (pss_one (ps_ret (pv 2)))), ?_⟩
    refine cells_or hS hlen fun p H1 zs kp np hp hz => ?_
    refine cells_for hS hlen kp np hp hz fun σ' H' x zs' e1 e2 e3 e4 e5 => ?_
    exact ⟨.ref x, e1, q x H' zs' e3 e2 e4 e5⟩

theorem sc__law_same : FnScope ["got", "goal", "mine", "own"] ["got", "goal"] (defScope s__law_same) := ⟨rfl, rfl, rfl, by decide +kernel, rfl, by decide +kernel, by decide +kernel⟩
theorem st__law_same (B : En K mg) {k : Nat} {r : Fn} (hlen : ∀ ds d, r ds = some d → ds.length = 2) (G : FnOk P w K mg base CX0 k B.f__law_same B.fd__law_same ["got", "goal"] (spP K 2 r)) : FnOk P w K mg base CX0 (k + 1) B.f__law_same B.fd__law_same ["got", "goal"] (spP K 2 (fnP 4 2 (g__law_same r))) := by
  refine okP (N := ["got", "goal", "mine", "own"]) (n := 2) (k := k) (g := g__law_same r) B.F__law_same sc__law_same rfl (by decide) fun cdv A outer s H E hr => ?_
  have nd := sc__law_same.nd
  have hu := hr.units
  have hu1 : _ + 1 < cLine := Nat.lt_of_le_of_lt (Nat.add_le_add_left (by decide) _) hu
  have hu2 : _ + 65 < cLine := hr.units65
  exact ssj_cons (sj_if (tj_val (ej_isi2 tk_list tk_tuple B.b_isinstance B.b_list B.b_tuple (en 1) (by decide +kernel) (by decide +kernel))) (ssj_cons (sj_if (tj_w (wj_or (tj_ne hu (ej_isi tk_list B.b_isinstance B.b_list (en 0) (by decide +kernel)) (ej_isi tk_list B.b_isinstance B.b_list (en 1) (by decide +kernel))) (wj_or1 (tj_ne hu (ej_isi tk_tuple B.b_isinstance B.b_tuple (en 0) (by decide +kernel)) (ej_isi tk_tuple B.b_isinstance B.b_tuple (en 1) (by decide +kernel)))))) (ssj_one (sj_ret (ej_bl))) (ssj_nil))
    (ssj_one (sj_ret (ej_and (ej_eq hu (ej_len B.b_len (aj_cons (en 0) (aj_nil))) (ej_len B.b_len (aj_cons (en 1) (aj_nil)))) (ej_one (ej_all rfl B.b_all (aj_cons (ej_lc (own := [("mine", 2), ("own", 3)]) (is := [2, 3]) (vs := [2, 3]) rfl nd (ij_zip rfl B.b_zip (en 0) (en 1)) (blkOk_by (by kernel_rfl)) (fun _ _ _ _ _ => gj_tup (is := [2, 3]) (n := 2) rfl (pgs_cons (pg_name (i := 2) nd rfl (by first | exact .inl rfl | exact .inr rfl)) (pgs_cons (pg_name (i := 3) nd rfl (by first | exact .inl rfl | exact .inr rfl)) (pgs_nil))) rfl rfl) (fun _ _ _ _ _ => tsj_nil) (fun _ _ _ _ _ => ej_callP B.d__law_same G hr hlen (aj_cons (en 2) (aj_cons (en 3) (aj_nil)))) rfl (by decide)) (aj_nil)))))))) (ssj_nil))
    (ssj_cons (sj_if (tj_w (wj_or (tj_isN (en 1) (ej_non)) (wj_or1 (tj_val (ej_isi2 tk_bool tk_str B.b_isinstance B.b_bool B.b_str (en 1) (by decide +kernel) (by decide +kernel)))))) (ssj_one (sj_ret (ej_and (ej_eq hu (en 0) (en 1)) (ej_and (ej_eq hu (ej_isi tk_str B.b_isinstance B.b_str (en 0) (by decide +kernel)) (ej_isi tk_str B.b_isinstance B.b_str (en 1) (by decide +kernel))) (ej_and (ej_eq hu (ej_isi tk_bool B.b_isinstance B.b_bool (en 0) (by decide +kernel)) (ej_isi tk_bool B.b_isinstance B.b_bool (en 1) (by decide +kernel))) (ej_one (ej_eq hu (ej_isN (en 0) (ej_non)) (ej_isN (en 1) (ej_non))))))))) (ssj_nil))
    (ssj_one (sj_ret (ej_and (ej_isi tk_int B.b_isinstance B.b_int (en 0) (by decide +kernel)) (ej_and (ej_not (ej_isi tk_bool B.b_isinstance B.b_bool (en 0) (by decide +kernel))) (ej_one (ej_eq hu (en 0) (en 1))))))))
theorem at__law_same (B : En K mg) : ∀ k : Nat, FnOk P w K mg base CX0 (k + 1) B.f__law_same B.fd__law_same ["got", "goal"] (spP K 2 (fa__law_same k))
  | 0 => B.F__law_same.ok sc__law_same (fun vs H Q E h => by obtain ⟨_, _, _, _, _, _, z, _⟩ := h; cases z) (fun cdv A outer s H vs Q E hr h => by obtain ⟨_, _, _, _, _, _, z, _⟩ := h; cases z)
  | k + 1 => st__law_same B (fl__law_same k) (at__law_same B k)
theorem ok__law_same (B : En K mg) : FnOk P w K mg base CX0 9 B.f__law_same B.fd__law_same ["got", "goal"] (spP K 2 fn__law_same) := at__law_same B 8
theorem sc__law_list : FnScope ["urn", "size", "most", "lap"] ["urn", "size", "most"] (defScope s__law_list) := ⟨rfl, rfl, rfl, by decide +kernel, rfl, by decide +kernel, by decide +kernel⟩
theorem ok__law_list (B : En K mg) (G__law_take : FnOk P w K mg base CX0 1 B.f__law_take B.fd__law_take ["urn", "below"] (spU K 2 fn__law_take)) : FnOk P w K mg base CX0 2 B.f__law_list B.fd__law_list ["urn", "size", "most"] (spU K 3 fn__law_list) := by
  refine okU (N := ["urn", "size", "most", "lap"]) (n := 2) (k := 1) (g := g__law_list) B.F__law_list sc__law_list rfl (by decide) fun cdv A outer s H E hr => ?_
  have nd := sc__law_list.nd
  have hu := hr.units
  have hu1 : _ + 1 < cLine := Nat.lt_of_le_of_lt (Nat.add_le_add_left (by decide) _) hu
  have hu2 : _ + 65 < cLine := hr.units65
  exact ssj_one (sj_ret (ej_lc (own := [("lap", 3)]) (is := [3]) (vs := [3]) rfl nd (ij_rng1 rfl B.b_range (ej_callU B.d__law_take G__law_take (hr.mono (by decide)) fnU_len (aj_cons (en 0) (aj_cons (ej_addU (en 2) (ej_int)) (aj_nil))))) (blkOk_by (by kernel_rfl)) (fun _ _ _ _ _ => gj_name (i := 3) nd rfl (by first | exact .inl rfl | exact .inr rfl)) (fun _ _ _ _ _ => tsj_nil) (fun _ _ _ _ _ => ej_addU (ej_int) (ej_callU B.d__law_take G__law_take (hr.mono (by decide)) fnU_len (aj_cons (en 0) (aj_cons (en 1) (aj_nil))))) rfl (by decide)))
theorem sc__law_crowd : FnScope ["urn", "size", "rank"] ["urn", "size"] (defScope s__law_crowd) := ⟨rfl, rfl, rfl, by decide +kernel, rfl, by decide +kernel, by decide +kernel⟩
theorem ok__law_crowd (B : En K mg) (G__law_take : FnOk P w K mg base CX0 1 B.f__law_take B.fd__law_take ["urn", "below"] (spU K 2 fn__law_take)) : FnOk P w K mg base CX0 2 B.f__law_crowd B.fd__law_crowd ["urn", "size"] (spU K 2 fn__law_crowd) := by
  refine okU (N := ["urn", "size", "rank"]) (n := 1) (k := 1) (g := g__law_crowd) B.F__law_crowd sc__law_crowd rfl (by decide) fun cdv A outer s H E hr => ?_
  have nd := sc__law_crowd.nd
  have hu := hr.units
  have hu1 : _ + 1 < cLine := Nat.lt_of_le_of_lt (Nat.add_le_add_left (by decide) _) hu
  have hu2 : _ + 65 < cLine := hr.units65
  exact ssj_one (sj_ret (ej_tuple B.b_tuple (aj_cons (ej_lc (own := [("rank", 2)]) (is := [2]) (vs := [2]) rfl nd (ij_rng2 rfl B.b_range (ej_int) (ej_addU (en 1) (ej_int))) (blkOk_by (by kernel_rfl)) (fun _ _ _ _ _ => gj_name (i := 2) nd rfl (by first | exact .inl rfl | exact .inr rfl)) (fun _ _ _ _ _ => tsj_one (tj_eq hu (ej_callU B.d__law_take G__law_take (hr.mono (by decide)) fnU_len (aj_cons (en 0) (aj_cons (ej_int) (aj_nil)))) (ej_int))) (fun _ _ _ _ _ => en 2) rfl (by decide)) (aj_nil))))
theorem sc__law_come : FnScope ["room", "rank", "above", "gone", "own"] ["room", "rank"] (defScope s__law_come) := ⟨rfl, rfl, rfl, by decide +kernel, rfl, by decide +kernel, by decide +kernel⟩
theorem ok__law_come (B : En K mg) : FnOk P w K mg base CX0 1 B.f__law_come B.fd__law_come ["room", "rank"] (spP K 2 fn__law_come) := by
  refine okP (N := ["room", "rank", "above", "gone", "own"]) (n := 2) (k := 0) (g := g__law_come) B.F__law_come sc__law_come rfl (by decide) fun cdv A outer s H E hr => ?_
  have nd := sc__law_come.nd
  have hu := hr.units
  have hu1 : _ + 1 < cLine := Nat.lt_of_le_of_lt (Nat.add_le_add_left (by decide) _) hu
  have hu2 : _ + 65 < cLine := hr.units65
  exact ssj_cons (sj_setLc (own := [("own", 4)]) (is := [4]) (vs := [4]) rfl nd (i := 2) rfl rfl (sw_true rfl rfl rfl (by decide +kernel)) (ij_seq (en 0)) (blkOk_by (by kernel_rfl)) (fun _ _ _ _ _ => gj_name (i := 4) nd rfl (by first | exact .inl rfl | exact .inr rfl)) (fun _ _ _ _ _ => tsj_one (tj_gt (en 4) (en 1))) (fun _ _ _ _ _ => en 4) rfl (by decide))
    (ssj_cons (sj_set (i := 3) nd rfl (.inr rfl) (ej_if (tj_w (wj_and (tj_notIn hu2 (en 1) (en 0)) (wj_and1 (tj_ne hu (en 2) (ej_lst (aj_nil)))))) (ej_ix hu1 (en 2) (ej_int)) (ej_non)))
    (ssj_one (sj_ret (ej_tuple B.b_tuple (aj_cons (ej_sortSet rfl B.b_sorted B.b_set (ej_addU (ej_lc (own := [("own", 4)]) (is := [4]) (vs := [4]) rfl nd (ij_seq (en 0)) (blkOk_by (by kernel_rfl)) (fun _ _ _ _ _ => gj_name (i := 4) nd rfl (by first | exact .inl rfl | exact .inr rfl)) (fun _ _ _ _ _ => tsj_one (tj_ne hu (en 4) (en 3))) (fun _ _ _ _ _ => en 4) rfl (by decide)) (ej_lst (aj_cons (en 1) (aj_nil))))) (aj_nil))))))
theorem sc__law_led : FnScope ["room", "row", "rank"] ["room", "row"] (defScope s__law_led) := ⟨rfl, rfl, rfl, by decide +kernel, rfl, by decide +kernel, by decide +kernel⟩
theorem ok__law_led (B : En K mg) (G__law_come : FnOk P w K mg base CX0 1 B.f__law_come B.fd__law_come ["room", "rank"] (spP K 2 fn__law_come)) : FnOk P w K mg base CX0 2 B.f__law_led B.fd__law_led ["room", "row"] (spP K 2 fn__law_led) := by
  refine okP (N := ["room", "row", "rank"]) (n := 2) (k := 1) (g := g__law_led) B.F__law_led sc__law_led rfl (by decide) fun cdv A outer s H E hr => ?_
  have nd := sc__law_led.nd
  have hu := hr.units
  have hu1 : _ + 1 < cLine := Nat.lt_of_le_of_lt (Nat.add_le_add_left (by decide) _) hu
  have hu2 : _ + 65 < cLine := hr.units65
  exact ssj_cons (sj_for PassesOwn.never rfl (ij_seq (en 1)) (gj_name (i := 2) nd rfl (by first | exact .inl rfl | exact .inr rfl)) (ssj_one (sj_set (i := 0) nd rfl (.inl rfl) (ej_callP B.d__law_come G__law_come (hr.mono (by decide)) fnP_len (aj_cons (en 0) (aj_cons (en 2) (aj_nil)))))))
    (ssj_one (sj_ret (en 0)))
theorem sc__law_rooms_so : FnScope ["size", "found", "rank", "own"] ["size"] (defScope s__law_rooms_so) := ⟨rfl, rfl, rfl, by decide +kernel, rfl, by decide +kernel, by decide +kernel⟩
theorem ok__law_rooms_so (B : En K mg) : FnOk P w K mg base CX0 1 B.f__law_rooms_so B.fd__law_rooms_so ["size"] (spP K 1 fn__law_rooms_so) := by
  refine okP (N := ["size", "found", "rank", "own"]) (n := 1) (k := 0) (g := g__law_rooms_so) B.F__law_rooms_so sc__law_rooms_so rfl (by decide) fun cdv A outer s H E hr => ?_
  have nd := sc__law_rooms_so.nd
  have hu := hr.units
  have hu1 : _ + 1 < cLine := Nat.lt_of_le_of_lt (Nat.add_le_add_left (by decide) _) hu
  have hu2 : _ + 65 < cLine := hr.units65
  exact ssj_cons (sj_set (i := 1) nd rfl (.inl rfl) (ej_lst (aj_cons (ej_tup (aj_nil)) (aj_nil))))
    (ssj_cons (sj_for PassesOwn.never rfl (ij_rng2 rfl B.b_range (ej_int) (ej_addU (en 0) (ej_int))) (gj_name (i := 2) nd rfl (by first | exact .inl rfl | exact .inr rfl)) (ssj_one (sj_set (i := 1) nd rfl (.inl rfl) (ej_addU (en 1) (ej_lc (own := [("own", 3)]) (is := [3]) (vs := [3]) rfl nd (ij_seq (en 1)) (blkOk_by (by kernel_rfl)) (fun _ _ _ _ _ => gj_name (i := 3) nd rfl (by first | exact .inl rfl | exact .inr rfl)) (fun _ _ _ _ _ => tsj_nil) (fun _ _ _ _ _ => ej_addU (en 3) (ej_tup (aj_cons (en 2) (aj_nil)))) rfl (by decide))))))
    (ssj_one (sj_ret (ej_sortedE hu2 B.b_sorted (aj_cons (en 1) (aj_nil))))))
theorem sc__law_of : FnScope ["urn", "some"] ["urn", "some"] (defScope s__law_of) := ⟨rfl, rfl, rfl, by decide +kernel, rfl, by decide +kernel, by decide +kernel⟩
theorem ok__law_of (B : En K mg) (G__law_take : FnOk P w K mg base CX0 1 B.f__law_take B.fd__law_take ["urn", "below"] (spU K 2 fn__law_take)) : FnOk P w K mg base CX0 2 B.f__law_of B.fd__law_of ["urn", "some"] (spU K 2 fn__law_of) := by
  refine okU (N := ["urn", "some"]) (n := 1) (k := 1) (g := g__law_of) B.F__law_of sc__law_of rfl (by decide) fun cdv A outer s H E hr => ?_
  have nd := sc__law_of.nd
  have hu := hr.units
  have hu1 : _ + 1 < cLine := Nat.lt_of_le_of_lt (Nat.add_le_add_left (by decide) _) hu
  have hu2 : _ + 65 < cLine := hr.units65
  exact ssj_one (sj_ret (ej_ix hu1 (en 1) (ej_callU B.d__law_take G__law_take (hr.mono (by decide)) fnU_len (aj_cons (en 0) (aj_cons (ej_len B.b_len (aj_cons (en 1) (aj_nil))) (aj_nil))))))
theorem sc__law_many : FnScope ["chains", "many", "found", "lap"] ["chains", "many"] (defScope s__law_many) := ⟨rfl, rfl, rfl, by decide +kernel, rfl, by decide +kernel, by decide +kernel⟩
theorem ok__law_many (B : En K mg) (G_followed : FnOk P w K mg base CX0 3 B.f_followed B.fd_followed ["first", "second"] (spP K 2 fn_followed)) : FnOk P w K mg base CX0 4 B.f__law_many B.fd__law_many ["chains", "many"] (spP K 2 fn__law_many) := by
  refine okP (N := ["chains", "many", "found", "lap"]) (n := 2) (k := 3) (g := g__law_many) B.F__law_many sc__law_many rfl (by decide) fun cdv A outer s H E hr => ?_
  have nd := sc__law_many.nd
  have hu := hr.units
  have hu1 : _ + 1 < cLine := Nat.lt_of_le_of_lt (Nat.add_le_add_left (by decide) _) hu
  have hu2 : _ + 65 < cLine := hr.units65
  exact ssj_cons (sj_set (i := 2) nd rfl (.inl rfl) (ej_tup (aj_nil)))
    (ssj_cons (sj_for PassesOwn.never rfl (ij_rng1 rfl B.b_range (en 1)) (gj_name (i := 3) nd rfl (by first | exact .inl rfl | exact .inr rfl)) (ssj_one (sj_set (i := 2) nd rfl (.inl rfl) (ej_callP B.d_followed G_followed (hr.mono (by decide)) fnP_len (aj_cons (en 2) (aj_cons (en 0) (aj_nil)))))))
    (ssj_one (sj_ret (en 2))))
theorem sc__law_least : FnScope ["row", "size", "rooms_so", "level", "many", "later", "room"] ["row", "size"] (defScope s__law_least) := ⟨rfl, rfl, rfl, by decide +kernel, rfl, by decide +kernel, by decide +kernel⟩
theorem ok__law_least (B : En K mg) (G__law_rooms_so : FnOk P w K mg base CX0 1 B.f__law_rooms_so B.fd__law_rooms_so ["size"] (spP K 1 fn__law_rooms_so)) (G__law_led : FnOk P w K mg base CX0 2 B.f__law_led B.fd__law_led ["room", "row"] (spP K 2 fn__law_led)) : FnOk P w K mg base CX0 3 B.f__law_least B.fd__law_least ["row", "size"] (spP K 2 fn__law_least) := by
  refine okP (N := ["row", "size", "rooms_so", "level", "many", "later", "room"]) (n := 2) (k := 2) (g := g__law_least) B.F__law_least sc__law_least rfl (by decide) fun cdv A outer s H E hr => ?_
  have nd := sc__law_least.nd
  have hu := hr.units
  have hu1 : _ + 1 < cLine := Nat.lt_of_le_of_lt (Nat.add_le_add_left (by decide) _) hu
  have hu2 : _ + 65 < cLine := hr.units65
  exact ssj_cons (sj_set (i := 2) nd rfl (.inl rfl) (ej_callP B.d__law_rooms_so G__law_rooms_so (hr.mono (by decide)) fnP_len (aj_cons (en 1) (aj_nil))))
    (ssj_cons (sj_par (i := 3) (j := 4) (bi := false) (bj := false) rfl nd rfl rfl (by decide) rfl rfl (ajn_cons (en 2) (ajn_cons (ej_int) (ajn_nil))) rfl)
    (ssj_cons (sj_while 1000 PassesOwn.never (tj_lt (en 4) (ej_int)) (ssj_cons (sj_setLc (own := [("room", 6)]) (is := [6]) (vs := [6]) rfl nd (i := 5) rfl rfl (sw_true rfl rfl rfl (by decide +kernel)) (ij_seq (en 3)) (blkOk_by (by kernel_rfl)) (fun _ _ _ _ _ => gj_name (i := 6) nd rfl (by first | exact .inl rfl | exact .inr rfl)) (fun _ _ _ _ _ => tsj_nil) (fun _ _ _ _ _ => ej_callP B.d__law_led G__law_led (hr.mono (by decide)) fnP_len (aj_cons (en 6) (aj_cons (en 0) (aj_nil)))) rfl (by decide))
    (ssj_cons (sj_if (tj_eq hu (en 5) (en 3)) (ssj_one (sj_ret (en 4))) (ssj_nil))
    (ssj_one (sj_par (i := 3) (j := 4) (bi := false) (bj := false) rfl nd rfl rfl (by decide) rfl rfl (ajn_cons (en 5) (ajn_cons (ej_addU (en 4) (ej_int)) (ajn_nil))) rfl)))))
    (ssj_one (sj_ret (en 4)))))
theorem sc__law_turns_right : FnScope ["urn", "one", "other", "row", "near", "size", "both", "back", "many", "here", "there", "got", "goal", "rest", "its", "great"] ["urn", "one", "other", "row", "near", "size"] (defScope s__law_turns_right) := ⟨rfl, rfl, rfl, by decide +kernel, rfl, by decide +kernel, by decide +kernel⟩
theorem ok__law_turns_right (B : En K mg) (G_followed : FnOk P w K mg base CX0 3 B.f_followed B.fd_followed ["first", "second"] (spP K 2 fn_followed)) (G_repeated : FnOk P w K mg base CX0 5 B.f_repeated B.fd_repeated ["chains", "many"] (spP K 2 fn_repeated)) (G__law_many : FnOk P w K mg base CX0 4 B.f__law_many B.fd__law_many ["chains", "many"] (spP K 2 fn__law_many)) (G__law_same : FnOk P w K mg base CX0 9 B.f__law_same B.fd__law_same ["got", "goal"] (spP K 2 fn__law_same)) (G_settles : FnOk P w K mg base CX0 5 B.f_settles B.fd_settles ["chains"] (spP K 1 fn_settles)) (G__law_least : FnOk P w K mg base CX0 3 B.f__law_least B.fd__law_least ["row", "size"] (spP K 2 fn__law_least)) (G__law_of : FnOk P w K mg base CX0 2 B.f__law_of B.fd__law_of ["urn", "some"] (spU K 2 fn__law_of)) : FnOk P w K mg base CX0 10 B.f__law_turns_right B.fd__law_turns_right ["urn", "one", "other", "row", "near", "size"] (spU K 6 fn__law_turns_right) := by
  refine okU (N := ["urn", "one", "other", "row", "near", "size", "both", "back", "many", "here", "there", "got", "goal", "rest", "its", "great"]) (n := 5) (k := 9) (g := g__law_turns_right) B.F__law_turns_right sc__law_turns_right rfl (by decide) fun cdv A outer s H E hr => ?_
  have nd := sc__law_turns_right.nd
  have hu := hr.units
  have hu1 : _ + 1 < cLine := Nat.lt_of_le_of_lt (Nat.add_le_add_left (by decide) _) hu
  have hu2 : _ + 65 < cLine := hr.units65
  exact ssj_cons (sj_tup (is := [(6, false), (7, false)]) (n := 2) rfl (pgs_cons (pg_name (i := 6) nd rfl (by first | exact .inl rfl | exact .inr rfl)) (pgs_cons (pg_name (i := 7) nd rfl (by first | exact .inl rfl | exact .inr rfl)) (pgs_nil))) rfl rfl (ajn_cons (ej_callP B.d_followed G_followed (hr.mono (by decide)) fnP_len (aj_cons (en 1) (aj_cons (en 2) (aj_nil)))) (ajn_cons (ej_callP B.d_followed G_followed (hr.mono (by decide)) fnP_len (aj_cons (en 2) (aj_cons (en 1) (aj_nil)))) (ajn_nil))) (by decide))
    (ssj_cons (sj_for PassesOwn.never rfl (ij_seq (ej_lst (aj_cons (ej_int) (aj_cons (ej_int) (aj_cons (ej_int) (aj_cons (ej_int) (aj_cons (ej_int) (aj_cons (ej_int) (aj_nil))))))))) (gj_name (i := 8) nd rfl (by first | exact .inl rfl | exact .inr rfl)) (ssj_cons (sj_par (i := 9) (j := 10) (bi := false) (bj := false) rfl nd rfl rfl (by decide) rfl rfl (ajn_cons (ej_callP B.d_repeated G_repeated (hr.mono (by decide)) fnP_len (aj_cons (en 6) (aj_cons (en 8) (aj_nil)))) (ajn_cons (ej_callP B.d_repeated G_repeated (hr.mono (by decide)) fnP_len (aj_cons (en 7) (aj_cons (en 8) (aj_nil)))) (ajn_nil))) rfl)
    (ssj_cons (sj_set (i := 11) nd rfl (.inl rfl) (ej_lst (aj_cons (en 9) (aj_cons (ej_callP B.d_followed G_followed (hr.mono (by decide)) fnP_len (aj_cons (en 9) (aj_cons (en 1) (aj_nil)))) (aj_cons (ej_callP B.d_repeated G_repeated (hr.mono (by decide)) fnP_len (aj_cons (en 6) (aj_cons (ej_addU (en 8) (ej_int)) (aj_nil)))) (aj_cons (ej_callP B.d_followed G_followed (hr.mono (by decide)) fnP_len (aj_cons (ej_callP B.d_followed G_followed (hr.mono (by decide)) fnP_len (aj_cons (en 2) (aj_cons (en 9) (aj_nil)))) (aj_cons (en 1) (aj_nil)))) (aj_cons (ej_callP B.d_followed G_followed (hr.mono (by decide)) fnP_len (aj_cons (en 2) (aj_cons (en 9) (aj_nil)))) (aj_nil))))))))
    (ssj_cons (sj_set (i := 12) nd rfl (.inl rfl) (ej_lst (aj_cons (ej_callP B.d__law_many G__law_many (hr.mono (by decide)) fnP_len (aj_cons (en 6) (aj_cons (en 8) (aj_nil)))) (aj_cons (ej_callP B.d_followed G_followed (hr.mono (by decide)) fnP_len (aj_cons (en 1) (aj_cons (en 10) (aj_nil)))) (aj_cons (ej_callP B.d_followed G_followed (hr.mono (by decide)) fnP_len (aj_cons (ej_callP B.d_followed G_followed (hr.mono (by decide)) fnP_len (aj_cons (en 1) (aj_cons (en 10) (aj_nil)))) (aj_cons (en 2) (aj_nil)))) (aj_cons (ej_callP B.d_repeated G_repeated (hr.mono (by decide)) fnP_len (aj_cons (en 7) (aj_cons (ej_addU (en 8) (ej_int)) (aj_nil)))) (aj_cons (ej_callP B.d_followed G_followed (hr.mono (by decide)) fnP_len (aj_cons (en 10) (aj_cons (en 2) (aj_nil)))) (aj_nil))))))))
    (ssj_one (sj_if (tj_not (tj_val (ej_callP B.d__law_same G__law_same (hr.mono (by decide)) fnP_len (aj_cons (en 11) (aj_cons (en 12) (aj_nil)))))) (ssj_one (sj_ret (ej_bl))) (ssj_nil)))))))
    (ssj_cons (sj_par (i := 13) (j := 14) (bi := false) (bj := false) rfl nd rfl rfl (by decide) rfl rfl (ajn_cons (ej_callP B.d_settles G_settles (hr.mono (by decide)) fnP_len (aj_cons (en 6) (aj_nil))) (ajn_cons (ej_callP B.d_settles G_settles (hr.mono (by decide)) fnP_len (aj_cons (en 7) (aj_nil))) (ajn_nil))) rfl)
    (ssj_cons (sj_if (tj_w (wj_or (tj_not (tj_chain op_le r2_le op_le r2_le (ej_neg (ej_int)) (ej_sub (en 13) (en 14)) (ej_int))) (wj_or1 (tj_not (tj_val (ej_callP B.d__law_same G__law_same (hr.mono (by decide)) fnP_len (aj_cons (ej_lst (aj_cons (en 13) (aj_cons (en 14) (aj_nil)))) (aj_cons (ej_lst (aj_cons (ej_callP B.d__law_least G__law_least (hr.mono (by decide)) fnP_len (aj_cons (ej_addU (en 3) (en 4)) (aj_cons (en 5) (aj_nil)))) (aj_cons (ej_callP B.d__law_least G__law_least (hr.mono (by decide)) fnP_len (aj_cons (ej_addU (en 4) (en 3)) (aj_cons (en 5) (aj_nil)))) (aj_nil)))) (aj_nil))))))))) (ssj_one (sj_ret (ej_bl))) (ssj_nil))
    (ssj_cons (sj_set (i := 15) nd rfl (.inl rfl) (ej_lst (aj_cons (ej_callU B.d__law_of G__law_of (hr.mono (by decide)) fnU_len (aj_cons (en 0) (aj_cons (ej_lst (aj_cons (ej_int) (aj_cons (ej_int) (aj_cons (ej_int) (aj_nil))))) (aj_nil)))) (aj_cons (ej_pow (ej_int) (ej_int)) (aj_nil)))))
    (ssj_one (sj_ret (ej_and (ej_callP B.d__law_same G__law_same (hr.mono (by decide)) fnP_len (aj_cons (ej_lc (own := [("many", 8)]) (is := [8]) (vs := [8]) rfl nd (ij_seq (en 15)) (blkOk_by (by kernel_rfl)) (fun _ _ _ _ _ => gj_name (i := 8) nd rfl (by first | exact .inl rfl | exact .inr rfl)) (fun _ _ _ _ _ => tsj_nil) (fun _ _ _ _ _ => ej_callP B.d_repeated G_repeated (hr.mono (by decide)) fnP_len (aj_cons (en 6) (aj_cons (en 8) (aj_nil)))) rfl (by decide)) (aj_cons (ej_mulU (ej_lst (aj_cons (ej_callP B.d_repeated G_repeated (hr.mono (by decide)) fnP_len (aj_cons (en 6) (aj_cons (en 13) (aj_nil)))) (aj_nil))) (ej_int)) (aj_nil)))) (ej_one (ej_eq hu (ej_callP B.d_repeated G_repeated (hr.mono (by decide)) fnP_len (aj_cons (en 6) (aj_cons (ej_addU (en 13) (ej_int)) (aj_nil)))) (ej_callP B.d_repeated G_repeated (hr.mono (by decide)) fnP_len (aj_cons (en 7) (aj_cons (ej_addU (en 14) (ej_int)) (aj_nil)))))))))))))
theorem sc_law : FnScope ["script", "urn", "size", "row", "near", "room", "one", "other", "rooms_so", "alike", "many", "low", "high", "parted", "got", "goal", "now", "lap", "far", "own"] ["script"] (defScope s_law) := ⟨rfl, rfl, rfl, by decide +kernel, rfl, by decide +kernel, by decide +kernel⟩
theorem ok_law (hlaw : lawOk) (B : En K mg) (G__law_take : FnOk P w K mg base CX0 1 B.f__law_take B.fd__law_take ["urn", "below"] (spU K 2 fn__law_take)) (G__law_crowd : FnOk P w K mg base CX0 2 B.f__law_crowd B.fd__law_crowd ["urn", "size"] (spU K 2 fn__law_crowd)) (G__law_list : FnOk P w K mg base CX0 2 B.f__law_list B.fd__law_list ["urn", "size", "most"] (spU K 3 fn__law_list)) (G__law_of : FnOk P w K mg base CX0 2 B.f__law_of B.fd__law_of ["urn", "some"] (spU K 2 fn__law_of)) (G_chains_of : FnOk P w K mg base CX0 2 B.f_chains_of B.fd_chains_of ["visits"] (spP K 1 fn_chains_of)) (G__law_turns_right : FnOk P w K mg base CX0 10 B.f__law_turns_right B.fd__law_turns_right ["urn", "one", "other", "row", "near", "size"] (spU K 6 fn__law_turns_right)) (G__law_rooms_so : FnOk P w K mg base CX0 1 B.f__law_rooms_so B.fd__law_rooms_so ["size"] (spP K 1 fn__law_rooms_so)) (G__law_led : FnOk P w K mg base CX0 2 B.f__law_led B.fd__law_led ["room", "row"] (spP K 2 fn__law_led)) (G_difference : FnOk P w K mg base CX0 3 B.f_difference B.fd_difference ["first", "second"] (spP K 2 fn_difference)) (G_do_same : FnOk P w K mg base CX0 3 B.f_do_same B.fd_do_same ["first", "second"] (spP K 2 fn_do_same)) (G_followed : FnOk P w K mg base CX0 3 B.f_followed B.fd_followed ["first", "second"] (spP K 2 fn_followed)) (G__law_same : FnOk P w K mg base CX0 9 B.f__law_same B.fd__law_same ["got", "goal"] (spP K 2 fn__law_same)) (G_repeated : FnOk P w K mg base CX0 5 B.f_repeated B.fd_repeated ["chains", "many"] (spP K 2 fn_repeated)) (G_separating_room : FnOk P w K mg base CX0 4 B.f_separating_room B.fd_separating_room ["first", "second"] (spP K 2 fn_separating_room)) (G_shows_difference : FnOk P w K mg base CX0 3 B.f_shows_difference B.fd_shows_difference ["first", "second", "thing"] (spP K 3 fn_shows_difference)) (G_result : FnOk P w K mg base CX0 2 B.f_result B.fd_result ["chains", "room"] (spP K 2 fn_result)) (G_room_after_many : FnOk P w K mg base CX0 6 B.f_room_after_many B.fd_room_after_many ["room", "visits", "many"] (spP K 3 fn_room_after_many)) (G_staying : FnOk P w K mg base CX0 3 B.f_staying B.fd_staying ["size", "chains"] (spP K 2 fn_staying)) (G_room_after : FnOk P w K mg base CX0 4 B.f_room_after B.fd_room_after ["room", "visits"] (spP K 2 fn_room_after)) (G__law_box : FnOk P w K mg base CX0 1 B.f__law_box B.fd__law_box ["script", "k"] (spN K 2 fn__law_box)) (G__law_cells : FnOk P w K mg base CX0 1 B.f__law_cells B.fd__law_cells ["script", "many"] (spCells K)) : FnOk P w K mg base CX0 11 B.f_law B.fd_law ["script"] (spLaw K) := by
  refine B.F_law.ok sc_law (fun vs H Q E h => ?_) (fun cdv A outer s H vs Q E hr h => ?_)
  · obtain ⟨a, ns, rfl, _⟩ := h
    rfl
  obtain ⟨a, ns, rfl, hS, hlen, q⟩ := h
  have nd := sc_law.nd
  have hu := hr.units
  have hu1 : _ + 1 < cLine := Nat.lt_of_le_of_lt (Nat.add_le_add_left (by decide) _) hu
  have hu2 : _ + 65 < cLine := hr.units65
  refine ⟨_, pss_cons (ps_set (i := 1) nd rfl (by first | exact .inl rfl | exact .inr rfl) (pe_call (E := E0) G__law_box (hr.mono (by decide)) (by rfl) B.d__law_box.gm B.d__law_box.kp B.d__law_box.bi .nil pass0 (pa_cons (pe_call (E := E0) G__law_cells (hr.mono (by decide)) (by rfl) B.d__law_cells.gm B.d__law_cells.kp B.d__law_cells.bi .nil pass0 (pa_cons (pv 0) (pa_cons pe_int pa_nil))) (pa_cons pe_int pa_nil)))) (SsJ_run (g := g_law) (ssj_cons (sj_set (i := 2) nd rfl (.inl rfl) (ej_addU (ej_int) (ej_callU B.d__law_take G__law_take (hr.mono (by decide)) fnU_len (aj_cons (en 1) (aj_cons (ej_int) (aj_nil))))))
    (ssj_cons (sj_tup (is := [(3, false), (4, false), (5, false)]) (n := 3) rfl (pgs_cons (pg_name (i := 3) nd rfl (by first | exact .inl rfl | exact .inr rfl)) (pgs_cons (pg_name (i := 4) nd rfl (by first | exact .inl rfl | exact .inr rfl)) (pgs_cons (pg_name (i := 5) nd rfl (by first | exact .inl rfl | exact .inr rfl)) (pgs_nil)))) rfl rfl (ajn_cons (ej_callU B.d__law_list G__law_list (hr.mono (by decide)) fnU_len (aj_cons (en 1) (aj_cons (en 2) (aj_cons (ej_int) (aj_nil))))) (ajn_cons (ej_callU B.d__law_list G__law_list (hr.mono (by decide)) fnU_len (aj_cons (en 1) (aj_cons (en 2) (aj_cons (ej_int) (aj_nil))))) (ajn_cons (ej_callU B.d__law_crowd G__law_crowd (hr.mono (by decide)) fnU_len (aj_cons (en 1) (aj_cons (en 2) (aj_nil)))) (ajn_nil)))) (by decide))
    (ssj_cons (sj_if (tj_eq hu (ej_callU B.d__law_take G__law_take (hr.mono (by decide)) fnU_len (aj_cons (en 1) (aj_cons (ej_int) (aj_nil)))) (ej_int)) (ssj_one (sj_set (i := 4) nd rfl (.inr rfl) (ej_callU B.d__law_of G__law_of (hr.mono (by decide)) fnU_len (aj_cons (en 1) (aj_cons (ej_lst (aj_cons (en 3) (aj_cons (ej_addU (en 3) (en 3)) (aj_cons (ej_sl (en 3) (oj_none) (oj_some (ej_int))) (aj_cons (ej_lst (aj_nil)) (aj_cons (ej_sortSet rfl B.b_sorted B.b_set (en 3)) (aj_cons (ej_mulU (en 3) (ej_int)) (aj_nil)))))))) (aj_nil)))))) (ssj_nil))
    (ssj_cons (sj_par (i := 6) (j := 7) (bi := false) (bj := false) rfl nd rfl rfl (by decide) rfl rfl (ajn_cons (ej_callP B.d_chains_of G_chains_of (hr.mono (by decide)) fnP_len (aj_cons (en 3) (aj_nil))) (ajn_cons (ej_callP B.d_chains_of G_chains_of (hr.mono (by decide)) fnP_len (aj_cons (en 4) (aj_nil))) (ajn_nil))) rfl)
    (ssj_cons (sj_if (tj_not (tj_val (ej_callU B.d__law_turns_right G__law_turns_right (hr.mono (by decide)) fnU_len (aj_cons (en 1) (aj_cons (en 6) (aj_cons (en 7) (aj_cons (en 3) (aj_cons (en 4) (aj_cons (en 2) (aj_nil)))))))))) (ssj_one (sj_ret (ej_bl))) (ssj_nil))
    (ssj_cons (sj_set (i := 8) nd rfl (.inl rfl) (ej_callP B.d__law_rooms_so G__law_rooms_so (hr.mono (by decide)) fnP_len (aj_cons (en 2) (aj_nil))))
    (ssj_cons (sj_set (i := 9) nd rfl (.inl rfl) (ej_eq hu (ej_lc (own := [("own", 19)]) (is := [19]) (vs := [19]) rfl nd (ij_seq (en 8)) (blkOk_by (by kernel_rfl)) (fun _ _ _ _ _ => gj_name (i := 19) nd rfl (by first | exact .inl rfl | exact .inr rfl)) (fun _ _ _ _ _ => tsj_nil) (fun _ _ _ _ _ => ej_callP B.d__law_led G__law_led (hr.mono (by decide)) fnP_len (aj_cons (en 19) (aj_cons (ej_addU (en 3) (en 4)) (aj_nil)))) rfl (by decide)) (ej_lc (own := [("own", 19)]) (is := [19]) (vs := [19]) rfl nd (ij_seq (en 8)) (blkOk_by (by kernel_rfl)) (fun _ _ _ _ _ => gj_name (i := 19) nd rfl (by first | exact .inl rfl | exact .inr rfl)) (fun _ _ _ _ _ => tsj_nil) (fun _ _ _ _ _ => ej_callP B.d__law_led G__law_led (hr.mono (by decide)) fnP_len (aj_cons (en 19) (aj_cons (ej_addU (en 4) (en 3)) (aj_nil)))) rfl (by decide))))
    (ssj_cons (sj_if (tj_not (tj_val (ej_callP B.d__law_same G__law_same (hr.mono (by decide)) fnP_len (aj_cons (ej_lst (aj_cons (ej_eq hu (ej_callP B.d_followed G_followed (hr.mono (by decide)) fnP_len (aj_cons (en 6) (aj_cons (en 7) (aj_nil)))) (ej_callP B.d_followed G_followed (hr.mono (by decide)) fnP_len (aj_cons (en 7) (aj_cons (en 6) (aj_nil))))) (aj_cons (ej_callP B.d_do_same G_do_same (hr.mono (by decide)) fnP_len (aj_cons (ej_addU (en 3) (en 4)) (aj_cons (ej_addU (en 4) (en 3)) (aj_nil)))) (aj_cons (ej_isN (ej_callP B.d_difference G_difference (hr.mono (by decide)) fnP_len (aj_cons (ej_addU (en 3) (en 4)) (aj_cons (ej_addU (en 4) (en 3)) (aj_nil)))) (ej_non)) (aj_nil))))) (aj_cons (ej_mulU (ej_lst (aj_cons (en 9) (aj_nil))) (ej_int)) (aj_nil)))))) (ssj_one (sj_ret (ej_bl))) (ssj_nil))
    (ssj_cons (sj_set (i := 10) nd rfl (.inl rfl) (ej_callU B.d__law_take G__law_take (hr.mono (by decide)) fnU_len (aj_cons (en 1) (aj_cons (ej_int) (aj_nil)))))
    (ssj_cons (sj_if (tj_val (en 9)) (ssj_one (sj_if (tj_not (tj_val (ej_callP B.d__law_same G__law_same (hr.mono (by decide)) fnP_len (aj_cons (ej_callP B.d_repeated G_repeated (hr.mono (by decide)) fnP_len (aj_cons (ej_callP B.d_followed G_followed (hr.mono (by decide)) fnP_len (aj_cons (en 6) (aj_cons (en 7) (aj_nil)))) (aj_cons (en 10) (aj_nil)))) (aj_cons (ej_callP B.d_followed G_followed (hr.mono (by decide)) fnP_len (aj_cons (ej_callP B.d_repeated G_repeated (hr.mono (by decide)) fnP_len (aj_cons (en 6) (aj_cons (en 10) (aj_nil)))) (aj_cons (ej_callP B.d_repeated G_repeated (hr.mono (by decide)) fnP_len (aj_cons (en 7) (aj_cons (en 10) (aj_nil)))) (aj_nil)))) (aj_nil)))))) (ssj_one (sj_ret (ej_bl))) (ssj_nil))) (ssj_cons (sj_unp (ej_callP B.d_difference G_difference (hr.mono (by decide)) fnP_len (aj_cons (ej_addU (en 3) (en 4)) (aj_cons (ej_addU (en 4) (en 3)) (aj_nil)))) (gj_tup (is := [11, 12]) (n := 2) rfl (pgs_cons (pg_name (i := 11) nd rfl (by first | exact .inl rfl | exact .inr rfl)) (pgs_cons (pg_name (i := 12) nd rfl (by first | exact .inl rfl | exact .inr rfl)) (pgs_nil))) rfl rfl))
    (ssj_cons (sj_set (i := 13) nd rfl (.inl rfl) (ej_callP B.d_separating_room G_separating_room (hr.mono (by decide)) fnP_len (aj_cons (ej_addU (en 3) (en 4)) (aj_cons (ej_addU (en 4) (en 3)) (aj_nil)))))
    (ssj_cons (sj_if (tj_w (wj_or (tj_notB (ej_callP B.d_shows_difference G_shows_difference (hr.mono (by decide)) fnP_len (aj_cons (ej_addU (en 4) (en 3)) (aj_cons (ej_addU (en 3) (en 4)) (aj_cons (ej_tup (aj_cons (en 11) (aj_cons (en 12) (aj_nil)))) (aj_nil))))) (ej_bl)) (wj_or1 (tj_eq hu (ej_callP B.d__law_led G__law_led (hr.mono (by decide)) fnP_len (aj_cons (en 13) (aj_cons (ej_addU (en 3) (en 4)) (aj_nil)))) (ej_callP B.d__law_led G__law_led (hr.mono (by decide)) fnP_len (aj_cons (en 13) (aj_cons (ej_addU (en 4) (en 3)) (aj_nil)))))))) (ssj_one (sj_ret (ej_bl))) (ssj_nil))
    (ssj_one (sj_if (tj_eq hu (ej_callP B.d_result G_result (hr.mono (by decide)) fnP_len (aj_cons (ej_callP B.d_followed G_followed (hr.mono (by decide)) fnP_len (aj_cons (en 6) (aj_cons (en 7) (aj_nil)))) (aj_cons (en 13) (aj_nil)))) (ej_callP B.d_result G_result (hr.mono (by decide)) fnP_len (aj_cons (ej_callP B.d_followed G_followed (hr.mono (by decide)) fnP_len (aj_cons (en 7) (aj_cons (en 6) (aj_nil)))) (aj_cons (en 13) (aj_nil))))) (ssj_one (sj_ret (ej_bl))) (ssj_nil)))))))
    (ssj_cons (sj_par3 (i := 14) (j := 15) (l := 16) (bi := false) (bj := false) (bl := false) rfl nd rfl rfl rfl (by decide) (by decide) (by decide) rfl rfl rfl (ajn_cons (ej_lst (aj_nil)) (ajn_cons (ej_lst (aj_nil)) (ajn_cons (en 5) (ajn_nil)))) rfl)
    (ssj_cons (sj_for PassesOwn.never rfl (ij_rng1 rfl B.b_range (ej_addU (en 10) (ej_int))) (gj_name (i := 17) nd rfl (by first | exact .inl rfl | exact .inr rfl)) (ssj_cons (sj_set (i := 14) nd rfl (.inl rfl) (ej_addU (en 14) (ej_lst (aj_cons (ej_callP B.d_room_after_many G_room_after_many (hr.mono (by decide)) fnP_len (aj_cons (en 5) (aj_cons (ej_addU (en 3) (en 4)) (aj_cons (en 17) (aj_nil))))) (aj_cons (ej_callP B.d_result G_result (hr.mono (by decide)) fnP_len (aj_cons (ej_callP B.d_repeated G_repeated (hr.mono (by decide)) fnP_len (aj_cons (ej_callP B.d_followed G_followed (hr.mono (by decide)) fnP_len (aj_cons (en 6) (aj_cons (en 7) (aj_nil)))) (aj_cons (en 17) (aj_nil)))) (aj_cons (en 5) (aj_nil)))) (aj_nil))))))
    (ssj_cons (sj_set (i := 15) nd rfl (.inl rfl) (ej_addU (en 15) (ej_lst (aj_cons (en 16) (aj_cons (en 16) (aj_nil))))))
    (ssj_one (sj_set (i := 16) nd rfl (.inl rfl) (ej_callP B.d__law_led G__law_led (hr.mono (by decide)) fnP_len (aj_cons (en 16) (aj_cons (ej_addU (en 3) (en 4)) (aj_nil)))))))))
    (ssj_cons (sj_set (i := 18) nd rfl (.inl rfl) (en 5))
    (ssj_cons (sj_for PassesOwn.never rfl (ij_rng1 rfl B.b_range (ej_int)) (gj_name (i := 17) nd rfl (by first | exact .inl rfl | exact .inr rfl)) (ssj_one (sj_set (i := 18) nd rfl (.inl rfl) (ej_callP B.d__law_led G__law_led (hr.mono (by decide)) fnP_len (aj_cons (en 18) (aj_cons (ej_addU (en 3) (en 4)) (aj_nil)))))))
    (ssj_cons (sj_set (i := 14) nd rfl (.inl rfl) (ej_addU (en 14) (ej_lst (aj_cons (ej_callP B.d_room_after_many G_room_after_many (hr.mono (by decide)) fnP_len (aj_cons (en 5) (aj_cons (ej_addU (en 3) (en 4)) (aj_cons (ej_pow (ej_int) (ej_int)) (aj_nil))))) (aj_cons (ej_callP B.d_room_after G_room_after (hr.mono (by decide)) fnP_len (aj_cons (en 18) (aj_cons (en 4) (aj_nil)))) (aj_cons (ej_in hu2 (en 18) (ej_callP B.d_staying G_staying (hr.mono (by decide)) fnP_len (aj_cons (en 2) (aj_cons (ej_callP B.d_followed G_followed (hr.mono (by decide)) fnP_len (aj_cons (en 7) (aj_cons (en 6) (aj_nil)))) (aj_nil))))) (aj_nil)))))))
    (ssj_one (sj_ret (ej_callP B.d__law_same G__law_same (hr.mono (by decide)) fnP_len (aj_cons (en 14) (aj_cons (ej_addU (en 15) (ej_lst (aj_cons (en 18) (aj_cons (en 18) (aj_cons (ej_bl) (aj_nil)))))) (aj_nil)))))))))))))))))))))), ?_⟩
  refine law_urn rfl hS hlen fun zs hz => ?_
  obtain ⟨urn, h1, h2⟩ := hlaw zs hz
  exact ⟨urn, h1, fun u F2 H2 s2 nF t => law_rest (N := ["script", "urn", "size", "row", "near", "room", "one", "other", "rooms_so", "alike", "many", "low", "high", "parted", "got", "goal", "now", "lap", "far", "own"]) (by decide) s2 nF t h2 q rfl⟩
end
set_option maxHeartbeats 0 in
theorem all_mk (hlaw : lawOk) {l : PySem.W.OpenLaw} {w : World} {K : PySem.W.Frag} {h : Heap} {mg : Str → Option Value} {fa f1 f2 f3 f4 f5 f6 f7 f8 f9 f10 f11 f12 f13 f14 f15 f16 f17 f18 f19 f20 f21 f22 f23 f24 f25 f26 f27 f28 f29 f30 f31 f32 f33 f34 f35 f36 f37 f38 f39 f40 f41 f42 : Addr} (X : K.In h) (G : h.Ns mainGlobals mg) (hfa : mg "law" = some (.ref fa))
    {od1 an1 od2 an2 od3 an3 od4 an4 od5 an5 od6 an6 od7 an7 od8 an8 od9 an9 od10 an10 od11 an11 od12 an12 od13 an13 od14 an14 od15 an15 od16 an16 od17 an17 od18 an18 od19 an19 od20 an20 od21 an21 od22 an22 od23 an23 od24 an24 od25 an25 od26 an26 od27 an27 od28 an28 od29 an29 od30 an30 od31 an31 od32 an32 od33 an33 od34 an34 od35 an35 od36 an36 od37 an37 od38 an38 od39 an39 od40 an40 od41 an41 od42 an42 : Option Addr} {sl1 sl2 sl3 sl4 sl5 sl6 sl7 sl8 sl9 sl10 sl11 sl12 sl13 sl14 sl15 sl16 sl17 sl18 sl19 sl20 sl21 sl22 sl23 sl24 sl25 sl26 sl27 sl28 sl29 sl30 sl31 sl32 sl33 sl34 sl35 sl36 sl37 sl38 sl39 sl40 sl41 sl42 : Array (Option Value)} {oc1 kV1 dc1 pm1 cd1 ct1 oc2 kV2 dc2 pm2 cd2 ct2 oc3 kV3 dc3 pm3 cd3 ct3 oc4 kV4 dc4 pm4 cd4 ct4 oc5 kV5 dc5 pm5 cd5 ct5 oc6 kV6 dc6 pm6 cd6 ct6 oc7 kV7 dc7 pm7 cd7 ct7 oc8 kV8 dc8 pm8 cd8 ct8 oc9 kV9 dc9 pm9 cd9 ct9 oc10 kV10 dc10 pm10 cd10 ct10 oc11 kV11 dc11 pm11 cd11 ct11 oc12 kV12 dc12 pm12 cd12 ct12 oc13 kV13 dc13 pm13 cd13 ct13 oc14 kV14 dc14 pm14 cd14 ct14 oc15 kV15 dc15 pm15 cd15 ct15 oc16 kV16 dc16 pm16 cd16 ct16 oc17 kV17 dc17 pm17 cd17 ct17 oc18 kV18 dc18 pm18 cd18 ct18 oc19 kV19 dc19 pm19 cd19 ct19 oc20 kV20 dc20 pm20 cd20 ct20 oc21 kV21 dc21 pm21 cd21 ct21 oc22 kV22 dc22 pm22 cd22 ct22 oc23 kV23 dc23 pm23 cd23 ct23 oc24 kV24 dc24 pm24 cd24 ct24 oc25 kV25 dc25 pm25 cd25 ct25 oc26 kV26 dc26 pm26 cd26 ct26 oc27 kV27 dc27 pm27 cd27 ct27 oc28 kV28 dc28 pm28 cd28 ct28 oc29 kV29 dc29 pm29 cd29 ct29 oc30 kV30 dc30 pm30 cd30 ct30 oc31 kV31 dc31 pm31 cd31 ct31 oc32 kV32 dc32 pm32 cd32 ct32 oc33 kV33 dc33 pm33 cd33 ct33 oc34 kV34 dc34 pm34 cd34 ct34 oc35 kV35 dc35 pm35 cd35 ct35 oc36 kV36 dc36 pm36 cd36 ct36 oc37 kV37 dc37 pm37 cd37 ct37 oc38 kV38 dc38 pm38 cd38 ct38 oc39 kV39 dc39 pm39 cd39 ct39 oc40 kV40 dc40 pm40 cd40 ct40 oc41 kV41 dc41 pm41 cd41 ct41 oc42 kV42 dc42 pm42 cd42 ct42 : Value}
    (a1 : PySem.W.nsIn K mainGlobals "links_of" = some (some (.ref f1))) (l1 : K.lookup f1 = some ⟨oc1, od1, .func (PySem.W.fnOf "links_of" "links_of" (defArgs s_links_of) (defBody s_links_of) (defScope s_links_of) .none kV1 dc1 pm1 an1 cd1 ct1), sl1⟩) (c1 : PySem.W.codeIn K cd1 "links_of" = true) (k1 : PySem.W.keepIn K (.ref f1) = true)
    (a2 : PySem.W.nsIn K mainGlobals "chains_from_links" = some (some (.ref f2))) (l2 : K.lookup f2 = some ⟨oc2, od2, .func (PySem.W.fnOf "chains_from_links" "chains_from_links" (defArgs s_chains_from_links) (defBody s_chains_from_links) (defScope s_chains_from_links) .none kV2 dc2 pm2 an2 cd2 ct2), sl2⟩) (c2 : PySem.W.codeIn K cd2 "chains_from_links" = true) (k2 : PySem.W.keepIn K (.ref f2) = true)
    (a3 : PySem.W.nsIn K mainGlobals "linked_visit" = some (some (.ref f3))) (l3 : K.lookup f3 = some ⟨oc3, od3, .func (PySem.W.fnOf "linked_visit" "linked_visit" (defArgs s_linked_visit) (defBody s_linked_visit) (defScope s_linked_visit) .none kV3 dc3 pm3 an3 cd3 ct3), sl3⟩) (c3 : PySem.W.codeIn K cd3 "linked_visit" = true) (k3 : PySem.W.keepIn K (.ref f3) = true)
    (a4 : PySem.W.nsIn K mainGlobals "is_integer" = some (some (.ref f4))) (l4 : K.lookup f4 = some ⟨oc4, od4, .func (PySem.W.fnOf "is_integer" "is_integer" (defArgs s_is_integer) (defBody s_is_integer) (defScope s_is_integer) .none kV4 dc4 pm4 an4 cd4 ct4), sl4⟩) (c4 : PySem.W.codeIn K cd4 "is_integer" = true) (k4 : PySem.W.keepIn K (.ref f4) = true)
    (a5 : PySem.W.nsIn K mainGlobals "is_rank" = some (some (.ref f5))) (l5 : K.lookup f5 = some ⟨oc5, od5, .func (PySem.W.fnOf "is_rank" "is_rank" (defArgs s_is_rank) (defBody s_is_rank) (defScope s_is_rank) .none kV5 dc5 pm5 an5 cd5 ct5), sl5⟩) (c5 : PySem.W.codeIn K cd5 "is_rank" = true) (k5 : PySem.W.keepIn K (.ref f5) = true)
    (a6 : PySem.W.nsIn K mainGlobals "leaver" = some (some (.ref f6))) (l6 : K.lookup f6 = some ⟨oc6, od6, .func (PySem.W.fnOf "leaver" "leaver" (defArgs s_leaver) (defBody s_leaver) (defScope s_leaver) .none kV6 dc6 pm6 an6 cd6 ct6), sl6⟩) (c6 : PySem.W.codeIn K cd6 "leaver" = true) (k6 : PySem.W.keepIn K (.ref f6) = true)
    (a7 : PySem.W.nsIn K mainGlobals "entered" = some (some (.ref f7))) (l7 : K.lookup f7 = some ⟨oc7, od7, .func (PySem.W.fnOf "entered" "entered" (defArgs s_entered) (defBody s_entered) (defScope s_entered) .none kV7 dc7 pm7 an7 cd7 ct7), sl7⟩) (c7 : PySem.W.codeIn K cd7 "entered" = true) (k7 : PySem.W.keepIn K (.ref f7) = true)
    (a8 : PySem.W.nsIn K mainGlobals "rooms_along" = some (some (.ref f8))) (l8 : K.lookup f8 = some ⟨oc8, od8, .func (PySem.W.fnOf "rooms_along" "rooms_along" (defArgs s_rooms_along) (defBody s_rooms_along) (defScope s_rooms_along) .none kV8 dc8 pm8 an8 cd8 ct8), sl8⟩) (c8 : PySem.W.codeIn K cd8 "rooms_along" = true) (k8 : PySem.W.keepIn K (.ref f8) = true)
    (a9 : PySem.W.nsIn K mainGlobals "room_after" = some (some (.ref f9))) (l9 : K.lookup f9 = some ⟨oc9, od9, .func (PySem.W.fnOf "room_after" "room_after" (defArgs s_room_after) (defBody s_room_after) (defScope s_room_after) .none kV9 dc9 pm9 an9 cd9 ct9), sl9⟩) (c9 : PySem.W.codeIn K cd9 "room_after" = true) (k9 : PySem.W.keepIn K (.ref f9) = true)
    (a10 : PySem.W.nsIn K mainGlobals "people_up_to" = some (some (.ref f10))) (l10 : K.lookup f10 = some ⟨oc10, od10, .func (PySem.W.fnOf "people_up_to" "people_up_to" (defArgs s_people_up_to) (defBody s_people_up_to) (defScope s_people_up_to) .none kV10 dc10 pm10 an10 cd10 ct10), sl10⟩) (c10 : PySem.W.codeIn K cd10 "people_up_to" = true) (k10 : PySem.W.keepIn K (.ref f10) = true)
    (a11 : PySem.W.nsIn K mainGlobals "chains_of" = some (some (.ref f11))) (l11 : K.lookup f11 = some ⟨oc11, od11, .func (PySem.W.fnOf "chains_of" "chains_of" (defArgs s_chains_of) (defBody s_chains_of) (defScope s_chains_of) .none kV11 dc11 pm11 an11 cd11 ct11), sl11⟩) (c11 : PySem.W.codeIn K cd11 "chains_of" = true) (k11 : PySem.W.keepIn K (.ref f11) = true)
    (a12 : PySem.W.nsIn K mainGlobals "meeting" = some (some (.ref f12))) (l12 : K.lookup f12 = some ⟨oc12, od12, .func (PySem.W.fnOf "meeting" "meeting" (defArgs s_meeting) (defBody s_meeting) (defScope s_meeting) .none kV12 dc12 pm12 an12 cd12 ct12), sl12⟩) (c12 : PySem.W.codeIn K cd12 "meeting" = true) (k12 : PySem.W.keepIn K (.ref f12) = true)
    (a13 : PySem.W.nsIn K mainGlobals "ranks_in" = some (some (.ref f13))) (l13 : K.lookup f13 = some ⟨oc13, od13, .func (PySem.W.fnOf "ranks_in" "ranks_in" (defArgs s_ranks_in) (defBody s_ranks_in) (defScope s_ranks_in) .none kV13 dc13 pm13 an13 cd13 ct13), sl13⟩) (c13 : PySem.W.codeIn K cd13 "ranks_in" = true) (k13 : PySem.W.keepIn K (.ref f13) = true)
    (a14 : PySem.W.nsIn K mainGlobals "visits_for" = some (some (.ref f14))) (l14 : K.lookup f14 = some ⟨oc14, od14, .func (PySem.W.fnOf "visits_for" "visits_for" (defArgs s_visits_for) (defBody s_visits_for) (defScope s_visits_for) .none kV14 dc14 pm14 an14 cd14 ct14), sl14⟩) (c14 : PySem.W.codeIn K cd14 "visits_for" = true) (k14 : PySem.W.keepIn K (.ref f14) = true)
    (a15 : PySem.W.nsIn K mainGlobals "followed" = some (some (.ref f15))) (l15 : K.lookup f15 = some ⟨oc15, od15, .func (PySem.W.fnOf "followed" "followed" (defArgs s_followed) (defBody s_followed) (defScope s_followed) .none kV15 dc15 pm15 an15 cd15 ct15), sl15⟩) (c15 : PySem.W.codeIn K cd15 "followed" = true) (k15 : PySem.W.keepIn K (.ref f15) = true)
    (a16 : PySem.W.nsIn K mainGlobals "result" = some (some (.ref f16))) (l16 : K.lookup f16 = some ⟨oc16, od16, .func (PySem.W.fnOf "result" "result" (defArgs s_result) (defBody s_result) (defScope s_result) .none kV16 dc16 pm16 an16 cd16 ct16), sl16⟩) (c16 : PySem.W.codeIn K cd16 "result" = true) (k16 : PySem.W.keepIn K (.ref f16) = true)
    (a17 : PySem.W.nsIn K mainGlobals "longest_ends" = some (some (.ref f17))) (l17 : K.lookup f17 = some ⟨oc17, od17, .func (PySem.W.fnOf "longest_ends" "longest_ends" (defArgs s_longest_ends) (defBody s_longest_ends) (defScope s_longest_ends) .none kV17 dc17 pm17 an17 cd17 ct17), sl17⟩) (c17 : PySem.W.codeIn K cd17 "longest_ends" = true) (k17 : PySem.W.keepIn K (.ref f17) = true)
    (a18 : PySem.W.nsIn K mainGlobals "longest" = some (some (.ref f18))) (l18 : K.lookup f18 = some ⟨oc18, od18, .func (PySem.W.fnOf "longest" "longest" (defArgs s_longest) (defBody s_longest) (defScope s_longest) .none kV18 dc18 pm18 an18 cd18 ct18), sl18⟩) (c18 : PySem.W.codeIn K cd18 "longest" = true) (k18 : PySem.W.keepIn K (.ref f18) = true)
    (a19 : PySem.W.nsIn K mainGlobals "repetitions" = some (some (.ref f19))) (l19 : K.lookup f19 = some ⟨oc19, od19, .func (PySem.W.fnOf "repetitions" "repetitions" (defArgs s_repetitions) (defBody s_repetitions) (defScope s_repetitions) .none kV19 dc19 pm19 an19 cd19 ct19), sl19⟩) (c19 : PySem.W.codeIn K cd19 "repetitions" = true) (k19 : PySem.W.keepIn K (.ref f19) = true)
    (a20 : PySem.W.nsIn K mainGlobals "repeated" = some (some (.ref f20))) (l20 : K.lookup f20 = some ⟨oc20, od20, .func (PySem.W.fnOf "repeated" "repeated" (defArgs s_repeated) (defBody s_repeated) (defScope s_repeated) .none kV20 dc20 pm20 an20 cd20 ct20), sl20⟩) (c20 : PySem.W.codeIn K cd20 "repeated" = true) (k20 : PySem.W.keepIn K (.ref f20) = true)
    (a21 : PySem.W.nsIn K mainGlobals "settles" = some (some (.ref f21))) (l21 : K.lookup f21 = some ⟨oc21, od21, .func (PySem.W.fnOf "settles" "settles" (defArgs s_settles) (defBody s_settles) (defScope s_settles) .none kV21 dc21 pm21 an21 cd21 ct21), sl21⟩) (c21 : PySem.W.codeIn K cd21 "settles" = true) (k21 : PySem.W.keepIn K (.ref f21) = true)
    (a22 : PySem.W.nsIn K mainGlobals "room_after_many" = some (some (.ref f22))) (l22 : K.lookup f22 = some ⟨oc22, od22, .func (PySem.W.fnOf "room_after_many" "room_after_many" (defArgs s_room_after_many) (defBody s_room_after_many) (defScope s_room_after_many) .none kV22 dc22 pm22 an22 cd22 ct22), sl22⟩) (c22 : PySem.W.codeIn K cd22 "room_after_many" = true) (k22 : PySem.W.keepIn K (.ref f22) = true)
    (a23 : PySem.W.nsIn K mainGlobals "do_same" = some (some (.ref f23))) (l23 : K.lookup f23 = some ⟨oc23, od23, .func (PySem.W.fnOf "do_same" "do_same" (defArgs s_do_same) (defBody s_do_same) (defScope s_do_same) .none kV23 dc23 pm23 an23 cd23 ct23), sl23⟩) (c23 : PySem.W.codeIn K cd23 "do_same" = true) (k23 : PySem.W.keepIn K (.ref f23) = true)
    (a24 : PySem.W.nsIn K mainGlobals "difference" = some (some (.ref f24))) (l24 : K.lookup f24 = some ⟨oc24, od24, .func (PySem.W.fnOf "difference" "difference" (defArgs s_difference) (defBody s_difference) (defScope s_difference) .none kV24 dc24 pm24 an24 cd24 ct24), sl24⟩) (c24 : PySem.W.codeIn K cd24 "difference" = true) (k24 : PySem.W.keepIn K (.ref f24) = true)
    (a25 : PySem.W.nsIn K mainGlobals "separating_room" = some (some (.ref f25))) (l25 : K.lookup f25 = some ⟨oc25, od25, .func (PySem.W.fnOf "separating_room" "separating_room" (defArgs s_separating_room) (defBody s_separating_room) (defScope s_separating_room) .none kV25 dc25 pm25 an25 cd25 ct25), sl25⟩) (c25 : PySem.W.codeIn K cd25 "separating_room" = true) (k25 : PySem.W.keepIn K (.ref f25) = true)
    (a26 : PySem.W.nsIn K mainGlobals "shows_difference" = some (some (.ref f26))) (l26 : K.lookup f26 = some ⟨oc26, od26, .func (PySem.W.fnOf "shows_difference" "shows_difference" (defArgs s_shows_difference) (defBody s_shows_difference) (defScope s_shows_difference) .none kV26 dc26 pm26 an26 cd26 ct26), sl26⟩) (c26 : PySem.W.codeIn K cd26 "shows_difference" = true) (k26 : PySem.W.keepIn K (.ref f26) = true)
    (a27 : PySem.W.nsIn K mainGlobals "all_rooms" = some (some (.ref f27))) (l27 : K.lookup f27 = some ⟨oc27, od27, .func (PySem.W.fnOf "all_rooms" "all_rooms" (defArgs s_all_rooms) (defBody s_all_rooms) (defScope s_all_rooms) .none kV27 dc27 pm27 an27 cd27 ct27), sl27⟩) (c27 : PySem.W.codeIn K cd27 "all_rooms" = true) (k27 : PySem.W.keepIn K (.ref f27) = true)
    (a28 : PySem.W.nsIn K mainGlobals "staying" = some (some (.ref f28))) (l28 : K.lookup f28 = some ⟨oc28, od28, .func (PySem.W.fnOf "staying" "staying" (defArgs s_staying) (defBody s_staying) (defScope s_staying) .none kV28 dc28 pm28 an28 cd28 ct28), sl28⟩) (c28 : PySem.W.codeIn K cd28 "staying" = true) (k28 : PySem.W.keepIn K (.ref f28) = true)
    (a29 : PySem.W.nsIn K mainGlobals "_law_box" = some (some (.ref f29))) (l29 : K.lookup f29 = some ⟨oc29, od29, .func (PySem.W.fnOf "_law_box" "_law_box" (defArgs s__law_box) (defBody s__law_box) (defScope s__law_box) .none kV29 dc29 pm29 an29 cd29 ct29), sl29⟩) (c29 : PySem.W.codeIn K cd29 "_law_box" = true) (k29 : PySem.W.keepIn K (.ref f29) = true)
    (a30 : PySem.W.nsIn K mainGlobals "_law_take" = some (some (.ref f30))) (l30 : K.lookup f30 = some ⟨oc30, od30, .func (PySem.W.fnOf "_law_take" "_law_take" (defArgs s__law_take) (defBody s__law_take) (defScope s__law_take) .none kV30 dc30 pm30 an30 cd30 ct30), sl30⟩) (c30 : PySem.W.codeIn K cd30 "_law_take" = true) (k30 : PySem.W.keepIn K (.ref f30) = true)
    (a31 : PySem.W.nsIn K mainGlobals "_law_cells" = some (some (.ref f31))) (l31 : K.lookup f31 = some ⟨oc31, od31, .func (PySem.W.fnOf "_law_cells" "_law_cells" (defArgs s__law_cells) (defBody s__law_cells) (defScope s__law_cells) .none kV31 dc31 pm31 an31 cd31 ct31), sl31⟩) (c31 : PySem.W.codeIn K cd31 "_law_cells" = true) (k31 : PySem.W.keepIn K (.ref f31) = true)
    (a32 : PySem.W.nsIn K mainGlobals "_law_same" = some (some (.ref f32))) (l32 : K.lookup f32 = some ⟨oc32, od32, .func (PySem.W.fnOf "_law_same" "_law_same" (defArgs s__law_same) (defBody s__law_same) (defScope s__law_same) .none kV32 dc32 pm32 an32 cd32 ct32), sl32⟩) (c32 : PySem.W.codeIn K cd32 "_law_same" = true) (k32 : PySem.W.keepIn K (.ref f32) = true)
    (a33 : PySem.W.nsIn K mainGlobals "_law_list" = some (some (.ref f33))) (l33 : K.lookup f33 = some ⟨oc33, od33, .func (PySem.W.fnOf "_law_list" "_law_list" (defArgs s__law_list) (defBody s__law_list) (defScope s__law_list) .none kV33 dc33 pm33 an33 cd33 ct33), sl33⟩) (c33 : PySem.W.codeIn K cd33 "_law_list" = true) (k33 : PySem.W.keepIn K (.ref f33) = true)
    (a34 : PySem.W.nsIn K mainGlobals "_law_crowd" = some (some (.ref f34))) (l34 : K.lookup f34 = some ⟨oc34, od34, .func (PySem.W.fnOf "_law_crowd" "_law_crowd" (defArgs s__law_crowd) (defBody s__law_crowd) (defScope s__law_crowd) .none kV34 dc34 pm34 an34 cd34 ct34), sl34⟩) (c34 : PySem.W.codeIn K cd34 "_law_crowd" = true) (k34 : PySem.W.keepIn K (.ref f34) = true)
    (a35 : PySem.W.nsIn K mainGlobals "_law_come" = some (some (.ref f35))) (l35 : K.lookup f35 = some ⟨oc35, od35, .func (PySem.W.fnOf "_law_come" "_law_come" (defArgs s__law_come) (defBody s__law_come) (defScope s__law_come) .none kV35 dc35 pm35 an35 cd35 ct35), sl35⟩) (c35 : PySem.W.codeIn K cd35 "_law_come" = true) (k35 : PySem.W.keepIn K (.ref f35) = true)
    (a36 : PySem.W.nsIn K mainGlobals "_law_led" = some (some (.ref f36))) (l36 : K.lookup f36 = some ⟨oc36, od36, .func (PySem.W.fnOf "_law_led" "_law_led" (defArgs s__law_led) (defBody s__law_led) (defScope s__law_led) .none kV36 dc36 pm36 an36 cd36 ct36), sl36⟩) (c36 : PySem.W.codeIn K cd36 "_law_led" = true) (k36 : PySem.W.keepIn K (.ref f36) = true)
    (a37 : PySem.W.nsIn K mainGlobals "_law_rooms_so" = some (some (.ref f37))) (l37 : K.lookup f37 = some ⟨oc37, od37, .func (PySem.W.fnOf "_law_rooms_so" "_law_rooms_so" (defArgs s__law_rooms_so) (defBody s__law_rooms_so) (defScope s__law_rooms_so) .none kV37 dc37 pm37 an37 cd37 ct37), sl37⟩) (c37 : PySem.W.codeIn K cd37 "_law_rooms_so" = true) (k37 : PySem.W.keepIn K (.ref f37) = true)
    (a38 : PySem.W.nsIn K mainGlobals "_law_of" = some (some (.ref f38))) (l38 : K.lookup f38 = some ⟨oc38, od38, .func (PySem.W.fnOf "_law_of" "_law_of" (defArgs s__law_of) (defBody s__law_of) (defScope s__law_of) .none kV38 dc38 pm38 an38 cd38 ct38), sl38⟩) (c38 : PySem.W.codeIn K cd38 "_law_of" = true) (k38 : PySem.W.keepIn K (.ref f38) = true)
    (a39 : PySem.W.nsIn K mainGlobals "_law_many" = some (some (.ref f39))) (l39 : K.lookup f39 = some ⟨oc39, od39, .func (PySem.W.fnOf "_law_many" "_law_many" (defArgs s__law_many) (defBody s__law_many) (defScope s__law_many) .none kV39 dc39 pm39 an39 cd39 ct39), sl39⟩) (c39 : PySem.W.codeIn K cd39 "_law_many" = true) (k39 : PySem.W.keepIn K (.ref f39) = true)
    (a40 : PySem.W.nsIn K mainGlobals "_law_least" = some (some (.ref f40))) (l40 : K.lookup f40 = some ⟨oc40, od40, .func (PySem.W.fnOf "_law_least" "_law_least" (defArgs s__law_least) (defBody s__law_least) (defScope s__law_least) .none kV40 dc40 pm40 an40 cd40 ct40), sl40⟩) (c40 : PySem.W.codeIn K cd40 "_law_least" = true) (k40 : PySem.W.keepIn K (.ref f40) = true)
    (a41 : PySem.W.nsIn K mainGlobals "_law_turns_right" = some (some (.ref f41))) (l41 : K.lookup f41 = some ⟨oc41, od41, .func (PySem.W.fnOf "_law_turns_right" "_law_turns_right" (defArgs s__law_turns_right) (defBody s__law_turns_right) (defScope s__law_turns_right) .none kV41 dc41 pm41 an41 cd41 ct41), sl41⟩) (c41 : PySem.W.codeIn K cd41 "_law_turns_right" = true) (k41 : PySem.W.keepIn K (.ref f41) = true)
    (a42 : PySem.W.nsIn K mainGlobals "law" = some (some (.ref f42))) (l42 : K.lookup f42 = some ⟨oc42, od42, .func (PySem.W.fnOf "law" "law" (defArgs s_law) (defBody s_law) (defScope s_law) .none kV42 dc42 pm42 an42 cd42 ct42), sl42⟩) (c42 : PySem.W.codeIn K cd42 "law" = true) (k42 : PySem.W.keepIn K (.ref f42) = true)
    (z_abs : PySem.W.nsIn K mainGlobals "abs" = some none)
    (z_all : PySem.W.nsIn K mainGlobals "all" = some none)
    (z_any : PySem.W.nsIn K mainGlobals "any" = some none)
    (z_bool : PySem.W.nsIn K mainGlobals "bool" = some none)
    (z_dict : PySem.W.nsIn K mainGlobals "dict" = some none)
    (z_enumerate : PySem.W.nsIn K mainGlobals "enumerate" = some none)
    (z_int : PySem.W.nsIn K mainGlobals "int" = some none)
    (z_isinstance : PySem.W.nsIn K mainGlobals "isinstance" = some none)
    (z_len : PySem.W.nsIn K mainGlobals "len" = some none)
    (z_list : PySem.W.nsIn K mainGlobals "list" = some none)
    (z_max : PySem.W.nsIn K mainGlobals "max" = some none)
    (z_min : PySem.W.nsIn K mainGlobals "min" = some none)
    (z_range : PySem.W.nsIn K mainGlobals "range" = some none)
    (z_set : PySem.W.nsIn K mainGlobals "set" = some none)
    (z_sorted : PySem.W.nsIn K mainGlobals "sorted" = some none)
    (z_str : PySem.W.nsIn K mainGlobals "str" = some none)
    (z_tuple : PySem.W.nsIn K mainGlobals "tuple" = some none)
    (z_zip : PySem.W.nsIn K mainGlobals "zip" = some none)
    {t_TOP_RANK : Tok} (y_TOP_RANK : PySem.W.nsIn K mainGlobals "TOP_RANK" = some (some (.int 12 t_TOP_RANK)))
    : ∃ fd : FuncData, (∀ (s : Shared) (v : Value), BindsTo s fd ⟨[v], []⟩ [("script", v)]) ∧ ∀ base : Heap, K.In base → base.Ns mainGlobals mg → FnOk l.prog w K mg base CX0 11 fa fd ["script"] (spLaw K) := by
  have e := hfa.symm.trans (PySem.W.mg_of X G a42)
  have F1 := fun_mk (st := s_links_of) l1 c1 k1
  have b1 := F1.binds (ps := ["chains"]) fun _ _ _ _ _ _ us hl => match us, hl with | [_], _ => rfl
  have F2 := fun_mk (st := s_chains_from_links) l2 c2 k2
  have b2 := F2.binds (ps := ["links"]) fun _ _ _ _ _ _ us hl => match us, hl with | [_], _ => rfl
  have F3 := fun_mk (st := s_linked_visit) l3 c3 k3
  have b3 := F3.binds (ps := ["links", "rank"]) fun _ _ _ _ _ _ us hl => match us, hl with | [_, _], _ => rfl
  have F4 := fun_mk (st := s_is_integer) l4 c4 k4
  have b4 := F4.binds (ps := ["thing"]) fun _ _ _ _ _ _ us hl => match us, hl with | [_], _ => rfl
  have F5 := fun_mk (st := s_is_rank) l5 c5 k5
  have b5 := F5.binds (ps := ["size", "thing"]) fun _ _ _ _ _ _ us hl => match us, hl with | [_, _], _ => rfl
  have F6 := fun_mk (st := s_leaver) l6 c6 k6
  have b6 := F6.binds (ps := ["room", "rank"]) fun _ _ _ _ _ _ us hl => match us, hl with | [_, _], _ => rfl
  have F7 := fun_mk (st := s_entered) l7 c7 k7
  have b7 := F7.binds (ps := ["room", "rank"]) fun _ _ _ _ _ _ us hl => match us, hl with | [_, _], _ => rfl
  have F8 := fun_mk (st := s_rooms_along) l8 c8 k8
  have b8 := F8.binds (ps := ["room", "visits"]) fun _ _ _ _ _ _ us hl => match us, hl with | [_, _], _ => rfl
  have F9 := fun_mk (st := s_room_after) l9 c9 k9
  have b9 := F9.binds (ps := ["room", "visits"]) fun _ _ _ _ _ _ us hl => match us, hl with | [_, _], _ => rfl
  have F10 := fun_mk (st := s_people_up_to) l10 c10 k10
  have b10 := F10.binds (ps := ["room", "rank"]) fun _ _ _ _ _ _ us hl => match us, hl with | [_, _], _ => rfl
  have F11 := fun_mk (st := s_chains_of) l11 c11 k11
  have b11 := F11.binds (ps := ["visits"]) fun _ _ _ _ _ _ us hl => match us, hl with | [_], _ => rfl
  have F12 := fun_mk (st := s_meeting) l12 c12 k12
  have b12 := F12.binds (ps := ["chains", "low", "high"]) fun _ _ _ _ _ _ us hl => match us, hl with | [_, _, _], _ => rfl
  have F13 := fun_mk (st := s_ranks_in) l13 c13 k13
  have b13 := F13.binds (ps := ["chains"]) fun _ _ _ _ _ _ us hl => match us, hl with | [_], _ => rfl
  have F14 := fun_mk (st := s_visits_for) l14 c14 k14
  have b14 := F14.binds (ps := ["chains"]) fun _ _ _ _ _ _ us hl => match us, hl with | [_], _ => rfl
  have F15 := fun_mk (st := s_followed) l15 c15 k15
  have b15 := F15.binds (ps := ["first", "second"]) fun _ _ _ _ _ _ us hl => match us, hl with | [_, _], _ => rfl
  have F16 := fun_mk (st := s_result) l16 c16 k16
  have b16 := F16.binds (ps := ["chains", "room"]) fun _ _ _ _ _ _ us hl => match us, hl with | [_, _], _ => rfl
  have F17 := fun_mk (st := s_longest_ends) l17 c17 k17
  have b17 := F17.binds (ps := ["visits", "low", "high"]) fun _ _ _ _ _ _ us hl => match us, hl with | [_, _, _], _ => rfl
  have F18 := fun_mk (st := s_longest) l18 c18 k18
  have b18 := F18.binds (ps := ["visits", "low", "high"]) fun _ _ _ _ _ _ us hl => match us, hl with | [_, _, _], _ => rfl
  have F19 := fun_mk (st := s_repetitions) l19 c19 k19
  have b19 := F19.binds (ps := ["chains"]) fun _ _ _ _ _ _ us hl => match us, hl with | [_], _ => rfl
  have F20 := fun_mk (st := s_repeated) l20 c20 k20
  have b20 := F20.binds (ps := ["chains", "many"]) fun _ _ _ _ _ _ us hl => match us, hl with | [_, _], _ => rfl
  have F21 := fun_mk (st := s_settles) l21 c21 k21
  have b21 := F21.binds (ps := ["chains"]) fun _ _ _ _ _ _ us hl => match us, hl with | [_], _ => rfl
  have F22 := fun_mk (st := s_room_after_many) l22 c22 k22
  have b22 := F22.binds (ps := ["room", "visits", "many"]) fun _ _ _ _ _ _ us hl => match us, hl with | [_, _, _], _ => rfl
  have F23 := fun_mk (st := s_do_same) l23 c23 k23
  have b23 := F23.binds (ps := ["first", "second"]) fun _ _ _ _ _ _ us hl => match us, hl with | [_, _], _ => rfl
  have F24 := fun_mk (st := s_difference) l24 c24 k24
  have b24 := F24.binds (ps := ["first", "second"]) fun _ _ _ _ _ _ us hl => match us, hl with | [_, _], _ => rfl
  have F25 := fun_mk (st := s_separating_room) l25 c25 k25
  have b25 := F25.binds (ps := ["first", "second"]) fun _ _ _ _ _ _ us hl => match us, hl with | [_, _], _ => rfl
  have F26 := fun_mk (st := s_shows_difference) l26 c26 k26
  have b26 := F26.binds (ps := ["first", "second", "thing"]) fun _ _ _ _ _ _ us hl => match us, hl with | [_, _, _], _ => rfl
  have F27 := fun_mk (st := s_all_rooms) l27 c27 k27
  have b27 := F27.binds (ps := ["size"]) fun _ _ _ _ _ _ us hl => match us, hl with | [_], _ => rfl
  have F28 := fun_mk (st := s_staying) l28 c28 k28
  have b28 := F28.binds (ps := ["size", "chains"]) fun _ _ _ _ _ _ us hl => match us, hl with | [_, _], _ => rfl
  have F29 := fun_mk (st := s__law_box) l29 c29 k29
  have b29 := F29.binds (ps := ["script", "k"]) fun _ _ _ _ _ _ us hl => match us, hl with | [_, _], _ => rfl
  have F30 := fun_mk (st := s__law_take) l30 c30 k30
  have b30 := F30.binds (ps := ["urn", "below"]) fun _ _ _ _ _ _ us hl => match us, hl with | [_, _], _ => rfl
  have F31 := fun_mk (st := s__law_cells) l31 c31 k31
  have b31 := F31.binds (ps := ["script", "many"]) fun _ _ _ _ _ _ us hl => match us, hl with | [_, _], _ => rfl
  have F32 := fun_mk (st := s__law_same) l32 c32 k32
  have b32 := F32.binds (ps := ["got", "goal"]) fun _ _ _ _ _ _ us hl => match us, hl with | [_, _], _ => rfl
  have F33 := fun_mk (st := s__law_list) l33 c33 k33
  have b33 := F33.binds (ps := ["urn", "size", "most"]) fun _ _ _ _ _ _ us hl => match us, hl with | [_, _, _], _ => rfl
  have F34 := fun_mk (st := s__law_crowd) l34 c34 k34
  have b34 := F34.binds (ps := ["urn", "size"]) fun _ _ _ _ _ _ us hl => match us, hl with | [_, _], _ => rfl
  have F35 := fun_mk (st := s__law_come) l35 c35 k35
  have b35 := F35.binds (ps := ["room", "rank"]) fun _ _ _ _ _ _ us hl => match us, hl with | [_, _], _ => rfl
  have F36 := fun_mk (st := s__law_led) l36 c36 k36
  have b36 := F36.binds (ps := ["room", "row"]) fun _ _ _ _ _ _ us hl => match us, hl with | [_, _], _ => rfl
  have F37 := fun_mk (st := s__law_rooms_so) l37 c37 k37
  have b37 := F37.binds (ps := ["size"]) fun _ _ _ _ _ _ us hl => match us, hl with | [_], _ => rfl
  have F38 := fun_mk (st := s__law_of) l38 c38 k38
  have b38 := F38.binds (ps := ["urn", "some"]) fun _ _ _ _ _ _ us hl => match us, hl with | [_, _], _ => rfl
  have F39 := fun_mk (st := s__law_many) l39 c39 k39
  have b39 := F39.binds (ps := ["chains", "many"]) fun _ _ _ _ _ _ us hl => match us, hl with | [_, _], _ => rfl
  have F40 := fun_mk (st := s__law_least) l40 c40 k40
  have b40 := F40.binds (ps := ["row", "size"]) fun _ _ _ _ _ _ us hl => match us, hl with | [_, _], _ => rfl
  have F41 := fun_mk (st := s__law_turns_right) l41 c41 k41
  have b41 := F41.binds (ps := ["urn", "one", "other", "row", "near", "size"]) fun _ _ _ _ _ _ us hl => match us, hl with | [_, _, _, _, _, _], _ => rfl
  have F42 := fun_mk (st := s_law) l42 c42 k42
  have b42 := F42.binds (ps := ["script"]) fun _ _ _ _ _ _ us hl => match us, hl with | [_], _ => rfl
  let B : En K mg := {
    f_links_of := f1, fd_links_of := _, F_links_of := F1, d_links_of := ⟨k1, b1, PySem.W.mg_of X G a1⟩,
    f_chains_from_links := f2, fd_chains_from_links := _, F_chains_from_links := F2, d_chains_from_links := ⟨k2, b2, PySem.W.mg_of X G a2⟩,
    f_linked_visit := f3, fd_linked_visit := _, F_linked_visit := F3, d_linked_visit := ⟨k3, b3, PySem.W.mg_of X G a3⟩,
    f_is_integer := f4, fd_is_integer := _, F_is_integer := F4, d_is_integer := ⟨k4, b4, PySem.W.mg_of X G a4⟩,
    f_is_rank := f5, fd_is_rank := _, F_is_rank := F5, d_is_rank := ⟨k5, b5, PySem.W.mg_of X G a5⟩,
    f_leaver := f6, fd_leaver := _, F_leaver := F6, d_leaver := ⟨k6, b6, PySem.W.mg_of X G a6⟩,
    f_entered := f7, fd_entered := _, F_entered := F7, d_entered := ⟨k7, b7, PySem.W.mg_of X G a7⟩,
    f_rooms_along := f8, fd_rooms_along := _, F_rooms_along := F8, d_rooms_along := ⟨k8, b8, PySem.W.mg_of X G a8⟩,
    f_room_after := f9, fd_room_after := _, F_room_after := F9, d_room_after := ⟨k9, b9, PySem.W.mg_of X G a9⟩,
    f_people_up_to := f10, fd_people_up_to := _, F_people_up_to := F10, d_people_up_to := ⟨k10, b10, PySem.W.mg_of X G a10⟩,
    f_chains_of := f11, fd_chains_of := _, F_chains_of := F11, d_chains_of := ⟨k11, b11, PySem.W.mg_of X G a11⟩,
    f_meeting := f12, fd_meeting := _, F_meeting := F12, d_meeting := ⟨k12, b12, PySem.W.mg_of X G a12⟩,
    f_ranks_in := f13, fd_ranks_in := _, F_ranks_in := F13, d_ranks_in := ⟨k13, b13, PySem.W.mg_of X G a13⟩,
    f_visits_for := f14, fd_visits_for := _, F_visits_for := F14, d_visits_for := ⟨k14, b14, PySem.W.mg_of X G a14⟩,
    f_followed := f15, fd_followed := _, F_followed := F15, d_followed := ⟨k15, b15, PySem.W.mg_of X G a15⟩,
    f_result := f16, fd_result := _, F_result := F16, d_result := ⟨k16, b16, PySem.W.mg_of X G a16⟩,
    f_longest_ends := f17, fd_longest_ends := _, F_longest_ends := F17, d_longest_ends := ⟨k17, b17, PySem.W.mg_of X G a17⟩,
    f_longest := f18, fd_longest := _, F_longest := F18, d_longest := ⟨k18, b18, PySem.W.mg_of X G a18⟩,
    f_repetitions := f19, fd_repetitions := _, F_repetitions := F19, d_repetitions := ⟨k19, b19, PySem.W.mg_of X G a19⟩,
    f_repeated := f20, fd_repeated := _, F_repeated := F20, d_repeated := ⟨k20, b20, PySem.W.mg_of X G a20⟩,
    f_settles := f21, fd_settles := _, F_settles := F21, d_settles := ⟨k21, b21, PySem.W.mg_of X G a21⟩,
    f_room_after_many := f22, fd_room_after_many := _, F_room_after_many := F22, d_room_after_many := ⟨k22, b22, PySem.W.mg_of X G a22⟩,
    f_do_same := f23, fd_do_same := _, F_do_same := F23, d_do_same := ⟨k23, b23, PySem.W.mg_of X G a23⟩,
    f_difference := f24, fd_difference := _, F_difference := F24, d_difference := ⟨k24, b24, PySem.W.mg_of X G a24⟩,
    f_separating_room := f25, fd_separating_room := _, F_separating_room := F25, d_separating_room := ⟨k25, b25, PySem.W.mg_of X G a25⟩,
    f_shows_difference := f26, fd_shows_difference := _, F_shows_difference := F26, d_shows_difference := ⟨k26, b26, PySem.W.mg_of X G a26⟩,
    f_all_rooms := f27, fd_all_rooms := _, F_all_rooms := F27, d_all_rooms := ⟨k27, b27, PySem.W.mg_of X G a27⟩,
    f_staying := f28, fd_staying := _, F_staying := F28, d_staying := ⟨k28, b28, PySem.W.mg_of X G a28⟩,
    f__law_box := f29, fd__law_box := _, F__law_box := F29, d__law_box := ⟨k29, b29, PySem.W.mg_of X G a29⟩,
    f__law_take := f30, fd__law_take := _, F__law_take := F30, d__law_take := ⟨k30, b30, PySem.W.mg_of X G a30⟩,
    f__law_cells := f31, fd__law_cells := _, F__law_cells := F31, d__law_cells := ⟨k31, b31, PySem.W.mg_of X G a31⟩,
    f__law_same := f32, fd__law_same := _, F__law_same := F32, d__law_same := ⟨k32, b32, PySem.W.mg_of X G a32⟩,
    f__law_list := f33, fd__law_list := _, F__law_list := F33, d__law_list := ⟨k33, b33, PySem.W.mg_of X G a33⟩,
    f__law_crowd := f34, fd__law_crowd := _, F__law_crowd := F34, d__law_crowd := ⟨k34, b34, PySem.W.mg_of X G a34⟩,
    f__law_come := f35, fd__law_come := _, F__law_come := F35, d__law_come := ⟨k35, b35, PySem.W.mg_of X G a35⟩,
    f__law_led := f36, fd__law_led := _, F__law_led := F36, d__law_led := ⟨k36, b36, PySem.W.mg_of X G a36⟩,
    f__law_rooms_so := f37, fd__law_rooms_so := _, F__law_rooms_so := F37, d__law_rooms_so := ⟨k37, b37, PySem.W.mg_of X G a37⟩,
    f__law_of := f38, fd__law_of := _, F__law_of := F38, d__law_of := ⟨k38, b38, PySem.W.mg_of X G a38⟩,
    f__law_many := f39, fd__law_many := _, F__law_many := F39, d__law_many := ⟨k39, b39, PySem.W.mg_of X G a39⟩,
    f__law_least := f40, fd__law_least := _, F__law_least := F40, d__law_least := ⟨k40, b40, PySem.W.mg_of X G a40⟩,
    f__law_turns_right := f41, fd__law_turns_right := _, F__law_turns_right := F41, d__law_turns_right := ⟨k41, b41, PySem.W.mg_of X G a41⟩,
    f_law := f42, fd_law := _, F_law := F42, d_law := ⟨k42, b42, PySem.W.mg_of X G a42⟩,
    b_abs := PySem.W.mg_none_of X G z_abs,
    b_all := PySem.W.mg_none_of X G z_all,
    b_any := PySem.W.mg_none_of X G z_any,
    b_bool := PySem.W.mg_none_of X G z_bool,
    b_dict := PySem.W.mg_none_of X G z_dict,
    b_enumerate := PySem.W.mg_none_of X G z_enumerate,
    b_int := PySem.W.mg_none_of X G z_int,
    b_isinstance := PySem.W.mg_none_of X G z_isinstance,
    b_len := PySem.W.mg_none_of X G z_len,
    b_list := PySem.W.mg_none_of X G z_list,
    b_max := PySem.W.mg_none_of X G z_max,
    b_min := PySem.W.mg_none_of X G z_min,
    b_range := PySem.W.mg_none_of X G z_range,
    b_set := PySem.W.mg_none_of X G z_set,
    b_sorted := PySem.W.mg_none_of X G z_sorted,
    b_str := PySem.W.mg_none_of X G z_str,
    b_tuple := PySem.W.mg_none_of X G z_tuple,
    b_zip := PySem.W.mg_none_of X G z_zip,
    g_TOP_RANK := ⟨_, PySem.W.mg_of X G y_TOP_RANK⟩ }
  refine ⟨B.fd_law, fun s v => .of_eq rfl, fun base _ _ => ?_⟩
  have G_links_of := ok_links_of (P := l.prog) (w := w) (base := base) B
  have G_chains_from_links := ok_chains_from_links (P := l.prog) (w := w) (base := base) B
  have G_linked_visit := ok_linked_visit (P := l.prog) (w := w) (base := base) B
  have G_is_integer := ok_is_integer (P := l.prog) (w := w) (base := base) B
  have G_is_rank := ok_is_rank (P := l.prog) (w := w) (base := base) B G_is_integer
  have G_leaver := ok_leaver (P := l.prog) (w := w) (base := base) B
  have G_entered := ok_entered (P := l.prog) (w := w) (base := base) B G_leaver
  have G_rooms_along := ok_rooms_along (P := l.prog) (w := w) (base := base) B G_entered
  have G_room_after := ok_room_after (P := l.prog) (w := w) (base := base) B G_rooms_along
  have G_people_up_to := ok_people_up_to (P := l.prog) (w := w) (base := base) B
  have G_chains_of := ok_chains_of (P := l.prog) (w := w) (base := base) B G_linked_visit G_chains_from_links
  have G_meeting := ok_meeting (P := l.prog) (w := w) (base := base) B
  have G_ranks_in := ok_ranks_in (P := l.prog) (w := w) (base := base) B
  have G_visits_for := ok_visits_for (P := l.prog) (w := w) (base := base) B G_ranks_in
  have G_followed := ok_followed (P := l.prog) (w := w) (base := base) B G_links_of G_visits_for G_linked_visit G_chains_from_links
  have G_result := ok_result (P := l.prog) (w := w) (base := base) B G_ranks_in G_people_up_to G_meeting
  have G_longest_ends := ok_longest_ends (P := l.prog) (w := w) (base := base) B
  have G_longest := ok_longest (P := l.prog) (w := w) (base := base) B G_longest_ends
  have G_repetitions := ok_repetitions (P := l.prog) (w := w) (base := base) B G_followed
  have G_repeated := ok_repeated (P := l.prog) (w := w) (base := base) B G_repetitions
  have G_settles := ok_settles (P := l.prog) (w := w) (base := base) B G_repetitions
  have G_room_after_many := ok_room_after_many (P := l.prog) (w := w) (base := base) B G_chains_of G_repeated G_result
  have G_do_same := ok_do_same (P := l.prog) (w := w) (base := base) B G_chains_of
  have G_difference := ok_difference (P := l.prog) (w := w) (base := base) B G_chains_of G_meeting
  have G_separating_room := ok_separating_room (P := l.prog) (w := w) (base := base) B G_difference
  have G_shows_difference := ok_shows_difference (P := l.prog) (w := w) (base := base) B G_is_rank G_longest
  have G_all_rooms := ok_all_rooms (P := l.prog) (w := w) (base := base) B
  have G_staying := ok_staying (P := l.prog) (w := w) (base := base) B G_all_rooms G_result
  have G__law_box := ok__law_box (P := l.prog) (w := w) (base := base) B
  have G__law_take := ok__law_take (P := l.prog) (w := w) (base := base) B
  have G__law_cells := ok__law_cells (P := l.prog) (w := w) (base := base) B
  have G__law_same := ok__law_same (P := l.prog) (w := w) (base := base) B
  have G__law_list := ok__law_list (P := l.prog) (w := w) (base := base) B G__law_take
  have G__law_crowd := ok__law_crowd (P := l.prog) (w := w) (base := base) B G__law_take
  have G__law_come := ok__law_come (P := l.prog) (w := w) (base := base) B
  have G__law_led := ok__law_led (P := l.prog) (w := w) (base := base) B G__law_come
  have G__law_rooms_so := ok__law_rooms_so (P := l.prog) (w := w) (base := base) B
  have G__law_of := ok__law_of (P := l.prog) (w := w) (base := base) B G__law_take
  have G__law_many := ok__law_many (P := l.prog) (w := w) (base := base) B G_followed
  have G__law_least := ok__law_least (P := l.prog) (w := w) (base := base) B G__law_rooms_so G__law_led
  have G__law_turns_right := ok__law_turns_right (P := l.prog) (w := w) (base := base) B G_followed G_repeated G__law_many G__law_same G_settles G__law_least G__law_of
  have G_law := ok_law (P := l.prog) (w := w) (base := base) hlaw B G__law_take G__law_crowd G__law_list G__law_of G_chains_of G__law_turns_right G__law_rooms_so G__law_led G_difference G_do_same G_followed G__law_same G_repeated G_separating_room G_shows_difference G_result G_room_after_many G_staying G_room_after G__law_box G__law_cells
  have e2 : f42 = fa := by cases e; rfl
  exact e2 ▸ G_law
end DL

open PySem PySem.W PyProof.Rows
set_option maxHeartbeats 0 in
theorem PySem.Challenge.cw_driveout_k90_main_lists_by_turns_holds : PySem.Challenge.rw_driveout_k90_main_lists_by_turns.Holds := by
  w_on; o_law; k_head; (case hw => w_witness2)
  k_fill
  refine L2.walk_of (l := PySem.Challenge.rw_driveout_k90_main_lists_by_turns) (n := 63) (k := 11) (x := "script") (CX := fun _ => L2.CX0) (sp := fun w => DL.spLaw _) rfl (by decide) rfl ⟨rfl, by decide, by decide⟩ (fun w h Y => PySem.W.kIn_of Y) ?F (fun _ _ a ns hl _ hS => ⟨a, ns, rfl, hS, hl, fun _ => rfl⟩) (fun _ _ _ _ _ h => h)
  case F =>
    intro w mg fa h KX G hmg
    refine' DL.all_mk DL.law_true KX G hmg ?a1 ?l1 ?c1 ?k1 ?a2 ?l2 ?c2 ?k2 ?a3 ?l3 ?c3 ?k3 ?a4 ?l4 ?c4 ?k4 ?a5 ?l5 ?c5 ?k5 ?a6 ?l6 ?c6 ?k6 ?a7 ?l7 ?c7 ?k7 ?a8 ?l8 ?c8 ?k8 ?a9 ?l9 ?c9 ?k9 ?a10 ?l10 ?c10 ?k10 ?a11 ?l11 ?c11 ?k11 ?a12 ?l12 ?c12 ?k12 ?a13 ?l13 ?c13 ?k13 ?a14 ?l14 ?c14 ?k14 ?a15 ?l15 ?c15 ?k15 ?a16 ?l16 ?c16 ?k16 ?a17 ?l17 ?c17 ?k17 ?a18 ?l18 ?c18 ?k18 ?a19 ?l19 ?c19 ?k19 ?a20 ?l20 ?c20 ?k20 ?a21 ?l21 ?c21 ?k21 ?a22 ?l22 ?c22 ?k22 ?a23 ?l23 ?c23 ?k23 ?a24 ?l24 ?c24 ?k24 ?a25 ?l25 ?c25 ?k25 ?a26 ?l26 ?c26 ?k26 ?a27 ?l27 ?c27 ?k27 ?a28 ?l28 ?c28 ?k28 ?a29 ?l29 ?c29 ?k29 ?a30 ?l30 ?c30 ?k30 ?a31 ?l31 ?c31 ?k31 ?a32 ?l32 ?c32 ?k32 ?a33 ?l33 ?c33 ?k33 ?a34 ?l34 ?c34 ?k34 ?a35 ?l35 ?c35 ?k35 ?a36 ?l36 ?c36 ?k36 ?a37 ?l37 ?c37 ?k37 ?a38 ?l38 ?c38 ?k38 ?a39 ?l39 ?c39 ?k39 ?a40 ?l40 ?c40 ?k40 ?a41 ?l41 ?c41 ?k41 ?a42 ?l42 ?c42 ?k42 ?z_abs ?z_all ?z_any ?z_bool ?z_dict ?z_enumerate ?z_int ?z_isinstance ?z_len ?z_list ?z_max ?z_min ?z_range ?z_set ?z_sorted ?z_str ?z_tuple ?z_zip ?y_TOP_RANK
    (case a1 => k_is)
    (case l1 => k_is)
    (case c1 => k_is)
    (case k1 => k_is)
    (case a2 => k_is)
    (case l2 => k_is)
    (case c2 => k_is)
    (case k2 => k_is)
    (case a3 => k_is)
    (case l3 => k_is)
    (case c3 => k_is)
    (case k3 => k_is)
    (case a4 => k_is)
    (case l4 => k_is)
    (case c4 => k_is)
    (case k4 => k_is)
    (case a5 => k_is)
    (case l5 => k_is)
    (case c5 => k_is)
    (case k5 => k_is)
    (case a6 => k_is)
    (case l6 => k_is)
    (case c6 => k_is)
    (case k6 => k_is)
    (case a7 => k_is)
    (case l7 => k_is)
    (case c7 => k_is)
    (case k7 => k_is)
    (case a8 => k_is)
    (case l8 => k_is)
    (case c8 => k_is)
    (case k8 => k_is)
    (case a9 => k_is)
    (case l9 => k_is)
    (case c9 => k_is)
    (case k9 => k_is)
    (case a10 => k_is)
    (case l10 => k_is)
    (case c10 => k_is)
    (case k10 => k_is)
    (case a11 => k_is)
    (case l11 => k_is)
    (case c11 => k_is)
    (case k11 => k_is)
    (case a12 => k_is)
    (case l12 => k_is)
    (case c12 => k_is)
    (case k12 => k_is)
    (case a13 => k_is)
    (case l13 => k_is)
    (case c13 => k_is)
    (case k13 => k_is)
    (case a14 => k_is)
    (case l14 => k_is)
    (case c14 => k_is)
    (case k14 => k_is)
    (case a15 => k_is)
    (case l15 => k_is)
    (case c15 => k_is)
    (case k15 => k_is)
    (case a16 => k_is)
    (case l16 => k_is)
    (case c16 => k_is)
    (case k16 => k_is)
    (case a17 => k_is)
    (case l17 => k_is)
    (case c17 => k_is)
    (case k17 => k_is)
    (case a18 => k_is)
    (case l18 => k_is)
    (case c18 => k_is)
    (case k18 => k_is)
    (case a19 => k_is)
    (case l19 => k_is)
    (case c19 => k_is)
    (case k19 => k_is)
    (case a20 => k_is)
    (case l20 => k_is)
    (case c20 => k_is)
    (case k20 => k_is)
    (case a21 => k_is)
    (case l21 => k_is)
    (case c21 => k_is)
    (case k21 => k_is)
    (case a22 => k_is)
    (case l22 => k_is)
    (case c22 => k_is)
    (case k22 => k_is)
    (case a23 => k_is)
    (case l23 => k_is)
    (case c23 => k_is)
    (case k23 => k_is)
    (case a24 => k_is)
    (case l24 => k_is)
    (case c24 => k_is)
    (case k24 => k_is)
    (case a25 => k_is)
    (case l25 => k_is)
    (case c25 => k_is)
    (case k25 => k_is)
    (case a26 => k_is)
    (case l26 => k_is)
    (case c26 => k_is)
    (case k26 => k_is)
    (case a27 => k_is)
    (case l27 => k_is)
    (case c27 => k_is)
    (case k27 => k_is)
    (case a28 => k_is)
    (case l28 => k_is)
    (case c28 => k_is)
    (case k28 => k_is)
    (case a29 => k_is)
    (case l29 => k_is)
    (case c29 => k_is)
    (case k29 => k_is)
    (case a30 => k_is)
    (case l30 => k_is)
    (case c30 => k_is)
    (case k30 => k_is)
    (case a31 => k_is)
    (case l31 => k_is)
    (case c31 => k_is)
    (case k31 => k_is)
    (case a32 => k_is)
    (case l32 => k_is)
    (case c32 => k_is)
    (case k32 => k_is)
    (case a33 => k_is)
    (case l33 => k_is)
    (case c33 => k_is)
    (case k33 => k_is)
    (case a34 => k_is)
    (case l34 => k_is)
    (case c34 => k_is)
    (case k34 => k_is)
    (case a35 => k_is)
    (case l35 => k_is)
    (case c35 => k_is)
    (case k35 => k_is)
    (case a36 => k_is)
    (case l36 => k_is)
    (case c36 => k_is)
    (case k36 => k_is)
    (case a37 => k_is)
    (case l37 => k_is)
    (case c37 => k_is)
    (case k37 => k_is)
    (case a38 => k_is)
    (case l38 => k_is)
    (case c38 => k_is)
    (case k38 => k_is)
    (case a39 => k_is)
    (case l39 => k_is)
    (case c39 => k_is)
    (case k39 => k_is)
    (case a40 => k_is)
    (case l40 => k_is)
    (case c40 => k_is)
    (case k40 => k_is)
    (case a41 => k_is)
    (case l41 => k_is)
    (case c41 => k_is)
    (case k41 => k_is)
    (case a42 => k_is)
    (case l42 => k_is)
    (case c42 => k_is)
    (case k42 => k_is)
    (case z_abs => k_is)
    (case z_all => k_is)
    (case z_any => k_is)
    (case z_bool => k_is)
    (case z_dict => k_is)
    (case z_enumerate => k_is)
    (case z_int => k_is)
    (case z_isinstance => k_is)
    (case z_len => k_is)
    (case z_list => k_is)
    (case z_max => k_is)
    (case z_min => k_is)
    (case z_range => k_is)
    (case z_set => k_is)
    (case z_sorted => k_is)
    (case z_str => k_is)
    (case z_tuple => k_is)
    (case z_zip => k_is)
    (case y_TOP_RANK => k_is)
