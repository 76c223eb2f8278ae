import PyProof.Rows.All
import HandS.ForExc
import HandS.IsInst
import HandS.Deep
import HandS.Comp
import HandS.Iter
import HandS.Text
import KE.DataCmp
import KE.DatumOrd
import KE.DataFind
import KE.SortData
import HandS.ExcOwn
import HandS.TupAny
import HandS.TupMul
import HandS.Wide
import HandS.Style
import HandS.WordsExc
import HandS.Zip
import KE.DataMinMax
import PyProof.Rows.RowBridgeK
import HandS.Ends
import HandS.TryMany
import HandS.Conv
import PySem.Challenge.RW_rigwright_k59_whole_patterns
set_option Elab.async false
set_option linter.all false
set_option maxRecDepth 100000
set_option maxHeartbeats 0
namespace PD
open PySem PySem.Spec PyProof.Rows L2
/-! ## results, slots, environments -/
/-- a result: a value, an error of the class so called, or nothing that is promised -/
inductive R (α : Type) where
  | ok (a : α)
  | err (c : String)
  | bad
def R.bind {α β : Type} (r : R α) (f : α → R β) : R β :=
  match r with
  | .ok a => f a
  | .err c => .err c
  | .bad => .bad
@[simp] theorem bind_ok {α β : Type} (a : α) (f : α → R β) : (R.ok a).bind f = f a := rfl
@[simp] theorem bind_err {α β : Type} (c : String) (f : α → R β) : (R.err c : R α).bind f = .err c := rfl
@[simp] theorem bind_bad {α β : Type} (f : α → R β) : (R.bad : R α).bind f = .bad := rfl
/-- a local name: unset (or unknown), a datum that stays, a list of one's own -/
inductive Sl where
  | un
  | d (x : PyData)
  | lo (xs : List PyData)
abbrev Ev := List Sl
/-! ## heaps that grow -/
def Le (F H : Hp) : Prop := ∀ a o, F a = some o → H a = some o
theorem Le.refl (F : Hp) : Le F F := fun _ _ e => e
theorem Le.trans {F G H : Hp} (a : Le F G) (b : Le G H) : Le F H := fun x o e => b x o (a x o e)
theorem Le.upd {H : Hp} {p : Addr} {o : HO} (h : H p = none) : Le H (upd H p o) := fun b x e => by
  rw [upd_ne (ne_of_none e h)]; exact e
/-- F: what stays; H: all that is tracked -/
structure Gr (F H F' H' : Hp) : Prop where
  f : Le F F'
  h : Le H H'
  n : ∀ a, H a ≠ none → F' a = F a
  le : Le F' H'
theorem Gr.refl {F H : Hp} (l : Le F H) : Gr F H F H := ⟨Le.refl F, Le.refl H, fun _ _ => rfl, l⟩
theorem Gr.trans {F H F1 H1 F2 H2 : Hp} (a : Gr F H F1 H1) (b : Gr F1 H1 F2 H2) : Gr F H F2 H2 :=
  ⟨a.f.trans b.f, a.h.trans b.h, fun x hx => (b.n x (fun e => by
    cases q : H x with
    | none => exact hx q
    | some o => rw [a.h x o q] at e; cases e)).trans (a.n x hx), b.le⟩
/-- a new thing that stays -/
theorem Gr.new {F H : Hp} {p : Addr} {o : HO} (l : Le F H) (h : H p = none) : Gr F H (upd F p o) (upd H p o) := by
  have hF : F p = none := by
    cases q : F p with
    | none => rfl
    | some u => rw [l p u q] at h; cases h
  refine ⟨Le.upd hF, Le.upd h, fun a ha => upd_ne (fun e => by rw [e] at ha; exact ha h), fun a u e => ?_⟩
  by_cases ea : a = p
  · subst ea; rw [upd_same] at e ⊢; exact e
  · rw [upd_ne ea] at e ⊢; exact l a u e
/-- a new thing that is tracked alone -/
theorem Gr.own {F H : Hp} {p : Addr} {o : HO} (l : Le F H) (h : H p = none) : Gr F H F (upd H p o) :=
  ⟨Le.refl F, Le.upd h, fun _ _ => rfl, l.trans (Le.upd h)⟩
end PD
namespace L2
open PySem PySem.Spec PyProof.Rows PD
/-! ## data of the heap -/
theorem SqL.le {K : PySem.W.Frag} {F H : Hp} {a : Addr} {xs : List V} (l : Le F H) (h : SqL K F a xs) : SqL K H a xs := by
  rcases h with (h | ⟨o, h⟩) | h
  · exact .inl (.inl (l _ _ h))
  · exact .inl (.inr ⟨o, l _ _ h⟩)
  · exact .inr h
theorem SqT.le {K : PySem.W.Frag} {F H : Hp} {a : Addr} {xs : List V} (l : Le F H) (h : SqT K F a xs) : SqT K H a xs := by
  rcases h with (h | ⟨o, h⟩) | h
  · exact .inl (.inl (l _ _ h))
  · exact .inl (.inr ⟨o, l _ _ h⟩)
  · exact .inr h
mutual
theorem Dp.le {K : PySem.W.Frag} {F H : Hp} (l : Le F H) : ∀ {v : V} {d : PyData}, Dp K F v d → Dp K H v d
  | _, _, .non => .non
  | _, _, .bl b => .bl b
  | _, _, .int i => .int i
  | _, _, .str x => .str x
  | _, _, .lst h hs => .lst (SqL.le l h) (DpAll.le l hs)
  | _, _, .tup h hs => .tup (SqT.le l h) (DpAll.le l hs)
theorem DpAll.le {K : PySem.W.Frag} {F H : Hp} (l : Le F H) : ∀ {vs : List V} {ds : List PyData}, DpAll K F vs ds → DpAll K H vs ds
  | _, _, .nil => .nil
  | _, _, .cons h hs => .cons (Dp.le l h) (DpAll.le l hs)
end
theorem DpAll.length {K : PySem.W.Frag} {H : Hp} : ∀ {vs : List V} {ds : List PyData}, DpAll K H vs ds → vs.length = ds.length
  | _, _, .nil => rfl
  | _, _, .cons _ hs => by rw [List.length_cons, List.length_cons, DpAll.length hs]
theorem DpAll.get {K : PySem.W.Frag} {H : Hp} : ∀ {vs : List V} {ds : List PyData} {i : Nat} {d : PyData}, DpAll K H vs ds → ds[i]? = some d → ∃ v, vs[i]? = some v ∧ Dp K H v d
  | _, _, _, _, .nil, e => by simp at e
  | _, _, 0, _, .cons h _, e => by simp at e; subst e; exact ⟨_, rfl, h⟩
  | _, _, i + 1, d, .cons _ hs, e => by
    obtain ⟨v, h1, h2⟩ := DpAll.get (i := i) (d := d) hs (by simpa using e)
    exact ⟨v, by simpa using h1, h2⟩
theorem DpAll.get' {K : PySem.W.Frag} {H : Hp} {vs : List V} {ds : List PyData} {i : Nat} {v : V} (h : DpAll K H vs ds) (e : vs[i]? = some v) : ∃ d, ds[i]? = some d ∧ Dp K H v d := by
  have hl := h.length
  obtain ⟨hi, _⟩ := List.getElem?_eq_some_iff.mp e
  have hi' : i < ds.length := by omega
  obtain ⟨v', e', q⟩ := h.get (List.getElem?_eq_getElem hi')
  rw [e] at e'; cases e'
  exact ⟨_, List.getElem?_eq_getElem hi', q⟩
theorem DpAll.append {K : PySem.W.Frag} {H : Hp} : ∀ {vs ws : List V} {ds es : List PyData}, DpAll K H vs ds → DpAll K H ws es → DpAll K H (vs ++ ws) (ds ++ es)
  | _, _, _, _, .nil, s => s
  | _, _, _, _, .cons h hs, s => .cons h (DpAll.append hs s)
theorem DpAll.take {K : PySem.W.Frag} {H : Hp} : ∀ {vs : List V} {ds : List PyData} (n : Nat), DpAll K H vs ds → DpAll K H (vs.take n) (ds.take n)
  | _, _, 0, _ => .nil
  | _, _, _ + 1, .nil => .nil
  | _, _, n + 1, .cons h hs => .cons h (DpAll.take n hs)
theorem DpAll.drop {K : PySem.W.Frag} {H : Hp} : ∀ {vs : List V} {ds : List PyData} (n : Nat), DpAll K H vs ds → DpAll K H (vs.drop n) (ds.drop n)
  | _, _, 0, h => h
  | _, _, _ + 1, .nil => .nil
  | _, _, n + 1, .cons _ hs => DpAll.drop n hs
theorem DpAll.rev {K : PySem.W.Frag} {H : Hp} : ∀ {vs : List V} {ds : List PyData}, DpAll K H vs ds → DpAll K H vs.reverse ds.reverse
  | _, _, .nil => .nil
  | _, _, .cons h hs => by
    rw [List.reverse_cons, List.reverse_cons]
    exact DpAll.append (DpAll.rev hs) (.cons h .nil)
theorem DpAll.set {K : PySem.W.Frag} {H : Hp} {v : V} {d : PyData} (h : Dp K H v d) : ∀ {vs : List V} {ds : List PyData} (i : Nat), DpAll K H vs ds → DpAll K H (vs.set i v) (ds.set i d)
  | _, _, _, .nil => .nil
  | _, _, 0, .cons _ hs => .cons h hs
  | _, _, i + 1, .cons q hs => .cons q (DpAll.set h i hs)
theorem DpAll.ints {K : PySem.W.Frag} {H : Hp} : ∀ {vs : List V} {ns : List Int}, DpAll K H vs (ns.map PyData.int) → vs = ns.map V.int
  | _, [], .nil => rfl
  | _, n :: ns, .cons h hs => by
    cases h
    rw [DpAll.ints hs]; rfl
theorem DpAll.bools {K : PySem.W.Frag} {H : Hp} : ∀ {vs : List V} {ns : List Bool}, DpAll K H vs (ns.map PyData.bool) → vs = ns.map V.bl
  | _, [], .nil => rfl
  | _, n :: ns, .cons h hs => by
    cases h
    rw [DpAll.bools hs]; rfl
theorem Dp.new_tup {K : PySem.W.Frag} {F : Hp} {p : Addr} {vs : List V} {ds : List PyData} (h : F p = none) (hs : DpAll K F vs ds) : Dp K (upd F p (.tup vs)) (.ref p) (.tuple ds) :=
  .tup (SqT.of upd_same) (DpAll.le (Le.upd h) hs)
theorem Dp.new_lst {K : PySem.W.Frag} {F : Hp} {p : Addr} {vs : List V} {ds : List PyData} (h : F p = none) (hs : DpAll K F vs ds) : Dp K (upd F p (.lst vs)) (.ref p) (.list ds) :=
  .lst (SqL.of upd_same) (DpAll.le (Le.upd h) hs)
theorem _root_.PD.Le.none {F H : Hp} {p : Addr} (l : Le F H) (h : H p = none) : F p = none := by
  cases q : F p with
  | none => rfl
  | some u => rw [l p u q] at h; cases h
end L2
namespace PD
open PySem PySem.Spec PyProof.Rows L2
abbrev St := List (Option V)
/-! ## the state -/
def SlOk (K : PySem.W.Frag) (F G H : Hp) : Option (Option V) → Sl → Prop
  | _, .un => True
  | some (some v), .d x => Dp K F v x
  | some (some (.ref a)), .lo xs => G a = none ∧ ∃ vs, H a = some (.lst vs) ∧ DpAll K F vs xs
  | _, _ => False
def Sl.owned : Sl → Bool
  | .lo _ => true
  | _ => false
structure Rl (K : PySem.W.Frag) (ρ : Ev) (F G : Hp) (σ : St) (H : Hp) : Prop where
  len : ρ.length = σ.length
  fg : Le F G
  gh : Le G H
  sl : ∀ (i : Nat) (x : Sl), ρ[i]? = some x → SlOk K F G H σ[i]? x
  dis : ∀ (i j : Nat) (x y : Sl) (a : Addr), i ≠ j → ρ[i]? = some x → ρ[j]? = some y → x.owned = true → y.owned = true → σ[i]? = some (some (.ref a)) → σ[j]? ≠ some (some (.ref a))
theorem Rl.fh {K : PySem.W.Frag} {ρ : Ev} {F G : Hp} {σ : St} {H : Hp} (r : Rl K ρ F G σ H) : Le F H := r.fg.trans r.gh
/-- what stays of one's own -/
structure GrS (F G F' G' : Hp) : Prop where
  f : Le F F'
  g : Le G G'
  n : ∀ a, G a ≠ none → F' a = F a
theorem GrS.refl (F G : Hp) : GrS F G F G := ⟨Le.refl F, Le.refl G, fun _ _ => rfl⟩
theorem GrS.trans {F G F1 G1 F2 G2 : Hp} (a : GrS F G F1 G1) (b : GrS F1 G1 F2 G2) : GrS F G F2 G2 :=
  ⟨a.f.trans b.f, a.g.trans b.g, fun x hx => (b.n x (fun e => by
    cases q : G x with
    | none => exact hx q
    | some o => rw [a.g x o q] at e; cases e)).trans (a.n x hx)⟩
/-- F's new things put to G -/
def join (G F : Hp) : Hp := fun a => match G a with
  | some o => some o
  | none => F a
theorem SlOk.dd {K : PySem.W.Frag} {F G H F' G' H' : Hp} {o : Option (Option V)} {x : PyData} (h : SlOk K F G H o (.d x)) (lf : Le F F') : SlOk K F' G' H' o (.d x) := by
  cases o with
  | none => exact h.elim
  | some v =>
    cases v with
    | none => exact h.elim
    | some v => exact Dp.le lf h
theorem SlOk.mono {K : PySem.W.Frag} {F G H F' G' H' : Hp} {o : Option (Option V)} {x : Sl} (h : SlOk K F G H o x) (lf : Le F F') (lh : Le H H') (lg : ∀ a, H a ≠ none → G' a = G a) : SlOk K F' G' H' o x := by
  cases x with
  | un => cases o <;> trivial
  | d x =>
    cases o with
    | none => exact h.elim
    | some v =>
      cases v with
      | none => exact h.elim
      | some v =>
        have h : Dp K F v x := h
        show Dp K F' v x
        exact h.le lf
  | lo xs =>
    cases o with
    | none => exact h.elim
    | some v =>
      cases v with
      | none => exact h.elim
      | some v =>
        cases v with
        | ref a =>
          obtain ⟨h1, vs, h2, h3⟩ := h
          exact ⟨(lg a (by rw [h2]; exact fun z => by cases z)).trans h1, vs, lh _ _ h2, h3.le lf⟩
        | _ => exact h.elim
theorem Rl.grow {K : PySem.W.Frag} {ρ : Ev} {F G : Hp} {σ : St} {H F' H' : Hp} (r : Rl K ρ F G σ H) (g : Gr F H F' H') : Rl K ρ F' (join G F') σ H' ∧ GrS F G F' (join G F') := by
  have hn : ∀ a, H a ≠ none → join G F' a = G a := fun a ha => by
    unfold join
    cases q : G a with
    | some o => rfl
    | none =>
      show F' a = none
      rw [g.n a ha]
      exact r.fg.none q
  have hfj : Le F' (join G F') := fun a o e => by
    unfold join
    cases q : G a with
    | some u =>
      show some u = some o
      have q2 := r.gh a u q
      have q3 := g.n a (by rw [q2]; exact fun z => by cases z)
      rw [e] at q3
      have q4 := r.fg a o q3.symm
      rw [q] at q4; exact q4
    | none => exact e
  have hjh : Le (join G F') H' := fun a o e => by
    unfold join at e
    cases q : G a with
    | some u =>
      rw [q] at e
      have e : some u = some o := e
      cases e
      exact g.h a o (r.gh a o q)
    | none =>
      rw [q] at e
      exact g.le a o e
  refine ⟨⟨r.len, hfj, hjh, fun i x e => (r.sl i x e).mono g.f g.h hn, r.dis⟩, ⟨g.f, fun a o e => ?_, fun a ha => ?_⟩⟩
  · unfold join; rw [e]
  · refine g.n a fun z => ha ?_
    cases q : G a with
    | none => rfl
    | some u => rw [r.gh a u q] at z; cases z
theorem Rl.get {K : PySem.W.Frag} {ρ : Ev} {F G : Hp} {σ : St} {H : Hp} {i : Nat} {x : PyData} (r : Rl K ρ F G σ H) (e : ρ[i]? = some (.d x)) : ∃ v, σ[i]? = some (some v) ∧ Dp K F v x := by
  have h := r.sl i _ e
  cases q : σ[i]? with
  | none => rw [q] at h; exact h.elim
  | some v =>
    rw [q] at h
    cases v with
    | none => exact h.elim
    | some v => exact ⟨v, rfl, h⟩
theorem Rl.getL {K : PySem.W.Frag} {ρ : Ev} {F G : Hp} {σ : St} {H : Hp} {i : Nat} {xs : List PyData} (r : Rl K ρ F G σ H) (e : ρ[i]? = some (.lo xs)) : ∃ a vs, σ[i]? = some (some (.ref a)) ∧ G a = none ∧ H a = some (.lst vs) ∧ DpAll K F vs xs := by
  have h := r.sl i _ e
  cases q : σ[i]? with
  | none => rw [q] at h; exact h.elim
  | some v =>
    rw [q] at h
    cases v with
    | none => exact h.elim
    | some v =>
      cases v with
      | ref a =>
        obtain ⟨h1, vs, h2, h3⟩ := h
        exact ⟨a, vs, rfl, h1, h2, h3⟩
      | _ => exact h.elim
theorem set_get {α : Type} {l : List α} {i j : Nat} {x y : α} (e : (l.set i x)[j]? = some y) : (i = j ∧ y = x) ∨ (i ≠ j ∧ l[j]? = some y) := by
  by_cases h : i = j
  · subst h
    by_cases hi : i < l.length
    · rw [List.getElem?_set_self hi] at e; cases e; exact .inl ⟨rfl, rfl⟩
    · rw [List.getElem?_eq_none (by simpa using hi)] at e; cases e
  · rw [List.getElem?_set_ne h] at e; exact .inr ⟨h, e⟩
/-- a datum is put to a slot -/
theorem Rl.set {K : PySem.W.Frag} {ρ : Ev} {F G : Hp} {σ : St} {H : Hp} {v : V} {x : PyData} (r : Rl K ρ F G σ H) (i : Nat) (h : Dp K F v x) : Rl K (ρ.set i (.d x)) F G (σ.set i (some v)) H := by
  refine ⟨by rw [List.length_set, List.length_set]; exact r.len, r.fg, r.gh, fun j y e => ?_, fun j k y z a hjk e1 e2 o1 o2 q => ?_⟩
  · rcases set_get e with ⟨rfl, rfl⟩ | ⟨ne, e⟩
    · have hi : i < σ.length := by
        rw [← r.len]
        obtain ⟨q, _⟩ := List.getElem?_eq_some_iff.mp e
        simpa using q
      rw [List.getElem?_set_self hi]
      exact h
    · rw [List.getElem?_set_ne ne]
      exact r.sl j y e
  · rcases set_get e1 with ⟨rfl, rfl⟩ | ⟨ne, e1⟩
    · cases o1
    · rcases set_get e2 with ⟨rfl, rfl⟩ | ⟨ne2, e2⟩
      · cases o2
      · rw [List.getElem?_set_ne ne2]
        rw [List.getElem?_set_ne ne] at q
        exact r.dis j k y z a hjk e1 e2 o1 o2 q
/-- a slot is forgotten -/
theorem Rl.unset {K : PySem.W.Frag} {ρ : Ev} {F G : Hp} {σ : St} {H : Hp} (r : Rl K ρ F G σ H) (i : Nat) (v : Option V) : Rl K (ρ.set i .un) F G (σ.set i v) H := by
  refine ⟨by rw [List.length_set, List.length_set]; exact r.len, r.fg, r.gh, fun j y e => ?_, fun j k y z a hjk e1 e2 o1 o2 q => ?_⟩
  · rcases set_get e with ⟨rfl, rfl⟩ | ⟨ne, e⟩
    · unfold SlOk; cases (σ.set i v)[i]? <;> trivial
    · rw [List.getElem?_set_ne ne]
      exact r.sl j y e
  · rcases set_get e1 with ⟨rfl, rfl⟩ | ⟨ne, e1⟩
    · cases o1
    · rcases set_get e2 with ⟨rfl, rfl⟩ | ⟨ne2, e2⟩
      · cases o2
      · rw [List.getElem?_set_ne ne2]
        rw [List.getElem?_set_ne ne] at q
        exact r.dis j k y z a hjk e1 e2 o1 o2 q
/-- a new list of one's own is put to a slot -/
theorem Rl.setL {K : PySem.W.Frag} {ρ : Ev} {F G : Hp} {σ : St} {H H' : Hp} {p : Addr} {vs : List V} {xs : List PyData} (r : Rl K ρ F G σ H) (i : Nat) (l : Le H H') (hp : H p = none) (hp' : H' p = some (.lst vs)) (h : DpAll K F vs xs) : Rl K (ρ.set i (.lo xs)) F G (σ.set i (some (.ref p))) H' := by
  have ne_p : ∀ (j : Nat) (y : Sl) (a : Addr), ρ[j]? = some y → y.owned = true → σ[j]? = some (some (.ref a)) → a ≠ p := fun j y a e o q z => by
    cases y with
    | lo ys =>
      obtain ⟨a', us, q1, q2, q3, q4⟩ := r.getL e
      rw [q] at q1; cases q1
      rw [z, hp] at q3; cases q3
    | _ => cases o
  refine ⟨by rw [List.length_set, List.length_set]; exact r.len, r.fg, r.gh.trans l, fun j y e => ?_, fun j k y z a hjk e1 e2 o1 o2 q => ?_⟩
  · rcases set_get e with ⟨rfl, rfl⟩ | ⟨ne, e⟩
    · have hi : i < σ.length := by
        rw [← r.len]
        obtain ⟨q, _⟩ := List.getElem?_eq_some_iff.mp e
        simpa using q
      rw [List.getElem?_set_self hi]
      exact ⟨r.gh.none hp, vs, hp', h⟩
    · rw [List.getElem?_set_ne ne]
      exact (r.sl j y e).mono (Le.refl F) l fun _ _ => rfl
  · rcases set_get e1 with ⟨rfl, rfl⟩ | ⟨ne, e1⟩
    · have hi : i < σ.length := by
        rw [← r.len]
        obtain ⟨q, _⟩ := List.getElem?_eq_some_iff.mp (show (ρ.set i (.lo xs))[i]? = _ from by assumption)
        simpa using q
      rw [List.getElem?_set_self hi] at q
      cases q
      rcases set_get e2 with ⟨rfl, rfl⟩ | ⟨ne2, e2⟩
      · exact absurd rfl hjk
      · rw [List.getElem?_set_ne ne2]
        exact fun q2 => ne_p k z p e2 o2 q2 rfl
    · rw [List.getElem?_set_ne ne] at q
      rcases set_get e2 with ⟨rfl, rfl⟩ | ⟨ne2, e2⟩
      · have na := ne_p j y a e1 o1 q
        intro q2
        by_cases hi : i < σ.length
        · rw [List.getElem?_set_self hi] at q2
          cases q2
          exact na rfl
        · rw [List.getElem?_eq_none (by simpa using hi)] at q2; cases q2
      · rw [List.getElem?_set_ne ne2]
        exact r.dis j k y z a hjk e1 e2 o1 o2 q
/-- one's own list is written -/
theorem Rl.write {K : PySem.W.Frag} {ρ : Ev} {F G : Hp} {σ : St} {H : Hp} {i : Nat} {xs ys : List PyData} {a : Addr} {vs : List V} (r : Rl K ρ F G σ H) (e : ρ[i]? = some (.lo xs)) (ea : σ[i]? = some (some (.ref a))) (h : DpAll K F vs ys) : Rl K (ρ.set i (.lo ys)) F G σ (upd H a (.lst vs)) := by
  obtain ⟨a', us, q1, q2, q3, q4⟩ := r.getL e
  rw [ea] at q1; cases q1
  refine ⟨by rw [List.length_set]; exact r.len, r.fg, fun b o eb => ?_, fun j y ej => ?_, fun j k y z b hjk e1 e2 o1 o2 q => ?_⟩
  · rw [upd_ne (ne_of_none eb q2)]
    exact r.gh b o eb
  · rcases set_get ej with ⟨rfl, rfl⟩ | ⟨ne, ej⟩
    · rw [ea]
      exact ⟨q2, vs, upd_same, h⟩
    · have hj := r.sl j y ej
      cases y with
      | un => unfold SlOk; cases σ[j]? <;> trivial
      | d x => exact hj.dd (Le.refl F)
      | lo zs =>
        obtain ⟨b, us', p1, p2, p3, p4⟩ := r.getL ej
        rw [p1]
        refine ⟨p2, us', ?_, p4⟩
        rw [upd_ne ?_]
        · exact p3
        · intro z
          subst z
          exact r.dis i j _ _ b ne e ej rfl rfl ea p1
  · rcases set_get e1 with ⟨rfl, rfl⟩ | ⟨ne, e1⟩
    · rcases set_get e2 with ⟨rfl, rfl⟩ | ⟨ne2, e2⟩
      · exact absurd rfl hjk
      · exact r.dis i k _ z b hjk e e2 rfl o2 q
    · rcases set_get e2 with ⟨rfl, rfl⟩ | ⟨ne2, e2⟩
      · exact r.dis j i y _ b hjk e1 e o1 rfl q
      · exact r.dis j k y z b hjk e1 e2 o1 o2 q
/-- one's own list is given away: from now on it stays as it is -/
theorem Rl.frz {K : PySem.W.Frag} {ρ : Ev} {F G : Hp} {σ : St} {H : Hp} {i : Nat} {xs : List PyData} (r : Rl K ρ F G σ H) (e : ρ[i]? = some (.lo xs)) : ∃ F' G', Rl K (ρ.set i (.d (.list xs))) F' G' σ H ∧ GrS F G F' G' := by
  obtain ⟨a, vs, q1, q2, q3, q4⟩ := r.getL e
  have fa := r.fg.none q2
  refine ⟨upd F a (.lst vs), upd G a (.lst vs), ⟨by rw [List.length_set]; exact r.len, fun b o eb => ?_, fun b o eb => ?_, fun j y ej => ?_, fun j k y z b hjk e1 e2 o1 o2 q => ?_⟩, ⟨Le.upd fa, Le.upd q2, fun b hb => upd_ne fun z => hb (by rw [z]; exact q2)⟩⟩
  · by_cases hb : b = a
    · subst hb; rw [upd_same] at eb ⊢; exact eb
    · rw [upd_ne hb] at eb ⊢; exact r.fg b o eb
  · by_cases hb : b = a
    · subst hb; rw [upd_same] at eb; cases eb; exact q3
    · rw [upd_ne hb] at eb; exact r.gh b o eb
  · rcases set_get ej with ⟨rfl, rfl⟩ | ⟨ne, ej⟩
    · rw [q1]
      exact Dp.new_lst fa q4
    · have hj := r.sl j y ej
      cases y with
      | un => unfold SlOk; cases σ[j]? <;> trivial
      | d x => exact hj.dd (Le.upd fa)
      | lo zs =>
        obtain ⟨b, us', p1, p2, p3, p4⟩ := r.getL ej
        rw [p1]
        refine ⟨?_, us', p3, p4.le (Le.upd fa)⟩
        rw [upd_ne ?_]
        · exact p2
        · intro z
          subst z
          exact r.dis i j _ _ b ne e ej rfl rfl q1 p1
  · rcases set_get e1 with ⟨rfl, rfl⟩ | ⟨ne, e1⟩
    · cases o1
    · rcases set_get e2 with ⟨rfl, rfl⟩ | ⟨ne2, e2⟩
      · cases o2
      · exact r.dis j k y z b hjk e1 e2 o1 o2 q
end PD
namespace PD
open PySem PySem.Spec PyProof.Rows L2
/-! ## what is wanted of a result -/
abbrev EW := String → St → Hp → Prop
/-- how a value of the machine tells a value of ours: over the heap at the start, what stays, all -/
abbrev PR (β α : Type) := Hp → Hp → Hp → β → α → Prop
def Po {β α : Type} (We : EW) (P : PR β α) (F H : Hp) (σ : St) (r : R α) (Q : β → Hp → Prop) : Prop :=
  match r with
  | .ok a => ∀ b F' H', Gr F H F' H' → P H F' H' b a → Q b H'
  | .err c => ∀ H', Le H H' → We c σ H'
  | .bad => False
def tM {β α : Type} (K : PySem.W.Frag) (We : EW) (P : PR β α) (m : Ev → R α) : St → Hp → (β → Hp → Prop) → Prop :=
  fun σ H Q => ∃ ρ F G, Rl K ρ F G σ H ∧ Po We P F H σ (m ρ) Q
/-- P may start later -/
class Anti {β α : Type} (P : PR β α) : Prop where
  anti : ∀ H H1 F' H' b a, Le H H1 → P H1 F' H' b a → P H F' H' b a
def pD (K : PySem.W.Frag) : PR V PyData := fun _ F _ v d => Dp K F v d
def pB (K : PySem.W.Frag) : PR V PyData := fun _ F H v d => Dp K F v d ∨ ∃ a vs ds, v = V.ref a ∧ d = .list ds ∧ H a = some (.lst vs) ∧ DpAll K F vs ds
def pF (K : PySem.W.Frag) : PR V PyData := fun H0 F H v d => ∃ a vs ds, v = V.ref a ∧ d = .list ds ∧ H0 a = none ∧ F a = none ∧ H a = some (.lst vs) ∧ DpAll K F vs ds
def pT : PR Bool Bool := fun _ _ _ a b => a = b
def pA (K : PySem.W.Frag) : PR (List V) (List PyData) := fun _ F _ vs ds => DpAll K F vs ds
def pAB (K : PySem.W.Frag) : PR (List V) (List PyData) := fun H0 F H vs ds => Paired (fun v d => pB K H0 F H v d) vs ds
instance {K} : Anti (pD K) := ⟨fun _ _ _ _ _ _ _ h => h⟩
instance {K} : Anti (pB K) := ⟨fun _ _ _ _ _ _ _ h => h⟩
instance : Anti pT := ⟨fun _ _ _ _ _ _ _ h => h⟩
instance {K} : Anti (pA K) := ⟨fun _ _ _ _ _ _ _ h => h⟩
instance {K} : Anti (pF K) := ⟨fun _ _ _ _ _ _ l ⟨a, vs, ds, e1, e2, n, r⟩ => ⟨a, vs, ds, e1, e2, l.none n, r⟩⟩
theorem Paired.impP {α β : Type} {F G : α → β → Prop} : ∀ {l₁ : List α} {l₂ : List β}, Paired F l₁ l₂ → (∀ a b, F a b → G a b) → Paired G l₁ l₂
  | _, _, .nil, _ => .nil
  | _, _, .cons r t, f => .cons (f _ _ r) (Paired.impP t f)
instance {K} : Anti (pAB K) := ⟨fun _ _ _ _ _ _ l h => Paired.impP h fun _ _ q => q⟩
theorem Po.step {β α : Type} {We : EW} {P : PR β α} [Anti P] {F H F1 H1 : Hp} {σ : St} {r : R α} {Q : β → Hp → Prop} (g : Gr F H F1 H1) (h : Po We P F H σ r Q) : Po We P F1 H1 σ r Q := by
  cases r with
  | ok a => exact fun b F' H' g' p => h b F' H' (g.trans g') (Anti.anti _ _ _ _ _ _ g.h p)
  | err c => exact fun H' l => h H' (g.h.trans l)
  | bad => exact h
/-- the first of two -/
theorem Po.bind {β α γ δ : Type} {We : EW} {P : PR β α} {P2 : PR δ γ} [Anti P2] {F H : Hp} {σ : St} {r : R α} {f : α → R γ} {Q : δ → Hp → Prop} {Q1 : β → Hp → Prop} (h : Po We P2 F H σ (r.bind f) Q)
    (k : ∀ a b F1 H1, Gr F H F1 H1 → P H F1 H1 b a → Po We P2 F1 H1 σ (f a) Q → Q1 b H1) : Po We P F H σ r Q1 := by
  cases r with
  | ok a => exact fun b F1 H1 g p => k a b F1 H1 g p (Po.step g h)
  | err c => exact h
  | bad => exact h
theorem Po.imp {β δ α : Type} {We : EW} {P : PR β α} {P2 : PR δ α} {F H : Hp} {σ : St} {r : R α} {Q : δ → Hp → Prop} {Q1 : β → Hp → Prop} (h : Po We P2 F H σ r Q)
    (k : ∀ a b F1 H1, Gr F H F1 H1 → P H F1 H1 b a → (∀ b' F2 H2, Gr F1 H1 F2 H2 → P2 H F2 H2 b' a → Q b' H2) → Q1 b H1) : Po We P F H σ r Q1 := by
  cases r with
  | ok a => exact fun b F1 H1 g p => k a b F1 H1 g p fun b' F2 H2 g2 q => h b' F2 H2 (g.trans g2) q
  | err c => exact h
  | bad => exact h
/-! ## judgements -/
abbrev XE (X : Cx) (We : EW) (e : Expr) (m : Ev → R PyData) : Prop := PE X e (tM X.K We (pD X.K) m)
abbrev XB (X : Cx) (We : EW) (e : Expr) (m : Ev → R PyData) : Prop := PE X e (tM X.K We (pB X.K) m)
abbrev XF (X : Cx) (We : EW) (e : Expr) (m : Ev → R PyData) : Prop := PE X e (tM X.K We (pF X.K) m)
abbrev XT (X : Cx) (We : EW) (e : Expr) (m : Ev → R Bool) : Prop := PT X e (tM X.K We pT m)
abbrev XW (X : Cx) (We : EW) (e : Expr) (m : Ev → R Bool) : Prop := PW X e (tM X.K We pT m)
abbrev XA (X : Cx) (We : EW) (es : List Expr) (m : Ev → R (List PyData)) : Prop := PA X es (tM X.K We (pA X.K) m)
abbrev XAB (X : Cx) (We : EW) (es : List Expr) (m : Ev → R (List PyData)) : Prop := PA X es (tM X.K We (pAB X.K) m)
section
variable {X : Cx} {We : EW} {e a b c : Expr} {es : List Expr} {pos : Pos}
theorem pe_imp {t u : TE} (h : PE X e t) (k : ∀ σ H Q, u σ H Q → t σ H Q) : PE X e u := ⟨fun pins s σ H Q I q => h.run pins s σ H Q I (k σ H Q q)⟩
theorem pt_imp {t u : TT} (h : PT X e t) (k : ∀ σ H Q, u σ H Q → t σ H Q) : PT X e u := ⟨fun pins s σ H Q I q => h.run pins s σ H Q I (k σ H Q q)⟩
theorem pw_imp {t u : TT} (h : PW X e t) (k : ∀ σ H Q, u σ H Q → t σ H Q) : PW X e u := ⟨fun w pins s σ H Q I q => h.run w pins s σ H Q I (k σ H Q q)⟩
theorem pa_imp {t u : TA} (h : PA X es t) (k : ∀ σ H Q, u σ H Q → t σ H Q) : PA X es u := ⟨fun p pins s σ H Q I q => h.run p pins s σ H Q I (k σ H Q q)⟩
theorem tM_imp {β δ α : Type} {K : PySem.W.Frag} {P : PR β α} {P2 : PR δ α} {m : Ev → R α} {σ : St} {H : Hp} {Q : δ → Hp → Prop} {Q1 : β → Hp → Prop} (h : tM K We P2 m σ H Q)
    (k : ∀ a b F0 F1 H1, Le F0 H → Gr F0 H F1 H1 → P H F1 H1 b a → (∀ b' F2 H2, Gr F1 H1 F2 H2 → P2 H F2 H2 b' a → Q b' H2) → Q1 b H1) : tM K We P m σ H Q1 := by
  obtain ⟨ρ, F, G, r, h⟩ := h
  exact ⟨ρ, F, G, r, h.imp fun a b F1 H1 g p q => k a b F F1 H1 r.fh g p q⟩
theorem tM_bind {β α γ δ : Type} {K : PySem.W.Frag} {P : PR β α} {P2 : PR δ γ} [Anti P2] {m : Ev → R α} {f : α → Ev → R γ} {σ : St} {H : Hp} {Q : δ → Hp → Prop} {Q1 : β → Hp → Prop} (h : tM K We P2 (fun ρ => (m ρ).bind fun a => f a ρ) σ H Q)
    (k : ∀ a b F0 F1 H1, Gr F0 H F1 H1 → P H F1 H1 b a → tM K We P2 (f a) σ H1 Q → (∀ c, (∃ ρ, f a ρ = .ok c ∧ True) → True) → Q1 b H1) : tM K We P m σ H Q1 := by
  obtain ⟨ρ, F, G, r, h⟩ := h
  refine ⟨ρ, F, G, r, Po.bind (P := P) h fun a b F1 H1 g p q => k a b F F1 H1 g p ?_ fun _ _ => trivial⟩
  exact ⟨ρ, F1, _, (r.grow g).1, q⟩
/-! ### from one kind to another -/
theorem xeB {m : Ev → R PyData} (h : XE X We e m) : XB X We e m := pe_imp h fun σ H Q q => tM_imp q fun a b F0 F1 H1 l g p k => k b F1 H1 (Gr.refl g.le) (.inl p)
theorem xfB {m : Ev → R PyData} (h : XF X We e m) : XB X We e m := pe_imp h fun σ H Q q => tM_imp q fun a b F0 F1 H1 l g p k => by
  obtain ⟨x, vs, ds, e1, e2, n0, n1, h1, h2⟩ := p
  exact k b F1 H1 (Gr.refl g.le) (.inr ⟨x, vs, ds, e1, e2, h1, h2⟩)
/-- what is new may stay -/
theorem Gr.keep {F H F' H' : Hp} {p : Addr} {o : HO} (g : Gr F H F' H') (h0 : H p = none) (h1 : F' p = none) (h2 : H' p = some o) : Gr F H (upd F' p o) H' :=
  ⟨g.f.trans (Le.upd h1), g.h, fun a ha => by rw [upd_ne (fun z => ha (by rw [z]; exact h0))]; exact g.n a ha, fun a u ea => by
    by_cases hb : a = p
    · subst hb; rw [upd_same] at ea; cases ea; exact h2
    · rw [upd_ne hb] at ea; exact g.le a u ea⟩
theorem xfE {m : Ev → R PyData} (h : XF X We e m) : XE X We e m := pe_imp h fun σ H Q q => by
  obtain ⟨ρ, F, G, r, q⟩ := q
  refine ⟨ρ, F, G, r, ?_⟩
  cases hm : m ρ with
  | ok d =>
    rw [hm] at q
    intro v F1 H1 g p
    obtain ⟨x, vs, ds, rfl, rfl, n0, n1, h1, h2⟩ := p
    exact q _ _ _ (g.keep n0 n1 h1) (Dp.new_lst n1 h2)
  | err c => rw [hm] at q; exact q
  | bad => rw [hm] at q; exact q
theorem pB.dp {K : PySem.W.Frag} {H0 F H : Hp} {v : V} {d : PyData} (l : Le F H) (h : pB K H0 F H v d) : Dp K H v d := by
  rcases h with h | ⟨a, vs, ds, rfl, rfl, h1, h2⟩
  · exact h.le l
  · exact .lst (SqL.of h1) (h2.le l)
theorem pB.grow {K : PySem.W.Frag} {H0 F H F' H' : Hp} {v : V} {d : PyData} (g : Gr F H F' H') (h : pB K H0 F H v d) : pB K H0 F' H' v d := by
  rcases h with h | ⟨a, vs, ds, e1, e2, h1, h2⟩
  · exact .inl (h.le g.f)
  · exact .inr ⟨a, vs, ds, e1, e2, g.h _ _ h1, h2.le g.f⟩
theorem pB.list {K : PySem.W.Frag} {H0 F H : Hp} {v : V} {ds : List PyData} (l : Le F H) (h : pB K H0 F H v (.list ds)) : ∃ a vs, v = V.ref a ∧ SqL K H a vs ∧ DpAll K F vs ds := by
  rcases h with h | ⟨a, vs, ds', e1, e2, h1, h2⟩
  · cases h with
    | lst h1 h2 => exact ⟨_, _, rfl, h1.le l, h2⟩
  · cases e2
    exact ⟨a, vs, e1, SqL.of h1, h2⟩
theorem pB.tuple {K : PySem.W.Frag} {H0 F H : Hp} {v : V} {ds : List PyData} (l : Le F H) (h : pB K H0 F H v (.tuple ds)) : ∃ a vs, v = V.ref a ∧ SqT K H a vs ∧ DpAll K F vs ds := by
  rcases h with h | ⟨a, vs, ds', e1, e2, h1, h2⟩
  · cases h with
    | tup h1 h2 => exact ⟨_, _, rfl, h1.le l, h2⟩
  · cases e2
theorem pB.int {K : PySem.W.Frag} {H0 F H : Hp} {v : V} {i : Int} (h : pB K H0 F H v (.int i)) : v = .int i := by
  rcases h with h | ⟨a, vs, ds', e1, e2, h1, h2⟩
  · cases h; rfl
  · cases e2
theorem pB.str {K : PySem.W.Frag} {H0 F H : Hp} {v : V} {i : Str} (h : pB K H0 F H v (.str i)) : v = .str i := by
  rcases h with h | ⟨a, vs, ds', e1, e2, h1, h2⟩
  · cases h; rfl
  · cases e2
theorem pB.bool {K : PySem.W.Frag} {H0 F H : Hp} {v : V} {i : Bool} (h : pB K H0 F H v (.bool i)) : v = .bl i := by
  rcases h with h | ⟨a, vs, ds', e1, e2, h1, h2⟩
  · cases h; rfl
  · cases e2
theorem pB.none {K : PySem.W.Frag} {H0 F H : Hp} {v : V} (h : pB K H0 F H v .none) : v = .non := by
  rcases h with h | ⟨a, vs, ds', e1, e2, h1, h2⟩
  · cases h; rfl
  · cases e2
/-! ### names and constants -/
def vE (i : Nat) (ρ : Ev) : R PyData := match ρ[i]? with
  | some (.d x) => .ok x
  | _ => .bad
def vB (i : Nat) (ρ : Ev) : R PyData := match ρ[i]? with
  | some (.d x) => .ok x
  | some (.lo xs) => .ok (.list xs)
  | _ => .bad
def cE (d : PyData) (_ : Ev) : R PyData := .ok d
theorem xe_var {i : Nat} {x : Str} (hN : X.N[i]? = some x) (hv : Vis X.env.scope x) (hd : (x == ("__debug__" : Str)) = false) (hcd : (x == ("__classdict__" : Str)) = false) : XE X We (.Name x pos) (vE i) := by
  refine pe_imp (pe_var hN hv hd hcd) fun σ H Q q => ?_
  obtain ⟨ρ, F, G, r, q⟩ := q
  unfold vE at q
  split at q
  · rename_i d e
    obtain ⟨v, ev, h⟩ := r.get e
    exact ⟨v, ev, q _ _ _ (Gr.refl r.fh) h⟩
  · exact q.elim
theorem xb_var {i : Nat} {x : Str} (hN : X.N[i]? = some x) (hv : Vis X.env.scope x) (hd : (x == ("__debug__" : Str)) = false) (hcd : (x == ("__classdict__" : Str)) = false) : XB X We (.Name x pos) (vB i) := by
  refine pe_imp (pe_var hN hv hd hcd) fun σ H Q q => ?_
  obtain ⟨ρ, F, G, r, q⟩ := q
  unfold vB at q
  split at q
  · rename_i d e
    obtain ⟨v, ev, h⟩ := r.get e
    exact ⟨v, ev, q _ _ _ (Gr.refl r.fh) (.inl h)⟩
  · rename_i xs e
    obtain ⟨a, vs, h1, h2, h3, h4⟩ := r.getL e
    exact ⟨_, h1, q _ _ _ (Gr.refl r.fh) (.inr ⟨a, vs, xs, rfl, rfl, h3, h4⟩)⟩
  · exact q.elim
theorem xe_c {v : V} {d : PyData} (h : PE X e (tC v)) (hd : ∀ F, Dp X.K F v d) : XE X We e (cE d) := by
  refine pe_imp h fun σ H Q q => ?_
  obtain ⟨ρ, F, G, r, q⟩ := q
  exact q v F H (Gr.refl r.fh) (hd F)
theorem xe_int {i j} : XE X We (.Constant (.int i) j pos) (cE (.int i)) := xe_c pe_int fun _ => .int i
theorem xe_bool {i j} : XE X We (.Constant (.bool i) j pos) (cE (.bool i)) := xe_c pe_bl fun _ => .bl i
theorem xe_none {j} : XE X We (.Constant .none j pos) (cE .none) := xe_c pe_non fun _ => .non
theorem xe_str {i j} : XE X We (.Constant (.str i) j pos) (cE (.str i)) := xe_c pe_str fun _ => .str i
/-- a constant of the module -/
theorem xe_glob {x : Str} {v : V} {u : Value} {d : PyData} (hg : Gl X x) (hm : X.mg x = some u) (r : RelV v u) (hd : ∀ F, Dp X.K F v d) (hdb : (x == ("__debug__" : Str)) = false) : XE X We (.Name x pos) (cE d) := xe_c (pe_glob hg hm r hdb) hd
/-! ### operators -/
def op2 (f : PyData → PyData → R PyData) (ma mb : Ev → R PyData) (ρ : Ev) : R PyData := (ma ρ).bind fun x => (mb ρ).bind fun y => f x y
def op1 (f : PyData → R PyData) (ma : Ev → R PyData) (ρ : Ev) : R PyData := (ma ρ).bind f
/-- two values come to a result -/
def rO (K : PySem.W.Frag) (f : PyData → PyData → R PyData) : R2 := fun x y H Q => ∃ F d e c, Le F H ∧ pB K H F H x d ∧ pB K H F H y e ∧ f d e = .ok c ∧ ∀ v F' H', Gr F H F' H' → Dp K F' v c → Q v H'
def rO1 (K : PySem.W.Frag) (f : PyData → R PyData) : V → Hp → VK → Prop := fun x H Q => ∃ F d c, Le F H ∧ pB K H F H x d ∧ f d = .ok c ∧ ∀ v F' H', Gr F H F' H' → Dp K F' v c → Q v H'
/-- f never tells an error -/
def Pure2 (f : PyData → PyData → R PyData) : Prop := ∀ d e c, f d e ≠ .err c
abbrev Pure1' {α : Type} (f : PyData → R α) : Prop := ∀ d c, f d ≠ .err c
def Pure1 (f : PyData → R PyData) : Prop := ∀ d c, f d ≠ .err c
theorem tO2 {f : PyData → PyData → R PyData} {ma mb : Ev → R PyData} (pf : Pure2 f) {σ : St} {H : Hp} {Q : VK} (h : tM X.K We (pD X.K) (op2 f ma mb) σ H Q) :
    tM X.K We (pB X.K) ma σ H fun x H1 => tM X.K We (pB X.K) mb σ H1 fun y H2 => rO X.K f x y H2 Q := by
  obtain ⟨ρ, F, G, r, h⟩ := h
  refine ⟨ρ, F, G, r, Po.bind (P := pB X.K) h fun d x F1 H1 g1 p1 q1 => ?_⟩
  refine ⟨ρ, F1, _, (r.grow g1).1, Po.bind (P := pB X.K) q1 fun e y F2 H2 g2 p2 q2 => ?_⟩
  cases hf : f d e with
  | ok c =>
    rw [hf] at q2
    exact ⟨F2, d, e, c, g2.le, p1.grow g2, p2, hf, fun v F' H' g p => q2 v F' H' g p⟩
  | err c => exact absurd hf (pf d e c)
  | bad => rw [hf] at q2; exact q2.elim
theorem tO1 {f : PyData → R PyData} {ma : Ev → R PyData} (pf : Pure1 f) {σ : St} {H : Hp} {Q : VK} (h : tM X.K We (pD X.K) (op1 f ma) σ H Q) :
    tM X.K We (pB X.K) ma σ H fun x H1 => rO1 X.K f x H1 Q := by
  obtain ⟨ρ, F, G, r, h⟩ := h
  refine ⟨ρ, F, G, r, Po.bind (P := pB X.K) h fun d x F1 H1 g1 p1 q1 => ?_⟩
  cases hf : f d with
  | ok c =>
    rw [hf] at q1
    exact ⟨F1, d, c, g1.le, p1, hf, fun v F' H' g p => q1 v F' H' g p⟩
  | err c => exact absurd hf (pf d c)
  | bad => rw [hf] at q1; exact q1.elim
theorem xe_op {op : Operator} {f : PyData → PyData → R PyData} {ma mb : Ev → R PyData} (pf : Pure2 f) (ho : OpR X (binaryOp op) (rO X.K f)) (ha : XB X We a ma) (hb : XB X We b mb) : XE X We (.BinOp a op b pos) (op2 f ma mb) :=
  pe_imp (pe_op ho ha hb) fun _ _ _ h => tO2 pf h
theorem xe_un {op : UnaryOp} {f : PyData → R PyData} {ma : Ev → R PyData} (pf : Pure1 f) (ho : UnR X (unaryOp op) (rO1 X.K f)) (ha : XB X We a ma) : XE X We (.UnaryOp op a pos) (op1 f ma) :=
  pe_imp (pe_un ho ha) fun _ _ _ h => tO1 pf h
theorem xe_cmp {op : CmpOp} {f : PyData → PyData → R PyData} {ma mb : Ev → R PyData} (pf : Pure2 f) (ho : OpR X (compareOp op) (rO X.K f)) (h1 : behindInMarks op b = false) (ha : XB X We a ma) (hb : XB X We b mb) : XE X We (.Compare a [op] [b] pos) (op2 f ma mb) :=
  pe_imp (pe_cmpR ho ha hb h1) fun _ _ _ h => tO2 pf h
end
end PD
namespace PD
open PySem PySem.Spec PyProof.Rows L2
/-! ## operators on data -/
abbrev SZ : Nat := 16777216
def BIG : Nat := 2 ^ 1000
theorem sz_eq : sizeLine = SZ := by rw [sizeLine_eq]
def addD : PyData → PyData → R PyData
  | .int i, .int j => .ok (.int (i + j))
  | .tuple xs, .tuple ys => if xs.length + ys.length ≤ SZ then .ok (.tuple (xs ++ ys)) else .bad
  | .list xs, .list ys => if xs.length + ys.length ≤ SZ then .ok (.list (xs ++ ys)) else .bad
  | .str x, .str y => if x.length + y.length ≤ SZ then .ok (.str (x ++ y)) else .bad
  | _, _ => .bad
def subD : PyData → PyData → R PyData
  | .int i, .int j => .ok (.int (i - j))
  | _, _ => .bad
def mulD : PyData → PyData → R PyData
  | .int i, .int j => if i.natAbs < 2 ^ 64 ∨ j.natAbs < 2 ^ 64 ∨ (i.natAbs < BIG ∧ j.natAbs < BIG) then .ok (.int (i * j)) else .bad
  | .tuple xs, .int k => if k.natAbs < 4611686018427387904 ∧ k ≤ 1000 ∧ xs.length ≤ 1000 then .ok (.tuple (List.replicate k.toNat xs).flatten) else .bad
  | _, _ => .bad
def fdivD : PyData → PyData → R PyData
  | .int i, .int j => if 0 < j ∧ (j.natAbs < 1073741824 ∨ j.natAbs < BIG) then .ok (.int (i / j)) else .bad
  | _, _ => .bad
def modD : PyData → PyData → R PyData
  | .int i, .int j => if 0 < j then .ok (.int (i % j)) else .bad
  | _, _ => .bad
def powD : PyData → PyData → R PyData
  | .int i, .int j => if 0 ≤ j ∧ j ≤ 1000 ∧ i.natAbs < 2 ^ 64 then .ok (.int (i ^ j.toNat)) else .bad
  | _, _ => .bad
def negD : PyData → R PyData
  | .int i => .ok (.int (-i))
  | _ => .bad
/-- Python's == of two data -/
def eqB (d e : PyData) : Bool := PyData.eqv d e
/-- no dicts, and not deep -/
def shp (d : PyData) : Bool := d.plain && decide (d.depth ≤ 60)
theorem shp_un {d : PyData} (h : shp d = true) : d.plain = true ∧ d.depth ≤ 60 := by
  unfold shp at h
  simpa using h
def eqD (d e : PyData) : R PyData := if shp d = true ∧ shp e = true then .ok (.bool (PyData.eqv d e)) else .bad
def neD (d e : PyData) : R PyData := if shp d = true ∧ shp e = true then .ok (.bool (!PyData.eqv d e)) else .bad
def cmpOk (d e : PyData) : Bool := PySem.W.alike d e && (match d with | .none => false | _ => true) && decide (d.depth ≤ 64)
def ltD : PyData → PyData → R PyData
  | .int i, .int j => .ok (.bool (decide (i < j)))
  | d, e => if cmpOk d e = true then .ok (.bool (PySem.W.dataLt d e)) else .bad
def gtD : PyData → PyData → R PyData
  | .int i, .int j => .ok (.bool (decide (j < i)))
  | d, e => if cmpOk d e = true then .ok (.bool (PySem.W.dataLt e d)) else .bad
def leD : PyData → PyData → R PyData
  | .int i, .int j => .ok (.bool (decide (i ≤ j)))
  | d, e => if cmpOk d e = true then .ok (.bool (!PySem.W.dataLt e d)) else .bad
def geD : PyData → PyData → R PyData
  | .int i, .int j => .ok (.bool (decide (j ≤ i)))
  | d, e => if cmpOk d e = true then .ok (.bool (!PySem.W.dataLt d e)) else .bad
def isN : PyData → Bool
  | .none => true
  | _ => false
def isNoneD : PyData → PyData → R PyData
  | d, .none => .ok (.bool (isN d))
  | _, _ => .bad
def notNoneD : PyData → PyData → R PyData
  | d, .none => .ok (.bool (!isN d))
  | _, _ => .bad
def inD : PyData → PyData → R PyData
  | d, .list ds => if shp d = true ∧ shp (.list ds) = true then .ok (.bool (ds.any fun z => PyData.eqv z d)) else .bad
  | d, .tuple ds => if shp d = true ∧ shp (.tuple ds) = true then .ok (.bool (ds.any fun z => PyData.eqv z d)) else .bad
  | .str x, .str y => .ok (.bool (!(Builtin.Str.occurrences y x 0 y.length 1).isEmpty))
  | _, _ => .bad
def notInD : PyData → PyData → R PyData
  | d, .list ds => if shp d = true ∧ shp (.list ds) = true then .ok (.bool (!ds.any fun z => PyData.eqv z d)) else .bad
  | d, .tuple ds => if shp d = true ∧ shp (.tuple ds) = true then .ok (.bool (!ds.any fun z => PyData.eqv z d)) else .bad
  | .str x, .str y => .ok (.bool (!(!(Builtin.Str.occurrences y x 0 y.length 1).isEmpty)))
  | _, _ => .bad
def ixD : PyData → PyData → R PyData
  | .list xs, .int i => match atI xs i with | some v => .ok v | none => .bad
  | .tuple xs, .int i => match atI xs i with | some v => .ok v | none => .bad
  | .str z, .int i => if z.length ≤ SZ then match atI z.cps.toList i with | some c => .ok (.str ⟨#[c]⟩) | none => .bad else .bad
  | _, _ => .bad
section
open AutoSeq1 (wpAny_loadPart')
/-! ## t * 1, () * n, t * 0 -/
theorem mul_same (l : Addr) (items : Array Value) (n : Nat) (dd : Option Addr) (sl : Array (Option Value)) (x : Int) (u : Tok) (c0 : (decide (x < -(2 ^ 63)) || decide (x ≥ 2 ^ 63)) = false) (c1 : (items.isEmpty || x == 1) = true) :
    Meets (Builtin.«tuple.__mul__» ⟨[.ref l, .int x u], []⟩) (fun _ R s => s.heap.get? l = some { cls := .type "tuple", dict := dd, data := .seq items n, slots := sl } ∧ R (.ok (.ret (Value.ref l))) s) :=
  .of_wp fun prog w A R s h => by
    obtain ⟨hp, g, d, tk, os⟩ := s
    obtain ⟨hl, h⟩ := h
    have f1 := AutoSeq1.idx_int
    wp_walk using wpAny_loadPart' hl
    repeat (first
      | (refine wpAny_ite_false (decide_eq_false (by rw [c0]; exact Bool.false_ne_true)) ?_; wp_walk using wpAny_loadPart' hl)
      | (refine wpAny_ite_true (decide_eq_true c1) ?_; wp_walk using wpAny_loadPart' hl))
    exact ⟨_, rfl, h⟩
theorem mul_none (l : Addr) (items : Array Value) (n : Nat) (dd : Option Addr) (sl : Array (Option Value)) (x : Int) (u : Tok) (c0 : (decide (x < -(2 ^ 63)) || decide (x ≥ 2 ^ 63)) = false) (c1 : (items.isEmpty || x == 1) = false) (c2 : (decide (x ≤ 0) || items.isEmpty) = true) :
    Meets (Builtin.«tuple.__mul__» ⟨[.ref l, .int x u], []⟩) (fun _ R s => s.heap.get? l = some { cls := .type "tuple", dict := dd, data := .seq items n, slots := sl } ∧
      R (.ok (.ret (Value.ref s.heap.objs.size))) { s with heap := s.heap.push { cls := Value.type "tuple", data := Data.seq #[] }, toks := s.toks }) :=
  .of_wp fun prog w A R s h => by
    obtain ⟨hp, g, d, tk, os⟩ := s
    obtain ⟨hl, h⟩ := h
    have f1 := AutoSeq1.idx_int
    wp_walk using wpAny_loadPart' hl
    repeat (first
      | (refine wpAny_ite_false (decide_eq_false (by rw [c0]; exact Bool.false_ne_true)) ?_; wp_walk using wpAny_loadPart' hl)
      | (refine wpAny_ite_false (decide_eq_false (by rw [c1]; exact Bool.false_ne_true)) ?_; wp_walk using wpAny_loadPart' hl)
      | (refine wpAny_ite_true (decide_eq_true c2) ?_; wp_walk using wpAny_loadPart' hl))
    exact ⟨_, rfl, h⟩
end
/-! ## they are what the machine does -/
theorem pure2_of {f : PyData → PyData → R PyData} (h : ∀ d e, (∃ c, f d e = .ok c) ∨ f d e = .bad) : Pure2 f := fun d e c z => by
  rcases h d e with ⟨x, h⟩ | h <;> rw [h] at z <;> cases z
theorem pure1_of {f : PyData → R PyData} (h : ∀ d, (∃ c, f d = .ok c) ∨ f d = .bad) : Pure1 f := fun d c z => by
  rcases h d with ⟨x, h⟩ | h <;> rw [h] at z <;> cases z
theorem addD_p : Pure2 addD := fun d e c h => by unfold addD at h; split at h <;> first | cases h | (split at h <;> cases h)
theorem subD_p : Pure2 subD := fun d e c h => by unfold subD at h; split at h <;> first | cases h | (split at h <;> cases h)
theorem mulD_p : Pure2 mulD := fun d e c h => by unfold mulD at h; split at h <;> first | cases h | (split at h <;> cases h)
theorem fdivD_p : Pure2 fdivD := fun d e c h => by unfold fdivD at h; split at h <;> first | cases h | (split at h <;> cases h)
theorem modD_p : Pure2 modD := fun d e c h => by unfold modD at h; split at h <;> first | cases h | (split at h <;> cases h)
theorem powD_p : Pure2 powD := fun d e c h => by unfold powD at h; split at h <;> first | cases h | (split at h <;> cases h)
theorem negD_p : Pure1 negD := fun d c h => by unfold negD at h; split at h <;> first | cases h | (split at h <;> cases h)
theorem eqD_p : Pure2 eqD := fun d e c h => by unfold eqD at h; split at h <;> cases h
theorem neD_p : Pure2 neD := fun d e c h => by unfold neD at h; split at h <;> cases h
theorem ltD_p : Pure2 ltD := fun d e c h => by unfold ltD at h; split at h <;> first | cases h | (split at h <;> cases h)
theorem gtD_p : Pure2 gtD := fun d e c h => by unfold gtD at h; split at h <;> first | cases h | (split at h <;> cases h)
theorem leD_p : Pure2 leD := fun d e c h => by unfold leD at h; split at h <;> first | cases h | (split at h <;> cases h)
theorem geD_p : Pure2 geD := fun d e c h => by unfold geD at h; split at h <;> first | cases h | (split at h <;> cases h)
theorem isNoneD_p : Pure2 isNoneD := fun d e c h => by unfold isNoneD at h; split at h <;> cases h
theorem notNoneD_p : Pure2 notNoneD := fun d e c h => by unfold notNoneD at h; split at h <;> cases h
theorem inD_p : Pure2 inD := fun d e c h => by unfold inD at h; split at h <;> first | cases h | (split at h <;> cases h)
theorem notInD_p : Pure2 notInD := fun d e c h => by unfold notInD at h; split at h <;> first | cases h | (split at h <;> cases h)
theorem ixD_p : Pure2 ixD := fun d e c h => by
  unfold ixD at h
  split at h
  · split at h <;> cases h
  · split at h <;> cases h
  · split at h
    · split at h <;> cases h
    · cases h
  · cases h
section
variable {X : Cx}
theorem dpAll_nil_iff {K : PySem.W.Frag} {H : Hp} {vs : List V} {ds : List PyData} (h : DpAll K H vs ds) : vs = [] ↔ ds = [] := by
  have := h.length
  constructor <;> intro e <;> rw [e] at this
  · exact List.eq_nil_of_length_eq_zero this.symm
  · exact List.eq_nil_of_length_eq_zero this
theorem op_catX : OpR X (binaryOp .Add) (fun x y H Q => ∃ l b xs zs, x = .ref l ∧ y = .ref b ∧ SqL X.K H l xs ∧ SqL X.K H b zs ∧ xs.length + zs.length ≤ sizeLine ∧ ∀ p, H p = none → Q (.ref p) (upd H p (.lst (xs ++ zs)))) := by
  intro pins s σ H x y v u Q I rx ry h
  obtain ⟨l, b, xs, zs, rfl, rfl, hH, hB, hz, q⟩ := h
  cases rx
  cases ry
  obtain ⟨its, r, pl, hl⟩ := I.list hH
  obtain ⟨its2, r2, pl2, hl2⟩ := I.list hB
  obtain ⟨⟨cls, dd, data, sl⟩, n, ho, hc, hn, hd⟩ := id pl
  obtain ⟨⟨cls2, dd2, data2, sl2⟩, n2, ho2, hc2, hn2, hd2⟩ := id pl2
  simp only at hc hd hc2 hd2
  subst hc hd hc2 hd2
  have e : its.toArray ++ its2.toArray = (its ++ its2).toArray := by simp
  have n1 := r.length
  have n2' := r2.length
  refine concat_meets ⟨_, ho, rfl⟩ ⟨_, ho2, rfl⟩ noFill_list_add seq_list_add PySem.F.slot_list_add PySem.F.entry_list_add (PySem.F.args_list_add_2 _ _) (list_addW l b its.toArray its2.toArray n n2 dd dd2 sl sl2 (by rw [List.size_toArray, List.size_toArray]; omega)) ⟨ho, ho2, ?_⟩
  rw [e]
  exact ⟨.ref _, _, I.lnew (t' := s.toks) (r.append r2) (by rw [List.length_append]; omega), rfl, q _ I.fresh⟩
theorem opx_add : OpR X (binaryOp .Add) (rO X.K addD) := by
  intro pins s σ H x y v u Q I rx ry h
  obtain ⟨F, d, e, c, l, pd, pe, hf, q⟩ := h
  unfold addD at hf
  split at hf
  · cases hf
    have e1 := pd.int; have e2 := pe.int; subst e1 e2
    exact op_add pins s σ H _ _ v u Q I rx ry ⟨_, _, rfl, rfl, q _ F H (Gr.refl l) (.int _)⟩
  · rename_i xs ys
    split at hf
    · rename_i hz
      cases hf
      obtain ⟨a, vs, rfl, ha, hvs⟩ := pd.tuple l
      obtain ⟨b, ws, rfl, hb, hws⟩ := pe.tuple l
      have n1 := hvs.length
      have n2 := hws.length
      have sq := sz_eq
      refine op_catA pins s σ H _ _ v u Q I rx ry ⟨a, b, vs, ws, rfl, rfl, ha, hb, by rw [sq]; omega, fun z => ?_, fun z z2 => ?_, fun z z2 p np => ?_⟩
      · have : xs = [] := (dpAll_nil_iff hvs).mp z
        subst this
        exact q _ F H (Gr.refl l) (by
          rcases pe with pe | ⟨a', us, ds', e1, e2, _⟩
          · exact pe
          · cases e2)
      · have : ys = [] := (dpAll_nil_iff hws).mp z2
        subst this
        rw [List.append_nil] at q
        exact q _ F H (Gr.refl l) (by
          rcases pd with pd | ⟨a', us, ds', e1, e2, _⟩
          · exact pd
          · cases e2)
      · exact q _ _ _ (Gr.new l np) (Dp.new_tup (l.none np) (hvs.append hws))
    · cases hf
  · rename_i xs ys
    split at hf
    · rename_i hz
      cases hf
      obtain ⟨a, vs, rfl, ha, hvs⟩ := pd.list l
      obtain ⟨b, ws, rfl, hb, hws⟩ := pe.list l
      have n1 := hvs.length
      have n2 := hws.length
      have sq := sz_eq
      refine op_catX pins s σ H _ _ v u Q I rx ry ⟨a, b, vs, ws, rfl, rfl, ha, hb, by rw [sq]; omega, fun p np => ?_⟩
      exact q _ _ _ (Gr.new l np) (Dp.new_lst (l.none np) (hvs.append hws))
    · cases hf
  · split at hf
    · cases hf
      have e1 := pd.str; have e2 := pe.str; subst e1 e2
      exact op_add_str pins s σ H _ _ v u Q I rx ry ⟨_, _, rfl, rfl, by rw [sz_eq]; assumption, q _ F H (Gr.refl l) (.str _)⟩
    · cases hf
  · cases hf
theorem opx_sub : OpR X (binaryOp .Sub) (rO X.K subD) := by
  intro pins s σ H x y v u Q I rx ry h
  obtain ⟨F, d, e, c, l, pd, pe, hf, q⟩ := h
  unfold subD at hf
  split at hf
  · cases hf
    have e1 := pd.int; have e2 := pe.int; subst e1 e2
    exact op_sub pins s σ H _ _ v u Q I rx ry ⟨_, _, rfl, rfl, q _ F H (Gr.refl l) (.int _)⟩
  · cases hf
theorem big_log {n : Nat} (h : n < BIG) : n.log2 < 1000 := by
  unfold BIG at h
  by_cases h0 : n = 0
  · subst h0; decide
  · exact (Nat.log2_lt h0).mpr h
theorem opx_mulI {pins : List (Addr × Obj)} {s : Shared} {σ : St} {H : Hp} {i j : Int} {v u : Value} {Q : VK} (I : Inv X pins σ H s) (rx : RelV (.int i) v) (ry : RelV (.int j) u)
    (h : i.natAbs < 2 ^ 64 ∨ j.natAbs < 2 ^ 64 ∨ (i.natAbs < BIG ∧ j.natAbs < BIG)) (q : Q (.int (i * j)) H) : wpAny (model X.prog X.w) X.A (binaryOp .Mult v u) (EP X pins σ Q) X.xe s := by
  rcases h with h | h | ⟨h1, h2⟩
  · exact op_mul pins s σ H _ _ v u Q I rx ry ⟨_, _, rfl, rfl, .inl ⟨by omega, by omega⟩, q⟩
  · exact op_mul pins s σ H _ _ v u Q I rx ry ⟨_, _, rfl, rfl, .inr ⟨by omega, by omega⟩, q⟩
  · have a1 := big_log h1
    have a2 := big_log h2
    exact op_mulW pins s σ H _ _ v u Q I rx ry ⟨_, _, rfl, rfl, (by show i.natAbs.log2 + j.natAbs.log2 < 1000000; omega), q⟩
/-- a tuple, any times -/
theorem op_mulT {pins : List (Addr × Obj)} {s : Shared} {σ : St} {H : Hp} {l : Addr} {k : Int} {xs : List V} {v u : Value} {Q : VK} (I : Inv X pins σ H s) (rx : RelV (.ref l) v) (ry : RelV (.int k) u) (hT : SqT X.K H l xs) (h0 : k.natAbs < 4611686018427387904) (h1 : k ≤ 1000) (hz : xs.length ≤ 1000)
    (q0 : (xs = [] ∨ k = 1) → Q (.ref l) H) (q1 : ∀ p, H p = none → Q (.ref p) (upd H p (.tup (List.replicate k.toNat xs).flatten))) : wpAny (model X.prog X.w) X.A (binaryOp .Mult v u) (EP X pins σ Q) X.xe s := by
  by_cases hsame : xs = [] ∨ k = 1
  · cases rx
    obtain ⟨t, rfl⟩ := ry
    obtain ⟨its, r, ⟨⟨cls, dd, data, sl⟩, ho, hc, n, hd⟩, hs⟩ := I.tuple hT
    simp only at hc hd
    subst hc; subst hd
    have hle : its.length = xs.length := r.length.symm
    have c0 : (decide (k < -(2 ^ 63)) || decide (k ≥ 2 ^ 63)) = false := by
      rw [decide_eq_false (by omega), decide_eq_false (by omega)] <;> rfl
    have c1 : (its.toArray.isEmpty || k == 1) = true := by
      rcases hsame with e | e
      · rw [e] at hle
        rw [List.eq_nil_of_length_eq_zero hle]
        rfl
      · rw [e]
        simp
    exact wpAny_binaryOp_repeat_ref (T := "tuple") (U := "int") (by decide) ⟨_, ho, rfl⟩ (fun s' => typeIs_int s' k t) noFill_tuple_mul F.fills_int_mul F.slot_int_rmul repeat_tuple F.slot_int_index.lookup
      (call_meets F.slot_int_rmul (typeIs_int s k t) F.entry_int_rmul (F.args_int_rmul_2 _ _) (int_rmul_tuple k t l its.toArray n dd sl)
        ⟨ho, rfl, ⟨_, ho, rfl⟩, call_meets F.slot_tuple_mul ⟨_, ho, rfl⟩ F.entry_tuple_mul (F.args_tuple_mul_2 _ _) (mul_same l its.toArray n dd sl k t c0 c1) ⟨ho, ⟨.ref l, H, I, rfl, q0 hsame⟩⟩⟩)
  · by_cases h2 : 2 ≤ k
    · exact op_repT pins s σ H _ _ v u Q I rx ry ⟨l, k, xs, rfl, rfl, hT, fun e => hsame (.inl e), h2, h1, hz, q1⟩
    · have h3 : k ≤ 0 := by
        have : k ≠ 1 := fun e => hsame (.inr e)
        omega
      cases rx
      obtain ⟨t, rfl⟩ := ry
      obtain ⟨its, r, ⟨⟨cls, dd, data, sl⟩, ho, hc, n, hd⟩, hs⟩ := I.tuple hT
      simp only at hc hd
      subst hc; subst hd
      have hle : its.length = xs.length := r.length.symm
      have c0 : (decide (k < -(2 ^ 63)) || decide (k ≥ 2 ^ 63)) = false := by
        rw [decide_eq_false (by omega), decide_eq_false (by omega)] <;> rfl
      have c1 : (its.toArray.isEmpty || k == 1) = false := by
        have a1 : its.toArray.isEmpty = false := by
          cases its with
          | nil => exact absurd (.inl (List.eq_nil_of_length_eq_zero hle.symm)) hsame
          | cons a b => rfl
        rw [a1, Bool.false_or]
        exact beq_eq_false_iff_ne.mpr (by omega)
      have c2 : (decide (k ≤ 0) || its.toArray.isEmpty) = true := by rw [decide_eq_true h3]; rfl
      have e0 : (List.replicate k.toNat xs).flatten = [] := by rw [show k.toNat = 0 by omega]; rfl
      rw [e0] at q1
      refine wpAny_binaryOp_repeat_ref (T := "tuple") (U := "int") (by decide) ⟨_, ho, rfl⟩ (fun s' => typeIs_int s' k t) noFill_tuple_mul F.fills_int_mul F.slot_int_rmul repeat_tuple F.slot_int_index.lookup
        (call_meets F.slot_int_rmul (typeIs_int s k t) F.entry_int_rmul (F.args_int_rmul_2 _ _) (int_rmul_tuple k t l its.toArray n dd sl)
          ⟨ho, rfl, ⟨_, ho, rfl⟩, call_meets F.slot_tuple_mul ⟨_, ho, rfl⟩ F.entry_tuple_mul (F.args_tuple_mul_2 _ _) (mul_none l its.toArray n dd sl k t c0 c1 c2) ⟨ho, ?_⟩⟩)
      exact ⟨.ref s.heap.objs.size, _, I.laid (t' := s.toks) (o := .tup []) (fun b ob q => Heap.get?_push_of_some _ q) (Nat.le_refl _) ⟨Nat.zero_le _, [], .nil, IsTup.new _ _⟩, rfl, q1 _ (I.hok.fresh (Nat.le_refl _))⟩
theorem opx_mul : OpR X (binaryOp .Mult) (rO X.K mulD) := by
  intro pins s σ H x y v u Q I rx ry h
  obtain ⟨F, d, e, c, l, pd, pe, hf, q⟩ := h
  unfold mulD at hf
  split at hf
  · split at hf
    · rename_i hz
      cases hf
      have e1 := pd.int; have e2 := pe.int; subst e1 e2
      exact opx_mulI I rx ry hz (q _ F H (Gr.refl l) (.int _))
    · cases hf
  · split at hf
    · rename_i xs k hz
      cases hf
      have e2 := pe.int; subst e2
      obtain ⟨a, vs, rfl, ha, hvs⟩ := pd.tuple l
      have n1 := hvs.length
      obtain ⟨z1, z2, z3⟩ := hz
      refine op_mulT I rx ry ha z1 z2 (by omega) (fun e => ?_) fun p np => ?_
      · have e2 : (List.replicate k.toNat xs).flatten = xs := by
          rcases e with e | e
          · rw [(dpAll_nil_iff hvs).mp e]
            induction k.toNat with
            | zero => rfl
            | succ n ih => rw [List.replicate_succ, List.flatten_cons, ih]; rfl
          · rw [e]
            simp
        rw [e2] at q
        exact q _ F H (Gr.refl l) (by
          rcases pd with pd | ⟨a', us, ds', e1, e3, _⟩
          · exact pd
          · cases e3)
      · refine q _ _ _ (Gr.new l np) (Dp.new_tup (l.none np) ?_)
        clear z1 z2
        induction k.toNat with
        | zero => exact .nil
        | succ n ih =>
          rw [List.replicate_succ, List.replicate_succ, List.flatten_cons, List.flatten_cons]
          exact hvs.append ih
    · cases hf
  · cases hf
theorem opx_fdiv : OpR X (binaryOp .FloorDiv) (rO X.K fdivD) := by
  intro pins s σ H x y v u Q I rx ry h
  obtain ⟨F, d, e, c, l, pd, pe, hf, q⟩ := h
  unfold fdivD at hf
  split at hf
  · split at hf
    · rename_i hz
      cases hf
      have e1 := pd.int; have e2 := pe.int; subst e1 e2
      obtain ⟨h1, h2 | h2⟩ := hz
      · exact op_fdiv pins s σ H _ _ v u Q I rx ry ⟨_, _, rfl, rfl, ⟨h1, by omega⟩, q _ F H (Gr.refl l) (.int _)⟩
      · have a1 := big_log h2
        exact op_fdivW pins s σ H _ _ v u Q I rx ry ⟨_, _, rfl, rfl, ⟨h1, by omega⟩, q _ F H (Gr.refl l) (.int _)⟩
    · cases hf
  · cases hf
theorem opx_mod : OpR X (binaryOp .Mod) (rO X.K modD) := by
  intro pins s σ H x y v u Q I rx ry h
  obtain ⟨F, d, e, c, l, pd, pe, hf, q⟩ := h
  unfold modD at hf
  split at hf
  · split at hf
    · rename_i hz
      cases hf
      have e1 := pd.int; have e2 := pe.int; subst e1 e2
      exact op_mod pins s σ H _ _ v u Q I rx ry ⟨_, _, rfl, rfl, hz, q _ F H (Gr.refl l) (.int _)⟩
    · cases hf
  · cases hf
theorem opx_pow : OpR X (binaryOp .Pow) (rO X.K powD) := by
  intro pins s σ H x y v u Q I rx ry h
  obtain ⟨F, d, e, c, l, pd, pe, hf, q⟩ := h
  unfold powD at hf
  split at hf
  · split at hf
    · rename_i hz
      cases hf
      have e1 := pd.int; have e2 := pe.int; subst e1 e2
      exact op_pow pins s σ H _ _ v u Q I rx ry ⟨_, _, rfl, rfl, ⟨hz.1, by omega, hz.2.2⟩, q _ F H (Gr.refl l) (.int _)⟩
    · cases hf
  · cases hf
theorem unx_neg : UnR X (unaryOp .USub) (rO1 X.K negD) := by
  intro pins s σ H x v Q I rx h
  obtain ⟨F, d, c, l, pd, hf, q⟩ := h
  unfold negD at hf
  split at hf
  · cases hf
    have e1 := pd.int; subst e1
    exact un_neg pins s σ H _ v Q I rx ⟨_, rfl, q _ F H (Gr.refl l) (.int _)⟩
  · cases hf
theorem opx_eq (hu : X.A.units + 64 < cLine) : OpR X (compareOp .Eq) (rO X.K eqD) := by
  intro pins s σ H x y v u Q I rx ry h
  obtain ⟨F, d, e, c, l, pd, pe, hf, q⟩ := h
  unfold eqD at hf
  split at hf
  · rename_i hz
    cases hf
    obtain ⟨as, r1⟩ := Dp.reads I d x v (pd.dp l) rx
    obtain ⟨bs, r2⟩ := Dp.reads I e y u (pe.dp l) ry
    exact SeqAt.eq_plain r1 r2 (shp_un hz.1).1 (shp_un hz.2).1 (by have := (shp_un hz.1).2; have := Nat.min_le_left d.depth e.depth; omega) ⟨.bl _, H, I, rfl, q _ F H (Gr.refl l) (.bl _)⟩
  · cases hf
theorem opx_ne (hu : X.A.units + 64 < cLine) : OpR X (compareOp .NotEq) (rO X.K neD) := by
  intro pins s σ H x y v u Q I rx ry h
  obtain ⟨F, d, e, c, l, pd, pe, hf, q⟩ := h
  unfold neD at hf
  split at hf
  · rename_i hz
    cases hf
    obtain ⟨as, r1⟩ := Dp.reads I d x v (pd.dp l) rx
    obtain ⟨bs, r2⟩ := Dp.reads I e y u (pe.dp l) ry
    exact SeqAt.ne_plain r1 r2 (shp_un hz.1).1 (shp_un hz.2).1 (by have := (shp_un hz.1).2; have := Nat.min_le_left d.depth e.depth; omega) ⟨.bl _, H, I, rfl, q _ F H (Gr.refl l) (.bl _)⟩
  · cases hf
theorem cmpOk_un {d e : PyData} (h : cmpOk d e = true) : PySem.W.alike d e = true ∧ d ≠ .none ∧ d.depth ≤ 64 := by
  unfold cmpOk at h
  simp only [Bool.and_eq_true, decide_eq_true_eq] at h
  obtain ⟨⟨h1, h2⟩, h3⟩ := h
  refine ⟨h1, fun z => ?_, h3⟩
  subst z
  cases h2
theorem opx_lt (hu : X.A.units + 64 < cLine) : OpR X (compareOp .Lt) (rO X.K ltD) := by
  intro pins s σ H x y v u Q I rx ry h
  obtain ⟨F, d, e, c, l, pd, pe, hf, q⟩ := h
  unfold ltD at hf
  split at hf
  · cases hf
    have e1 := pd.int; have e2 := pe.int; subst e1 e2
    exact op_lt pins s σ H _ _ v u Q I rx ry ⟨_, _, rfl, rfl, q _ F H (Gr.refl l) (.bl _)⟩
  · split at hf
    · rename_i hz
      cases hf
      obtain ⟨z1, z2, z3⟩ := cmpOk_un hz
      obtain ⟨as, r1⟩ := Dp.reads I d x v (pd.dp l) rx
      obtain ⟨bs, r2⟩ := Dp.reads I e y u (pe.dp l) ry
      exact PySem.W.lt_data r1 r2 z1 z2 (by have := Nat.min_le_left d.depth e.depth; omega) ⟨.bl _, H, I, rfl, q _ F H (Gr.refl l) (.bl _)⟩
    · cases hf
theorem opx_gt (hu : X.A.units + 64 < cLine) : OpR X (compareOp .Gt) (rO X.K gtD) := by
  intro pins s σ H x y v u Q I rx ry h
  obtain ⟨F, d, e, c, l, pd, pe, hf, q⟩ := h
  unfold gtD at hf
  split at hf
  · cases hf
    have e1 := pd.int; have e2 := pe.int; subst e1 e2
    exact op_gt pins s σ H _ _ v u Q I rx ry ⟨_, _, rfl, rfl, q _ F H (Gr.refl l) (.bl _)⟩
  · split at hf
    · rename_i hz
      cases hf
      obtain ⟨z1, z2, z3⟩ := cmpOk_un hz
      obtain ⟨as, r1⟩ := Dp.reads I d x v (pd.dp l) rx
      obtain ⟨bs, r2⟩ := Dp.reads I e y u (pe.dp l) ry
      exact PySem.W.gt_data r1 r2 z1 z2 (by have := Nat.min_le_left d.depth e.depth; omega) ⟨.bl _, H, I, rfl, q _ F H (Gr.refl l) (.bl _)⟩
    · cases hf
theorem opx_le (hu : X.A.units + 64 < cLine) : OpR X (compareOp .LtE) (rO X.K leD) := by
  intro pins s σ H x y v u Q I rx ry h
  obtain ⟨F, d, e, c, l, pd, pe, hf, q⟩ := h
  unfold leD at hf
  split at hf
  · cases hf
    have e1 := pd.int; have e2 := pe.int; subst e1 e2
    exact op_le pins s σ H _ _ v u Q I rx ry ⟨_, _, rfl, rfl, q _ F H (Gr.refl l) (.bl _)⟩
  · split at hf
    · rename_i hz
      cases hf
      obtain ⟨z1, z2, z3⟩ := cmpOk_un hz
      obtain ⟨as, r1⟩ := Dp.reads I d x v (pd.dp l) rx
      obtain ⟨bs, r2⟩ := Dp.reads I e y u (pe.dp l) ry
      exact PySem.W.le_data r1 r2 z1 z2 (by have := Nat.min_le_left d.depth e.depth; omega) ⟨.bl _, H, I, rfl, q _ F H (Gr.refl l) (.bl _)⟩
    · cases hf
theorem opx_ge (hu : X.A.units + 64 < cLine) : OpR X (compareOp .GtE) (rO X.K geD) := by
  intro pins s σ H x y v u Q I rx ry h
  obtain ⟨F, d, e, c, l, pd, pe, hf, q⟩ := h
  unfold geD at hf
  split at hf
  · cases hf
    have e1 := pd.int; have e2 := pe.int; subst e1 e2
    exact op_ge pins s σ H _ _ v u Q I rx ry ⟨_, _, rfl, rfl, q _ F H (Gr.refl l) (.bl _)⟩
  · split at hf
    · rename_i hz
      cases hf
      obtain ⟨z1, z2, z3⟩ := cmpOk_un hz
      obtain ⟨as, r1⟩ := Dp.reads I d x v (pd.dp l) rx
      obtain ⟨bs, r2⟩ := Dp.reads I e y u (pe.dp l) ry
      exact PySem.W.ge_data r1 r2 z1 z2 (by have := Nat.min_le_left d.depth e.depth; omega) ⟨.bl _, H, I, rfl, q _ F H (Gr.refl l) (.bl _)⟩
    · cases hf
theorem pB.non_iff {K : PySem.W.Frag} {H0 F H : Hp} {v : V} {d : PyData} (h : pB K H0 F H v d) : decide (v = .non) = isN d := by
  rcases h with h | ⟨a, vs, ds, rfl, rfl, _⟩
  · cases h <;> simp [isN]
  · simp [isN]
theorem opx_is : OpR X (compareOp .Is) (rO X.K isNoneD) := by
  intro pins s σ H x y v u Q I rx ry h
  obtain ⟨F, d, e, c, l, pd, pe, hf, q⟩ := h
  unfold isNoneD at hf
  split at hf
  · cases hf
    have e2 := pe.none; subst e2
    refine op_isN pins s σ H _ _ v u Q I rx ry ⟨rfl, ?_⟩
    rw [pd.non_iff]
    exact q _ F H (Gr.refl l) (.bl _)
  · cases hf
theorem opx_isnot : OpR X (compareOp .IsNot) (rO X.K notNoneD) := by
  intro pins s σ H x y v u Q I rx ry h
  obtain ⟨F, d, e, c, l, pd, pe, hf, q⟩ := h
  unfold notNoneD at hf
  split at hf
  · cases hf
    have e2 := pe.none; subst e2
    refine op_notN pins s σ H _ _ v u Q I rx ry ⟨rfl, ?_⟩
    rw [pd.non_iff]
    exact q _ F H (Gr.refl l) (.bl _)
  · cases hf
theorem room_shp {A : Around} {n : Nat} {d : PyData} (h : shp d = true) (hu : A.units + 65 < cLine) : A.units + 1 + min n d.depth < cLine := by
  have := (shp_un h).2
  have := Nat.min_le_right n d.depth
  omega
theorem opx_in (hu : X.A.units + 65 < cLine) : OpR X (compareOp .In) (rO X.K inD) := by
  intro pins s σ H x y v u Q I rx ry h
  obtain ⟨F, d, e, c, l, pd, pe, hf, q⟩ := h
  unfold inD at hf
  split at hf
  · split at hf
    · rename_i ds hz
      cases hf
      obtain ⟨as, r1⟩ := Dp.reads I _ x v (pd.dp l) rx
      obtain ⟨bs, r2⟩ := Dp.reads I (.list ds) y u (pe.dp l) ry
      exact SeqAt.in_list_data r2 r1 (by have := (shp_un hz.2).1; simpa only [PyData.plain] using this) (shp_un hz.1).1 (room_shp hz.1 hu) ⟨.bl _, H, I, rfl, q _ F H (Gr.refl l) (.bl _)⟩
    · cases hf
  · split at hf
    · rename_i ds hz
      cases hf
      obtain ⟨as, r1⟩ := Dp.reads I _ x v (pd.dp l) rx
      obtain ⟨bs, r2⟩ := Dp.reads I (.tuple ds) y u (pe.dp l) ry
      exact SeqAt.in_tuple_data r2 r1 (by have := (shp_un hz.2).1; simpa only [PyData.plain] using this) (shp_un hz.1).1 (room_shp hz.1 hu) ⟨.bl _, H, I, rfl, q _ F H (Gr.refl l) (.bl _)⟩
    · cases hf
  · cases hf
    have e1 := pd.str; have e2 := pe.str; subst e1 e2
    exact op_in_str pins s σ H _ _ v u Q I rx ry ⟨_, _, rfl, rfl, q _ F H (Gr.refl l) (.bl _)⟩
  · cases hf
theorem opx_notin (hu : X.A.units + 65 < cLine) : OpR X (compareOp .NotIn) (rO X.K notInD) := by
  intro pins s σ H x y v u Q I rx ry h
  obtain ⟨F, d, e, c, l, pd, pe, hf, q⟩ := h
  unfold notInD at hf
  split at hf
  · split at hf
    · rename_i ds hz
      cases hf
      obtain ⟨as, r1⟩ := Dp.reads I _ x v (pd.dp l) rx
      obtain ⟨bs, r2⟩ := Dp.reads I (.list ds) y u (pe.dp l) ry
      exact SeqAt.notIn_list_data r2 r1 (by have := (shp_un hz.2).1; simpa only [PyData.plain] using this) (shp_un hz.1).1 (room_shp hz.1 hu) ⟨.bl _, H, I, rfl, q _ F H (Gr.refl l) (.bl _)⟩
    · cases hf
  · split at hf
    · rename_i ds hz
      cases hf
      obtain ⟨as, r1⟩ := Dp.reads I _ x v (pd.dp l) rx
      obtain ⟨bs, r2⟩ := Dp.reads I (.tuple ds) y u (pe.dp l) ry
      exact SeqAt.notIn_tuple_data r2 r1 (by have := (shp_un hz.2).1; simpa only [PyData.plain] using this) (shp_un hz.1).1 (room_shp hz.1 hu) ⟨.bl _, H, I, rfl, q _ F H (Gr.refl l) (.bl _)⟩
    · cases hf
  · cases hf
    have e1 := pd.str; have e2 := pe.str; subst e1 e2
    exact op_notin_str pins s σ H _ _ v u Q I rx ry ⟨_, _, rfl, rfl, q _ F H (Gr.refl l) (.bl _)⟩
  · cases hf
theorem atI_dp {K : PySem.W.Frag} {F : Hp} {vs : List V} {ds : List PyData} {i : Int} {c : PyData} (h : DpAll K F vs ds) (e : atI ds i = some c) : ∃ v, atI vs i = some v ∧ Dp K F v c := by
  unfold atI at e ⊢
  rw [h.length]
  cases q : ixN ds.length i with
  | none => rw [q] at e; cases e
  | some j =>
    rw [q] at e
    exact h.get e
theorem opx_ix : IxR X (rO X.K ixD) := by
  intro value slice pins s σ H x y v u Q I rx ry h hs
  obtain ⟨F, d, e, c, l, pd, pe, hf, q⟩ := h
  unfold ixD at hf
  split at hf
  · split at hf
    · rename_i he
      cases hf
      have e2 := pe.int; subst e2
      obtain ⟨a, vs, rfl, ha, hvs⟩ := pd.list l
      obtain ⟨w, hw, hd⟩ := atI_dp hvs he
      exact ix_list value slice pins s σ H _ _ v u Q I rx ry ⟨a, vs, _, w, rfl, rfl, ha, hw, q _ F H (Gr.refl l) hd⟩ hs
    · cases hf
  · split at hf
    · rename_i he
      cases hf
      have e2 := pe.int; subst e2
      obtain ⟨a, vs, rfl, ha, hvs⟩ := pd.tuple l
      obtain ⟨w, hw, hd⟩ := atI_dp hvs he
      exact ix_tup value slice pins s σ H _ _ v u Q I rx ry ⟨a, vs, _, w, rfl, rfl, ha, hw, q _ F H (Gr.refl l) hd⟩ hs
    · cases hf
  · split at hf
    · split at hf
      · rename_i he
        cases hf
        have e1 := pd.str; have e2 := pe.int; subst e1 e2
        exact ix_str value slice pins s σ H _ _ v u Q I rx ry ⟨_, _, _, rfl, rfl, by rw [sz_eq]; assumption, he, q _ F H (Gr.refl l) (.str _)⟩ hs
      · cases hf
    · cases hf
  · cases hf
end
end PD
namespace PD
open PySem PySem.Spec PyProof.Rows L2
section
variable {X : Cx} {We : EW} {e a b c : Expr} {es rest : List Expr} {pos : Pos}
/-! ## tests -/
def boolD : PyData → R Bool
  | .bool b => .ok b
  | _ => .bad
def tvE (m : Ev → R PyData) (ρ : Ev) : R Bool := (m ρ).bind boolD
theorem boolD_ok {d : PyData} {b : Bool} (h : boolD d = .ok b) : d = .bool b := by
  unfold boolD at h
  split at h
  · cases h; rfl
  · cases h
theorem boolD_p (d : PyData) (c : String) : boolD d ≠ .err c := fun h => by
  unfold boolD at h
  split at h <;> cases h
/-- a value that is a bool, read as a test -/
theorem tv_test {m : Ev → R PyData} {σ : St} {H : Hp} {Q : Bool → Hp → Prop} (h : tM X.K We pT (tvE m) σ H Q) : tM X.K We (pD X.K) m σ H fun x H1 => ∃ k, x = .bl k ∧ Q k H1 := by
  obtain ⟨ρ, F, G, r, h⟩ := h
  refine ⟨ρ, F, G, r, Po.bind (P := pD X.K) h fun d x F1 H1 g1 p1 q1 => ?_⟩
  cases hb : boolD d with
  | ok b =>
    rw [hb] at q1
    have e := boolD_ok hb
    subst e
    cases p1
    exact ⟨b, rfl, q1 b F1 H1 (Gr.refl g1.le) rfl⟩
  | err c => exact absurd hb (boolD_p d c)
  | bad => rw [hb] at q1; exact q1.elim
theorem xt_val {m : Ev → R PyData} (h : XE X We e m) (he : ∀ whole, isTrue e X.env whole = (do let v ← whole; standAt e.pos; holding [v] (truthy v))) : XT X We e (tvE m) :=
  pt_imp (pt_val h he) fun σ H Q q => tv_test q
theorem xt_cmp {op : CmpOp} {f : PyData → PyData → R PyData} {ma mb : Ev → R PyData} (pf : Pure2 f) (ho : OpR X (compareOp op) (rO X.K f)) (h1 : behindInMarks op b = false) (ha : XB X We a ma) (hb : XB X We b mb) : XT X We (.Compare a [op] [b] pos) (tvE (op2 f ma mb)) :=
  pt_imp (pt_cmpR ho ha hb h1) fun σ H Q q => tO2 pf (tv_test q)
def chainE (f g : PyData → PyData → R PyData) (ma mb mc : Ev → R PyData) (ρ : Ev) : R PyData :=
  (ma ρ).bind fun x => (mb ρ).bind fun y => (f x y).bind fun k => (boolD k).bind fun t => if t = true then (mc ρ).bind fun z => g y z else .ok (.bool false)
theorem chain_red {f g : PyData → PyData → R PyData} {ma mb mc : Ev → R PyData} (pf : Pure2 f) (pg : Pure2 g) {σ : St} {H : Hp} {Q : VK} (q : tM X.K We (pD X.K) (chainE f g ma mb mc) σ H Q) :
    tChain (rO X.K f) (rO X.K g) (tM X.K We (pB X.K) ma) (tM X.K We (pB X.K) mb) (tM X.K We (pB X.K) mc) σ H Q := by
  obtain ⟨ρ, F, G, r, q⟩ := q
  refine ⟨ρ, F, G, r, Po.bind (P := pB X.K) q fun d x F1 H1 g1 p1 q1 => ?_⟩
  refine ⟨ρ, F1, _, (r.grow g1).1, Po.bind (P := pB X.K) q1 fun e y F2 H2 g2 p2 q2 => ?_⟩
  have r2 := (((r.grow g1).1).grow g2).1
  cases hf : f d e with
  | err c => exact absurd hf (pf d e c)
  | bad => rw [hf] at q2; exact q2.elim
  | ok k =>
    rw [hf] at q2
    refine ⟨F2, d, e, k, g2.le, p1.grow g2, p2, hf, fun v F' H' g' pv => ?_⟩
    have q3 : Po We (pD X.K) F2 H2 σ ((boolD k).bind fun t => if t = true then (mc ρ).bind fun z => g e z else .ok (.bool false)) Q := q2
    cases hb : boolD k with
    | err c => exact absurd hb (boolD_p k c)
    | bad => rw [hb] at q3; exact q3.elim
    | ok t =>
      have ek := boolD_ok hb
      subst ek
      cases pv
      refine ⟨t, rfl, ?_⟩
      rw [hb] at q3
      have q4 : Po We (pD X.K) F' H' σ (if t = true then (mc ρ).bind fun z => g e z else .ok (.bool false)) Q := Po.step g' q3
      cases t with
      | false => exact q4 (.bl false) F' H' (Gr.refl g'.le) (.bl false)
      | true =>
        refine ⟨ρ, F', _, (r2.grow g').1, Po.bind (P := pB X.K) q4 fun z w F3 H3 g3 p3 q5 => ?_⟩
        cases hg : g e z with
        | err c => exact absurd hg (pg e z c)
        | bad => rw [hg] at q5; exact q5.elim
        | ok u =>
          rw [hg] at q5
          exact ⟨F3, e, z, u, g3.le, (p2.grow g').grow g3, p3, hg, fun v F'' H'' gg pp => q5 v F'' H'' gg pp⟩
theorem xe_chain {op op' : CmpOp} {f g : PyData → PyData → R PyData} {ma mb mc : Ev → R PyData} (pf : Pure2 f) (pg : Pure2 g) (ho : OpR X (compareOp op) (rO X.K f)) (ho' : OpR X (compareOp op') (rO X.K g))
    (ha : XB X We a ma) (hb : XB X We b mb) (hc : XB X We c mc) (hm : lastMarks [op, op'] [b, c] = false) : XE X We (.Compare a [op, op'] [b, c] pos) (chainE f g ma mb mc) :=
  pe_imp (pe_chain ho ho' ha hb hc hm) fun σ H Q q => chain_red pf pg q
theorem xt_chain {op op' : CmpOp} {f g : PyData → PyData → R PyData} {ma mb mc : Ev → R PyData} (pf : Pure2 f) (pg : Pure2 g) (ho : OpR X (compareOp op) (rO X.K f)) (ho' : OpR X (compareOp op') (rO X.K g))
    (ha : XB X We a ma) (hb : XB X We b mb) (hc : XB X We c mc) (hm : lastMarks [op, op'] [b, c] = false) : XT X We (.Compare a [op, op'] [b, c] pos) (tvE (chainE f g ma mb mc)) :=
  pt_imp (pt_chain ho ho' ha hb hc hm) fun σ H Q q => chain_red pf pg (tv_test q)
def andT (ma mb : Ev → R Bool) (ρ : Ev) : R Bool := (ma ρ).bind fun t => if t = true then mb ρ else .ok false
def orT (ma mb : Ev → R Bool) (ρ : Ev) : R Bool := (ma ρ).bind fun t => if t = true then .ok true else mb ρ
def notT (ma : Ev → R Bool) (ρ : Ev) : R Bool := (ma ρ).bind fun t => .ok (!t)
theorem xw_and1 {ma : Ev → R Bool} (ha : XT X We a ma) : XW X We (.BoolOp .And [a] pos) ma := pw_and1 ha
theorem xw_or1 {ma : Ev → R Bool} (ha : XT X We a ma) : XW X We (.BoolOp .Or [a] pos) ma := pw_or1 ha
theorem xw_and {ma mb : Ev → R Bool} (ha : XT X We a ma) (hb : XW X We (.BoolOp .And (b :: rest) pos) mb) : XW X We (.BoolOp .And (a :: b :: rest) pos) (andT ma mb) := by
  refine pw_imp (pw_and ha hb) fun σ H Q q => ?_
  obtain ⟨ρ, F, G, r, q⟩ := q
  refine ⟨ρ, F, G, r, Po.bind (P := pT) q fun k _ F1 H1 g1 p1 q1 => ?_⟩
  cases p1
  cases k with
  | true => exact ⟨ρ, F1, _, (r.grow g1).1, q1⟩
  | false => exact q1 false F1 H1 (Gr.refl g1.le) rfl
theorem xw_or {ma mb : Ev → R Bool} (ha : XT X We a ma) (hb : XW X We (.BoolOp .Or (b :: rest) pos) mb) : XW X We (.BoolOp .Or (a :: b :: rest) pos) (orT ma mb) := by
  refine pw_imp (pw_or ha hb) fun σ H Q q => ?_
  obtain ⟨ρ, F, G, r, q⟩ := q
  refine ⟨ρ, F, G, r, Po.bind (P := pT) q fun k _ F1 H1 g1 p1 q1 => ?_⟩
  cases p1
  cases k with
  | true => exact q1 true F1 H1 (Gr.refl g1.le) rfl
  | false => exact ⟨ρ, F1, _, (r.grow g1).1, q1⟩
theorem xt_w {m : Ev → R Bool} (h : XW X We e m) : XT X We e m := h.pt
theorem xt_not {ma : Ev → R Bool} (ha : XT X We a ma) : XT X We (.UnaryOp .Not a pos) (notT ma) := by
  refine pt_imp (pt_not ha) fun σ H Q q => ?_
  obtain ⟨ρ, F, G, r, q⟩ := q
  refine ⟨ρ, F, G, r, Po.bind (P := pT) q fun k _ F1 H1 g1 p1 q1 => ?_⟩
  cases p1
  exact q1 (!k) F1 H1 (Gr.refl g1.le) rfl
/-! as values -/
def andE (ma mb : Ev → R PyData) (ρ : Ev) : R PyData := (ma ρ).bind fun d => (boolD d).bind fun t => if t = true then mb ρ else .ok (.bool false)
def orE (ma mb : Ev → R PyData) (ρ : Ev) : R PyData := (ma ρ).bind fun d => (boolD d).bind fun t => if t = true then .ok (.bool true) else mb ρ
def notE (ma : Ev → R PyData) (ρ : Ev) : R PyData := (ma ρ).bind fun d => (boolD d).bind fun t => .ok (.bool (!t))
theorem Po.bool {α δ : Type} {P2 : PR δ α} {F H : Hp} {σ : St} {d : PyData} {f : Bool → R α} {Q : δ → Hp → Prop} {v : V} (h : Po We P2 F H σ ((boolD d).bind f) Q) (p : Dp X.K F v d) : ∃ t, v = .bl t ∧ Po We P2 F H σ (f t) Q := by
  cases hb : boolD d with
  | err c => exact absurd hb (boolD_p d c)
  | bad => rw [hb] at h; exact h.elim
  | ok t =>
    have ek := boolD_ok hb
    subst ek
    cases p
    rw [hb] at h
    exact ⟨t, rfl, h⟩
theorem xe_one {op} {m : Ev → R PyData} (h : XE X We a m) : XE X We (.BoolOp op [a] pos) m := pe_one h
theorem xe_and {ma mb : Ev → R PyData} (ha : XE X We a ma) (hb : XE X We (.BoolOp .And (b :: rest) pos) mb) : XE X We (.BoolOp .And (a :: b :: rest) pos) (andE ma mb) := by
  refine pe_imp (pe_and ha hb) fun σ H Q q => ?_
  obtain ⟨ρ, F, G, r, q⟩ := q
  refine ⟨ρ, F, G, r, Po.bind (P := pD X.K) q fun d x F1 H1 g1 p1 q1 => ?_⟩
  obtain ⟨t, rfl, q2⟩ := Po.bool q1 p1
  refine ⟨t, rfl, ?_⟩
  cases t with
  | true => exact ⟨ρ, F1, _, (r.grow g1).1, q2⟩
  | false => exact q2 (.bl false) F1 H1 (Gr.refl g1.le) (.bl false)
theorem xe_or {ma mb : Ev → R PyData} (ha : XE X We a ma) (hb : XE X We (.BoolOp .Or (b :: rest) pos) mb) : XE X We (.BoolOp .Or (a :: b :: rest) pos) (orE ma mb) := by
  refine pe_imp (pe_or ha hb) fun σ H Q q => ?_
  obtain ⟨ρ, F, G, r, q⟩ := q
  refine ⟨ρ, F, G, r, Po.bind (P := pD X.K) q fun d x F1 H1 g1 p1 q1 => ?_⟩
  obtain ⟨t, rfl, q2⟩ := Po.bool q1 p1
  refine ⟨t, rfl, ?_⟩
  cases t with
  | true => exact q2 (.bl true) F1 H1 (Gr.refl g1.le) (.bl true)
  | false => exact ⟨ρ, F1, _, (r.grow g1).1, q2⟩
theorem xe_not {ma : Ev → R PyData} (ha : XE X We a ma) : XE X We (.UnaryOp .Not a pos) (notE ma) := by
  refine pe_imp (pe_not ha) fun σ H Q q => ?_
  obtain ⟨ρ, F, G, r, q⟩ := q
  refine ⟨ρ, F, G, r, Po.bind (P := pD X.K) q fun d x F1 H1 g1 p1 q1 => ?_⟩
  obtain ⟨t, rfl, q2⟩ := Po.bool q1 p1
  exact ⟨t, rfl, q2 (.bl (!t)) F1 H1 (Gr.refl g1.le) (.bl (!t))⟩
def ifE (mc : Ev → R Bool) (ma mb : Ev → R PyData) (ρ : Ev) : R PyData := (mc ρ).bind fun t => if t = true then ma ρ else mb ρ
theorem x_if {P : PR V PyData} [Anti P] {mc : Ev → R Bool} {ma mb : Ev → R PyData} (hc : XT X We c mc) (ha : PE X a (tM X.K We P ma)) (hb : PE X b (tM X.K We P mb)) : PE X (.IfExp c a b pos) (tM X.K We P (ifE mc ma mb)) := by
  refine pe_imp (pe_ifExp hc ha hb) fun σ H Q q => ?_
  obtain ⟨ρ, F, G, r, q⟩ := q
  refine ⟨ρ, F, G, r, Po.bind (P := pT) q fun k _ F1 H1 g1 p1 q1 => ?_⟩
  cases p1
  cases k with
  | true => exact ⟨ρ, F1, _, (r.grow g1).1, q1⟩
  | false => exact ⟨ρ, F1, _, (r.grow g1).1, q1⟩
theorem xe_if {mc : Ev → R Bool} {ma mb : Ev → R PyData} (hc : XT X We c mc) (ha : XE X We a ma) (hb : XE X We b mb) : XE X We (.IfExp c a b pos) (ifE mc ma mb) := x_if hc ha hb
/-! ## arguments, displays -/
def nilA (_ : Ev) : R (List PyData) := .ok []
def consA (ma : Ev → R PyData) (mr : Ev → R (List PyData)) (ρ : Ev) : R (List PyData) := (ma ρ).bind fun d => (mr ρ).bind fun ds => .ok (d :: ds)
theorem xa_nil : XA X We [] nilA := pa_imp pa_nil fun σ H Q q => by
  obtain ⟨ρ, F, G, r, q⟩ := q
  exact q [] F H (Gr.refl r.fh) .nil
theorem xa_cons {ma : Ev → R PyData} {mr : Ev → R (List PyData)} (ha : XE X We e ma) (hr : XA X We es mr) (hs : starEach (e :: es) X.env = (false, eval e X.env) :: starEach es X.env) : XA X We (e :: es) (consA ma mr) := by
  refine pa_imp (pa_cons ha hr hs) fun σ H Q q => ?_
  obtain ⟨ρ, F, G, r, q⟩ := q
  refine ⟨ρ, F, G, r, Po.bind (P := pD X.K) q fun d x F1 H1 g1 p1 q1 => ?_⟩
  refine ⟨ρ, F1, _, (r.grow g1).1, Po.bind (P := pA X.K) q1 fun ds xs F2 H2 g2 p2 q2 => ?_⟩
  exact q2 (x :: xs) F2 H2 (Gr.refl g2.le) (.cons (p1.le g2.f) p2)
theorem xab_nil : XAB X We [] nilA := pa_imp pa_nil fun σ H Q q => by
  obtain ⟨ρ, F, G, r, q⟩ := q
  exact q [] F H (Gr.refl r.fh) .nil
theorem xab_cons {ma : Ev → R PyData} {mr : Ev → R (List PyData)} (ha : XB X We e ma) (hr : XAB X We es mr) (hs : starEach (e :: es) X.env = (false, eval e X.env) :: starEach es X.env) : XAB X We (e :: es) (consA ma mr) := by
  refine pa_imp (pa_cons ha hr hs) fun σ H Q q => ?_
  obtain ⟨ρ, F, G, r, q⟩ := q
  refine ⟨ρ, F, G, r, Po.bind (P := pB X.K) q fun d x F1 H1 g1 p1 q1 => ?_⟩
  refine ⟨ρ, F1, _, (r.grow g1).1, Po.bind (P := pAB X.K) q1 fun ds xs F2 H2 g2 p2 q2 => ?_⟩
  exact q2 (x :: xs) F2 H2 (Gr.refl g2.le) (.cons (p1.grow g2) p2)
def tupE (m : Ev → R (List PyData)) (ρ : Ev) : R PyData := (m ρ).bind fun ds => if ds.length ≤ SZ then .ok (.tuple ds) else .bad
def lstE (m : Ev → R (List PyData)) (ρ : Ev) : R PyData := (m ρ).bind fun ds => if ds.length ≤ SZ then .ok (.list ds) else .bad
theorem xe_tup {x1} {m : Ev → R (List PyData)} (h : XA X We es m) : XE X We (.Tuple es x1 pos) (tupE m) := by
  refine pe_imp (pe_tup h) fun σ H Q q => ?_
  obtain ⟨ρ, F, G, r, q⟩ := q
  refine ⟨ρ, F, G, r, Po.bind (P := pA X.K) q fun ds xs F1 H1 g1 p1 q1 => ?_⟩
  split at q1
  · have hl := DpAll.length p1
    have sq := sz_eq
    refine ⟨by rw [sq]; omega, fun p np => ?_⟩
    exact q1 _ _ _ (Gr.new g1.le np) (Dp.new_tup (g1.le.none np) p1)
  · exact q1.elim
theorem xf_lst {m : Ev → R (List PyData)} (h : XA X We es m) : XF X We (.List es pos) (lstE m) := by
  refine pe_imp (pe_lst h) fun σ H Q q => ?_
  obtain ⟨ρ, F, G, r, q⟩ := q
  refine ⟨ρ, F, G, r, Po.bind (P := pA X.K) q fun ds xs F1 H1 g1 p1 q1 => ?_⟩
  split at q1
  · have hl := DpAll.length p1
    have sq := sz_eq
    refine ⟨by rw [sq]; omega, fun p np => ?_⟩
    exact q1 _ _ _ (Gr.own g1.le np) ⟨p, xs, ds, rfl, rfl, np, g1.le.none np, upd_same, p1⟩
  · exact q1.elim
/-! ## items, slices -/
theorem xe_ix {ma mb : Ev → R PyData} (ha : XB X We a ma) (hb : XB X We b mb) (hs : PlainIx b) : XE X We (.Subscript a b pos) (op2 ixD ma mb) :=
  pe_imp (pe_ix opx_ix ha hb hs) fun σ H Q q => tO2 ixD_p q
def cutL {α : Type} (xs : List α) (lo hi : Option Int) : List α := (xs.drop (HT.sIx xs.length 0 lo)).take (HT.sIx xs.length xs.length hi - HT.sIx xs.length 0 lo)
def slD (lo hi : Option Int) : PyData → R PyData
  | .list xs => .ok (.list (cutL xs lo hi))
  | .tuple xs => .ok (.tuple (cutL xs lo hi))
  | .str z => if z.length ≤ SZ then .ok (.str (cutS z lo hi)) else .bad
  | _ => .bad
/-- a slice's part -/
def pNo (_ : Ev) : R (Option Int) := .ok none
def intD : PyData → R (Option Int)
  | .int i => .ok (some i)
  | _ => .bad
def pAt (m : Ev → R PyData) (ρ : Ev) : R (Option Int) := (m ρ).bind intD
def pO : PR (Option Int) (Option Int) := fun _ _ _ a b => a = b
instance : Anti pO := ⟨fun _ _ _ _ _ _ _ h => h⟩
abbrev XO (X : Cx) (We : EW) (e : Option Expr) (m : Ev → R (Option Int)) : Prop := PO X e (tM X.K We pO m)
theorem po_imp {e : Option Expr} {t u : TO} (h : PO X e t) (k : ∀ σ H Q, u σ H Q → t σ H Q) : PO X e u := ⟨fun pins s σ H Q I q => h.run pins s σ H Q I (k σ H Q q)⟩
theorem xo_no : XO X We none pNo := po_imp po_none fun σ H Q q => by
  obtain ⟨ρ, F, G, r, q⟩ := q
  exact q none F H (Gr.refl r.fh) rfl
theorem xo_at {m : Ev → R PyData} (h : XB X We e m) : XO X We (some e) (pAt m) := po_imp (po_some h) fun σ H Q q => by
  obtain ⟨ρ, F, G, r, q⟩ := q
  refine ⟨ρ, F, G, r, Po.bind (P := pB X.K) q fun d x F1 H1 g1 p1 q1 => ?_⟩
  unfold intD at q1
  split at q1
  · have e := p1.int
    subst e
    exact ⟨_, rfl, q1 _ F1 H1 (Gr.refl g1.le) rfl⟩
  · exact q1.elim
def slE (ma : Ev → R PyData) (ml mh : Ev → R (Option Int)) (ρ : Ev) : R PyData := (ma ρ).bind fun x => (ml ρ).bind fun lo => (mh ρ).bind fun hi => slD lo hi x
theorem cutV_dp {K : PySem.W.Frag} {F : Hp} {vs : List V} {ds : List PyData} (h : DpAll K F vs ds) (lo hi : Option Int) : DpAll K F (cutV vs lo hi) (cutL ds lo hi) := by
  unfold cutV cutL
  rw [h.length]
  exact (h.drop _).take _
def rSlD (K : PySem.W.Frag) : V → Option Int → Option Int → Hp → VK → Prop := fun x lo hi H Q => ∃ F d c, Le F H ∧ pB K H F H x d ∧ slD lo hi d = .ok c ∧ ∀ v F' H', Gr F H F' H' → Dp K F' v c → Q v H'
theorem slx : SlR X (rSlD X.K) := by
  intro pins s σ H x v vl vu lo hi sl Q I rx hs pl pu h
  obtain ⟨F, d, c, l, pd, hf, q⟩ := h
  unfold slD at hf
  split at hf
  · cases hf
    obtain ⟨a, vs, rfl, ha, hvs⟩ := pd.list l
    exact sl_list pins s σ H _ v vl vu lo hi sl Q I rx hs pl pu ⟨a, vs, rfl, ha, fun p np => q _ _ _ (Gr.new l np) (Dp.new_lst (l.none np) (cutV_dp hvs lo hi))⟩
  · cases hf
    obtain ⟨a, vs, rfl, ha, hvs⟩ := pd.tuple l
    refine sl_tupA pins s σ H _ v vl vu lo hi sl Q I rx hs pl pu ⟨a, vs, rfl, ha, fun z => ?_, fun z p np => q _ _ _ (Gr.new l np) (Dp.new_tup (l.none np) (cutV_dp hvs lo hi))⟩
    rename_i xs
    have e : cutL xs lo hi = xs := by
      unfold cutL
      rw [hvs.length] at z
      rw [z.1, z.2, List.drop_zero, Nat.sub_zero, List.take_length]
    rw [e] at q
    exact q _ F H (Gr.refl l) (by
      rcases pd with pd | ⟨a', us, ds', e1, e2, _⟩
      · exact pd
      · cases e2)
  · split at hf
    · cases hf
      have e1 := pd.str; subst e1
      exact sl_str pins s σ H _ v vl vu lo hi sl Q I rx hs pl pu ⟨_, rfl, by rw [sz_eq]; assumption, q _ F H (Gr.refl l) (.str _)⟩
    · cases hf
  · cases hf
theorem slD_p (lo hi : Option Int) (d : PyData) (c : String) : slD lo hi d ≠ .err c := fun h => by
  unfold slD at h
  split at h
  · cases h
  · cases h
  · split at h <;> cases h
  · cases h
theorem xe_sl {lo hi : Option Expr} {p2 : Pos} {ma : Ev → R PyData} {ml mh : Ev → R (Option Int)} (ha : XB X We a ma) (hl : XO X We lo ml) (hh : XO X We hi mh) : XE X We (.Subscript a (.Slice lo hi none p2) pos) (slE ma ml mh) := by
  refine pe_imp (pe_slice slx ha hl hh) fun σ H Q q => ?_
  obtain ⟨ρ, F, G, r, q⟩ := q
  refine ⟨ρ, F, G, r, Po.bind (P := pB X.K) q fun d x F1 H1 g1 p1 q1 => ?_⟩
  have r1 := (r.grow g1).1
  refine ⟨ρ, F1, _, r1, Po.bind (P := pO) q1 fun lo _ F2 H2 g2 p2 q2 => ?_⟩
  have r2 := (r1.grow g2).1
  refine ⟨ρ, F2, _, r2, Po.bind (P := pO) q2 fun hi _ F3 H3 g3 p3 q3 => ?_⟩
  cases p2
  cases p3
  cases hf : slD lo hi d with
  | err c => exact absurd hf (slD_p lo hi d c)
  | bad => rw [hf] at q3; exact q3.elim
  | ok c =>
    rw [hf] at q3
    exact ⟨F3, d, c, g3.le, (p1.grow g2).grow g3, hf, fun v F' H' g p => q3 v F' H' g p⟩
/-- a list's slice: a new list -/
theorem xf_sl {lo hi : Option Expr} {p2 : Pos} {ma : Ev → R PyData} {ml mh : Ev → R (Option Int)} (ha : XB X We a ma) (hl : XO X We lo ml) (hh : XO X We hi mh) : XF X We (.Subscript a (.Slice lo hi none p2) pos)
    (fun ρ => (ma ρ).bind fun x => (ml ρ).bind fun lo => (mh ρ).bind fun hi => match x with | .list xs => .ok (.list (cutL xs lo hi)) | _ => .bad) := by
  refine pe_imp (pe_slice sl_list ha hl hh) fun σ H Q q => ?_
  obtain ⟨ρ, F, G, r, q⟩ := q
  refine ⟨ρ, F, G, r, Po.bind (P := pB X.K) q fun d x F1 H1 g1 p1 q1 => ?_⟩
  have r1 := (r.grow g1).1
  refine ⟨ρ, F1, _, r1, Po.bind (P := pO) q1 fun lo _ F2 H2 g2 p2 q2 => ?_⟩
  have r2 := (r1.grow g2).1
  refine ⟨ρ, F2, _, r2, Po.bind (P := pO) q2 fun hi _ F3 H3 g3 p3 q3 => ?_⟩
  cases p2
  cases p3
  split at q3
  · obtain ⟨a, vs, rfl, ha, hvs⟩ := ((p1.grow g2).grow g3).list g3.le
    exact ⟨a, vs, rfl, ha, fun p np => q3 _ _ _ (Gr.own g3.le np) ⟨p, _, _, rfl, rfl, np, g3.le.none np, upd_same, cutV_dp hvs lo hi⟩⟩
  · exact q3.elim
theorem xf_revL {k : Nat} {p1 p2 p3 : Pos} {ma : Ev → R PyData} (ha : XB X We a ma) : XF X We (.Subscript a (.Slice none none (some (.UnaryOp .USub (.Constant (.int 1) k p1) p2)) p3) pos)
    (fun ρ => (ma ρ).bind fun x => match x with | .list xs => .ok (.list xs.reverse) | _ => .bad) := by
  refine pe_imp (pe_revL ha) fun σ H Q q => ?_
  obtain ⟨ρ, F, G, r, q⟩ := q
  refine ⟨ρ, F, G, r, Po.bind (P := pB X.K) q fun d x F1 H1 g1 p1 q1 => ?_⟩
  split at q1
  · obtain ⟨a, vs, rfl, ha, hvs⟩ := p1.list g1.le
    exact ⟨a, vs, rfl, ha, fun p np => q1 _ _ _ (Gr.own g1.le np) ⟨p, _, _, rfl, rfl, np, g1.le.none np, upd_same, hvs.rev⟩⟩
  · exact q1.elim
end
end PD
namespace PD
open PySem PySem.Spec PyProof.Rows L2
/-! ## statements -/
inductive Out where
  | nx (ρ : Ev)
  | rt (d : PyData)
  | bk (ρ : Ev)
  | ct (ρ : Ev)
abbrev SM := Ev → R Out
def PoS (K : PySem.W.Frag) (We : EW) (F G : Hp) (r : R Out) (D : Ends) : Prop :=
  match r with
  | .ok (.nx ρ) => ∀ σ' F' G' H', Rl K ρ F' G' σ' H' → GrS F G F' G' → D.nx σ' H'
  | .ok (.bk ρ) => ∀ σ' F' G' H', Rl K ρ F' G' σ' H' → GrS F G F' G' → D.bk σ' H'
  | .ok (.ct ρ) => ∀ σ' F' G' H', Rl K ρ F' G' σ' H' → GrS F G F' G' → D.ct σ' H'
  | .ok (.rt d) => ∀ v F' G' H', GrS F G F' G' → Le F' G' → Le G' H' → Dp K F' v d → D.rt v H'
  | .err c => ∀ σ' G' H', Le G G' → Le G' H' → We c σ' H'
  | .bad => False
theorem PoS.step {K : PySem.W.Frag} {We : EW} {F G F1 G1 : Hp} {r : R Out} {D : Ends} (g : GrS F G F1 G1) (h : PoS K We F G r D) : PoS K We F1 G1 r D := by
  cases r with
  | ok o =>
    cases o with
    | nx ρ => exact fun σ' F' G' H' r g' => h σ' F' G' H' r (g.trans g')
    | bk ρ => exact fun σ' F' G' H' r g' => h σ' F' G' H' r (g.trans g')
    | ct ρ => exact fun σ' F' G' H' r g' => h σ' F' G' H' r (g.trans g')
    | rt d => exact fun v F' G' H' g' a b c => h v F' G' H' (g.trans g') a b c
  | err c => exact fun σ' G' H' a b => h σ' G' H' (g.g.trans a) b
  | bad => exact h
def tS (K : PySem.W.Frag) (We : EW) (m : SM) : TS := fun D σ H => ∃ ρ F G, Rl K ρ F G σ H ∧ PoS K We F G (m ρ) D
abbrev XS (X : Cx) (We : EW) (st : Stmt) (m : SM) : Prop := PS X st (tS X.K We m)
abbrev XSs (X : Cx) (We : EW) (st : List Stmt) (m : SM) : Prop := PSs X st (tS X.K We m)
theorem ps_imp {X : Cx} {st : Stmt} {t u : TS} (h : PS X st t) (k : ∀ D σ H, u D σ H → t D σ H) : PS X st u := ⟨fun pins s σ H D I q => h.run pins s σ H D I (k D σ H q)⟩
theorem pss_imp {X : Cx} {st : List Stmt} {t u : TS} (h : PSs X st t) (k : ∀ D σ H, u D σ H → t D σ H) : PSs X st u := ⟨fun pins s σ H D I q => h.run pins s σ H D I (k D σ H q)⟩
/-- an expression within a statement -/
theorem PoS.expr {β α : Type} {P : PR β α} {K : PySem.W.Frag} {We : EW} {ρ : Ev} {F G : Hp} {σ : St} {H : Hp} {r : R α} {f : α → R Out} {D : Ends} {Q : β → Hp → Prop} (rl : Rl K ρ F G σ H) (h : PoS K We F G (r.bind f) D)
    (k : ∀ a b F1 G1 H1, Rl K ρ F1 G1 σ H1 → Gr F H F1 H1 → P H F1 H1 b a → PoS K We F1 G1 (f a) D → Q b H1) : Po We P F H σ r Q := by
  cases r with
  | ok a => exact fun b F1 H1 g p => k a b F1 _ H1 (rl.grow g).1 g p (PoS.step (rl.grow g).2 h)
  | err c => exact fun H' l => h σ G H' (Le.refl G) (rl.gh.trans l)
  | bad => exact h
section
variable {X : Cx} {We : EW} {e a b c : Expr} {st : Stmt} {ss ss' : List Stmt} {pos : Pos}
def nxS : SM := fun ρ => .ok (.nx ρ)
def seqS (a b : SM) : SM := fun ρ => match a ρ with
  | .ok (.nx ρ') => b ρ'
  | r => r
theorem xss_nil : XSs X We [] nxS := pss_imp pss_nil fun D σ H q => by
  obtain ⟨ρ, F, G, r, q⟩ := q
  exact q σ F G H r (GrS.refl F G)
theorem PoS.seq {K : PySem.W.Frag} {F G : Hp} {ra : R Out} {mb : SM} {D : Ends} (q : PoS K We F G (match ra with | .ok (.nx ρ') => mb ρ' | r => r) D) : PoS K We F G ra { D with nx := tS K We mb D } := by
  cases ra with
  | ok o =>
    cases o with
    | nx ρ => exact fun σ' F' G' H' r g => ⟨ρ, F', G', r, PoS.step g q⟩
    | bk ρ => exact q
    | ct ρ => exact q
    | rt d => exact q
  | err c => exact q
  | bad => exact q
theorem xss_cons {ma mb : SM} (h1 : XS X We st ma) (h2 : XSs X We ss mb) : XSs X We (st :: ss) (seqS ma mb) := pss_imp (pss_cons h1 h2) fun D σ H q => by
  obtain ⟨ρ, F, G, r, q⟩ := q
  exact ⟨ρ, F, G, r, PoS.seq q⟩
theorem xss_one {ma : SM} (h1 : XS X We st ma) : XSs X We [st] ma := pss_one h1
def retS (m : Ev → R PyData) : SM := fun ρ => (m ρ).bind fun d => .ok (.rt d)
theorem xs_ret {m : Ev → R PyData} (h : XE X We e m) : XS X We (.Return (some e) pos) (retS m) := ps_imp (ps_ret h) fun D σ H q => by
  obtain ⟨ρ, F, G, r, q⟩ := q
  exact ⟨ρ, F, G, r, PoS.expr (P := pD X.K) r q fun d v F1 G1 H1 r1 g1 p1 q1 => q1 v F1 G1 H1 (GrS.refl F1 G1) r1.fg r1.gh p1⟩
def retNS : SM := fun _ => .ok (.rt .none)
theorem xs_retN : XS X We (.Return none pos) retNS := ps_imp ps_retN fun D σ H q => by
  obtain ⟨ρ, F, G, r, q⟩ := q
  exact q .non F G H (GrS.refl F G) r.fg r.gh .non
theorem xs_pass : XS X We (.Pass pos) nxS := ps_imp ps_pass fun D σ H q => by
  obtain ⟨ρ, F, G, r, q⟩ := q
  exact q σ F G H r (GrS.refl F G)
def bkS : SM := fun ρ => .ok (.bk ρ)
def ctS : SM := fun ρ => .ok (.ct ρ)
theorem xs_break : XS X We (.Break pos) bkS := ps_imp ps_break fun D σ H q => by
  obtain ⟨ρ, F, G, r, q⟩ := q
  exact q σ F G H r (GrS.refl F G)
theorem xs_continue : XS X We (.Continue pos) ctS := ps_imp ps_continue fun D σ H q => by
  obtain ⟨ρ, F, G, r, q⟩ := q
  exact q σ F G H r (GrS.refl F G)
def ifS (mc : Ev → R Bool) (ma mb : SM) : SM := fun ρ => (mc ρ).bind fun t => if t = true then ma ρ else mb ρ
theorem xs_if {mc : Ev → R Bool} {ma mb : SM} (hc : XT X We c mc) (ha : XSs X We ss ma) (hb : XSs X We ss' mb) : XS X We (.If c ss ss' pos) (ifS mc ma mb) := ps_imp (ps_if hc ha hb) fun D σ H q => by
  obtain ⟨ρ, F, G, r, q⟩ := q
  refine ⟨ρ, F, G, r, PoS.expr (P := pT) r q fun k _ F1 G1 H1 r1 g1 p1 q1 => ?_⟩
  cases p1
  cases k with
  | true => exact ⟨ρ, F1, G1, r1, q1⟩
  | false => exact ⟨ρ, F1, G1, r1, q1⟩
def setS (i : Nat) (m : Ev → R PyData) : SM := fun ρ => (m ρ).bind fun d => .ok (.nx (ρ.set i (.d d)))
theorem xs_set {i : Nat} {x : Str} {m : Ev → R PyData} {pos' : Pos} (hN : X.N.Nodup) (hi : X.N[i]? = some x) (hx : Loc X.env.scope x) (he : XE X We e m) (hs : swapsWith e (some (.Name x pos')) pos.line X.env = pure false)
    (hf : X.fn x = true ∨ X.env.scope.names.lookup x = some .local) : XS X We (.Assign [.Name x pos'] e pos) (setS i m) := ps_imp (ps_set hN hi hx he hs hf) fun D σ H q => by
  obtain ⟨ρ, F, G, r, q⟩ := q
  exact ⟨ρ, F, G, r, PoS.expr (P := pD X.K) r q fun d v F1 G1 H1 r1 g1 p1 q1 => q1 _ F1 G1 H1 (r1.set i p1) (GrS.refl F1 G1)⟩
def oListD : PyData → R (List PyData)
  | .list xs => .ok xs
  | _ => .bad
def setLS (i : Nat) (m : Ev → R PyData) : SM := fun ρ => (m ρ).bind fun d => (oListD d).bind fun xs => .ok (.nx (ρ.set i (.lo xs)))
theorem setL_red {i : Nat} {m : Ev → R PyData} {D : Ends} {σ : St} {H : Hp} (q : tS X.K We (setLS i m) D σ H) : tM X.K We (pF X.K) m σ H fun v H1 => D.nx (σ.set i (some v)) H1 := by
  obtain ⟨ρ, F, G, r, q⟩ := q
  cases hm : m ρ with
  | ok d =>
    refine ⟨ρ, F, G, r, ?_⟩
    rw [hm]
    intro v F1 H1 g p
    obtain ⟨a, vs, ds, rfl, rfl, n0, n1, h1, h2⟩ := p
    have q1 : PoS X.K We F G (setLS i m ρ) D := q
    unfold setLS at q1
    rw [hm] at q1
    -- the state ahead, what is new beside it
    have r1 : Rl X.K ρ F1 (join G F1) σ (fun b => if b = a then none else H1 b) := by
      have g' : Gr F H F1 (fun b => if b = a then none else H1 b) := ⟨g.f, fun b o eb => by
          have : b ≠ a := ne_of_none eb n0
          show (if b = a then none else H1 b) = some o
          rw [if_neg this]
          exact g.h b o eb, g.n, fun b o eb => by
          have : b ≠ a := ne_of_none eb n1
          show (if b = a then none else H1 b) = some o
          rw [if_neg this]
          exact g.le b o eb⟩
      exact (r.grow g').1
    have r2 := Rl.setL (p := a) (vs := vs) (xs := ds) (H' := H1) r1 i (fun b o eb => by
        have eb : (if b = a then none else H1 b) = some o := eb
        by_cases hb : b = a
        · rw [if_pos hb] at eb; cases eb
        · rw [if_neg hb] at eb; exact eb) (by show (if a = a then none else H1 a) = none; rw [if_pos rfl]) h1 h2
    refine q1 _ F1 (join G F1) H1 r2 ?_
    exact (r.grow (H' := fun b => if b = a then none else H1 b) ⟨g.f, fun b o eb => by
          have : b ≠ a := ne_of_none eb n0
          show (if b = a then none else H1 b) = some o
          rw [if_neg this]
          exact g.h b o eb, g.n, fun b o eb => by
          have : b ≠ a := ne_of_none eb n1
          show (if b = a then none else H1 b) = some o
          rw [if_neg this]
          exact g.le b o eb⟩).2
  | err c =>
    refine ⟨ρ, F, G, r, ?_⟩
    rw [hm]
    have q1 : PoS X.K We F G (setLS i m ρ) D := q
    unfold setLS at q1
    rw [hm] at q1
    exact fun H' l => q1 σ G H' (Le.refl G) (r.gh.trans l)
  | bad =>
    have q1 : PoS X.K We F G (setLS i m ρ) D := q
    unfold setLS at q1
    rw [hm] at q1
    exact q1.elim
theorem xs_setL {i : Nat} {x : Str} {m : Ev → R PyData} {pos' : Pos} (hN : X.N.Nodup) (hi : X.N[i]? = some x) (hx : Loc X.env.scope x) (he : XF X We e m) (hs : swapsWith e (some (.Name x pos')) pos.line X.env = pure false)
    (hf : X.fn x = true ∨ X.env.scope.names.lookup x = some .local) : XS X We (.Assign [.Name x pos'] e pos) (setLS i m) := ps_imp (ps_set hN hi hx he hs hf) fun D σ H q => setL_red q
/-- one's own list is given away (no statement of the text) -/
def frzS (i : Nat) : SM := fun ρ => match ρ[i]? with
  | some (.lo xs) => .ok (.nx (ρ.set i (.d (.list xs))))
  | some (.d _) => .ok (.nx ρ)
  | _ => .bad
theorem xss_frz (i : Nat) {m : SM} (h : XSs X We ss m) : XSs X We ss (seqS (frzS i) m) := pss_imp h fun D σ H q => by
  obtain ⟨ρ, F, G, r, q⟩ := q
  unfold seqS frzS at q
  cases e : ρ[i]? with
  | none => rw [e] at q; exact q.elim
  | some x =>
    rw [e] at q
    cases x with
    | un => exact q.elim
    | d y => exact ⟨ρ, F, G, r, q⟩
    | lo xs =>
      obtain ⟨F', G', r', g⟩ := r.frz e
      exact ⟨_, F', G', r', PoS.step g q⟩
def dropS (m : Ev → R PyData) : SM := fun ρ => (m ρ).bind fun _ => .ok (.nx ρ)
theorem xs_expr {m : Ev → R PyData} (he : XE X We e m) (hs : swapsWith e none pos.line X.env = pure false) : XS X We (.Expr e pos) (dropS m) := ps_imp (ps_expr he hs) fun D σ H q => by
  obtain ⟨ρ, F, G, r, q⟩ := q
  exact ⟨ρ, F, G, r, PoS.expr (P := pD X.K) r q fun d v F1 G1 H1 r1 g1 p1 q1 => q1 _ F1 G1 H1 r1 (GrS.refl F1 G1)⟩
/-! ## targets -/
/-- only these slots are stored to -/
def Ch (ts : List Nat) (σ σ' : St) : Prop := σ'.length = σ.length ∧ ∀ i, i ∉ ts → σ'[i]? = σ[i]?
theorem Ch.refl (ts : List Nat) (σ : St) : Ch ts σ σ := ⟨rfl, fun _ _ => rfl⟩
theorem Ch.app {ts us : List Nat} {σ σ1 σ2 : St} (a : Ch ts σ σ1) (b : Ch us σ1 σ2) : Ch (ts ++ us) σ σ2 :=
  ⟨b.1.trans a.1, fun i hi => (b.2 i fun z => hi (List.mem_append_right _ z)).trans (a.2 i fun z => hi (List.mem_append_left _ z))⟩
def tG (K : PySem.W.Frag) (ts : List Nat) (mg : PyData → Ev → R Ev) : TG := fun v σ H Q => ∃ ρ F G d, Rl K ρ F G σ H ∧ Dp K F v d ∧ match mg d ρ with
  | .ok ρ' => ∀ σ', Rl K ρ' F G σ' H → Ch ts σ σ' → Q σ' H
  | _ => False
abbrev XG (X : Cx) (tg : Expr) (ts : List Nat) (mg : PyData → Ev → R Ev) : Prop := PG X tg (tG X.K ts mg)
theorem pg_imp {tg : Expr} {t u : TG} (h : PG X tg t) (k : ∀ v σ H Q, u v σ H Q → t v σ H Q) : PG X tg u := ⟨fun pins s σ H v uu Q I r q => h.run pins s σ H v uu Q I r (k v σ H Q q)⟩
def gN (i : Nat) : PyData → Ev → R Ev := fun d ρ => .ok (ρ.set i (.d d))
theorem xg_name {i : Nat} {x : Str} (hN : X.N.Nodup) (hi : X.N[i]? = some x) (hx : Loc X.env.scope x) (hf : X.fn x = true ∨ X.env.scope.names.lookup x = some .local) : XG X (.Name x pos) [i] (gN i) :=
  pg_imp (pg_name hN hi hx hf) fun v σ H Q q => by
    obtain ⟨ρ, F, G, d, r, p, q⟩ := q
    refine q _ (r.set i p) ⟨List.length_set, fun j hj => ?_⟩
    exact List.getElem?_set_ne fun z => hj (by rw [z]; exact List.mem_singleton.mpr rfl)
/-- several targets -/
def tGs (K : PySem.W.Frag) (ts : List Nat) (mg : List PyData → Ev → R Ev) : TGs := fun vs σ H Q => ∃ ρ F G ds, Rl K ρ F G σ H ∧ DpAll K F vs ds ∧ match mg ds ρ with
  | .ok ρ' => ∀ σ', Rl K ρ' F G σ' H → Ch ts σ σ' → Q σ' H
  | _ => False
abbrev XGs (X : Cx) (es : List Expr) (ts : List Nat) (mg : List PyData → Ev → R Ev) : Prop := PGs X es (tGs X.K ts mg)
theorem pgs_imp {ts : List Expr} {t u : TGs} (h : PGs X ts t) (k : ∀ v σ H Q, u v σ H Q → t v σ H Q) : PGs X ts u := ⟨fun pins s σ H v uu Q I r q => h.run pins s σ H v uu Q I r (k v σ H Q q)⟩
def gsNil : List PyData → Ev → R Ev := fun ds ρ => match ds with
  | [] => .ok ρ
  | _ => .bad
def gsCons (g : PyData → Ev → R Ev) (gs : List PyData → Ev → R Ev) : List PyData → Ev → R Ev := fun ds ρ => match ds with
  | d :: r => (g d ρ).bind fun ρ' => gs r ρ'
  | [] => .bad
theorem xgs_nil : XGs X [] [] gsNil := pgs_imp pgs_nil fun v σ H Q q => by
  obtain ⟨ρ, F, G, ds, r, p, q⟩ := q
  cases p with
  | nil => exact ⟨rfl, q σ r (Ch.refl _ σ)⟩
  | cons _ _ => exact q.elim
theorem xgs_cons {tg : Expr} {es : List Expr} {ts us : List Nat} {g : PyData → Ev → R Ev} {gs : List PyData → Ev → R Ev} (h1 : XG X tg ts g) (h2 : XGs X es us gs) (hs : (assignEach (tg :: es) X.env).map (·.2) = assign tg X.env :: (assignEach es X.env).map (·.2)) : XGs X (tg :: es) (ts ++ us) (gsCons g gs) := pgs_imp (pgs_cons h1 h2 hs) fun v σ H Q q => by
  obtain ⟨ρ, F, G, ds, r, p, q⟩ := q
  cases p with
  | nil => exact q.elim
  | cons p1 p2 =>
    rename_i v vs d ds
    refine ⟨v, vs, rfl, ρ, F, G, d, r, p1, ?_⟩
    have q : match (g d ρ).bind fun ρ' => gs ds ρ' with | .ok ρ' => ∀ σ', Rl X.K ρ' F G σ' H → Ch (ts ++ us) σ σ' → Q σ' H | _ => False := q
    cases hg : g d ρ with
    | ok ρ' =>
      rw [hg] at q
      have q : match gs ds ρ' with | .ok ρ' => ∀ σ', Rl X.K ρ' F G σ' H → Ch (ts ++ us) σ σ' → Q σ' H | _ => False := q
      refine fun σ' r' c' => ⟨ρ', F, G, ds, r', p2, ?_⟩
      cases hs : gs ds ρ' with
      | ok ρ2 =>
        rw [hs] at q
        exact fun σ2 r2 c2 => q σ2 r2 (c'.app c2)
      | err c => rw [hs] at q; exact q.elim
      | bad => rw [hs] at q; exact q.elim
    | err c => rw [hg] at q; exact q.elim
    | bad => rw [hg] at q; exact q.elim
def gT (n : Nat) (gs : List PyData → Ev → R Ev) : PyData → Ev → R Ev := fun d ρ => match d with
  | .tuple ds => if ds.length = n then gs ds ρ else .bad
  | _ => .bad
theorem xg_tup {es : List Expr} {k n : Nat} {ts : List Nat} {gs : List PyData → Ev → R Ev} (hc : X.calm = true) (h : XGs X es ts gs) (hn : (assignEach es X.env).length = n) (hst : (assignEach es X.env).findIdx? (·.1) = none) : XG X (.Tuple es k pos) ts (gT n gs) := pg_imp (pg_tup hc h hn hst) fun v σ H Q q => by
  obtain ⟨ρ, F, G, d, r, p, q⟩ := q
  cases p with
  | tup h1 h2 =>
    rename_i a xs ds
    unfold gT at q
    by_cases hl : ds.length = n
    · simp only [hl, if_true] at q
      exact ⟨_, _, rfl, h1.le r.fh, by rw [h2.length]; exact hl, ρ, F, G, ds, r, h2, q⟩
    · simp only [hl, if_false] at q
  | _ => exact q.elim
/-- target = e -/
def asgS (m : Ev → R PyData) (g : PyData → Ev → R Ev) : SM := fun ρ => (m ρ).bind fun d => (g d ρ).bind fun ρ' => .ok (.nx ρ')
/-- a target's storing never tells an error -/
def PureG (g : PyData → Ev → R Ev) : Prop := ∀ d ρ c, g d ρ ≠ .err c
def PureGs (g : List PyData → Ev → R Ev) : Prop := ∀ d ρ c, g d ρ ≠ .err c
theorem PoS.tg {K : PySem.W.Frag} {v : V} {d : PyData} {ρ : Ev} {F G : Hp} {σ : St} {H : Hp} {ts : List Nat} {g : PyData → Ev → R Ev} {f : Ev → R Out} {D : Ends} {Q : St → Hp → Prop} (r : Rl K ρ F G σ H) (p : Dp K F v d) (ge : PureG g)
    (q : PoS K We F G ((g d ρ).bind f) D) (k : ∀ ρ' σ', Rl K ρ' F G σ' H → PoS K We F G (f ρ') D → Q σ' H) : tG K ts g v σ H Q := by
  refine ⟨ρ, F, G, d, r, p, ?_⟩
  cases hg : g d ρ with
  | ok ρ' =>
    rw [hg] at q
    exact fun σ' r' _ => k ρ' σ' r' q
  | err c => exact absurd hg (ge d ρ c)
  | bad => rw [hg] at q; exact q.elim
theorem gN_p {i : Nat} : PureG (gN i) := fun d ρ c h => by cases h
theorem gsNil_p : PureGs gsNil := fun d ρ c h => by
  unfold gsNil at h
  split at h <;> cases h
theorem gsCons_p {g : PyData → Ev → R Ev} {gs : List PyData → Ev → R Ev} (h1 : PureG g) (h2 : PureGs gs) : PureGs (gsCons g gs) := fun d ρ c h => by
  unfold gsCons at h
  split at h
  · rename_i x r
    cases hg : g x ρ with
    | ok ρ' => rw [hg] at h; exact h2 _ _ _ h
    | err c => exact h1 _ _ _ hg
    | bad => rw [hg] at h; cases h
  · cases h
theorem gT_p {n : Nat} {gs : List PyData → Ev → R Ev} (h2 : PureGs gs) : PureG (gT n gs) := fun d ρ c h => by
  unfold gT at h
  split at h
  · split at h
    · exact h2 _ _ _ h
    · cases h
  · cases h
theorem xs_asg {tg : Expr} {m : Ev → R PyData} {ts : List Nat} {g : PyData → Ev → R Ev} (he : XE X We e m) (hg : XG X tg ts g) (ge : PureG g) (hs : swapsWithSole [tg] e pos.line X.env = pure false) (hw : swappedStores [tg] e X.env = pure none)
    (h1 : (assignEach [tg] X.env).map (·.2) = [assign tg X.env]) : XS X We (.Assign [tg] e pos) (asgS m g) := ps_imp (ps_asg he hg hs hw h1) fun D σ H q => by
  obtain ⟨ρ, F, G, r, q⟩ := q
  exact ⟨ρ, F, G, r, PoS.expr (P := pD X.K) r q fun d v F1 G1 H1 r1 g1 p1 q1 => PoS.tg r1 p1 ge q1 fun ρ' σ' r' q' => q' σ' F1 G1 H1 r' (GrS.refl F1 G1)⟩
/-! ## loops -/
/-- what an iterator yields -/
def ItOk (K : PySem.W.Frag) (F : Hp) (J : It) (xs : List PyData) : Prop :=
  ∀ F' H, Le F F' → Le F' H → (∀ (i : Nat) (d : PyData), xs[i]? = some d → J.go i H ∧ ∀ x H', J.yld i H x H' → ∃ F'', Gr F' H F'' H' ∧ Dp K F'' x d) ∧ J.stop xs.length H
theorem ItOk.le {K : PySem.W.Frag} {F F1 : Hp} {J : It} {xs : List PyData} (h : ItOk K F J xs) (l : Le F F1) : ItOk K F1 J xs := fun F' H a b => h F' H (l.trans a) b
def pI (K : PySem.W.Frag) : PR It (List PyData) := fun _ F _ J xs => ItOk K F J xs
instance {K} : Anti (pI K) := ⟨fun _ _ _ _ _ _ _ h => h⟩
abbrev XI (X : Cx) (We : EW) (tg iter : Expr) (m : Ev → R (List PyData)) : Prop := PI X tg iter (tM X.K We (pI X.K) m)
def forM (b : PyData → SM) : List PyData → SM
  | [], ρ => .ok (.nx ρ)
  | x :: xs, ρ => match b x ρ with
    | .ok (.nx ρ') => forM b xs ρ'
    | .ok (.ct ρ') => forM b xs ρ'
    | .ok (.bk ρ') => .ok (.nx ρ')
    | r => r
def forS (mi : Ev → R (List PyData)) (g : PyData → Ev → R Ev) (b : SM) : SM := fun ρ => (mi ρ).bind fun xs => forM (fun x ρ => (g x ρ).bind b) xs ρ
theorem xs_for {tg iter : Expr} {mi : Ev → R (List PyData)} {ts : List Nat} {g : PyData → Ev → R Ev} {mb : SM} (hp : PassesOwn (model X.prog X.w) X.A X.env X.xe) (hc : X.calm = true) (hi : XI X We tg iter mi) (hg : XG X tg ts g) (ge : PureG g) (hb : XSs X We ss mb)
    (hs : ∀ x, foldedSetIterable iter X.env x = pure x) : XS X We (.For tg iter ss [] pos) (forS mi g mb) := ps_imp (ps_for hp hc hi hg hb hs) fun D σ H q => by
  obtain ⟨ρ, F, G, r, q⟩ := q
  refine ⟨ρ, F, G, r, PoS.expr (P := pI X.K) r q fun xs J F1 G1 H1 r1 g1 p1 q1 => ?_⟩
  refine ⟨fun i m σ H => m = xs.length - i ∧ i ≤ xs.length ∧ ∃ ρ F' G', Rl X.K ρ F' G' σ H ∧ ItOk X.K F' J xs ∧ PoS X.K We F' G' (forM (fun x ρ => (g x ρ).bind mb) (xs.drop i) ρ) D, ⟨_, rfl, Nat.zero_le _, ρ, F1, G1, r1, p1, q1⟩, ?_⟩
  rintro i m σ H ⟨rfl, hi, ρ, F', G', r', p', q'⟩
  obtain ⟨h1, h2⟩ := p' F' H (Le.refl F') r'.fh
  by_cases hlt : i < xs.length
  · refine .inr ⟨(h1 i _ (List.getElem?_eq_getElem hlt)).1, fun σ H => ∃ ρ F' G', Rl X.K ρ F' G' σ H ∧ ItOk X.K F' J xs ∧ PoS X.K We F' G' (forM (fun x ρ => (g x ρ).bind mb) (xs.drop (i + 1)) ρ) D, fun σ' H' hN => ⟨_, by omega, rfl, hlt, hN⟩, fun x H' hy => ?_⟩
    obtain ⟨F2, g2, p2⟩ := (h1 i _ (List.getElem?_eq_getElem hlt)).2 x H' hy
    have r2 := (r'.grow g2).1
    have s2 := (r'.grow g2).2
    rw [List.drop_eq_getElem_cons hlt] at q'
    have q2 := PoS.step s2 q'
    unfold forM at q2
    have pi2 : ItOk X.K F2 J xs := p'.le g2.f
    have q3 : PoS X.K We F2 (join G' F2) ((g xs[i] ρ).bind mb) { D with nx := fun σ H => ∃ ρ F' G', Rl X.K ρ F' G' σ H ∧ ItOk X.K F' J xs ∧ PoS X.K We F' G' (forM (fun x ρ => (g x ρ).bind mb) (xs.drop (i + 1)) ρ) D, ct := fun σ H => ∃ ρ F' G', Rl X.K ρ F' G' σ H ∧ ItOk X.K F' J xs ∧ PoS X.K We F' G' (forM (fun x ρ => (g x ρ).bind mb) (xs.drop (i + 1)) ρ) D, bk := D.nx } := by
      generalize (g xs[i] ρ).bind mb = out at q2
      cases out with
      | ok o =>
        cases o with
        | nx ρ' => exact fun σ' F3 G3 H3 r3 s3 => ⟨ρ', F3, G3, r3, pi2.le s3.f, PoS.step s3 q2⟩
        | ct ρ' => exact fun σ' F3 G3 H3 r3 s3 => ⟨ρ', F3, G3, r3, pi2.le s3.f, PoS.step s3 q2⟩
        | bk ρ' => exact q2
        | rt d => exact q2
      | err c => exact q2
      | bad => exact q2
    exact PoS.tg r2 p2 ge q3 fun ρ' σ' r3 q4 => ⟨ρ', F2, _, r3, q4⟩
  · have e : i = xs.length := by omega
    subst e
    refine .inl ⟨h2, ?_⟩
    rw [List.drop_length] at q'
    exact q' σ F' G' H r' (GrS.refl F' G')
/-- while -/
def whileM (c : Ev → R Bool) (b : SM) : Nat → SM
  | 0, _ => .bad
  | n + 1, ρ => (c ρ).bind fun t => if t = true then (match b ρ with
      | .ok (.nx ρ') => whileM c b n ρ'
      | .ok (.ct ρ') => whileM c b n ρ'
      | .ok (.bk ρ') => .ok (.nx ρ')
      | r => r) else .ok (.nx ρ)
theorem xs_while (n : Nat) {mc : Ev → R Bool} {mb : SM} (hp : PassesOwn (model X.prog X.w) X.A X.env X.xe) (hc : XT X We c mc) (hb : XSs X We ss mb) : XS X We (.While c ss [] pos) (whileM mc mb n) := ps_imp (ps_while hp hc hb) fun D σ H q => by
  obtain ⟨ρ, F, G, r, q⟩ := q
  refine ⟨fun m σ H => ∃ ρ F' G', Rl X.K ρ F' G' σ H ∧ PoS X.K We F' G' (whileM mc mb m ρ) D, ⟨n, ρ, F, G, r, q⟩, ?_⟩
  rintro m σ H ⟨ρ, F', G', r', q'⟩
  cases m with
  | zero => exact q'.elim
  | succ m =>
    unfold whileM at q'
    refine ⟨ρ, F', G', r', PoS.expr (P := pT) r' q' fun k _ F1 G1 H1 r1 g1 p1 q1 => ?_⟩
    cases p1
    cases k with
    | false => exact q1 σ F1 G1 H1 r1 (GrS.refl F1 G1)
    | true =>
      refine ⟨fun σ H => ∃ ρ F' G', Rl X.K ρ F' G' σ H ∧ PoS X.K We F' G' (whileM mc mb m ρ) D, fun σ' H' hN => ⟨m, Nat.lt_succ_self m, hN⟩, ?_⟩
      refine ⟨ρ, F1, G1, r1, ?_⟩
      have q2 : PoS X.K We F1 G1 (match mb ρ with
        | .ok (.nx ρ') => whileM mc mb m ρ'
        | .ok (.ct ρ') => whileM mc mb m ρ'
        | .ok (.bk ρ') => .ok (.nx ρ')
        | r => r) D := q1
      generalize mb ρ = out at q2
      cases out with
      | ok o =>
        cases o with
        | nx ρ' => exact fun σ' F3 G3 H3 r3 s3 => ⟨ρ', F3, G3, r3, PoS.step s3 q2⟩
        | ct ρ' => exact fun σ' F3 G3 H3 r3 s3 => ⟨ρ', F3, G3, r3, PoS.step s3 q2⟩
        | bk ρ' => exact q2
        | rt d => exact q2
      | err c => exact q2
      | bad => exact q2
end
end PD
namespace PD
open PySem PySem.Spec PyProof.Rows L2
/-! ## defs -/
/-- the errors that are wished for, as the layer below tells them -/
def WW (mg : Str → Option Value) (We : EW) : WX := fun cls d σ H => ∃ (c : String) (C : Addr), cls = .ref C ∧ d = none ∧ mg c = some (.ref C) ∧ We c σ H
abbrev Tk (X : Cx) (We : EW) : Prop := Takes X (WW X.mg We)
/-- nothing is let out -/
def We0 : EW := fun _ _ _ => False
theorem tk0 {X : Cx} : Tk X We0 := takes0.imp fun c d σ H h => by
  obtain ⟨_, _, _, _, _, z⟩ := h
  exact z
def spP (mg : Str → Option Value) (K : PySem.W.Frag) (n : Nat) (m : List PyData → R PyData) : Sp := fun vs H Q E => ∃ F ds, Le F H ∧ DpAll K F vs ds ∧ ds.length = n ∧ match m ds with
  | .ok d => ∀ v F' H', Gr F H F' H' → Dp K F' v d → Q v H'
  | .err c => ∀ H' C, Le H H' → mg (c : Str) = some (.ref C) → E (.ref C) none H'
  | .bad => False
abbrev FnP (P : Program) (w : World) (K : PySem.W.Frag) (mg : Str → Option Value) (base : Heap) (k : Nat) (f : Addr) (fd : FuncData) (ps : List Str) (m : List PyData → R PyData) : Prop :=
  FnOk P w K mg base (L2.CX P w) k f fd ps (spP mg K ps.length m)
/-- what a body is worth -/
def runB (n : Nat) (b : SM) (ds : List PyData) : R PyData := match b (ds.map Sl.d ++ List.replicate (n - ds.length) Sl.un) with
  | .ok (.nx _) => .ok .none
  | .ok (.rt d) => .ok d
  | .ok _ => .bad
  | .err c => .err c
  | .bad => .bad
theorem Rl.start {K : PySem.W.Frag} {F H : Hp} {vs : List V} {ds : List PyData} {N : List Str} (l : Le F H) (h : DpAll K F vs ds) : Rl K (ds.map Sl.d ++ List.replicate (N.length - ds.length) Sl.un) F H (L2.start N vs) H := by
  have hl := h.length
  refine ⟨?_, l, Le.refl H, fun i x e => ?_, fun i j x y a hij e1 e2 o1 o2 q => ?_⟩
  · unfold L2.start
    rw [List.length_append, List.length_append, List.length_map, List.length_map, List.length_replicate, List.length_replicate, hl]
  · unfold L2.start
    by_cases hi : i < ds.length
    · rw [List.getElem?_append_left (by rw [List.length_map]; exact hi), List.getElem?_map, List.getElem?_eq_getElem hi] at e
      cases e
      obtain ⟨v, ev, p⟩ := h.get (List.getElem?_eq_getElem hi)
      rw [List.getElem?_append_left (by rw [List.length_map]; omega), List.getElem?_map, ev]
      exact p
    · rw [List.getElem?_append_right (by rw [List.length_map]; omega)] at e
      have := List.mem_of_getElem? e
      rw [List.mem_replicate] at this
      rw [this.2]
      unfold SlOk
      cases (List.map some vs ++ List.replicate (N.length - vs.length) none)[i]? <;> trivial
  · have own : ∀ (i : Nat) (x : Sl), (ds.map Sl.d ++ List.replicate (N.length - ds.length) Sl.un)[i]? = some x → x.owned = false := fun i x e => by
      have hm := List.mem_of_getElem? e
      rcases List.mem_append.mp hm with hm | hm
      · obtain ⟨d, _, rfl⟩ := List.mem_map.mp hm
        rfl
      · rw [List.mem_replicate] at hm
        rw [hm.2]
        rfl
    rw [own i x e1] at o1
    cases o1
/-- THE RULE for a def: its body's meaning -/
theorem fnP_of {P : Program} {w : World} {K : PySem.W.Frag} {mg : Str → Option Value} {base : Heap} {x qual : Str} {st : Stmt} {f : Addr} {fd : FuncData} {N ps : List Str} {k : Nat} {b : SM} (Fn : Fun K x qual st f fd) (S : FnScope N ps (defScope st))
    (hb : ∀ (cdv : Value) (A : Around) (outer : List Env) (s : Shared) (H : Hp) (E : XK) (We : EW), Room k (cxOf (L2.CX P w) P w K mg base N qual (defScope st) f cdv A outer s H E).A → Tk (cxOf (L2.CX P w) P w K mg base N qual (defScope st) f cdv A outer s H E) We →
      PassesOwn (model P w) (cxOf (L2.CX P w) P w K mg base N qual (defScope st) f cdv A outer s H E).A (cxOf (L2.CX P w) P w K mg base N qual (defScope st) f cdv A outer s H E).env (cxOf (L2.CX P w) P w K mg base N qual (defScope st) f cdv A outer s H E).xe →
      XSs (cxOf (L2.CX P w) P w K mg base N qual (defScope st) f cdv A outer s H E) We (defBody st) b) : FnP P w K mg base (k + 1) f fd ps (runB N.length b) := by
  refine Fn.okX S (fun vs H Q E h => ?_) fun cdv A outer s H vs Q E hr h => ?_
  · obtain ⟨F, ds, l, hd, hl, _⟩ := h
    rw [hd.length, hl]
  · obtain ⟨F, ds, l, hd, hl, h⟩ := h
    refine ⟨_, hb cdv A outer s H E (fun c _ H' => ∀ C, mg (c : Str) = some (.ref C) → E (.ref C) none H') hr ((takes_of rfl rfl rfl rfl).imp fun cls d σ H' z => ?_) (passes_of rfl), _, F, H, Rl.start l hd, ?_⟩
    · obtain ⟨c, C, rfl, rfl, hm, z⟩ := z
      exact z C hm
    · unfold runB at h
      revert h
      generalize b (ds.map Sl.d ++ List.replicate (N.length - ds.length) Sl.un) = r
      intro h
      cases r with
      | ok o =>
        cases o with
        | nx ρ => exact fun σ' F' G' H' r g => h .non F' H' ⟨g.f, g.g.trans r.gh, g.n, r.fh⟩ .non
        | bk ρ => exact h.elim
        | ct ρ => exact h.elim
        | rt d => exact fun v F' G' H' g fg gh p => h v F' H' ⟨g.f, g.g.trans gh, g.n, fg.trans gh⟩ p
      | err c => exact fun σ' G' H' a b C hm => h H' C (a.trans b) hm
      | bad => exact h
section
variable {X : Cx} {We : EW} {e a b c : Expr} {es : List Expr} {st : Stmt} {ss : List Stmt} {pos p : Pos} {x : Str}
def callE (n : Nat) (m : List PyData → R PyData) (ma : Ev → R (List PyData)) (ρ : Ev) : R PyData := (ma ρ).bind fun ds => if ds.length = n then m ds else .bad
theorem xe_call {k : Nat} {f : Addr} {fd : FuncData} {ps : List Str} {m : List PyData → R PyData} {ma : Ev → R (List PyData)} (F : FnP X.prog X.w X.K X.mg X.base k f fd ps m) (hr : Room k X.A) (hg : Gl X x) (hm : X.mg x = some (.ref f)) (hk : PySem.W.keepIn X.K (.ref f) = true) (hb : Binds X.K fd ps [])
    (tk : Tk X We) (ha : XA X We (e :: es) ma) (hdb : (x == ("__debug__" : Str)) = false) (he : starEach (e :: es) X.env = (false, eval e X.env) :: starEach es X.env) (hpl : (backTo pos (starEach es X.env)).any (·.1) = false) :
    XE X We (.Call (.Name x p) (e :: es) [] pos) (callE ps.length m ma) := by
  refine pe_imp (pe_callS F hr hg hm hk hb (fun σ => passAt tk σ) ha hdb he hpl) fun σ H Q q => ?_
  obtain ⟨ρ, F0, G, r, q⟩ := q
  refine ⟨ρ, F0, G, r, Po.bind (P := pA X.K) q fun ds vs F1 H1 g1 p1 q1 => ?_⟩
  split at q1
  · rename_i hl
    refine ⟨F1, ds, g1.le, p1, hl, ?_⟩
    cases hmd : m ds with
    | ok d => rw [hmd] at q1; exact fun v F' H' g p => q1 v F' H' g p
    | err c => rw [hmd] at q1; exact fun H' C l hC => ⟨c, C, rfl, rfl, hC, q1 H' l⟩
    | bad => rw [hmd] at q1; exact q1
  · exact q1.elim
/-! ## raise -/
def errS (c : String) : SM := fun _ => .err c
theorem xs_raise {c : String} {m : Str} {j : Nat} {p2 : Pos} {C : Addr} {bmB : List Value} {B newId initId : String} (hc : X.calm = true) (tk : Tk X We) (F : ExcBaseFacts B newId initId bmB) (q : PySem.W.excIn X.K C bmB newId = true) (gC : X.mg (c : Str) = some (.ref C)) (kC : PySem.W.keepIn X.K (.ref C) = true) (r : Raises X (.ref C)) (hg : Gl X (c : Str))
    {spos : Pos} (hdb : ((c : Str) == ("__debug__" : Str)) = false) : XS X We (.Raise (some (.Call (.Name (c : Str) p) [.Constant (.str m) j p2] [] pos)) none spos) (errS c) := ps_imp (ps_raise hc tk (pmk_own F q gC kC r hg hdb)) fun D σ H q => by
  obtain ⟨ρ, F, G, r, q⟩ := q
  exact ⟨c, C, rfl, rfl, gC, q σ G H (Le.refl G) r.gh⟩
/-! ## what is walked -/
def iterD : PyData → R (List PyData)
  | .list xs => .ok xs
  | .tuple xs => .ok xs
  | .str z => .ok (z.cps.toList.map fun c => .str ⟨#[c]⟩)
  | _ => .bad
theorem iterD_p : Pure1' iterD := fun d c h => by unfold iterD at h; split at h <;> cases h
def itE (m : Ev → R PyData) (ρ : Ev) : R (List PyData) := (m ρ).bind iterD
theorem itl_ok {K : PySem.W.Frag} {F : Hp} {a : Addr} {vs : List V} {ds : List PyData} (h : SqL K F a vs) (hd : DpAll K F vs ds) : ItOk K F (Itl K a) ds := fun F' H l1 l2 => by
  have h' := h.le (l1.trans l2)
  refine ⟨fun i d e => ?_, ⟨vs, h', by rw [hd.length]; exact Nat.le_refl _⟩⟩
  obtain ⟨v, ev, p⟩ := hd.get e
  refine ⟨⟨vs, v, h', ev⟩, fun x H' hy => ?_⟩
  obtain ⟨rfl, hy⟩ := hy
  have e2 := hy vs h'
  rw [ev] at e2
  cases e2
  exact ⟨F', Gr.refl l2, p.le l1⟩
theorem itt_ok {K : PySem.W.Frag} {F : Hp} {a : Addr} {vs : List V} {ds : List PyData} (h : SqT K F a vs) (hd : DpAll K F vs ds) : ItOk K F (Itt K a) ds := fun F' H l1 l2 => by
  have h' := h.le (l1.trans l2)
  refine ⟨fun i d e => ?_, ⟨vs, h', by rw [hd.length]; exact Nat.le_refl _⟩⟩
  obtain ⟨v, ev, p⟩ := hd.get e
  refine ⟨⟨vs, v, h', ev⟩, fun x H' hy => ?_⟩
  obtain ⟨rfl, hy⟩ := hy
  have e2 := hy vs h'
  rw [ev] at e2
  cases e2
  exact ⟨F', Gr.refl l2, p.le l1⟩
theorem its_ok {K : PySem.W.Frag} {F : Hp} {z : Str} : ItOk K F (Its z) (z.cps.toList.map fun c => .str ⟨#[c]⟩) := fun F' H l1 l2 => by
  refine ⟨fun i d e => ?_, ?_⟩
  · rw [List.getElem?_map] at e
    cases q : z.cps.toList[i]? with
    | none => rw [q] at e; cases e
    | some c =>
      rw [q] at e
      cases e
      have q' : z.cps[i]? = some c := by simpa using q
      refine ⟨?_, fun x H' hy => ?_⟩
      · show i < z.cps.size
        obtain ⟨h, _⟩ := Array.getElem?_eq_some_iff.mp q'
        exact h
      · obtain ⟨rfl, c', e1, rfl⟩ := hy
        rw [q'] at e1
        cases e1
        exact ⟨F', Gr.refl l2, .str _⟩
  · show z.cps.size ≤ _
    simp
/-- a list, a tuple or a text, walked -/
theorem xi_any {tg : Expr} {m : Ev → R PyData} (ha : XE X We e m) : XI X We tg e (itE m) := by
  refine ⟨fun pins s σ H R I h => ?_⟩
  have h' : tM X.K We (pD X.K) m σ H fun v H1 => ∃ F1 d ds, Le F1 H1 ∧ Dp X.K F1 v d ∧ iterD d = .ok ds ∧ ∀ J, ItOk X.K F1 J ds → R J H1 := by
    obtain ⟨ρ, F, G, r, h⟩ := h
    refine ⟨ρ, F, G, r, Po.bind (P := pD X.K) h fun d v F1 H1 g1 p1 q1 => ?_⟩
    cases hi : iterD d with
    | err c => exact absurd hi (iterD_p d c)
    | bad => rw [hi] at q1; exact q1.elim
    | ok ds =>
      rw [hi] at q1
      exact ⟨F1, d, ds, g1.le, p1, hi, fun J hJ => q1 J F1 H1 (Gr.refl g1.le) hJ⟩
  refine thn (ha.run pins s σ H _ I h') fun u s1 ⟨v, H1, I1, r1, F1, d, ds, l, p, hi, q⟩ => ?_
  unfold iterD at hi
  split at hi
  · cases hi
    cases p with
    | lst h1 h2 =>
      rename_i a vs
      cases r1
      obtain ⟨its, rv, pl, hz⟩ := I1.list (h1.le l)
      refine wpAny_pyIter_list pl.isList ?_
      exact pi_one (tk := s1.toks) I1 _ (turn_list a _) ⟨_, Heap.get?_push_size _ rfl, rfl, rfl⟩ (q _ (itl_ok h1 h2))
  · cases hi
    cases p with
    | tup h1 h2 =>
      rename_i a vs
      cases r1
      obtain ⟨its, rv, pl, hz⟩ := I1.tuple (h1.le l)
      refine wpAny_pyIter_tuple (show s1.heap.IsTuple a its.toArray from pl) ?_
      exact pi_one (tk := s1.toks) I1 _ (turn_tuple a _) ⟨_, Heap.get?_push_size _ rfl, rfl, rfl⟩ (q _ (itt_ok h1 h2))
  · cases hi
    cases p
    rename_i z
    obtain ⟨t, rfl⟩ := r1
    cases ha : z.cps.all (· < 128)
    · exact wpAny_pyIter_wide ha (pi_one (tk := s1.toks) I1 _ (turn_str _ z t "str_iterator" (.inr rfl)) ⟨_, Heap.get?_push_size _ rfl, rfl, rfl⟩ (q _ its_ok))
    · exact wpAny_pyIter_ascii ha (pi_one (tk := s1.toks) I1 _ (turn_str _ z t "str_ascii_iterator" (.inl rfl)) ⟨_, Heap.get?_push_size _ rfl, rfl, rfl⟩ (q _ its_ok))
  · cases hi
/-- lo, lo + c, .. : n of them -/
def rangeL (lo c : Int) : Nat → List PyData
  | 0 => []
  | n + 1 => .int lo :: rangeL (lo + c) c n
theorem rangeL_length (lo c : Int) (n : Nat) : (rangeL lo c n).length = n := by
  induction n generalizing lo with
  | zero => rfl
  | succ n ih => unfold rangeL; rw [List.length_cons, ih]
theorem rangeL_get (c : Int) : ∀ (n : Nat) (lo : Int) (i : Nat), i < n → (rangeL lo c n)[i]? = some (.int (lo + (i : Nat) * c))
  | n + 1, lo, 0, _ => by
    unfold rangeL
    have e : lo + ((0 : Nat) : Int) * c = lo := by simp
    rw [e]
    rfl
  | n + 1, lo, i + 1, h => by
    unfold rangeL
    rw [List.getElem?_cons_succ, rangeL_get c n (lo + c) i (by omega)]
    have e : lo + c + (i : Int) * c = lo + ((i + 1 : Nat) : Int) * c := by
      have : ((i + 1 : Nat) : Int) = (i : Int) + 1 := by omega
      rw [this, Int.add_mul]
      omega
    rw [e]
def smallI (i : Int) : Prop := i.natAbs < 4611686018427387904
theorem smallI_un {i : Int} (h : smallI i) : -(2 ^ 62) ≤ i ∧ i < 2 ^ 62 := by unfold smallI at h; omega
instance (i : Int) : Decidable (smallI i) := by unfold smallI; infer_instance
def range1D : List PyData → R (List PyData)
  | [.int j] => if smallI j then .ok (rangeL 0 1 j.toNat) else .bad
  | _ => .bad
def range2D : List PyData → R (List PyData)
  | [.int i, .int j] => if smallI i ∧ smallI j then .ok (rangeL i 1 (j - i).toNat) else .bad
  | _ => .bad
/-- range with a step of -1 (or another one, told) -/
def range3D : List PyData → R (List PyData)
  | [.int i, .int j, .int c] => if c = -1 then (if smallI i ∧ smallI j then .ok (rangeL i (-1) (i - j).toNat) else .bad)
      else if c ≠ 0 ∧ c.natAbs < 1073741824 ∧ Builtin.Range.small i j c = true ∧ 0 ≤ Builtin.Range.rangeSize i j c then .ok (rangeL i c (Builtin.Range.rangeSize i j c).toNat) else .bad
  | _ => .bad
def argI (f : List PyData → R (List PyData)) (ma : Ev → R (List PyData)) (ρ : Ev) : R (List PyData) := (ma ρ).bind f
theorem itr_ok {K : PySem.W.Frag} {F : Hp} (lo : Int) (n : Nat) : ItOk K F (Itr lo n) (rangeL lo 1 n) := fun F' H l1 l2 => by
  refine ⟨fun i d e => ?_, by show n ≤ _; rw [rangeL_length]; exact Nat.le_refl _⟩
  have hi : i < n := by
    obtain ⟨h, _⟩ := List.getElem?_eq_some_iff.mp e
    rwa [rangeL_length] at h
  rw [rangeL_get 1 n lo i hi, Int.mul_one] at e
  cases e
  exact ⟨hi, fun x H' hy => by
    obtain ⟨rfl, rfl⟩ := hy
    exact ⟨F', Gr.refl l2, .int _⟩⟩
theorem itc_ok {K : PySem.W.Frag} {F : Hp} (lo c : Int) (n : Nat) : ItOk K F (Itc lo c n) (rangeL lo c n) := fun F' H l1 l2 => by
  refine ⟨fun i d e => ?_, by show n ≤ _; rw [rangeL_length]; exact Nat.le_refl _⟩
  have hi : i < n := by
    obtain ⟨h, _⟩ := List.getElem?_eq_some_iff.mp e
    rwa [rangeL_length] at h
  rw [rangeL_get c n lo i hi] at e
  cases e
  exact ⟨hi, fun x H' hy => by
    obtain ⟨rfl, rfl⟩ := hy
    exact ⟨F', Gr.refl l2, .int _⟩⟩
theorem pi_imp {tg iter : Expr} {t u : TI} (h : PI X tg iter t) (k : ∀ σ H R, u σ H R → t σ H R) : PI X tg iter u := ⟨fun pins s σ H R I q => h.run pins s σ H R I (k σ H R q)⟩
theorem DpAll.cons_inv {K : PySem.W.Frag} {F : Hp} {vs : List V} {d : PyData} {ds : List PyData} (h : DpAll K F vs (d :: ds)) : ∃ v ws, vs = v :: ws ∧ Dp K F v d ∧ DpAll K F ws ds := by
  cases h with
  | cons a b => exact ⟨_, _, rfl, a, b⟩
theorem DpAll.nil_inv {K : PySem.W.Frag} {F : Hp} {vs : List V} (h : DpAll K F vs []) : vs = [] := by
  cases h; rfl
theorem Dp.int_inv {K : PySem.W.Frag} {F : Hp} {v : V} {i : Int} (h : Dp K F v (.int i)) : v = .int i := by cases h; rfl
theorem xi_range1 {tg : Expr} {ma : Ev → R (List PyData)} (hg : Gl X "range") (hm : X.mg "range" = none) (ha : XA X We [a] ma) (hs : starEach [a] X.env = [(false, eval a X.env)]) : XI X We tg (.Call (.Name "range" p) [a] [] pos) (argI range1D ma) :=
  pi_imp (pi_range1 hg hm ha hs) fun σ H R q => by
    obtain ⟨ρ, F, G, r, q⟩ := q
    refine ⟨ρ, F, G, r, Po.bind (P := pA X.K) q fun ds vs F1 H1 g1 p1 q1 => ?_⟩
    unfold range1D at q1
    split at q1
    · rename_i j
      split at q1
      · rename_i hj
        obtain ⟨v, ws, rfl, a1, b1⟩ := DpAll.cons_inv p1
        cases DpAll.nil_inv b1
        cases Dp.int_inv a1
        exact ⟨j, rfl, (smallI_un hj).1, (smallI_un hj).2, q1 _ F1 H1 (Gr.refl g1.le) (itr_ok 0 _)⟩
      · exact q1.elim
    · exact q1.elim
theorem xi_range2 {tg : Expr} {ma : Ev → R (List PyData)} (hg : Gl X "range") (hm : X.mg "range" = none) (ha : XA X We [a, b] ma) (hs : starEach [a, b] X.env = [(false, eval a X.env), (false, eval b X.env)]) (hs2 : starEach [b] X.env = [(false, eval b X.env)]) : XI X We tg (.Call (.Name "range" p) [a, b] [] pos) (argI range2D ma) :=
  pi_imp (pi_range2 hg hm ha hs hs2) fun σ H R q => by
    obtain ⟨ρ, F, G, r, q⟩ := q
    refine ⟨ρ, F, G, r, Po.bind (P := pA X.K) q fun ds vs F1 H1 g1 p1 q1 => ?_⟩
    unfold range2D at q1
    split at q1
    · rename_i i j
      split at q1
      · rename_i hj
        obtain ⟨v, ws, rfl, a1, b1⟩ := DpAll.cons_inv p1
        obtain ⟨v2, ws2, rfl, a2, b2⟩ := DpAll.cons_inv b1
        cases DpAll.nil_inv b2
        cases Dp.int_inv a1
        cases Dp.int_inv a2
        exact ⟨i, j, rfl, ⟨(smallI_un hj.1).1, (smallI_un hj.1).2, (smallI_un hj.2).1, (smallI_un hj.2).2⟩, q1 _ F1 H1 (Gr.refl g1.le) (itr_ok i _)⟩
      · exact q1.elim
    · exact q1.elim
theorem xi_range3 {tg : Expr} {ma : Ev → R (List PyData)} (hg : Gl X "range") (hm : X.mg "range" = none) (ha : XA X We [a, b, c] ma) (hs : starEach [a, b, c] X.env = (false, eval a X.env) :: starEach [b, c] X.env) (hpl : (backTo pos (starEach [b, c] X.env)).any (·.1) = false) : XI X We tg (.Call (.Name "range" p) [a, b, c] [] pos) (argI range3D ma) :=
  pi_imp (pi_range3 hg hm ha hs hpl) fun σ H R q => by
    obtain ⟨ρ, F, G, r, q⟩ := q
    refine ⟨ρ, F, G, r, Po.bind (P := pA X.K) q fun ds vs F1 H1 g1 p1 q1 => ?_⟩
    unfold range3D at q1
    split at q1
    · rename_i i j k
      obtain ⟨v, ws, rfl, a1, b1⟩ := DpAll.cons_inv p1
      obtain ⟨v2, ws2, rfl, a2, b2⟩ := DpAll.cons_inv b1
      obtain ⟨v3, ws3, rfl, a3, b3⟩ := DpAll.cons_inv b2
      cases DpAll.nil_inv b3
      cases Dp.int_inv a1
      cases Dp.int_inv a2
      cases Dp.int_inv a3
      split at q1
      · rename_i hk
        subst hk
        split at q1
        · rename_i hj
          exact ⟨i, j, -1, _, rfl, RgC.neg (smallI_un hj.1).1 (smallI_un hj.1).2 (smallI_un hj.2).1 (smallI_un hj.2).2, q1 _ F1 H1 (Gr.refl g1.le) (itc_ok i (-1) _)⟩
        · exact q1.elim
      · split at q1
        · rename_i hj
          have e : Builtin.Range.rangeSize i j k = (((Builtin.Range.rangeSize i j k).toNat : Nat) : Int) := (Int.toNat_of_nonneg hj.2.2.2).symm
          exact ⟨i, j, k, _, rfl, ⟨hj.1, hj.2.1, hj.2.2.1, e⟩, q1 _ F1 H1 (Gr.refl g1.le) (itc_ok i k _)⟩
        · exact q1.elim
    · exact q1.elim
end
end PD
namespace PD
open PySem PySem.Spec PyProof.Rows L2
/-! ## comprehensions -/
def wipeE (ρ : Ev) : List Nat → Ev
  | [] => ρ
  | v :: vs => (wipeE ρ vs).set v .un
theorem Rl.wipe {K : PySem.W.Frag} {ρ : Ev} {F G : Hp} {σ : St} {H : Hp} (r : Rl K ρ F G σ H) : ∀ vs : List Nat, Rl K (wipeE ρ vs) F G (L2.wipe σ vs) H
  | [] => r
  | v :: vs => (r.wipe vs).unset v none
theorem Rl.low {K : PySem.W.Frag} {ρ : Ev} {F G : Hp} {σ : St} {H : Hp} (r : Rl K ρ F G σ H) : Rl K ρ F F σ H := by
  refine ⟨r.len, Le.refl F, r.fh, fun i x e => ?_, r.dis⟩
  have h := r.sl i x e
  cases x with
  | un => unfold SlOk; cases σ[i]? <;> trivial
  | d x => exact h.dd (Le.refl F)
  | lo xs =>
    obtain ⟨a, vs, q1, q2, q3, q4⟩ := r.getL e
    rw [q1]
    exact ⟨r.fg.none q2, vs, q3, q4⟩
theorem Rl.up {K : PySem.W.Frag} {ρ : Ev} {F G : Hp} {σ : St} {H H' : Hp} (r : Rl K ρ F G σ H) (l : Le H H') : Rl K ρ F G σ H' :=
  ⟨r.len, r.fg, r.gh.trans l, fun i x e => (r.sl i x e).mono (Le.refl F) l fun _ _ => rfl, r.dis⟩
/-- the heap without one thing -/
def minus (H : Hp) (D : Addr) : Hp := fun b => if b = D then none else H b
theorem minus_le {H : Hp} {D : Addr} : Le (minus H D) H := fun b o e => by
  have e : (if b = D then none else H b) = some o := e
  by_cases hb : b = D
  · rw [if_pos hb] at e; cases e
  · rw [if_neg hb] at e; exact e
theorem minus_at {H : Hp} {D : Addr} : minus H D D = none := if_pos rfl
theorem minus_ne {H : Hp} {D b : Addr} (h : b ≠ D) : minus H D b = H b := if_neg h
theorem le_minus {F H : Hp} {D : Addr} (l : Le F H) (h : F D = none) : Le F (minus H D) := fun b o e => by
  rw [minus_ne (ne_of_none e h)]
  exact l b o e
theorem minus_upd {H : Hp} {D : Addr} {o : HO} : minus (upd H D o) D = minus H D := by
  funext b
  by_cases hb : b = D
  · rw [hb, minus_at, minus_at]
  · rw [minus_ne hb, minus_ne hb, upd_ne hb]
theorem Gr.minus {F H F' H' : Hp} {D : Addr} (g : Gr F H F' H') (hF : F D = none) (hH : H D ≠ none) : Gr F (PD.minus H D) F' (PD.minus H' D) := by
  have hF' : F' D = none := (g.n D hH).trans hF
  refine ⟨g.f, fun b o e => ?_, fun b hb => g.n b fun z => hb ?_, le_minus g.le hF'⟩
  · have e2 := minus_le b o e
    have hb : b ≠ D := fun z => by rw [z, minus_at] at e; cases e
    rw [minus_ne hb]
    exact g.h b o e2
  · cases q : PD.minus H D b with
    | none => rfl
    | some o => rw [minus_le b o q] at z; cases z
/-- the items that are made, one after the other -/
def lcM (g : PyData → Ev → R Ev) (t : Ev → R Bool) (e : Ev → R PyData) (ρ : Ev) : List PyData → R (List PyData)
  | [] => .ok []
  | x :: xs => (g x ρ).bind fun ρ' => (t ρ').bind fun b => if b = true then (e ρ').bind fun y => (lcM g t e ρ xs).bind fun ys => .ok (y :: ys) else lcM g t e ρ xs
def noErr {α : Type} : R α → R α
  | .err _ => .bad
  | r => r
def lcE (mi : Ev → R (List PyData)) (vs : List Nat) (g : PyData → Ev → R Ev) (t : Ev → R Bool) (e : Ev → R PyData) (ρ : Ev) : R PyData :=
  (mi ρ).bind fun xs => if xs.length ≤ SZ then (noErr (lcM g t e (wipeE ρ vs) xs)).bind fun ys => .ok (.list ys) else .bad
abbrev XTs (X : Cx) (We : EW) (ifs : List Expr) (m : Ev → R Bool) : Prop := PTs X ifs (tM X.K We pT m)
def yesT (_ : Ev) : R Bool := .ok true
theorem xts_nil {X : Cx} {We : EW} : XTs X We [] yesT := ⟨fun pins s σ H Q I h => pts_nil.run pins s σ H Q I (by
  obtain ⟨ρ, F, G, r, q⟩ := h
  exact q true F H (Gr.refl r.fh) rfl)⟩
theorem xts_one {X : Cx} {We : EW} {c : Expr} {m : Ev → R Bool} (h : XT X We c m) : XTs X We [c] m := pts_one h
theorem wipe_ch {σ σ' : St} {ts vs : List Nat} (h : Ch ts σ σ') (hs : ∀ i ∈ ts, i ∈ vs) : L2.wipe σ' vs = L2.wipe σ vs := by
  apply List.ext_getElem?
  intro i
  by_cases hi : i ∈ vs
  · have none_at : ∀ (τ : St) (vs : List Nat), i ∈ vs → τ.length = σ.length → (L2.wipe τ vs)[i]? = if i < σ.length then some none else none := fun τ vs => by
      induction vs with
      | nil => intro z; cases z
      | cons v vs ih =>
        intro hm hl
        unfold L2.wipe
        by_cases hv : v = i
        · subst hv
          by_cases hlt : v < σ.length
          · rw [List.getElem?_set_self (by rw [wipe_length, hl]; exact hlt), if_pos hlt]
          · rw [List.getElem?_eq_none (by rw [List.length_set, wipe_length, hl]; omega), if_neg hlt]
        · rw [List.getElem?_set_ne hv]
          exact ih ((List.mem_cons.mp hm).resolve_left fun z => hv z.symm) hl
    rw [none_at σ' vs hi h.1, none_at σ vs hi rfl]
  · rw [wipe_out hi, wipe_out hi]
    exact h.2 i fun z => hi (hs i z)
theorem wipe_wipe {σ : St} {vs : List Nat} : L2.wipe (L2.wipe σ vs) vs = L2.wipe σ vs := by
  refine wipe_ch (ts := vs) ⟨wipe_length σ vs, fun i hi => wipe_out hi⟩ fun _ h => h
section
variable {X : Cx} {We : EW}
theorem lc_red {mi : Ev → R (List PyData)} {vs ts : List Nat} {g : PyData → Ev → R Ev} {t : Ev → R Bool} {e : Ev → R PyData} (hts : ∀ i ∈ ts, i ∈ vs) {σ : St} {H : Hp} {Q : VK} (q : tM X.K We (pF X.K) (lcE mi vs g t e) σ H Q) :
    tLc (tM X.K We (pI X.K) mi) (tG X.K ts g) (tM X.K We0 pT t) (tM X.K We0 (pD X.K) e) vs σ H Q := by
  obtain ⟨ρ, F, G, r, q⟩ := q
  refine ⟨ρ, F, G, r, Po.bind (P := pI X.K) q fun xs J F1 H1 g1 p1 q1 => ?_⟩
  intro D hD
  split at q1
  rotate_left
  · exact q1.elim
  rename_i hz
  have r1 := (r.grow g1).1.low
  have hF1D : F1 D = none := g1.le.none hD
  cases hl : lcM g t e (wipeE ρ vs) xs with
  | err c => rw [hl] at q1; exact q1.elim
  | bad => rw [hl] at q1; exact q1.elim
  | ok ys =>
    rw [hl] at q1
    have q2 : ∀ b F' H', Gr F1 H1 F' H' → pF X.K H1 F' H' b (.list ys) → Q b H' := q1
    -- the invariant
    let Inv' : Nat → Hp → Prop := fun i H2 => ∃ F' accV accD rest, Rl X.K (wipeE ρ vs) F' F' (L2.wipe σ vs) (minus H2 D) ∧ ItOk X.K F' J xs ∧ Gr F1 H1 F' (minus H2 D) ∧ H2 D = some (.lst accV) ∧ DpAll X.K F' accV accD ∧ accD.length ≤ i ∧
      lcM g t e (wipeE ρ vs) (xs.drop i) = .ok rest ∧ accD ++ rest = ys
    refine ⟨fun i m H2 => m = xs.length - i ∧ i ≤ xs.length ∧ Inv' i H2, ⟨_, rfl, Nat.zero_le _, F1, [], [], ys, ?_, p1, ?_, upd_same, .nil, Nat.le_refl _, hl, rfl⟩, ?_⟩
    · rw [minus_upd]
      have hm : minus H1 D = H1 := by
        funext b
        by_cases hb : b = D
        · rw [hb, minus_at, hD]
        · rw [minus_ne hb]
      rw [hm]
      exact r1.wipe vs
    · rw [minus_upd]
      have hm : minus H1 D = H1 := by
        funext b
        by_cases hb : b = D
        · rw [hb, minus_at, hD]
        · rw [minus_ne hb]
      rw [hm]
      exact Gr.refl g1.le
    · rintro i m H2 ⟨rfl, hi, F', accV, accD, rest, r', p', g', hD', hacc, hal, hrest, hys⟩
      have lF : Le F' H2 := r'.fh.trans minus_le
      have fD : F' D = none := r'.fh.none minus_at
      obtain ⟨h1, h2⟩ := p' F' H2 (Le.refl F') lF
      by_cases hlt : i < xs.length
      · refine .inr ⟨(h1 i _ (List.getElem?_eq_getElem hlt)).1, Inv' (i + 1), fun H3 hN => ⟨_, by omega, rfl, hlt, hN⟩, fun x H3 hy => ?_⟩
        obtain ⟨F3, g3, p3⟩ := (h1 i _ (List.getElem?_eq_getElem hlt)).2 x H3 hy
        have nD : H2 D ≠ none := by rw [hD']; exact fun z => by cases z
        have gm3 := g3.minus fD nD
        have r3 := (r'.grow gm3).1.low
        have fD3 : F3 D = none := (g3.n D nD).trans fD
        have hD3 : H3 D = some (.lst accV) := g3.h _ _ hD'
        rw [List.drop_eq_getElem_cons hlt] at hrest
        unfold lcM at hrest
        cases hg : g xs[i] (wipeE ρ vs) with
        | err c => rw [hg] at hrest; cases hrest
        | bad => rw [hg] at hrest; cases hrest
        | ok ρ' =>
          rw [hg] at hrest
          refine ⟨wipeE ρ vs, F3, F3, xs[i], r3.up minus_le, p3, ?_⟩
          rw [hg]
          intro σ2 r4 c4
          refine ⟨(wipe_ch c4 hts).trans wipe_wipe, ρ', F3, F3, r4, ?_⟩
          have hrest : ((t ρ').bind fun b => if b = true then (e ρ').bind fun y => (lcM g t e (wipeE ρ vs) (xs.drop (i + 1))).bind fun ys => .ok (y :: ys) else lcM g t e (wipeE ρ vs) (xs.drop (i + 1))) = R.ok rest := hrest
          cases ht : t ρ' with
          | err c => rw [ht] at hrest; cases hrest
          | bad => rw [ht] at hrest; cases hrest
          | ok b =>
            rw [ht] at hrest
            intro b' F4 H4 g4 eb
            cases eb
            have nD3 : H3 D ≠ none := by rw [hD3]; exact fun z => by cases z
            have gm4 := g4.minus fD3 nD3
            have hD4 : H4 D = some (.lst accV) := g4.h _ _ hD3
            cases b with
            | false =>
              have hrest : lcM g t e (wipeE ρ vs) (xs.drop (i + 1)) = .ok rest := hrest
              rw [if_neg Bool.false_ne_true]
              exact ⟨F4, accV, accD, rest, (r3.grow gm4).1.low, (p'.le g3.f).le g4.f, (g'.trans gm3).trans gm4, hD4, (hacc.le g3.f).le g4.f, Nat.le_succ_of_le hal, hrest, hys⟩
            | true =>
              rw [if_pos rfl]
              have hrest : ((e ρ').bind fun y => (lcM g t e (wipeE ρ vs) (xs.drop (i + 1))).bind fun ys => .ok (y :: ys)) = R.ok rest := hrest
              cases he : e ρ' with
              | err c => rw [he] at hrest; cases hrest
              | bad => rw [he] at hrest; cases hrest
              | ok y =>
                rw [he] at hrest
                have hrest : ((lcM g t e (wipeE ρ vs) (xs.drop (i + 1))).bind fun ys => .ok (y :: ys)) = R.ok rest := hrest
                cases hr : lcM g t e (wipeE ρ vs) (xs.drop (i + 1)) with
                | err c => rw [hr] at hrest; cases hrest
                | bad => rw [hr] at hrest; cases hrest
                | ok rest' =>
                  rw [hr] at hrest
                  cases hrest
                  refine ⟨ρ', F4, _, (r4.grow g4).1, ?_⟩
                  rw [he]
                  intro v F5 H5 g5 p5
                  have nD4 : H4 D ≠ none := by rw [hD4]; exact fun z => by cases z
                  have fD4 : F4 D = none := (g4.n D nD3).trans fD3
                  have gm5 := g5.minus fD4 nD4
                  have hl' := DpAll.length hacc
                  have sq := sz_eq
                  refine ⟨accV, g5.h _ _ hD4, by rw [sq]; omega, F5, accV ++ [v], accD ++ [y], rest', ?_, ((p'.le g3.f).le g4.f).le g5.f, ?_, upd_same, (((hacc.le g3.f).le g4.f).le g5.f).append (.cons p5 .nil), by rw [List.length_append, List.length_singleton]; omega, hr, by rw [List.append_assoc]; exact hys⟩
                  · rw [minus_upd]
                    exact ((r3.grow gm4).1.low.grow gm5).1.low
                  · rw [minus_upd]
                    exact ((g'.trans gm3).trans gm4).trans gm5
      · have ei : i = xs.length := by omega
        subst ei
        refine .inl ⟨h2, ?_⟩
        rw [List.drop_length] at hrest
        cases hrest
        rw [List.append_nil] at hys
        subst hys
        have gg : Gr F1 H1 F' H2 := ⟨g'.f, g'.h.trans minus_le, g'.n, lF⟩
        exact q2 _ F' H2 gg ⟨D, accV, _, rfl, rfl, hD, fD, hD', hacc⟩
theorem xf_lc {elt tg iter : Expr} {ifs : List Expr} {scope : Scope} {own : List (Str × Nat)} {pos : Pos} {mi : Ev → R (List PyData)} {ts : List Nat} {g : PyData → Ev → R Ev} {t : Ev → R Bool} {e : Ev → R PyData} (hc : X.calm = true) (hN : X.N.Nodup) (hi : XI X We tg iter mi) (ok : BlkOk X.N X.env.scope scope own) (hts : ∀ i ∈ ts, i ∈ own.map (·.2))
    (hg : ∀ (s : Shared) (H : Hp) (C : Addr) (cl : List (Str × Addr)) (fp : List Addr), XG (X.blk s H scope (compEnvC scope cl C X.env) fp) tg ts g) (ht : ∀ (s : Shared) (H : Hp) (C : Addr) (cl : List (Str × Addr)) (fp : List Addr), XTs (X.blk s H scope (compEnvC scope cl C X.env) fp) We0 ifs t)
    (he : ∀ (s : Shared) (H : Hp) (C : Addr) (cl : List (Str × Addr)) (fp : List Addr), XE (X.blk s H scope (compEnvC scope cl C X.env) fp) We0 elt e) (hs : ∀ x, foldedSetIterable iter X.env x = pure x) :
    XF X We (.ListComp elt [⟨tg, iter, ifs, 0⟩] scope pos) (lcE mi (own.map (·.2)) g t e) :=
  pe_imp (pe_lc hc hN hi ok hg ht he hs) fun σ H Q q => lc_red hts q
/-- name = [..] on one line: the list stays -/
theorem xs_setLc {i : Nat} {y : Str} {py : Pos} {elt tg iter : Expr} {ifs : List Expr} {scope : Scope} {own : List (Str × Nat)} {pos spos : Pos} {mi : Ev → R (List PyData)} {ts : List Nat} {g : PyData → Ev → R Ev} {t : Ev → R Bool} {e : Ev → R PyData} (hc : X.calm = true) (hN : X.N.Nodup) (hy : X.N[i]? = some y) (hyl : X.env.scope.names.lookup y = some .local)
    (hsw : swapsWith (.ListComp elt [⟨tg, iter, ifs, 0⟩] scope pos) (some (.Name y py)) spos.line X.env = pure true) (hi : XI X We tg iter mi) (ok : BlkOk X.N X.env.scope scope own) (hts : ∀ i ∈ ts, i ∈ own.map (·.2))
    (hg : ∀ (s : Shared) (H : Hp) (C : Addr) (cl : List (Str × Addr)) (fp : List Addr), XG (X.blk s H scope (compEnvC scope cl C X.env) fp) tg ts g) (ht : ∀ (s : Shared) (H : Hp) (C : Addr) (cl : List (Str × Addr)) (fp : List Addr), XTs (X.blk s H scope (compEnvC scope cl C X.env) fp) We0 ifs t)
    (he : ∀ (s : Shared) (H : Hp) (C : Addr) (cl : List (Str × Addr)) (fp : List Addr), XE (X.blk s H scope (compEnvC scope cl C X.env) fp) We0 elt e) (hs : ∀ x, foldedSetIterable iter X.env x = pure x) :
    XS X We (.Assign [.Name y py] (.ListComp elt [⟨tg, iter, ifs, 0⟩] scope pos) spos) (setS i (lcE mi (own.map (·.2)) g t e)) :=
  ps_imp (ps_setLc hc hN hy hyl hsw hi ok hg ht he hs) fun D σ H q => by
    obtain ⟨ρ, F, G, r, q⟩ := q
    refine lc_red (X := X) (We := We) (mi := mi) (g := g) (t := t) (e := e) hts ⟨ρ, F, G, r, ?_⟩
    have q' : Po We (pD X.K) F H σ (lcE mi (own.map (·.2)) g t e ρ) fun x H1 => gName i x σ H1 D.nx := PoS.expr (P := pD X.K) r q fun d v F1 G1 H1 r1 g1 p1 q1 => q1 _ F1 G1 H1 (r1.set i p1) (GrS.refl F1 G1)
    cases hm : lcE mi (own.map (·.2)) g t e ρ with
    | ok d =>
      rw [hm] at q'
      intro v F1 H1 g1 p
      obtain ⟨x, vs, ds, rfl, rfl, n0, n1, h1, h2⟩ := p
      exact q' _ _ _ (g1.keep n0 n1 h1) (Dp.new_lst n1 h2)
    | err c => rw [hm] at q'; exact q'
    | bad => rw [hm] at q'; exact q'
/-- name = [..] on one line: the list is one's own -/
theorem xs_setLcL {i : Nat} {y : Str} {py : Pos} {elt tg iter : Expr} {ifs : List Expr} {scope : Scope} {own : List (Str × Nat)} {pos spos : Pos} {mi : Ev → R (List PyData)} {ts : List Nat} {g : PyData → Ev → R Ev} {t : Ev → R Bool} {e : Ev → R PyData} (hc : X.calm = true) (hN : X.N.Nodup) (hy : X.N[i]? = some y) (hyl : X.env.scope.names.lookup y = some .local)
    (hsw : swapsWith (.ListComp elt [⟨tg, iter, ifs, 0⟩] scope pos) (some (.Name y py)) spos.line X.env = pure true) (hi : XI X We tg iter mi) (ok : BlkOk X.N X.env.scope scope own) (hts : ∀ i ∈ ts, i ∈ own.map (·.2))
    (hg : ∀ (s : Shared) (H : Hp) (C : Addr) (cl : List (Str × Addr)) (fp : List Addr), XG (X.blk s H scope (compEnvC scope cl C X.env) fp) tg ts g) (ht : ∀ (s : Shared) (H : Hp) (C : Addr) (cl : List (Str × Addr)) (fp : List Addr), XTs (X.blk s H scope (compEnvC scope cl C X.env) fp) We0 ifs t)
    (he : ∀ (s : Shared) (H : Hp) (C : Addr) (cl : List (Str × Addr)) (fp : List Addr), XE (X.blk s H scope (compEnvC scope cl C X.env) fp) We0 elt e) (hs : ∀ x, foldedSetIterable iter X.env x = pure x) :
    XS X We (.Assign [.Name y py] (.ListComp elt [⟨tg, iter, ifs, 0⟩] scope pos) spos) (setLS i (lcE mi (own.map (·.2)) g t e)) :=
  ps_imp (ps_setLc hc hN hy hyl hsw hi ok hg ht he hs) fun D σ H q => lc_red (X := X) (We := We) (mi := mi) (g := g) (t := t) (e := e) hts (setL_red q)
end
end PD
namespace PD
open PySem PySem.Spec PyProof.Rows L2
/-! ## built-ins -/
abbrev PureL (f : List PyData → R PyData) : Prop := ∀ ds c, f ds ≠ .err c
def rC (K : PySem.W.Frag) (f : List PyData → R PyData) : List V → Hp → VK → Prop := fun xs H Q => ∃ F ds c, Le F H ∧ Paired (fun v d => pB K H F H v d) xs ds ∧ f ds = .ok c ∧ ∀ v F' H', Gr F H F' H' → Dp K F' v c → Q v H'
/-- .. where a new list of one's own comes back -/
def rCF (K : PySem.W.Frag) (f : List PyData → R PyData) : List V → Hp → VK → Prop := fun xs H Q => ∃ F ds c, Le F H ∧ Paired (fun v d => pB K H F H v d) xs ds ∧ f ds = .ok c ∧ ∀ v F' H', Gr F H F' H' → pF K H F' H' v c → Q v H'
def callB (f : List PyData → R PyData) (ma : Ev → R (List PyData)) (ρ : Ev) : R PyData := (ma ρ).bind f
section
variable {X : Cx} {We : EW} {e a b c : Expr} {es : List Expr} {pos p : Pos} {x : Str} {id T : String}
theorem callB_red {f : List PyData → R PyData} {ma : Ev → R (List PyData)} (pf : PureL f) {σ : St} {H : Hp} {Q : VK} (q : tM X.K We (pD X.K) (callB f ma) σ H Q) : tCB (rC X.K f) (tM X.K We (pAB X.K) ma) σ H Q := by
  obtain ⟨ρ, F, G, r, q⟩ := q
  refine ⟨ρ, F, G, r, Po.bind (P := pAB X.K) q fun ds vs F1 H1 g1 p1 q1 => ?_⟩
  cases hf : f ds with
  | err c => exact absurd hf (pf ds c)
  | bad => rw [hf] at q1; exact q1.elim
  | ok c => rw [hf] at q1; exact ⟨F1, ds, c, g1.le, p1, hf, fun v F' H' g p => q1 v F' H' g p⟩
theorem callF_red {f : List PyData → R PyData} {ma : Ev → R (List PyData)} (pf : PureL f) {σ : St} {H : Hp} {Q : VK} (q : tM X.K We (pF X.K) (callB f ma) σ H Q) : tCB (rCF X.K f) (tM X.K We (pAB X.K) ma) σ H Q := by
  obtain ⟨ρ, F, G, r, q⟩ := q
  refine ⟨ρ, F, G, r, Po.bind (P := pAB X.K) q fun ds vs F1 H1 g1 p1 q1 => ?_⟩
  cases hf : f ds with
  | err c => exact absurd hf (pf ds c)
  | bad => rw [hf] at q1; exact q1.elim
  | ok c => rw [hf] at q1; exact ⟨F1, ds, c, g1.le, p1, hf, fun v F' H' g p => q1 v F' H' g p⟩
theorem xe_callB {f : List PyData → R PyData} {ma : Ev → R (List PyData)} (pf : PureL f) (hc : CallR X (.builtin id) (rC X.K f)) (hg : Gl X x) (hm : X.mg x = none) (hv : bootBuiltins x = some (.builtin id)) (ha : XAB X We (e :: es) ma) (hn : x ≠ "__name__") (hdb : (x == ("__debug__" : Str)) = false)
    (he : starEach (e :: es) X.env = (false, eval e X.env) :: starEach es X.env) (hpl : (backTo pos (starEach es X.env)).any (·.1) = false) : XE X We (.Call (.Name x p) (e :: es) [] pos) (callB f ma) :=
  pe_imp (pe_callB hc hg hm hv ha hn hdb he hpl) fun σ H Q q => callB_red pf q
theorem xe_callTy {f : List PyData → R PyData} {ma : Ev → R (List PyData)} (pf : PureL f) (hc : CallR X (.type T) (rC X.K f)) (hg : Gl X x) (hm : X.mg x = none) (hv : bootBuiltins x = some (.type T)) (ha : XAB X We (e :: es) ma) (hn : x ≠ "__name__") (hdb : (x == ("__debug__" : Str)) = false)
    (he : starEach (e :: es) X.env = (false, eval e X.env) :: starEach es X.env) (hpl : (backTo pos (starEach es X.env)).any (·.1) = false) : XE X We (.Call (.Name x p) (e :: es) [] pos) (callB f ma) :=
  pe_imp (pe_callTy hc hg hm hv ha hn hdb he hpl) fun σ H Q q => callB_red pf q
theorem xf_callB {f : List PyData → R PyData} {ma : Ev → R (List PyData)} (pf : PureL f) (hc : CallR X (.builtin id) (rCF X.K f)) (hg : Gl X x) (hm : X.mg x = none) (hv : bootBuiltins x = some (.builtin id)) (ha : XAB X We (e :: es) ma) (hn : x ≠ "__name__") (hdb : (x == ("__debug__" : Str)) = false)
    (he : starEach (e :: es) X.env = (false, eval e X.env) :: starEach es X.env) (hpl : (backTo pos (starEach es X.env)).any (·.1) = false) : XF X We (.Call (.Name x p) (e :: es) [] pos) (callB f ma) :=
  pe_imp (pe_callB hc hg hm hv ha hn hdb he hpl) fun σ H Q q => callF_red pf q
theorem xf_callTy {f : List PyData → R PyData} {ma : Ev → R (List PyData)} (pf : PureL f) (hc : CallR X (.type T) (rCF X.K f)) (hg : Gl X x) (hm : X.mg x = none) (hv : bootBuiltins x = some (.type T)) (ha : XAB X We (e :: es) ma) (hn : x ≠ "__name__") (hdb : (x == ("__debug__" : Str)) = false)
    (he : starEach (e :: es) X.env = (false, eval e X.env) :: starEach es X.env) (hpl : (backTo pos (starEach es X.env)).any (·.1) = false) : XF X We (.Call (.Name x p) (e :: es) [] pos) (callB f ma) :=
  pe_imp (pe_callTy hc hg hm hv ha hn hdb he hpl) fun σ H Q q => callF_red pf q
theorem pair1 {P : V → PyData → Prop} {xs : List V} {d : PyData} (h : Paired P xs [d]) : ∃ v, xs = [v] ∧ P v d := by
  cases h with
  | cons a b => cases b; exact ⟨_, rfl, a⟩
theorem pair2 {P : V → PyData → Prop} {xs : List V} {d e : PyData} (h : Paired P xs [d, e]) : ∃ v w, xs = [v, w] ∧ P v d ∧ P w e := by
  cases h with
  | cons a b =>
    cases b with
    | cons a2 b2 => cases b2; exact ⟨_, _, rfl, a, a2⟩
/-! ### len, abs, int, min and max of two -/
def lenD : List PyData → R PyData
  | [.list xs] => .ok (.int xs.length)
  | [.tuple xs] => .ok (.int xs.length)
  | [.str z] => if z.length ≤ SZ then .ok (.int z.length) else .bad
  | _ => .bad
theorem lenD_p : PureL lenD := fun d c h => by unfold lenD at h; split at h <;> first | cases h | (split at h <;> cases h)
theorem cb_len : CallR X (.builtin "len") (rC X.K lenD) := by
  intro pins s σ H xs us Q I r h
  obtain ⟨F, ds, c, l, pd, hf, q⟩ := h
  unfold lenD at hf
  split at hf
  · cases hf
    obtain ⟨v, rfl, p⟩ := pair1 pd
    obtain ⟨a, vs, rfl, ha, hvs⟩ := p.list l
    refine call_len_seq pins s σ H _ us Q I r ⟨a, vs, rfl, .inl ha, ?_⟩
    rw [hvs.length]
    exact q _ F H (Gr.refl l) (.int _)
  · cases hf
    obtain ⟨v, rfl, p⟩ := pair1 pd
    obtain ⟨a, vs, rfl, ha, hvs⟩ := p.tuple l
    refine call_len_seq pins s σ H _ us Q I r ⟨a, vs, rfl, .inr ha, ?_⟩
    rw [hvs.length]
    exact q _ F H (Gr.refl l) (.int _)
  · split at hf
    · cases hf
      obtain ⟨v, rfl, p⟩ := pair1 pd
      have e := p.str; subst e
      exact call_len_str pins s σ H _ us Q I r ⟨_, rfl, by rw [sz_eq]; assumption, q _ F H (Gr.refl l) (.int _)⟩
    · cases hf
  · cases hf
def absD : List PyData → R PyData
  | [.int i] => .ok (.int i.natAbs)
  | _ => .bad
theorem absD_p : PureL absD := fun d c h => by unfold absD at h; split at h <;> cases h
theorem cb_abs : CallR X (.builtin "abs") (rC X.K absD) := by
  intro pins s σ H xs us Q I r h
  obtain ⟨F, ds, c, l, pd, hf, q⟩ := h
  unfold absD at hf
  split at hf
  · cases hf
    obtain ⟨v, rfl, p⟩ := pair1 pd
    have e := p.int; subst e
    rename_i i
    refine call_abs pins s σ H _ us Q I r ⟨i, rfl, ?_⟩
    have e : (if i < 0 then -i else i) = (i.natAbs : Int) := by split <;> omega
    rw [e]
    exact q _ F H (Gr.refl l) (.int _)
  · cases hf
def int1D : List PyData → R PyData
  | [.int i] => .ok (.int i)
  | [.bool b] => .ok (.int (if b then 1 else 0))
  | _ => .bad
theorem int1D_p : PureL int1D := fun d c h => by unfold int1D at h; split at h <;> cases h
theorem cb_int : CallR X (.type "int") (rC X.K int1D) := by
  intro pins s σ H xs us Q I r h
  obtain ⟨F, ds, c, l, pd, hf, q⟩ := h
  unfold int1D at hf
  split at hf
  · cases hf
    obtain ⟨v, rfl, p⟩ := pair1 pd
    have e := p.int; subst e
    exact call_int1 pins s σ H _ us Q I r (.inl ⟨_, rfl, q _ F H (Gr.refl l) (.int _)⟩)
  · cases hf
    obtain ⟨v, rfl, p⟩ := pair1 pd
    have e := p.bool; subst e
    exact call_int1 pins s σ H _ us Q I r (.inr ⟨_, rfl, q _ F H (Gr.refl l) (.int _)⟩)
  · cases hf
/-! ### sums, all, any -/
def intsOf : List PyData → Option (List Int)
  | [] => some []
  | .int i :: r => (intsOf r).map (i :: ·)
  | _ :: _ => none
def boolsOf : List PyData → Option (List Bool)
  | [] => some []
  | .bool i :: r => (boolsOf r).map (i :: ·)
  | _ :: _ => none
theorem intsOf_eq : ∀ {ds : List PyData} {ns : List Int}, intsOf ds = some ns → ds = ns.map PyData.int
  | [], ns, h => by unfold intsOf at h; cases h; rfl
  | d :: r, ns, h => by
    cases d with
    | int i =>
      unfold intsOf at h
      cases hr : intsOf r with
      | none => rw [hr] at h; cases h
      | some ms => rw [hr] at h; cases h; rw [intsOf_eq hr]; rfl
    | _ => unfold intsOf at h; cases h
theorem boolsOf_eq : ∀ {ds : List PyData} {ns : List Bool}, boolsOf ds = some ns → ds = ns.map PyData.bool
  | [], ns, h => by unfold boolsOf at h; cases h; rfl
  | d :: r, ns, h => by
    cases d with
    | bool i =>
      unfold boolsOf at h
      cases hr : boolsOf r with
      | none => rw [hr] at h; cases h
      | some ms => rw [hr] at h; cases h; rw [boolsOf_eq hr]; rfl
    | _ => unfold boolsOf at h; cases h
@[simp] theorem intsOf_map : ∀ ns : List Int, intsOf (ns.map PyData.int) = some ns
  | [] => rfl
  | n :: ns => by rw [List.map_cons]; unfold intsOf; rw [intsOf_map ns]; rfl
@[simp] theorem boolsOf_map : ∀ ns : List Bool, boolsOf (ns.map PyData.bool) = some ns
  | [] => rfl
  | n :: ns => by rw [List.map_cons]; unfold boolsOf; rw [boolsOf_map ns]; rfl
def sumD : List PyData → R PyData
  | [.list ds] => match intsOf ds with | some ns => .ok (.int ns.sum) | none => .bad
  | _ => .bad
def allD : List PyData → R PyData
  | [.list ds] => match boolsOf ds with | some ns => .ok (.bool (ns.all _root_.id)) | none => .bad
  | _ => .bad
def anyD : List PyData → R PyData
  | [.list ds] => match boolsOf ds with | some ns => .ok (.bool (ns.any _root_.id)) | none => .bad
  | _ => .bad
theorem sumD_p : PureL sumD := fun d c h => by unfold sumD at h; split at h <;> first | cases h | (split at h <;> cases h)
theorem allD_p : PureL allD := fun d c h => by unfold allD at h; split at h <;> first | cases h | (split at h <;> cases h)
theorem anyD_p : PureL anyD := fun d c h => by unfold anyD at h; split at h <;> first | cases h | (split at h <;> cases h)
theorem cb_sum (hc : X.calm = true) : CallR X (.builtin "sum") (rC X.K sumD) := by
  intro pins s σ H xs us Q I r h
  obtain ⟨F, ds, c, l, pd, hf, q⟩ := h
  unfold sumD at hf
  split at hf
  · split at hf
    · rename_i ns hns
      cases hf
      obtain ⟨v, rfl, p⟩ := pair1 pd
      obtain ⟨a, vs, rfl, ha, hvs⟩ := p.list l
      rw [intsOf_eq hns] at hvs
      rw [hvs.ints] at ha
      exact cr_sum hc pins s σ H _ us Q I r ⟨a, ns, rfl, ha, q _ F H (Gr.refl l) (.int _)⟩
    · cases hf
  · cases hf
theorem cb_all (hc : X.calm = true) : CallR X (.builtin "all") (rC X.K allD) := by
  intro pins s σ H xs us Q I r h
  obtain ⟨F, ds, c, l, pd, hf, q⟩ := h
  unfold allD at hf
  split at hf
  · split at hf
    · rename_i ns hns
      cases hf
      obtain ⟨v, rfl, p⟩ := pair1 pd
      obtain ⟨a, vs, rfl, ha, hvs⟩ := p.list l
      rw [boolsOf_eq hns] at hvs
      rw [hvs.bools] at ha
      exact cr_all hc pins s σ H _ us Q I r ⟨a, ns, rfl, ha, q _ F H (Gr.refl l) (.bl _)⟩
    · cases hf
  · cases hf
theorem cb_any (hc : X.calm = true) : CallR X (.builtin "any") (rC X.K anyD) := by
  intro pins s σ H xs us Q I r h
  obtain ⟨F, ds, c, l, pd, hf, q⟩ := h
  unfold anyD at hf
  split at hf
  · split at hf
    · rename_i ns hns
      cases hf
      obtain ⟨v, rfl, p⟩ := pair1 pd
      obtain ⟨a, vs, rfl, ha, hvs⟩ := p.list l
      rw [boolsOf_eq hns] at hvs
      rw [hvs.bools] at ha
      exact cr_any hc pins s σ H _ us Q I r ⟨a, ns, rfl, ha, q _ F H (Gr.refl l) (.bl _)⟩
    · cases hf
  · cases hf
/-! ### list(x), tuple(x) -/
def list1D : List PyData → R PyData
  | [.list xs] => .ok (.list xs)
  | [.tuple xs] => .ok (.list xs)
  | _ => .bad
def tuple1D : List PyData → R PyData
  | [.list xs] => .ok (.tuple xs)
  | [.tuple xs] => .ok (.tuple xs)
  | _ => .bad
theorem list1D_p : PureL list1D := fun d c h => by unfold list1D at h; split at h <;> cases h
theorem tuple1D_p : PureL tuple1D := fun d c h => by unfold tuple1D at h; split at h <;> cases h
theorem cb_list : CallR X (.type "list") (rCF X.K list1D) := by
  intro pins s σ H xs us Q I r h
  obtain ⟨F, ds, c, l, pd, hf, q⟩ := h
  unfold list1D at hf
  split at hf
  · cases hf
    obtain ⟨v, rfl, p⟩ := pair1 pd
    obtain ⟨a, vs, rfl, ha, hvs⟩ := p.list l
    exact call_list_of pins s σ H _ us Q I r ⟨a, vs, rfl, .inl ha, fun p np => q _ _ _ (Gr.own l np) ⟨p, vs, _, rfl, rfl, np, l.none np, upd_same, hvs⟩⟩
  · cases hf
    obtain ⟨v, rfl, p⟩ := pair1 pd
    obtain ⟨a, vs, rfl, ha, hvs⟩ := p.tuple l
    exact call_list_of pins s σ H _ us Q I r ⟨a, vs, rfl, .inr ha, fun p np => q _ _ _ (Gr.own l np) ⟨p, vs, _, rfl, rfl, np, l.none np, upd_same, hvs⟩⟩
  · cases hf
theorem cb_tuple : CallR X (.type "tuple") (rC X.K tuple1D) := by
  intro pins s σ H xs us Q I r h
  obtain ⟨F, ds, c, l, pd, hf, q⟩ := h
  unfold tuple1D at hf
  split at hf
  · cases hf
    obtain ⟨v, rfl, p⟩ := pair1 pd
    obtain ⟨a, vs, rfl, ha, hvs⟩ := p.list l
    exact call_tuple_of pins s σ H _ us Q I r ⟨a, vs, rfl, .inl ⟨ha, fun p np => q _ _ _ (Gr.new l np) (Dp.new_tup (l.none np) hvs)⟩⟩
  · cases hf
    obtain ⟨v, rfl, p⟩ := pair1 pd
    obtain ⟨a, vs, rfl, ha, hvs⟩ := p.tuple l
    refine call_tuple_of pins s σ H _ us Q I r ⟨a, vs, rfl, .inr ⟨ha, q _ F H (Gr.refl l) ?_⟩⟩
    rcases p with p | ⟨a', us', ds', e1, e2, _⟩
    · exact p
    · cases e2
  · cases hf
/-! ### isinstance -/
def tyName : PyData → String
  | .none => "NoneType"
  | .bool _ => "bool"
  | .int _ => "int"
  | .str _ => "str"
  | .list _ => "list"
  | .tuple _ => "tuple"
  | .dict _ => "dict"
inductive Ty where
  | int | bool | str | tuple | list | dict
def Ty.name : Ty → String
  | .int => "int"
  | .bool => "bool"
  | .str => "str"
  | .tuple => "tuple"
  | .list => "list"
  | .dict => "dict"
def isiB : Ty → PyData → Bool
  | .int, .int _ => true
  | .int, .bool _ => true
  | .bool, .bool _ => true
  | .str, .str _ => true
  | .tuple, .tuple _ => true
  | .list, .list _ => true
  | .dict, .dict _ => true
  | _, _ => false
theorem kit_isi (t : Ty) (d : PyData) : kitB (tyName d) t.name = some (isiB t d) := by
  cases t <;> cases d <;> simp only [tyName, Ty.name, isiB] <;> decide +kernel
def isiD (t : Ty) (d : PyData) : R PyData := .ok (.bool (isiB t d))
theorem tyx_of {K : PySem.W.Frag} {H : Hp} {v : V} {d : PyData} (h : Dp K H v d) : TyX K H v (.type (tyName d)) := by
  cases h with
  | non => exact .base .non
  | bl b => exact .base (.bl b)
  | int i => exact .base (.int i)
  | str x => exact .base (.str x)
  | lst h1 h2 =>
    rcases h1 with (h | ⟨o, h⟩) | ⟨o, its, n, h, hc, _⟩
    · exact .base (.lst h)
    · exact .base (.frz h)
    · exact .kList h hc
  | tup h1 h2 =>
    rcases h1 with (h | ⟨o, h⟩) | ⟨o, its, n, h, hc, _⟩
    · exact .base (.tup h)
    · exact .fTuple h
    · exact .kTuple h hc
theorem xe_isi (t : Ty) {y : Str} {p2 : Pos} {ma : Ev → R PyData} (hg : Gl X "isinstance") (hm : X.mg "isinstance" = none) (hg2 : Gl X y) (hm2 : X.mg y = none) (hv2 : bootBuiltins y = some (.type t.name)) (ha : XB X We e ma) (hn : y ≠ "__name__") (hd : (y == ("__debug__" : Str)) = false)
    (hs1 : starEach [e, .Name y p2] X.env = (false, eval e X.env) :: starEach [.Name y p2] X.env) (hs2 : starEach [.Name y p2] X.env = (false, eval (.Name y p2) X.env) :: starEach [] X.env) (hpl : (backTo pos (starEach [.Name y p2] X.env)).any (·.1) = false) :
    XE X We (.Call (.Name "isinstance" p) [e, .Name y p2] [] pos) (op1 (isiD t) ma) := by
  refine pe_imp (pe_callB call_isi hg hm (by decide +kernel) (pa_cons ha (pa_cons (pe_bltn (v := .ty t.name) hg2 hm2 hv2 rfl hn hd) pa_nil hs2) hs1) (by decide) (by decide) hs1 hpl) fun σ H Q q => ?_
  obtain ⟨ρ, F, G, r, q⟩ := q
  refine ⟨ρ, F, G, r, Po.bind (P := pB X.K) q fun d x F1 H1 g1 p1 q1 => ?_⟩
  exact ⟨x, .ty t.name, .type (tyName d), .type t.name, isiB t d, rfl, .ty t.name, tyx_of (p1.dp g1.le), kit_ty (kit_isi t d), q1 (.bl _) F1 H1 (Gr.refl g1.le) (.bl _)⟩
/-! ### min, max -/
def alikeOk (xs : List PyData) : Bool := xs.all (fun x => xs.all (fun y => PySem.W.alike x y) && !isN x) && decide (PyData.depthAll xs ≤ 60)
theorem alikeOk_un {xs : List PyData} (h : alikeOk xs = true) : PySem.W.AlikeAll xs ∧ PyData.depthAll xs ≤ 60 := by
  unfold alikeOk at h
  simp only [Bool.and_eq_true, List.all_eq_true, decide_eq_true_eq, Bool.not_eq_true'] at h
  refine ⟨⟨fun x hx y hy => (h.1 x hx).1 y hy, fun x hx z => ?_⟩, h.2⟩
  have := (h.1 x hx).2
  rw [z] at this
  cases this
def minD : List PyData → R PyData
  | [.int i, .int j] => .ok (.int (min i j))
  | [.list (x :: xs)] => if alikeOk (x :: xs) = true then .ok (PySem.W.minD x xs) else .bad
  | [.tuple (x :: xs)] => if alikeOk (x :: xs) = true then .ok (PySem.W.minD x xs) else .bad
  | _ => .bad
def maxD : List PyData → R PyData
  | [.int i, .int j] => .ok (.int (max i j))
  | [.list (x :: xs)] => if alikeOk (x :: xs) = true then .ok (PySem.W.maxD x xs) else .bad
  | [.tuple (x :: xs)] => if alikeOk (x :: xs) = true then .ok (PySem.W.maxD x xs) else .bad
  | _ => .bad
theorem minD_p : PureL minD := fun d c h => by unfold minD at h; split at h <;> first | cases h | (split at h <;> cases h)
theorem maxD_p : PureL maxD := fun d c h => by unfold maxD at h; split at h <;> first | cases h | (split at h <;> cases h)
/-- an item of the machine's list, found by what it reads as -/
theorem pick {pins : List (Addr × Obj)} {s s' : Shared} {σ : St} {H F : Hp} {vs : List V} {its : List Value} {ds : List PyData} {i : Nat} {v : Value} {d : PyData} {bs : List Addr} {Q : VK} (I : Inv X pins σ H s) (l : Le F H) (rv : Vals vs its) (hd : DpAll X.K F vs ds) (hv : its[i]? = some v) (rd : Reads s'.heap v d bs)
    (hk : ∀ b o, s.heap.get? b = some o → s'.heap.get? b = some o) (q : ∀ w, Dp X.K F w d → Q w H) (ht : ∃ h' tk, s' = { s with heap := h', toks := tk }) : EP X pins σ Q v s' := by
  obtain ⟨h', tk, rfl⟩ := ht
  have hlen := rv.length
  obtain ⟨hi, _⟩ := List.getElem?_eq_some_iff.mp hv
  have hi2 : i < vs.length := by omega
  obtain ⟨u, eu, ru⟩ := rv.get (List.getElem?_eq_getElem hi2)
  rw [hv] at eu
  cases eu
  obtain ⟨d', ed, pd⟩ := hd.get' (List.getElem?_eq_getElem hi2)
  obtain ⟨as, r1⟩ := Dp.reads I d' vs[i] v (pd.le l) ru
  have r2 : Reads h' v d' as := PySem.W.reads_keeps hk r1
  have e := (PySem.Reads.unique r2 d bs rd).1
  subst e
  exact ⟨vs[i], H, I.kept (h' := h') (t' := tk) hk, ru, q _ pd⟩
theorem cb_min (hc : X.calm = true) (hu : X.A.units + 64 < cLine) : CallR X (.builtin "min") (rC X.K minD) := by
  intro pins s σ H xs us Q I r h
  obtain ⟨F, ds, c, l, pd, hf, q⟩ := h
  unfold minD at hf
  split at hf
  · cases hf
    obtain ⟨v, w, rfl, p, p2⟩ := pair2 pd
    have e := p.int; have e2 := p2.int; subst e e2
    rename_i i j
    refine call_min2 hc pins s σ H _ us Q I r ⟨i, j, rfl, ?_⟩
    have e : (if j < i then j else i) = min i j := by split <;> omega
    rw [e]
    exact q _ F H (Gr.refl l) (.int _)
  · split at hf
    · rename_i x xs hz
      cases hf
      obtain ⟨v, rfl, p⟩ := pair1 pd
      obtain ⟨z1, z2⟩ := alikeOk_un hz
      obtain ⟨a, vs, rfl, ha, hvs⟩ := p.list l
      obtain ⟨its, rv, pl, hL⟩ := I.list ha
      rw [Vals.ref1 r]
      obtain ⟨as, rd⟩ := Dp.readsAll I (x :: xs) vs its (hvs.le l) rv
      refine PySem.W.min_list_data (I.ok.hd hc) pl.isList (by simpa using rd) z1 (by omega) fun i v h' tk bs hv rm hk => ?_
      exact pick I l rv hvs (by simpa using hv) rm hk (fun w pw => q w F H (Gr.refl l) pw) ⟨h', tk, rfl⟩
    · cases hf
  · split at hf
    · rename_i x xs hz
      cases hf
      obtain ⟨v, rfl, p⟩ := pair1 pd
      obtain ⟨z1, z2⟩ := alikeOk_un hz
      obtain ⟨a, vs, rfl, ha, hvs⟩ := p.tuple l
      obtain ⟨its, rv, pl, hL⟩ := I.tuple ha
      rw [Vals.ref1 r]
      obtain ⟨as, rd⟩ := Dp.readsAll I (x :: xs) vs its (hvs.le l) rv
      refine PySem.W.min_tuple_data (I.ok.hd hc) (show s.heap.IsTuple a its.toArray from pl) (by simpa using rd) z1 (by omega) fun i v h' tk bs hv rm hk => ?_
      exact pick I l rv hvs (by simpa using hv) rm hk (fun w pw => q w F H (Gr.refl l) pw) ⟨h', tk, rfl⟩
    · cases hf
  · cases hf
theorem cb_max (hc : X.calm = true) (hu : X.A.units + 64 < cLine) : CallR X (.builtin "max") (rC X.K maxD) := by
  intro pins s σ H xs us Q I r h
  obtain ⟨F, ds, c, l, pd, hf, q⟩ := h
  unfold maxD at hf
  split at hf
  · cases hf
    obtain ⟨v, w, rfl, p, p2⟩ := pair2 pd
    have e := p.int; have e2 := p2.int; subst e e2
    rename_i i j
    refine call_max2 hc pins s σ H _ us Q I r ⟨i, j, rfl, ?_⟩
    have e : (if j > i then j else i) = max i j := by split <;> omega
    rw [e]
    exact q _ F H (Gr.refl l) (.int _)
  · split at hf
    · rename_i x xs hz
      cases hf
      obtain ⟨v, rfl, p⟩ := pair1 pd
      obtain ⟨z1, z2⟩ := alikeOk_un hz
      obtain ⟨a, vs, rfl, ha, hvs⟩ := p.list l
      obtain ⟨its, rv, pl, hL⟩ := I.list ha
      rw [Vals.ref1 r]
      obtain ⟨as, rd⟩ := Dp.readsAll I (x :: xs) vs its (hvs.le l) rv
      refine PySem.W.max_list_data (I.ok.hd hc) pl.isList (by simpa using rd) z1 (by omega) fun i v h' tk bs hv rm hk => ?_
      exact pick I l rv hvs (by simpa using hv) rm hk (fun w pw => q w F H (Gr.refl l) pw) ⟨h', tk, rfl⟩
    · cases hf
  · split at hf
    · rename_i x xs hz
      cases hf
      obtain ⟨v, rfl, p⟩ := pair1 pd
      obtain ⟨z1, z2⟩ := alikeOk_un hz
      obtain ⟨a, vs, rfl, ha, hvs⟩ := p.tuple l
      obtain ⟨its, rv, pl, hL⟩ := I.tuple ha
      rw [Vals.ref1 r]
      obtain ⟨as, rd⟩ := Dp.readsAll I (x :: xs) vs its (hvs.le l) rv
      refine PySem.W.max_tuple_data (I.ok.hd hc) (show s.heap.IsTuple a its.toArray from pl) (by simpa using rd) z1 (by omega) fun i v h' tk bs hv rm hk => ?_
      exact pick I l rv hvs (by simpa using hv) rm hk (fun w pw => q w F H (Gr.refl l) pw) ⟨h', tk, rfl⟩
    · cases hf
  · cases hf
/-! ### sorted, of a tuple -/
section
open PySem.W PySem.Calls
variable {prog : Program} {w : World} {A : Around} {E : Value → Shared → Prop} {s : Shared} {β : Type} {us : List Value} {bs : List β} {enc : β → PyData} {R : Value → β → Prop}
theorem collect_tup {t : Addr} {Q : List Value → Shared → Prop} (hl : IsTup s.heap t us.toArray) (hsz : us.length ≤ sizeLine)
    (h : Q us { s with heap := (s.heap.push (seqObj "list" #[] 0)).update s.heap.objs.size (Obj.mapSeq (· ++ us.toArray)) }) : wpAny (model prog w) A (collect (.ref t)) Q E s := by
  obtain ⟨ob, ho, hcl, nn, hda⟩ := id hl
  unfold collect
  refine wpAny_bind (wpAny_runValue (codeAny_builtin entry_proto_collect' ?_))
  show wpAny _ _ (do again (.builtin "list.__iadd__" ⟨[← newList [], .ref t], []⟩)) _ _ s
  refine wpAny_bind (wpAny_newList (wpAny_pure ⟨Code.quiet_builtin _ (by decide +kernel), codeAny_builtin entry_list_iadd' ?_⟩))
  show wpAny _ _ (Builtin.List.listExtendWith (.ref s.heap.objs.size) (.ref t) (.ref s.heap.objs.size)) _ _ { s with heap := s.heap.push (seqObj "list" #[] 0) }
  unfold Builtin.List.listExtendWith
  have hob : (s.heap.push (seqObj "list" #[] 0)).get? t = some ob := Heap.get?_push_of_some _ ho
  refine wpAny_bind (wpAny_typeOf (T := "tuple") ⟨ob, hob, hcl⟩ ?_)
  have htt : (Value.type "tuple" == Value.type "tuple") = true := by rfl
  rw [if_pos (by rw [htt]; simp)]
  have h0 : (s.heap.push (seqObj "list" #[] 0)).get? s.heap.objs.size = some (seqObj "list" #[] 0) := Heap.get?_push_size _ rfl
  refine wpAny_bind (listItems_at hob hda (wpAny_bind (listItems_at (xs := #[]) (n := 0) h0 rfl ?_)))
  rw [if_neg (by simp)]
  refine wpAny_bind (listUpdate_at (xs := #[]) (n := 0) h0 rfl ?_ (Nat.zero_le _) (by show (#[] ++ us.toArray).size ≤ sizeLine + 1; simp only [Array.size_append, List.size_toArray, List.length_nil]; omega))
  refine wpAny_pure ?_
  show wpAny (model prog w) A (do
      let oo ← load s.heap.objs.size
      match oo.data with
      | .seq xs _ => pure xs.toList
      | _ => unsupported "internal:collect") Q E { s with heap := (s.heap.push (seqObj "list" #[] 0)).update s.heap.objs.size (Obj.mapSeq (· ++ us.toArray)) }
  refine wpAny_bind (wpAny_load (get?_update_seq h0 _) ?_)
  have e2 : ((#[] : Array Value) ++ us.toArray).toList = us := by simp
  show wpAny _ _ (pure ((#[] : Array Value) ++ us.toArray).toList) Q E _
  rw [e2]
  exact wpAny_pure h
theorem sorted_tup {t : Addr} {Q : Value → Shared → Prop} (ht : IsTup s.heap t us.toArray) (e : EachIs R us bs) (er : EachIs (fun v b => ∃ as, Reads s.heap v (enc b) as) us bs) (hal : AllAlike (bs.map enc)) (hk : Sortable (bs.map enc)) (hL : bs.length ≤ sizeLine)
    (hu : ∀ b, b ∈ bs → A.units + 2 + (enc b).depth < cLine)
    (h : ∀ (h' : Heap) (d : Addr) (out : List Value), (∀ b o, s.heap.get? b = some o → h'.get? b = some o) → s.heap.objs.size ≤ d → (∃ n, h'.get? d = some (seqObj "list" out.toArray n)) → EachIs R out (bs.mergeSort (dataLe false enc)) → Q (.ref d) { s with heap := h' }) :
    wpAny (model prog w) A (call (.builtin "sorted") [.ref t]) Q E s := by
  obtain ⟨o, ho, hc, n, hd⟩ := id ht
  have hz : us.length ≤ sizeLine := by rw [e.length]; exact hL
  refine call_function_entry kind_sorted plain_sorted entry_sorted (args_sorted1 _) ?_
  unfold Builtin.«sorted»
  refine wpAny_bind (m := checkCount "sorted" 1 1 _) (wpAny_pure ?_)
  refine wpAny_bind (collect_tup ht hz ?_)
  generalize e1 : (s.heap.push (seqObj "list" #[] 0)).update s.heap.objs.size (Obj.mapSeq (· ++ us.toArray)) = h1
  have hle : s.heap.objs.size ≤ h1.objs.size := by
    rw [← e1, Heap.size_update, size_push']
    exact Nat.le_succ _
  have k1 : ∀ b ob, s.heap.get? b = some ob → h1.get? b = some ob := fun b ob q => by
    rw [← e1, Heap.get?_update_ne _ _ _ _ (Nat.ne_of_lt (Heap.lt_size q))]
    exact Heap.get?_push_of_some _ q
  refine wpAny_bind (wpAny_newList ?_ hz)
  have hat : (h1.push (seqObj "list" us.toArray 0)).get? h1.objs.size = some (seqObj "list" us.toArray 0) := Heap.get?_push_size _ rfl
  have old : ∀ b ob, s.heap.get? b = some ob → b ≠ h1.objs.size ∧ (h1.push (seqObj "list" us.toArray 0)).get? b = some ob := fun b ob q =>
    ⟨Nat.ne_of_lt (Nat.lt_of_lt_of_le (Heap.lt_size q) hle), Heap.get?_push_of_some _ (k1 b ob q)⟩
  have er' : EachIs (fun v b => ∃ as, Reads (sortingHeap (h1.push (seqObj "list" us.toArray 0)) h1.objs.size us) v (enc b) as) us bs :=
    er.mono fun _ _ ⟨as, r⟩ => ⟨as, PyProof.Rows.Reads.keeps (fun b ob q => sortingHeap_old (old b ob q).1 (old b ob q).2) r⟩
  show wpAny _ _ _ _ _ { s with heap := h1.push (seqObj "list" us.toArray 0) }
  refine wpAny_bind (wpAny_holding (wpAny_call_entry slot_list_sort ⟨_, hat, rfl⟩ entry_list_sort (list_sort_vals (s := { s with heap := h1.push (seqObj "list" us.toArray 0) }) (κ := dataKind (sortingHeap (h1.push (seqObj "list" us.toArray 0)) h1.objs.size us) (bs.map enc)) hat
    (SortsAt.data (s := { s with heap := sortingHeap (h1.push (seqObj "list" us.toArray 0)) h1.objs.size us }) (each_map (R := fun v d => ∃ as, Reads (sortingHeap (h1.push (seqObj "list" us.toArray 0)) h1.objs.size us) v d as) enc er') hal hk (bound_map hu)) hz ⟨_, rfl, ?_⟩) (args_list_sort _)))
  refine wpAny_pure ⟨_, rfl, ?_⟩
  refine h _ _ _ (fun b ob q => ?_) hle (sortedHeap_at (n := 0) hat) (sortVals_data false e er' hal)
  rw [sortedHeap_old (old b ob q).1 (Heap.lt_size (old b ob q).2)]
  exact (old b ob q).2
end
/-! ### sorted -/
def sortOk (xs : List PyData) : Bool := xs.all (fun x => xs.all (fun y => PySem.W.alike x y)) && (xs.all (fun x => match x with | .tuple (_ :: _) => true | _ => false) || xs.all (fun x => match x with | .tuple _ => false | .none => false | _ => true)) && decide (xs.length ≤ SZ ∧ PyData.depthAll xs ≤ 60)
theorem mem_depth {x : PyData} : ∀ {xs : List PyData}, x ∈ xs → x.depth ≤ PyData.depthAll xs
  | y :: ys, h => by
    unfold PyData.depthAll
    rcases List.mem_cons.mp h with rfl | h
    · exact Nat.le_max_left _ _
    · exact Nat.le_trans (mem_depth h) (Nat.le_max_right _ _)
theorem sortOk_un {xs : List PyData} (h : sortOk xs = true) : PySem.W.AllAlike xs ∧ PySem.W.Sortable xs ∧ xs.length ≤ SZ ∧ ∀ x ∈ xs, x.depth ≤ 60 := by
  unfold sortOk at h
  simp only [Bool.and_eq_true, List.all_eq_true, decide_eq_true_eq, Bool.or_eq_true] at h
  obtain ⟨⟨h1, h2⟩, h3, h4⟩ := h
  refine ⟨fun x hx y hy => h1 x hx y hy, ?_, h3, fun x hx => Nat.le_trans (mem_depth hx) h4⟩
  rcases h2 with h2 | h2
  · refine .inl fun d hd => ?_
    have := h2 d hd
    split at this
    · exact ⟨_, _, rfl⟩
    · cases this
  · refine .inr fun d hd => ?_
    have := h2 d hd
    split at this
    · cases this
    · cases this
    · rename_i n1 n2
      exact ⟨fun z => n2 z, fun ys z => n1 ys z⟩
def dLe (a b : PyData) : Bool := !PySem.W.dataLt b a
def sortedD : List PyData → R PyData
  | [.list xs] => if sortOk xs = true then .ok (.list (xs.mergeSort dLe)) else .bad
  | [.tuple xs] => if sortOk xs = true then .ok (.list (xs.mergeSort dLe)) else .bad
  | _ => .bad
theorem sortedD_p : PureL sortedD := fun d c h => by unfold sortedD at h; split at h <;> first | cases h | (split at h <;> cases h)
theorem each_zip {K : PySem.W.Frag} {F : Hp} : ∀ {vs : List V} {ds : List PyData} {its : List Value}, DpAll K F vs ds → Vals vs its → PySem.W.EachIs (fun v (b : V × PyData) => RelV b.1 v ∧ Dp K F b.1 b.2) its (vs.zip ds)
  | _, _, _, .nil, .nil => .nil
  | _, _, _, .cons p ps, .cons r rs => .cons ⟨r, p⟩ (each_zip ps rs)
theorem each_un {K : PySem.W.Frag} {F : Hp} : ∀ {bs : List (V × PyData)} {its : List Value}, PySem.W.EachIs (fun v (b : V × PyData) => RelV b.1 v ∧ Dp K F b.1 b.2) its bs → DpAll K F (bs.map (·.1)) (bs.map (·.2)) ∧ Vals (bs.map (·.1)) its
  | _, _, .nil => ⟨.nil, .nil⟩
  | _, _, .cons h t => ⟨.cons h.2 (each_un t).1, .cons h.1 (each_un t).2⟩
theorem cb_sorted (hu : X.A.units + 65 < cLine) : CallR X (.builtin "sorted") (rCF X.K sortedD) := by
  intro pins s σ H xs us Q I r h
  obtain ⟨F, ds, c, l, pd, hf, q⟩ := h
  unfold sortedD at hf
  split at hf
  · split at hf
    · rename_i xs hz
      cases hf
      obtain ⟨v, rfl, p⟩ := pair1 pd
      obtain ⟨z1, z2, z3, z4⟩ := sortOk_un hz
      obtain ⟨a, vs, rfl, ha, hvs⟩ := p.list l
      obtain ⟨its, rv, pl, hL⟩ := I.list ha
      rw [Vals.ref1 r]
      have hl := hvs.length
      have hm : (vs.zip xs).map (·.2) = xs := by
        rw [List.map_snd_zip (by omega)]
      have hm1 : (vs.zip xs).map (·.1) = vs := by
        rw [List.map_fst_zip (by omega)]
      have sq := sz_eq
      refine PySem.W.sorted_data (enc := fun b : V × PyData => b.2) pl.isList (each_zip hvs rv) ((each_zip hvs rv).mono fun v b ⟨r, p⟩ => Dp.reads I b.2 b.1 v (p.le l) r) (by rw [hm]; exact z1) (by rw [hm]; exact z2) (by rw [List.length_zip, sq]; omega) (fun b hb => ?_) fun out hout hE => ?_
      · have hb2 : b.2 ∈ xs := by rw [← hm]; exact List.mem_map_of_mem hb
        have := z4 _ hb2
        omega
      · obtain ⟨e1, e2⟩ := each_un hE
        have em : ((vs.zip xs).mergeSort (PySem.W.dataLe false fun b : V × PyData => b.2)).map (·.2) = xs.mergeSort dLe := by
          have := List.map_mergeSort (f := fun b : V × PyData => b.2) (r := PySem.W.dataLe false fun b : V × PyData => b.2) (s := dLe) (l := vs.zip xs) (fun a _ b _ => rfl)
          rw [this, hm]
        rw [em] at e1
        have hlen : (((vs.zip xs).mergeSort (PySem.W.dataLe false fun b : V × PyData => b.2)).map (·.1)).length ≤ sizeLine := by
          rw [List.length_map, List.length_mergeSort, List.length_zip, sq]
          omega
        obtain ⟨ep, he'⟩ := PyProof.Rows.sortedAll_at s.heap its out.toArray
        have np : H (s.heap.objs.size + 1) = none := I.hok.fresh (Nat.le_succ _)
        exact ⟨.ref _, upd H (s.heap.objs.size + 1) (.lst (((vs.zip xs).mergeSort (PySem.W.dataLe false fun b : V × PyData => b.2)).map (·.1))), I.laid (t' := s.toks) (fun _ _ => PyProof.Rows.sortedAll_old) (Nat.le_succ _) ⟨hlen, out, ep, e2, he'⟩, rfl,
          q _ _ _ (Gr.own l np) ⟨_, _, _, rfl, rfl, np, l.none np, upd_same, e1⟩⟩
    · cases hf
  · split at hf
    · rename_i xs hz
      cases hf
      obtain ⟨v, rfl, p⟩ := pair1 pd
      obtain ⟨z1, z2, z3, z4⟩ := sortOk_un hz
      obtain ⟨a, vs, rfl, ha, hvs⟩ := p.tuple l
      obtain ⟨its, rv, pl, hL⟩ := I.tuple ha
      rw [Vals.ref1 r]
      have hl := hvs.length
      have hm : (vs.zip xs).map (·.2) = xs := by
        rw [List.map_snd_zip (by omega)]
      have sq := sz_eq
      refine sorted_tup (enc := fun b : V × PyData => b.2) pl (each_zip hvs rv) ((each_zip hvs rv).mono fun v b ⟨r, p⟩ => Dp.reads I b.2 b.1 v (p.le l) r) (by rw [hm]; exact z1) (by rw [hm]; exact z2) (by rw [List.length_zip, sq]; omega) (fun b hb => ?_) fun h' d out kp hd hat hE => ?_
      · have hb2 : b.2 ∈ xs := by rw [← hm]; exact List.mem_map_of_mem hb
        have := z4 _ hb2
        omega
      · obtain ⟨e1, e2⟩ := each_un hE
        have em : ((vs.zip xs).mergeSort (PySem.W.dataLe false fun b : V × PyData => b.2)).map (·.2) = xs.mergeSort dLe := by
          have := List.map_mergeSort (f := fun b : V × PyData => b.2) (r := PySem.W.dataLe false fun b : V × PyData => b.2) (s := dLe) (l := vs.zip xs) (fun a _ b _ => rfl)
          rw [this, hm]
        rw [em] at e1
        have hlen : (((vs.zip xs).mergeSort (PySem.W.dataLe false fun b : V × PyData => b.2)).map (·.1)).length ≤ sizeLine := by
          rw [List.length_map, List.length_mergeSort, List.length_zip, sq]
          omega
        obtain ⟨ep, he'⟩ := hat
        have np : H d = none := I.hok.fresh hd
        exact ⟨.ref _, upd H d (.lst (((vs.zip xs).mergeSort (PySem.W.dataLe false fun b : V × PyData => b.2)).map (·.1))), I.laid (t' := s.toks) kp hd ⟨hlen, out, ep, e2, he'⟩, rfl,
          q _ _ _ (Gr.own l np) ⟨_, _, _, rfl, rfl, np, l.none np, upd_same, e1⟩⟩
    · cases hf
  · cases hf
end
end PD
namespace PD
open PySem PySem.Spec PyProof.Rows L2
section
variable {X : Cx} {We : EW} {e a b c : Expr} {es : List Expr} {pos p apos cpos : Pos} {x : Str}
/-! ## one's own lists, changed -/
def getLo (ρ : Ev) (i : Nat) : R (List PyData) := match ρ[i]? with
  | some (.lo xs) => .ok xs
  | _ => .bad
theorem getLo_ok {ρ : Ev} {i : Nat} {xs : List PyData} (h : getLo ρ i = .ok xs) : ρ[i]? = some (.lo xs) := by
  unfold getLo at h
  split at h
  · cases h; assumption
  · cases h
def appS (i : Nat) (m : Ev → R PyData) : SM := fun ρ => (getLo ρ i).bind fun xs => (m ρ).bind fun d => if xs.length < SZ then .ok (.nx (ρ.set i (.lo (xs ++ [d])))) else .bad
theorem PoS.own {K : PySem.W.Frag} {ρ : Ev} {F G : Hp} {σ : St} {H : Hp} {i : Nat} {f : List PyData → R Out} {D : Ends} (r : Rl K ρ F G σ H) (q : PoS K We F G ((getLo ρ i).bind f) D) :
    ∃ xs a vs, ρ[i]? = some (.lo xs) ∧ σ[i]? = some (some (.ref a)) ∧ G a = none ∧ H a = some (.lst vs) ∧ DpAll K F vs xs ∧ PoS K We F G (f xs) D := by
  cases hg : getLo ρ i with
  | err c =>
    unfold getLo at hg
    split at hg <;> cases hg
  | bad => rw [hg] at q; exact q.elim
  | ok xs =>
    rw [hg] at q
    obtain ⟨a, vs, h1, h2, h3, h4⟩ := r.getL (getLo_ok hg)
    exact ⟨xs, a, vs, getLo_ok hg, h1, h2, h3, h4, q⟩
theorem xs_append {i : Nat} {ma : Ev → R PyData} (hN : X.N[i]? = some x) (hv : Vis X.env.scope x) (ha : XE X We e ma) (hd : (x == ("__debug__" : Str)) = false) (hcd : (x == ("__classdict__" : Str)) = false)
    (hbase : attributeBase (.Name x p) "append" X.env (eval (.Name x p) X.env) = eval (.Name x p) X.env)
    (hfew : ((backTo cpos (starEach (e :: []) X.env)).all (fun x => !x.1) && (backToKw cpos (keywordEach [] X.env)).all (fun x => x.1.isSome)
      && decide ((e :: ([] : List Expr)).length + ([] : List Keyword).length + (if ([] : List Keyword).isEmpty then 0 else 1) < 30)) = true)
    (hline : (apos.endLine == cpos.line) = true) (hs : starEach (e :: []) X.env = (false, eval e X.env) :: starEach [] X.env) (hplain : (backTo cpos (starEach [] X.env)).any (·.1) = false)
    (hsw : swapsWith (.Call (.Attribute (.Name x p) "append" apos) [e] [] cpos) none pos.line X.env = pure false) : XS X We (.Expr (.Call (.Attribute (.Name x p) "append" apos) [e] [] cpos) pos) (appS i ma) :=
  ps_imp (ps_expr (pe_bm PySem.F.plainAttrs_list PySem.F.slot_list_append PySem.F.type_list_append mt_append (pe_var hN hv hd hcd) (pa_cons ha pa_nil hs) hbase hfew hline hs hplain) hsw) fun D σ H q => by
    obtain ⟨ρ, F, G, r, q⟩ := q
    obtain ⟨xs, a, vs, e1, e2, e3, e4, e5, q⟩ := PoS.own r q
    refine ⟨.ref a, e2, .inl ⟨rfl, vs, SqL.of e4⟩, ρ, F, G, r, PoS.expr (P := pD X.K) r q fun d v F1 G1 H1 r1 g1 p1 q1 => ?_⟩
    split at q1
    · rename_i hz
      have hl := DpAll.length e5
      have sq := sz_eq
      refine ⟨a, vs, v, rfl, rfl, g1.h _ _ e4, by rw [sq]; omega, ?_⟩
      exact q1 _ F1 G1 _ (r1.write e1 e2 ((e5.le g1.f).append (.cons p1 .nil))) (GrS.refl F1 G1)
    · exact q1.elim
def extS (i : Nat) (m : Ev → R PyData) : SM := fun ρ => (getLo ρ i).bind fun xs => (m ρ).bind fun d => (oListD d).bind fun ys => if xs.length + ys.length ≤ SZ then .ok (.nx (ρ.set i (.lo (xs ++ ys)))) else .bad
theorem xs_extend {i : Nat} {ma : Ev → R PyData} (hN : X.N[i]? = some x) (hv : Vis X.env.scope x) (ha : XF X We e ma) (hd : (x == ("__debug__" : Str)) = false) (hcd : (x == ("__classdict__" : Str)) = false)
    (hbase : attributeBase (.Name x p) "extend" X.env (eval (.Name x p) X.env) = eval (.Name x p) X.env)
    (hfew : ((backTo cpos (starEach (e :: []) X.env)).all (fun x => !x.1) && (backToKw cpos (keywordEach [] X.env)).all (fun x => x.1.isSome)
      && decide ((e :: ([] : List Expr)).length + ([] : List Keyword).length + (if ([] : List Keyword).isEmpty then 0 else 1) < 30)) = true)
    (hline : (apos.endLine == cpos.line) = true) (hs : starEach (e :: []) X.env = (false, eval e X.env) :: starEach [] X.env) (hplain : (backTo cpos (starEach [] X.env)).any (·.1) = false)
    (hsw : swapsWith (.Call (.Attribute (.Name x p) "extend" apos) [e] [] cpos) none pos.line X.env = pure false) : XS X We (.Expr (.Call (.Attribute (.Name x p) "extend" apos) [e] [] cpos) pos) (extS i ma) :=
  ps_imp (ps_expr (pe_bm PySem.F.plainAttrs_list PySem.F.slot_list_extend PySem.F.type_list_extend mt_extend (pe_var hN hv hd hcd) (pa_cons ha pa_nil hs) hbase hfew hline hs hplain) hsw) fun D σ H q => by
    obtain ⟨ρ, F, G, r, q⟩ := q
    obtain ⟨xs, a, vs, e1, e2, e3, e4, e5, q⟩ := PoS.own r q
    refine ⟨.ref a, e2, .inl ⟨rfl, vs, SqL.of e4⟩, ρ, F, G, r, PoS.expr (P := pF X.K) r q fun d v F1 G1 H1 r1 g1 p1 q1 => ?_⟩
    obtain ⟨b, ws, ds, rfl, rfl, n0, n1, h1, h2⟩ := p1
    have q1 : PoS X.K We F1 G1 (if xs.length + ds.length ≤ SZ then .ok (.nx (ρ.set i (.lo (xs ++ ds)))) else .bad) D := q1
    split at q1
    · rename_i hz
      have hl := DpAll.length e5
      have hl2 := DpAll.length h2
      have sq := sz_eq
      refine ⟨a, b, vs, ws, rfl, rfl, g1.h _ _ e4, h1, by rw [sq]; omega, ?_⟩
      exact q1 _ F1 G1 _ (r1.write e1 e2 ((e5.le g1.f).append h2)) (GrS.refl F1 G1)
    · exact q1.elim
def popS (i : Nat) : SM := fun ρ => (getLo ρ i).bind fun xs => match xs with
  | [] => .bad
  | _ :: _ => .ok (.nx (ρ.set i (.lo xs.dropLast)))
theorem DpAll.dropLast {K : PySem.W.Frag} {F : Hp} {vs : List V} {ds : List PyData} (h : DpAll K F vs ds) : DpAll K F vs.dropLast ds.dropLast := by
  rw [List.dropLast_eq_take, List.dropLast_eq_take, h.length]
  exact h.take _
theorem xs_pop {i : Nat} (hN : X.N[i]? = some x) (hv : Vis X.env.scope x) (hd : (x == ("__debug__" : Str)) = false) (hcd : (x == ("__classdict__" : Str)) = false)
    (hbase : attributeBase (.Name x p) "pop" X.env (eval (.Name x p) X.env) = eval (.Name x p) X.env) (hline : (apos.endLine == cpos.line) = true)
    (hsw : swapsWith (.Call (.Attribute (.Name x p) "pop" apos) [] [] cpos) none pos.line X.env = pure false) : XS X We (.Expr (.Call (.Attribute (.Name x p) "pop" apos) [] [] cpos) pos) (popS i) :=
  ps_imp (ps_expr (pe_bm0 PySem.F.plainAttrs_list PySem.F.slot_list_pop PySem.F.type_list_pop mt_pop (pe_var hN hv hd hcd) hbase hline) hsw) fun D σ H q => by
    obtain ⟨ρ, F, G, r, q⟩ := q
    obtain ⟨xs, a, vs, e1, e2, e3, e4, e5, q⟩ := PoS.own r q
    have hl := DpAll.length e5
    cases xs with
    | nil => exact q.elim
    | cons y ys =>
      have hi : vs.length - 1 < vs.length := by rw [hl, List.length_cons]; omega
      refine ⟨.ref a, e2, .inl ⟨rfl, vs, SqL.of e4⟩, a, vs, vs[vs.length - 1], rfl, rfl, e4, List.getElem?_eq_getElem hi, ?_⟩
      exact q _ F G _ (r.write e1 e2 (DpAll.dropLast e5)) (GrS.refl F G)
/-- xs[k] = v -/
def setIS (i : Nat) (mk mv : Ev → R PyData) : SM := fun ρ => (mv ρ).bind fun v => (getLo ρ i).bind fun xs => (mk ρ).bind fun k => match k with
  | .int k => match ixN xs.length k with
    | some j => .ok (.nx (ρ.set i (.lo (xs.set j v))))
    | none => .bad
  | _ => .bad
theorem xs_setI {i : Nat} {k : Expr} {mk mv : Ev → R PyData} {pos' : Pos} (hN : X.N[i]? = some x) (hv : Vis X.env.scope x) (hk : XB X We k mk) (he : XE X We e mv) (hd : (x == ("__debug__" : Str)) = false) (hcd : (x == ("__classdict__" : Str)) = false)
    (hs : swapsWithSole [.Subscript (.Name x p) k pos'] e pos.line X.env = pure false) (hw : swappedStores [.Subscript (.Name x p) k pos'] e X.env = pure none)
    (h1 : (assignEach [.Subscript (.Name x p) k pos'] X.env).map (·.2) = [assign (.Subscript (.Name x p) k pos') X.env])
    (hps : PG X (.Subscript (.Name x p) k pos') (gSub (tVar i) (tM X.K We (pB X.K) mk) rSetL)) : XS X We (.Assign [.Subscript (.Name x p) k pos'] e pos) (setIS i mk mv) :=
  ps_imp (ps_asg he hps hs hw h1) fun D σ H q => by
    obtain ⟨ρ, F, G, r, q⟩ := q
    refine ⟨ρ, F, G, r, PoS.expr (P := pD X.K) r q fun d v F1 G1 H1 r1 g1 p1 q1 => ?_⟩
    obtain ⟨xs, a, vs, e1, e2, e3, e4, e5, q2⟩ := PoS.own r1 q1
    refine ⟨.ref a, e2, ρ, F1, G1, r1, PoS.expr (P := pB X.K) r1 q2 fun kd kv F2 G2 H2 r2 g2 p2 q3 => ?_⟩
    split at q3
    · rename_i kk
      have e := p2.int
      subst e
      split at q3
      · rename_i j hj
        have hl := DpAll.length e5
        exact ⟨a, vs, kk, j, rfl, rfl, g2.h _ _ e4, by rw [hl]; exact hj, q3 _ F2 G2 _ (r2.write e1 e2 ((p1.le g2.f) |> fun p => DpAll.set p j (e5.le g2.f))) (GrS.refl F2 G2)⟩
      · exact q3.elim
    · exact q3.elim
/-! ## x op= e, a, b = e1, e2 -/
def augS (i : Nat) (f : PyData → PyData → R PyData) (m : Ev → R PyData) : SM := fun ρ => (vE i ρ).bind fun x => (m ρ).bind fun y => (f x y).bind fun z => .ok (.nx (ρ.set i (.d z)))
def addI : PyData → PyData → R PyData
  | .int i, .int j => .ok (.int (i + j))
  | _, _ => .bad
def subI : PyData → PyData → R PyData
  | .int i, .int j => .ok (.int (i - j))
  | _, _ => .bad
def mulI : PyData → PyData → R PyData
  | .int i, .int j => if i.natAbs < 2 ^ 64 ∨ j.natAbs < 2 ^ 64 then .ok (.int (i * j)) else .bad
  | _, _ => .bad
theorem ip_addI : PIp X .Add (rO X.K addI) := by
  intro pins s σ H x y v u Q I rx ry h
  obtain ⟨F, d, e, c, l, pd, pe, hf, q⟩ := h
  unfold addI at hf
  split at hf
  · cases hf
    have e1 := pd.int; have e2 := pe.int; subst e1 e2
    exact ip_add pins s σ H _ _ v u Q I rx ry ⟨_, _, rfl, rfl, q _ F H (Gr.refl l) (.int _)⟩
  · cases hf
theorem ip_subI : PIp X .Sub (rO X.K subI) := by
  intro pins s σ H x y v u Q I rx ry h
  obtain ⟨F, d, e, c, l, pd, pe, hf, q⟩ := h
  unfold subI at hf
  split at hf
  · cases hf
    have e1 := pd.int; have e2 := pe.int; subst e1 e2
    exact ip_sub pins s σ H _ _ v u Q I rx ry ⟨_, _, rfl, rfl, q _ F H (Gr.refl l) (.int _)⟩
  · cases hf
theorem ip_mulI : PIp X .Mult (rO X.K mulI) := by
  intro pins s σ H x y v u Q I rx ry h
  obtain ⟨F, d, e, c, l, pd, pe, hf, q⟩ := h
  unfold mulI at hf
  split at hf
  · split at hf
    · rename_i hz
      cases hf
      have e1 := pd.int; have e2 := pe.int; subst e1 e2
      refine iop_mul pins s σ H _ _ v u Q I rx ry ⟨_, _, rfl, rfl, ?_, q _ F H (Gr.refl l) (.int _)⟩
      rcases hz with h | h
      · exact .inl ⟨by omega, by omega⟩
      · exact .inr ⟨by omega, by omega⟩
    · cases hf
  · cases hf
theorem addI_p : Pure2 addI := fun d e c h => by unfold addI at h; split at h <;> cases h
theorem subI_p : Pure2 subI := fun d e c h => by unfold subI at h; split at h <;> cases h
theorem mulI_p : Pure2 mulI := fun d e c h => by unfold mulI at h; split at h <;> first | cases h | (split at h <;> cases h)
theorem xs_aug {i : Nat} {op : Operator} {f : PyData → PyData → R PyData} {m : Ev → R PyData} {pos' : Pos} (pf : Pure2 f) (ho : PIp X op (rO X.K f)) (hN : X.N.Nodup) (hi : X.N[i]? = some x) (hx : Loc X.env.scope x) (he : XE X We e m)
    (hf : X.fn x = true ∨ X.env.scope.names.lookup x = some .local) : XS X We (.AugAssign (.Name x pos') op e pos) (augS i f m) :=
  ps_imp (ps_aug hN hi hx he ho hf) fun D σ H q => by
    obtain ⟨ρ, F, G, r, q⟩ := q
    have q : PoS X.K We F G ((vE i ρ).bind fun x => (m ρ).bind fun y => (f x y).bind fun z => .ok (.nx (ρ.set i (.d z)))) D := q
    cases hv : vE i ρ with
    | err c =>
      unfold vE at hv
      split at hv <;> cases hv
    | bad => rw [hv] at q; exact q.elim
    | ok xd =>
      rw [hv] at q
      have e0 : ρ[i]? = some (.d xd) := by
        unfold vE at hv
        split at hv
        · cases hv; assumption
        · cases hv
      obtain ⟨xv, ev, px⟩ := r.get e0
      refine ⟨xv, ev, ρ, F, G, r, PoS.expr (P := pD X.K) r q fun yd yv F1 G1 H1 r1 g1 p1 q1 => ?_⟩
      cases hf : f xd yd with
      | err c => exact absurd hf (pf _ _ c)
      | bad => rw [hf] at q1; exact q1.elim
      | ok zd =>
        rw [hf] at q1
        exact ⟨F1, xd, yd, zd, r1.fh, .inl (px.le g1.f), .inl p1, hf, fun v F' H' g p => PoS.step (r1.grow g).2 q1 _ F' _ H' ((r1.grow g).1.set i p) (GrS.refl _ _)⟩
def parS (i j : Nat) (m : Ev → R (List PyData)) : SM := fun ρ => (m ρ).bind fun ds => match ds with
  | [a, b] => .ok (.nx ((ρ.set i (.d a)).set j (.d b)))
  | _ => .bad
theorem xs_par {i j : Nat} {y : Str} {m : Ev → R (List PyData)} {px py pt : Pos} {kt k2 : Nat} {pt2 : Pos} (hc : X.calm = true) (hN : X.N.Nodup) (hi : X.N[i]? = some x) (hj : X.N[j]? = some y) (hij : i ≠ j)
    (hps : PS X (.Assign [.Tuple [.Name x px, .Name y py] kt pt] (.Tuple [a, b] k2 pt2) pos) (tPar i j (tM X.K We (pA X.K) m))) : XS X We (.Assign [.Tuple [.Name x px, .Name y py] kt pt] (.Tuple [a, b] k2 pt2) pos) (parS i j m) :=
  ps_imp hps fun D σ H q => by
    obtain ⟨ρ, F, G, r, q⟩ := q
    refine ⟨ρ, F, G, r, PoS.expr (P := pA X.K) r q fun ds vs F1 G1 H1 r1 g1 p1 q1 => ?_⟩
    split at q1
    · obtain ⟨v, ws, rfl, a1, b1⟩ := DpAll.cons_inv p1
      obtain ⟨v2, ws2, rfl, a2, b2⟩ := DpAll.cons_inv b1
      cases DpAll.nil_inv b2
      exact ⟨v, v2, rfl, q1 _ F1 G1 H1 ((r1.set i a1).set j a2) (GrS.refl F1 G1)⟩
    · exact q1.elim
/-! ## x in a list, found: xs.index(y) -/
def rIxP (K : PySem.W.Frag) : V → List V → Hp → VK → Prop := fun x xs H Q => ∃ (a : Addr) (y : V) (d : PyData) (ds : List PyData) (j : Nat) (z : PyData), x = V.ref a ∧ xs = [y] ∧ Dp K H (V.ref a) (.list ds) ∧ Dp K H y d ∧
  shp (.list ds) = true ∧ shp d = true ∧ ds[j]? = some z ∧ PyData.eqv z d = true ∧ (∀ (m : Nat) (z' : PyData), m < j → ds[m]? = some z' → PyData.eqv z' d = false) ∧ Q (.int (j : Nat)) H
theorem mt_ixP (hu : X.A.units + 65 < cLine) : MtR X "list.index" (rIxP X.K) := by
  intro pins s σ H x xs v us Q I rx rxs h
  obtain ⟨a, y, d, ds, j, z, rfl, rfl, hl, hy, sl, sd, hz, hzj, hno, q⟩ := h
  cases rx
  cases rxs with
  | cons ry rt =>
    rename_i uy ut
    cases rt
    obtain ⟨bs, rb⟩ := Dp.reads I d y uy hy ry
    have pl : PyData.plainAll ds = true := by have := (shp_un sl).1; simpa only [PyData.plain] using this
    cases hl with
    | lst hs ha =>
      obtain ⟨its, rv, ⟨⟨cls, dd, data, sls⟩, n, ho, hc, hdn, hdt⟩, hlen⟩ := I.list hs
      simp only at hc hdt
      subst hc; subst hdt
      obtain ⟨as, ra⟩ := Dp.readsAll I ds _ its ha rv
      have hn : its.length = ds.length := SeqAt.ReadsAll.length ds its as ra
      have em : its.map (SeqAt.readOf s.heap) = ds := SeqAt.readsAll_map_plain ds its as pl ra
      have hvl := rv.length
      have hsl := sizeLine_eq
      obtain ⟨jl, _⟩ := List.getElem?_eq_some_iff.mp hz
      have jl2 : j < its.length := by omega
      have jl3 : j < its.toArray.size := by simpa using jl2
      have got : ∀ (m : Nat) (hm : m < its.toArray.size) (z' : PyData), ds[m]? = some z' → SeqAt.readOf s.heap its.toArray[m] = z' := fun m hm z' hz' => by
        have hm2 : m < its.length := by simpa using hm
        rw [← em, List.getElem?_map, List.getElem?_eq_getElem hm2] at hz'
        have e1 : SeqAt.readOf s.heap its[m] = z' := Option.some.inj hz'
        simpa using e1
      refine call_meets PySem.F.slot_list_index ⟨_, ho, rfl⟩ PySem.F.entry_list_index (PySem.F.args_list_index_2 _ _)
        (SeqAt.list_indexAt a its.toArray n dd sls uy (fun u => PyData.eqv (SeqAt.readOf s.heap u) d) j jl3 (by omega) ?_ ?_) ⟨ho, SeqAt.items_plain (vs := its.toArray) (show ReadsAll s.heap its.toArray.toList ds as from ra) rb pl (shp_un sd).1 (room_shp sd hu), ?_⟩
      · show PyData.eqv (SeqAt.readOf s.heap its.toArray[j]) d = true
        rw [got j jl3 z hz]
        exact hzj
      · intro m hm hmj
        have hmd : m < ds.length := by omega
        show PyData.eqv (SeqAt.readOf s.heap its.toArray[m]) d = false
        rw [got m hm _ (List.getElem?_eq_getElem hmd)]
        exact hno m _ hmj (List.getElem?_eq_getElem hmd)
      · exact ⟨.int (j : Nat), H, I.tok _, ⟨_, rfl⟩, q⟩
def indexD (ds : List PyData) (yd : PyData) : R PyData :=
  if shp (.list ds) = true ∧ shp yd = true then (match ds.findIdx? fun z => PyData.eqv z yd with | some j => .ok (.int j) | none => .bad) else .bad
def idxE (ma mb : Ev → R PyData) (ρ : Ev) : R PyData := (ma ρ).bind fun x => (oListD x).bind fun ds => (mb ρ).bind fun y => indexD ds y
theorem xe_index {ma mb : Ev → R PyData} (hu : X.A.units + 65 < cLine) (ha : XB X We a ma) (hb : XB X We b mb)
    (hbase : attributeBase a "index" X.env (eval a X.env) = eval a X.env)
    (hfew : ((backTo cpos (starEach (b :: []) X.env)).all (fun x => !x.1) && (backToKw cpos (keywordEach [] X.env)).all (fun x => x.1.isSome)
      && decide ((b :: ([] : List Expr)).length + ([] : List Keyword).length + (if ([] : List Keyword).isEmpty then 0 else 1) < 30)) = true)
    (hline : (apos.endLine == cpos.line) = true) (hs : starEach (b :: []) X.env = (false, eval b X.env) :: starEach [] X.env) (hplain : (backTo cpos (starEach [] X.env)).any (·.1) = false) :
    XE X We (.Call (.Attribute a "index" apos) [b] [] cpos) (idxE ma mb) :=
  pe_imp (pe_bm PySem.F.plainAttrs_list PySem.F.slot_list_index PySem.F.type_list_index (mt_ixP hu) ha (pa_cons hb pa_nil hs) hbase hfew hline hs hplain) fun σ H Q q => by
    obtain ⟨ρ, F, G, r, h⟩ := q
    refine ⟨ρ, F, G, r, Po.bind (P := pB X.K) h fun d x F1 H1 g1 p1 q1 => ?_⟩
    cases d with
    | list ds =>
      obtain ⟨av, vs, rfl, hav, hvs⟩ := p1.list g1.le
      refine ⟨.inl ⟨rfl, vs, hav⟩, ρ, F1, _, (r.grow g1).1, Po.bind (P := pB X.K) q1 fun e y F2 H2 g2 p2 q2 => ?_⟩
      unfold indexD at q2
      split at q2
      · rename_i hz
        split at q2
        · rename_i j hj
          obtain ⟨h1, h2, h3⟩ := List.findIdx?_eq_some_iff_getElem.mp hj
          refine ⟨av, y, e, ds, j, ds[j], rfl, rfl, (p1.grow g2).dp g2.le, p2.dp g2.le, hz.1, hz.2, List.getElem?_eq_getElem h1, h2, fun m z' hm hz' => ?_, q2 _ F2 H2 (Gr.refl g2.le) (.int _)⟩
          obtain ⟨hm2, rfl⟩ := List.getElem?_eq_some_iff.mp hz'
          have := h3 m hm
          simpa using this
        · exact q2.elim
      · exact q2.elim
    | _ => exact q1.elim
end
/-! ## the law's own end -/
def spL (K : PySem.W.Frag) : Sp := fun vs H Q _ => ∃ (a : Addr) (ns : List Int), vs = [.ref a] ∧ SqL K H a (ns.map V.int) ∧ ns.length ≤ 63 ∧ ∀ H', Q (.bl true) H'
theorem dpAll_ints {K : PySem.W.Frag} {F : Hp} : ∀ ns : List Int, DpAll K F (ns.map V.int) (ns.map PyData.int)
  | [] => .nil
  | n :: ns => .cons (.int n) (dpAll_ints ns)
theorem law_ok {P : Program} {w : World} {K : PySem.W.Frag} {mg : Str → Option Value} {base : Heap} {k : Nat} {f : Addr} {fd : FuncData} {x : Str} {m : List PyData → R PyData} (F : FnP P w K mg base k f fd [x] m)
    (h : ∀ ns : List Int, ns.length ≤ 63 → m [.list (ns.map .int)] = .ok (.bool true)) : FnOk P w K mg base (L2.CX P w) k f fd [x] (spL K) :=
  F.imp fun vs H Q E q => by
    obtain ⟨a, ns, rfl, hs, hl, q⟩ := q
    refine ⟨H, [.list (ns.map .int)], Le.refl H, .cons (.lst hs (dpAll_ints ns)) .nil, rfl, ?_⟩
    rw [h ns hl]
    intro v F' H' g p
    cases p
    exact q H'
theorem cx_never {P : Program} {w : World} {H : Hp} {s : Shared} {e : Value} {s' : Shared} (h : L2.CX P w [] H s (fun _ _ _ => False) e s') : False := by
  obtain ⟨_, _, _, _, _, _, _, _, _, _, _, _, z⟩ := h
  exact z
theorem walk_law {l : PySem.W.OpenLaw} {q : Program} {loose : List Str} {XP : (Str → Option Value) → Heap → Prop} {YP : World → Heap → Prop} {d : DefRec} {K : Params → PySem.W.Frag} {k : Nat} (hn : l.most = some 63) (hdf : d.params.defaults = []) (hr : Room k callerA)
    (hY : ∀ (w : World) (h : Heap), YP w h → (K w.params).In h)
    (F : ∀ (w : World) (mg : Str → Option Value) (fa : Addr) (h : Heap), (K w.params).In h → h.Ns mainGlobals mg → mg d.name = some (.ref fa) →
      ∃ fd : FuncData, (∀ (s : Shared) (u : Value), BindsTo s fd ⟨[u], []⟩ [("script", u)]) ∧ ∀ base : Heap, (K w.params).In base → base.Ns mainGlobals mg → FnOk l.prog w (K w.params) mg base (L2.CX l.prog w) k fa fd ["script"] (spL (K w.params))) :
    PySem.W.WalkO q loose XP YP l.row.toRowW d [] (fun f vs => PySem.call f vs) :=
  L2.walk_of (n := 63) (k := k) (x := "script") (CX := fun w => L2.CX l.prog w) (sp := fun w => spL (K w.params)) hn (by decide) hdf hr hY F (fun _ _ a ns hl _ hS => ⟨a, ns, rfl, hS, hl, fun _ => rfl⟩) fun _ _ _ _ _ z => cx_never z
end PD
namespace PD
open PySem PySem.Spec PyProof.Rows L2
/-! ## x[::-1] -/
section
variable {prog : Program} {w : World} {A : Around} {E : Value → Shared → Prop} {s : Shared}
theorem adj_back (n : Nat) : Builtin.Slice.sliceAdjust none none (-1) (n : Int) = ((n : Int) - 1, -1) := by
  unfold Builtin.Slice.sliceAdjust
  rfl
theorem places_back (n : Nat) : Builtin.Slice.slicePlaces ((n : Int) - 1) (-1) (-1) = n := by
  unfold Builtin.Slice.slicePlaces
  have h1 : ¬ ((-1 : Int) > 0) := by omega
  have e1 : (- -1 : Int) = 1 := by omega
  simp only [h1, if_false, e1, Int.ediv_one]
  split <;> omega
theorem pick_back (xs : Array Value) : ((List.range xs.size).filterMap fun (m : Nat) => xs[(((xs.size : Int) - 1) + (m : Int) * (-1)).toNat]?).toArray = xs.toList.reverse.toArray := by
  have e : (List.range xs.size).filterMap (fun (m : Nat) => xs[(((xs.size : Int) - 1) + (m : Int) * (-1)).toNat]?) = ((List.range xs.size).map fun k => xs.size - 1 - k).filterMap (xs[·]?) := by
    rw [List.filterMap_map]
    have aux : ∀ (l : List Nat) (f g : Nat → Option Value), (∀ m ∈ l, f m = g m) → l.filterMap f = l.filterMap g := fun l f g h => by
      induction l with
      | nil => rfl
      | cons y ys ih => rw [List.filterMap_cons, List.filterMap_cons, h y (by simp), ih fun m hm => h m (by simp [hm])]
    refine aux _ _ _ fun m hm => ?_
    have := List.mem_range.mp hm
    have e2 : (((xs.size : Int) - 1) + (m : Int) * (-1)).toNat = xs.size - 1 - m := by omega
    rw [e2]
    rfl
  rw [e, PySem.W.krv_range, List.filterMap_reverse, PySem.W.krv_all]
theorem applied_back {sl : Addr} {vl vu vs : Value} {n : Nat} {Q : Int × Int × Nat → Shared → Prop} (hs : s.heap.IsSliceOf sl vl vu vs) (pl : IsPart vl none) (pu : IsPart vu none) (ps : IsPart vs (some (-1)))
    (h : Q ((n : Int) - 1, -1, n) s) : wpAny (model prog w) A (Builtin.Slice.sliceApplied (.ref sl) (pure (n : Int))) Q E s := by
  obtain ⟨os, hos, hcs, hds⟩ := id hs
  unfold Builtin.Slice.sliceApplied Builtin.Slice.sliceFields
  refine wpAny_bind (wpAny_bind (wpAny_field hos hds (x := vl) rfl (wpAny_bind (wpAny_field hos hds (x := vu) rfl (wpAny_bind (wpAny_field hos hds (x := vs) rfl (wpAny_pure ?_)))))))
  refine wpAny_bind (HT.slicePart_ ps ?_)
  show wpAny _ _ (if ((-1 : Int) == 0) = true then _ else _) _ _ s
  rw [if_neg (by decide)]
  refine wpAny_bind (HT.slicePart_ pl (wpAny_bind (HT.slicePart_ pu (wpAny_bind (wpAny_pure ?_)))))
  show wpAny _ _ (match Builtin.Slice.sliceAdjust none none (-1) (n : Int) with | (lo, hi) => pure (lo, (-1 : Int), Builtin.Slice.slicePlaces lo hi (-1))) _ _ s
  rw [adj_back n]
  show wpAny _ _ (pure ((n : Int) - 1, (-1 : Int), Builtin.Slice.slicePlaces ((n : Int) - 1) (-1) (-1))) _ _ s
  rw [places_back]
  exact wpAny_pure h
theorem tup_back {t sl : Addr} {items : Array Value} {vl vu vs : Value} {Q : Value → Shared → Prop} (ht : IsTup s.heap t items) (hs : s.heap.IsSliceOf sl vl vu vs) (pl : IsPart vl none) (pu : IsPart vu none) (ps : IsPart vs (some (-1)))
    (h : Q (.ref s.heap.objs.size) { s with heap := s.heap.push { cls := .type "tuple", data := .seq items.toList.reverse.toArray } })
    (hsz : items.size ≤ sizeLine) : wpAny (model prog w) A (getItem (.ref t) (.ref sl)) Q E s := by
  have hok : sizeOk (.seq items.toList.reverse.toArray) := by
    show items.toList.reverse.toArray.size ≤ sizeLine
    simp only [List.size_toArray, List.length_reverse, Array.length_toList]
    exact hsz
  obtain ⟨os, hos, hcs, hds⟩ := id hs
  have hT : s.TypeIs (.ref sl) "slice" := ⟨os, hos, hcs⟩
  unfold getItem
  refine wpAny_holding ?_
  first | refine wpAny_bind (wpAny_pure ?_) | skip
  refine wpAny_bind (wpAny_sequenceKey (ht.typeIs) (by decide) ?_)
  refine wpAny_bind (wpAny_callSpecial?_slot (name := Str.ofString "__getitem__") ht.typeIs slot_tuple_getitem (wpAny_call_entry slot_tuple_getitem ht.typeIs entry_tuple_getitem ?_ (args_tuple_getitem _ _)))
  show wpAny _ _ (Builtin.Tuple.tupleItemsOf (.ref t) >>= _) _ _ s
  refine wpAny_bind (tupleItemsOf_ ht (wpAny_bind (wpAny_typeOf hT ?_)))
  rw [if_pos (by decide)]
  refine wpAny_bind (applied_back hs pl pu ps ?_)
  have hno : ¬ ((((items.size : Int) - 1) == 0 && (-1 : Int) == 1 && items.size == items.size) = true) := by simp
  show wpAny _ _ (if ((((items.size : Int) - 1) == 0 && (-1 : Int) == 1 && items.size == items.size)) = true then _ else _) _ _ s
  rw [if_neg hno, pick_back]
  first
    | exact wpAny_bind (m := Builtin.Tuple.tupleExact _) (wpAny_newObj_type (wpAny_pure ⟨_, rfl, wpAny_pure h⟩) hok)
    | exact wpAny_bind (m := Builtin.Tuple.tupleExact _) (wpAny_newObj_type (wpAny_bind (wpAny_pure (wpAny_pure ⟨_, rfl, wpAny_pure h⟩))) hok)
    | exact wpAny_bind (wpAny_bind (m := Builtin.Tuple.tupleExact _) (wpAny_newObj_type (wpAny_pure (wpAny_pure ⟨_, rfl, wpAny_pure h⟩)) hok))
    | exact wpAny_bind (wpAny_bind (m := Builtin.Tuple.tupleExact _) (wpAny_newObj_type (wpAny_pure ⟨_, rfl, wpAny_pure h⟩) hok))
end
section
variable {X : Cx} {We : EW} {e a b c : Expr} {es : List Expr} {pos p apos cpos : Pos} {x : Str}
def revD : PyData → R PyData
  | .list xs => .ok (.list xs.reverse)
  | .tuple xs => .ok (.tuple xs.reverse)
  | _ => .bad
def tRevD (K : PySem.W.Frag) (te : TE) : TE := fun σ H Q => te σ H fun x H1 => ∃ F d c, Le F H1 ∧ pB K H1 F H1 x d ∧ revD d = .ok c ∧ ∀ v F' H', Gr F H1 F' H' → Dp K F' v c → Q v H'
theorem pe_revD {te : TE} {k : Nat} {p1 p2 p3 : Pos} (he : PE X e te) : PE X (.Subscript e (.Slice none none (some (.UnaryOp .USub (.Constant (.int 1) k p1) p2)) p3) pos) (tRevD X.K te) := by
  refine ⟨fun pins s σ H Q I h => Subscript_ (thn (he.run pins s σ H _ I h) fun v s1 ⟨x, H1, I1, r1, q1⟩ => ?_)⟩
  obtain ⟨F, d, c, l, pd, hf, q⟩ := q1
  have hst : PO X (some (.UnaryOp .USub (.Constant (.int 1) k p1) p2)) (tPart (tUn (rU fun i => .int (-i)) (tC (.int 1)))) := po_some (pe_un un_neg pe_int)
  refine wpAny_Slice (thn (po_none.run pins s1 σ H1 (fun o H2 => o = none ∧ H2 = H1) I1 ⟨rfl, rfl⟩) fun vl s2 ⟨lo, H2, I2, pl, el, e2⟩ => ?_)
  subst el; subst e2
  refine thn (po_none.run pins s2 σ H2 (fun o H3 => o = none ∧ H3 = H2) I2 ⟨rfl, rfl⟩) fun vu s3 ⟨u, H3, I3, pu, eu, e3⟩ => ?_
  subst eu; subst e3
  refine thn (hst.run pins s3 σ H3 (fun o H4 => o = some (-1) ∧ H4 = H3) I3 ⟨1, rfl, -1, rfl, rfl, rfl⟩) fun vs s4 ⟨o, H4, I4, ps, eo, e4⟩ => ?_
  subst eo; subst e4
  have I5 : Inv X pins σ H4 { s4 with heap := s4.heap.push { cls := .type "slice", data := .fields #[vl, vu, vs] } } := I4.kept (t' := s4.toks) fun b ob q => Heap.get?_push_of_some _ q
  unfold revD at hf
  split at hf
  · cases hf
    obtain ⟨a, xs, rfl, hx, hvs⟩ := pd.list l
    cases r1
    obtain ⟨its, r, ht, hz⟩ := I5.list hx
    have hlen := r.length
    show wpAny (model X.prog X.w) X.A (subscriptTail e (.Slice none none (some (.UnaryOp .USub (.Constant (.int 1) k p1) p2)) p3) (.ref a) (.ref s4.heap.objs.size)) (EP X pins σ Q) X.xe _
    refine tail_any (ops := [.ref a, .ref s4.heap.objs.size]) (ht.isList.typeIs) PySem.slot_list_getitem.lookup ?_ (by with_unfolding_all rfl)
    refine wpAny_getItem_list_slice (ht.isList) (Heap.IsSliceOf.new _ vl vu vs) pl pu ps (by decide) ?_ (by rw [List.size_toArray]; omega)
    rw [PySem.W.krv_pick]
    have np : H4 ({ s4 with heap := s4.heap.push { cls := .type "slice", data := .fields #[vl, vu, vs] } } : Shared).heap.objs.size = none := I5.hok.fresh (Nat.le_refl _)
    exact ⟨.ref _, _, I5.laid (t' := s4.toks) (o := .lst xs.reverse) (fun b ob q => Heap.get?_push_of_some _ q) (Nat.le_refl _) ⟨by rw [List.length_reverse]; exact hz, _, 0, r.reverse, Heap.get?_push_size _ rfl⟩, rfl, q _ _ _ (Gr.new l np) (Dp.new_lst (l.none np) hvs.rev)⟩
  · cases hf
    obtain ⟨a, xs, rfl, hx, hvs⟩ := pd.tuple l
    cases r1
    obtain ⟨its, r, ht, hz⟩ := I5.tuple hx
    have hlen := r.length
    show wpAny (model X.prog X.w) X.A (subscriptTail e (.Slice none none (some (.UnaryOp .USub (.Constant (.int 1) k p1) p2)) p3) (.ref a) (.ref s4.heap.objs.size)) (EP X pins σ Q) X.xe _
    refine tail_any (ops := [.ref a, .ref s4.heap.objs.size]) (ht.typeIs) slot_tuple_getitem.lookup ?_ (by with_unfolding_all rfl)
    refine tup_back ht (Heap.IsSliceOf.new _ vl vu vs) pl pu ps ?_ (by rw [List.size_toArray]; omega)
    have np : H4 ({ s4 with heap := s4.heap.push { cls := .type "slice", data := .fields #[vl, vu, vs] } } : Shared).heap.objs.size = none := I5.hok.fresh (Nat.le_refl _)
    refine ⟨.ref _, _, I5.laid (t' := s4.toks) (o := .tup xs.reverse) (fun b ob q => Heap.get?_push_of_some _ q) (Nat.le_refl _) ⟨by rw [List.length_reverse]; exact hz, _, r.reverse, ⟨_, Heap.get?_push_size _ rfl, rfl, 0, rfl⟩⟩, rfl, q _ _ _ (Gr.new l np) (Dp.new_tup (l.none np) hvs.rev)⟩
  · cases hf
theorem xe_rev {k : Nat} {p1 p2 p3 : Pos} {ma : Ev → R PyData} (ha : XB X We a ma) : XE X We (.Subscript a (.Slice none none (some (.UnaryOp .USub (.Constant (.int 1) k p1) p2)) p3) pos) (op1 revD ma) := by
  refine pe_imp (pe_revD ha) fun σ H Q q => ?_
  obtain ⟨ρ, F, G, r, q⟩ := q
  refine ⟨ρ, F, G, r, Po.bind (P := pB X.K) q fun d x F1 H1 g1 p1 q1 => ?_⟩
  cases hf : revD d with
  | err c =>
    unfold revD at hf
    split at hf <;> cases hf
  | bad => rw [hf] at q1; exact q1.elim
  | ok c => rw [hf] at q1; exact ⟨F1, d, c, g1.le, p1, hf, fun v F' H' g p => q1 v F' H' g p⟩
theorem look_rel {env : Env} {x : Str} : ∀ {names : List (Str × NameKind)}, (names.lookup x = some .cell ∨ names.lookup x = some .free) →
    ((names.map fun (n, k) => if (k == NameKind.free && env.scope.kind == .function && env.kindOf n == some .cell) then (n, NameKind.cell) else (n, k)).lookup x = some .cell ∨
      (names.map fun (n, k) => if (k == NameKind.free && env.scope.kind == .function && env.kindOf n == some .cell) then (n, NameKind.cell) else (n, k)).lookup x = some .free)
  | [], h => by simp at h
  | (n, k) :: r, h => by
    have ih := @look_rel env x r
    rw [List.map_cons]
    by_cases hc : (k == NameKind.free && env.scope.kind == .function && env.kindOf n == some .cell) = true
    · simp only [if_pos hc, List.lookup_cons] at h ⊢
      cases hx : x == n with
      | true => exact .inl rfl
      | false => rw [hx] at h; exact ih h
    · simp only [if_neg hc, List.lookup_cons] at h ⊢
      cases hx : x == n with
      | true => rw [hx] at h; exact h
      | false => rw [hx] at h; exact ih h
/-- a block within a block -/
theorem blkOk_in {s : Shared} {H : Hp} {sc scope : Scope} {C : Addr} {cl : List (Str × Addr)} {fp : List Addr} {env : Env} {N : List Str} {own : List (Str × Nat)} (hN : X.N = N) (h : blkC N sc scope own = true) :
    BlkOk (X.blk s H sc (compEnvC sc cl C env) fp).N (X.blk s H sc (compEnvC sc cl C env) fp).env.scope scope own := by
  have h2 := blkOk_by h
  rw [← hN] at h2
  exact ⟨h2.kind, h2.uniq, h2.ix, fun y hy e => look_rel (h2.free y hy e), h2.own⟩
theorem hu65_of {k : Nat} {A : Around} (hr : Room k A) : A.units + 65 < cLine := by have := hr.un; omega
end
end PD
namespace PD
open PySem PySem.Spec PyProof.Rows L2
/-! ## reading the meanings -/
section
variable {ρ ρ' : Ev} {a b c d e : PyData} {i j k : Int} {xs ys zs : List PyData}
def thenS (r : R Out) (q : SM) : R Out := match r with
  | .ok (.nx ρ') => q ρ'
  | r => r
@[simp] theorem thenS_nx (q : SM) : thenS (.ok (.nx ρ)) q = q ρ := (rfl)
@[simp] theorem thenS_rt (q : SM) : thenS (.ok (.rt a)) q = .ok (.rt a) := (rfl)
@[simp] theorem thenS_bk (q : SM) : thenS (.ok (.bk ρ)) q = .ok (.bk ρ) := (rfl)
@[simp] theorem thenS_ct (q : SM) : thenS (.ok (.ct ρ)) q = .ok (.ct ρ) := (rfl)
@[simp] theorem thenS_err (c : String) (q : SM) : thenS (.err c) q = .err c := (rfl)
@[simp] theorem thenS_bad (q : SM) : thenS .bad q = .bad := (rfl)
@[simp] theorem seqS_ap (p q : SM) : seqS p q ρ = thenS (p ρ) q := (rfl)
def iteR {α : Type} (c : R Bool) (p q : Ev → R α) (ρ : Ev) : R α := c.bind fun t => if t = true then p ρ else q ρ
@[simp] theorem iteR_t {α : Type} (p q : Ev → R α) : iteR (.ok true) p q ρ = p ρ := (rfl)
@[simp] theorem iteR_f {α : Type} (p q : Ev → R α) : iteR (.ok false) p q ρ = q ρ := (rfl)
@[simp] theorem iteR_err {α : Type} (c : String) (p q : Ev → R α) : iteR (.err c) p q ρ = .err c := (rfl)
def kT (t : Bool) (_ : Ev) : R Bool := .ok t
@[simp] theorem kT_ap (t : Bool) : kT t ρ = .ok t := (rfl)
/-- a loop over what is walked -/
def forG (g : PyData → Ev → R Ev) (b : SM) (xs : List PyData) (ρ : Ev) : R Out := forM (fun x ρ => (g x ρ).bind b) xs ρ
@[simp] theorem bkS_ap : bkS ρ = .ok (.bk ρ) := (rfl)
@[simp] theorem ctS_ap : ctS ρ = .ok (.ct ρ) := (rfl)
@[simp] theorem nxS_ap : nxS ρ = .ok (.nx ρ) := (rfl)
@[simp] theorem retS_ap (m : Ev → R PyData) : retS m ρ = (m ρ).bind fun d => .ok (.rt d) := (rfl)
@[simp] theorem retNS_ap : retNS ρ = .ok (.rt .none) := (rfl)
@[simp] theorem errS_ap (c : String) : errS c ρ = .err c := (rfl)
@[simp] theorem dropS_ap (m : Ev → R PyData) : dropS m ρ = (m ρ).bind fun _ => .ok (.nx ρ) := (rfl)
@[simp] theorem setS_ap (n : Nat) (m : Ev → R PyData) : setS n m ρ = (m ρ).bind fun d => .ok (.nx (ρ.set n (.d d))) := (rfl)
@[simp] theorem setLS_ap (n : Nat) (m : Ev → R PyData) : setLS n m ρ = (m ρ).bind fun d => (oListD d).bind fun xs => .ok (.nx (ρ.set n (.lo xs))) := (rfl)
@[simp] theorem asgS_ap (m : Ev → R PyData) (g : PyData → Ev → R Ev) : asgS m g ρ = (m ρ).bind fun d => (g d ρ).bind fun ρ' => .ok (.nx ρ') := (rfl)
@[simp] theorem ifS_ap (mc : Ev → R Bool) (p q : SM) : ifS mc p q ρ = iteR (mc ρ) p q ρ := (rfl)
@[simp] theorem oListD_ap : oListD (.list xs) = .ok xs := (rfl)
def ofS : Option Sl → R PyData
  | some (.d x) => .ok x
  | _ => .bad
@[simp] theorem ofS_d : ofS (some (.d a)) = .ok a := (rfl)
@[simp] theorem ofS_un : ofS (some .un) = .bad := (rfl)
def ofB : Option Sl → R PyData
  | some (.d x) => .ok x
  | some (.lo xs) => .ok (.list xs)
  | _ => .bad
@[simp] theorem ofB_d : ofB (some (.d a)) = .ok a := (rfl)
@[simp] theorem ofB_lo : ofB (some (.lo xs)) = .ok (.list xs) := (rfl)
def ofL : Option Sl → R (List PyData)
  | some (.lo xs) => .ok xs
  | _ => .bad
@[simp] theorem ofL_lo : ofL (some (.lo xs)) = .ok xs := (rfl)
def ofF (ρ : Ev) (n : Nat) : Option Sl → R Out
  | some (.lo xs) => .ok (.nx (ρ.set n (.d (.list xs))))
  | some (.d _) => .ok (.nx ρ)
  | _ => .bad
@[simp] theorem ofF_lo {n : Nat} : ofF ρ n (some (.lo xs)) = .ok (.nx (ρ.set n (.d (.list xs)))) := (rfl)
@[simp] theorem ofF_d {n : Nat} : ofF ρ n (some (.d a)) = .ok (.nx ρ) := (rfl)
@[simp] theorem frzS_ap (n : Nat) : frzS n ρ = ofF ρ n ρ[n]? := by
  unfold frzS ofF
  cases ρ[n]? with
  | none => rfl
  | some x => cases x <;> rfl
@[simp] theorem vE_ap (n : Nat) : vE n ρ = ofS ρ[n]? := by
  unfold vE ofS
  cases ρ[n]? with
  | none => rfl
  | some x => cases x <;> rfl
@[simp] theorem vB_ap (n : Nat) : vB n ρ = ofB ρ[n]? := by
  unfold vB ofB
  cases ρ[n]? with
  | none => rfl
  | some x => cases x <;> rfl
@[simp] theorem getLo_ap (n : Nat) : getLo ρ n = ofL ρ[n]? := by
  unfold getLo ofL
  cases ρ[n]? with
  | none => rfl
  | some x => cases x <;> rfl
def outR : R Out → R PyData
  | .ok (.nx _) => .ok .none
  | .ok (.rt d) => .ok d
  | .ok _ => .bad
  | .err c => .err c
  | .bad => .bad
@[simp] theorem outR_nx : outR (.ok (.nx ρ)) = .ok .none := (rfl)
@[simp] theorem outR_rt : outR (.ok (.rt a)) = .ok a := (rfl)
@[simp] theorem outR_err (c : String) : outR (.err c) = .err c := (rfl)
@[simp] theorem outR_bad : outR .bad = .bad := (rfl)
theorem runB_ap (n : Nat) (b : SM) : runB n b xs = outR (b (xs.map Sl.d ++ List.replicate (n - xs.length) Sl.un)) := by
  unfold runB outR
  rfl
@[simp] theorem cE_ap : cE a ρ = .ok a := (rfl)
@[simp] theorem op2_ap (f : PyData → PyData → R PyData) (p q : Ev → R PyData) : op2 f p q ρ = (p ρ).bind fun x => (q ρ).bind fun y => f x y := (rfl)
@[simp] theorem op1_ap (f : PyData → R PyData) (p : Ev → R PyData) : op1 f p ρ = (p ρ).bind f := (rfl)
@[simp] theorem tvE_ap (p : Ev → R PyData) : tvE p ρ = (p ρ).bind boolD := (rfl)
@[simp] theorem boolD_ap (t : Bool) : boolD (.bool t) = .ok t := (rfl)
@[simp] theorem andT_ap (p q : Ev → R Bool) : andT p q ρ = iteR (p ρ) q (kT false) ρ := (rfl)
@[simp] theorem orT_ap (p q : Ev → R Bool) : orT p q ρ = iteR (p ρ) (kT true) q ρ := (rfl)
@[simp] theorem notT_ap (p : Ev → R Bool) : notT p ρ = (p ρ).bind fun t => .ok (!t) := (rfl)
@[simp] theorem andE_ap (p q : Ev → R PyData) : andE p q ρ = iteR ((p ρ).bind boolD) q (cE (.bool false)) ρ := by
  unfold andE iteR
  cases p ρ <;> rfl
@[simp] theorem orE_ap (p q : Ev → R PyData) : orE p q ρ = iteR ((p ρ).bind boolD) (cE (.bool true)) q ρ := by
  unfold orE iteR
  cases p ρ <;> rfl
@[simp] theorem notE_ap (p : Ev → R PyData) : notE p ρ = (p ρ).bind fun d => (boolD d).bind fun t => .ok (.bool (!t)) := (rfl)
@[simp] theorem ifE_ap (mc : Ev → R Bool) (p q : Ev → R PyData) : ifE mc p q ρ = iteR (mc ρ) p q ρ := (rfl)
@[simp] theorem nilA_ap : nilA ρ = .ok [] := (rfl)
@[simp] theorem consA_ap (p : Ev → R PyData) (q : Ev → R (List PyData)) : consA p q ρ = (p ρ).bind fun d => (q ρ).bind fun ds => .ok (d :: ds) := (rfl)
@[simp] theorem callE_ap (n : Nat) (m : List PyData → R PyData) (p : Ev → R (List PyData)) : callE n m p ρ = (p ρ).bind fun ds => if ds.length = n then m ds else .bad := (rfl)
@[simp] theorem callB_ap (f : List PyData → R PyData) (p : Ev → R (List PyData)) : callB f p ρ = (p ρ).bind f := (rfl)
@[simp] theorem argI_ap (f : List PyData → R (List PyData)) (p : Ev → R (List PyData)) : argI f p ρ = (p ρ).bind f := (rfl)
@[simp] theorem itE_ap (p : Ev → R PyData) : itE p ρ = (p ρ).bind iterD := (rfl)
@[simp] theorem iterD_list : iterD (.list xs) = .ok xs := (rfl)
@[simp] theorem iterD_tuple : iterD (.tuple xs) = .ok xs := (rfl)
@[simp] theorem tupE_ap (p : Ev → R (List PyData)) : tupE p ρ = (p ρ).bind fun ds => if ds.length ≤ SZ then .ok (.tuple ds) else .bad := (rfl)
@[simp] theorem lstE_ap (p : Ev → R (List PyData)) : lstE p ρ = (p ρ).bind fun ds => if ds.length ≤ SZ then .ok (.list ds) else .bad := (rfl)
@[simp] theorem chainE_ap (f g : PyData → PyData → R PyData) (p q r : Ev → R PyData) : chainE f g p q r ρ = (p ρ).bind fun x => (q ρ).bind fun y => (f x y).bind fun k => (boolD k).bind fun t => if t = true then (r ρ).bind fun z => g y z else .ok (.bool false) := (rfl)
@[simp] theorem pNo_ap : pNo ρ = .ok none := (rfl)
@[simp] theorem pAt_ap (p : Ev → R PyData) : pAt p ρ = (p ρ).bind intD := (rfl)
@[simp] theorem intD_ap : intD (.int i) = .ok (some i) := (rfl)
@[simp] theorem slE_ap (p : Ev → R PyData) (q r : Ev → R (Option Int)) : slE p q r ρ = (p ρ).bind fun x => (q ρ).bind fun lo => (r ρ).bind fun hi => slD lo hi x := (rfl)
@[simp] theorem slD_list (lo hi : Option Int) : slD lo hi (.list xs) = .ok (.list (cutL xs lo hi)) := (rfl)
@[simp] theorem slD_tuple (lo hi : Option Int) : slD lo hi (.tuple xs) = .ok (.tuple (cutL xs lo hi)) := (rfl)
@[simp] theorem forS_ap (mi : Ev → R (List PyData)) (g : PyData → Ev → R Ev) (b : SM) : forS mi g b ρ = (mi ρ).bind fun xs => forG g b xs ρ := (rfl)
@[simp] theorem gN_ap (n : Nat) : gN n a ρ = .ok (ρ.set n (.d a)) := (rfl)
@[simp] theorem gsNil_ap : gsNil [] ρ = .ok ρ := (rfl)
@[simp] theorem gsCons_ap (g : PyData → Ev → R Ev) (gs : List PyData → Ev → R Ev) : gsCons g gs (a :: xs) ρ = (g a ρ).bind fun ρ' => gs xs ρ' := (rfl)
@[simp] theorem gT_tuple (n : Nat) (gs : List PyData → Ev → R Ev) : gT n gs (.tuple xs) ρ = if xs.length = n then gs xs ρ else .bad := (rfl)
@[simp] theorem idxE_ap (p q : Ev → R PyData) : idxE p q ρ = (p ρ).bind fun x => (oListD x).bind fun ds => (q ρ).bind fun y => indexD ds y := (rfl)
@[simp] theorem appS_ap (n : Nat) (m : Ev → R PyData) : appS n m ρ = (getLo ρ n).bind fun xs => (m ρ).bind fun d => if xs.length < SZ then .ok (.nx (ρ.set n (.lo (xs ++ [d])))) else .bad := (rfl)
@[simp] theorem yesT_ap : yesT ρ = .ok true := (rfl)
@[simp] theorem add_ii : addD (.int i) (.int j) = .ok (.int (i + j)) := (rfl)
@[simp] theorem sub_ii : subD (.int i) (.int j) = .ok (.int (i - j)) := (rfl)
@[simp] theorem neg_i : negD (.int i) = .ok (.int (-i)) := (rfl)
theorem mul_ii (h : i.natAbs < 2 ^ 64 ∨ j.natAbs < 2 ^ 64) : mulD (.int i) (.int j) = .ok (.int (i * j)) := if_pos (by rcases h with h | h; exact .inl h; exact .inr (.inl h))
theorem mod_ii (h : 0 < j) : modD (.int i) (.int j) = .ok (.int (i % j)) := if_pos h
theorem fdiv_ii (h : 0 < j) (h2 : j < 1073741824) : fdivD (.int i) (.int j) = .ok (.int (i / j)) := if_pos ⟨h, .inl (by omega)⟩
@[simp] theorem lt_ii : ltD (.int i) (.int j) = .ok (.bool (decide (i < j))) := (rfl)
@[simp] theorem gt_ii : gtD (.int i) (.int j) = .ok (.bool (decide (j < i))) := (rfl)
@[simp] theorem le_ii : leD (.int i) (.int j) = .ok (.bool (decide (i ≤ j))) := (rfl)
@[simp] theorem ge_ii : geD (.int i) (.int j) = .ok (.bool (decide (j ≤ i))) := (rfl)
@[simp] theorem int1_i : int1D [.int i] = .ok (.int i) := (rfl)
@[simp] theorem abs_i : absD [.int i] = .ok (.int i.natAbs) := (rfl)
@[simp] theorem len_list : lenD [.list xs] = .ok (.int xs.length) := (rfl)
@[simp] theorem len_tuple : lenD [.tuple xs] = .ok (.int xs.length) := (rfl)
@[simp] theorem tuple1_list : tuple1D [.list xs] = .ok (.tuple xs) := (rfl)
@[simp] theorem tuple1_tuple : tuple1D [.tuple xs] = .ok (.tuple xs) := (rfl)
@[simp] theorem list1_list : list1D [.list xs] = .ok (.list xs) := (rfl)
@[simp] theorem list1_tuple : list1D [.tuple xs] = .ok (.list xs) := (rfl)
@[simp] theorem rev_list : revD (.list xs) = .ok (.list xs.reverse) := (rfl)
@[simp] theorem rev_tuple : revD (.tuple xs) = .ok (.tuple xs.reverse) := (rfl)
@[simp] theorem isNone_none : isNoneD a .none = .ok (.bool (isN a)) := by unfold isNoneD; rfl
@[simp] theorem notNone_none : notNoneD a .none = .ok (.bool (!isN a)) := by unfold notNoneD; rfl
@[simp] theorem isi_ap (t : Ty) : isiD t a = .ok (.bool (isiB t a)) := (rfl)
theorem add_tt (h : xs.length + ys.length ≤ SZ) : addD (.tuple xs) (.tuple ys) = .ok (.tuple (xs ++ ys)) := if_pos h
theorem add_ll (h : xs.length + ys.length ≤ SZ) : addD (.list xs) (.list ys) = .ok (.list (xs ++ ys)) := if_pos h
theorem ix_list (h : atI xs i = some a) : ixD (.list xs) (.int i) = .ok a := by unfold ixD; simp only [h]
theorem ix_tuple (h : atI xs i = some a) : ixD (.tuple xs) (.int i) = .ok a := by unfold ixD; simp only [h]
theorem range1_ok {n : Int} (h : n < 4611686018427387904) (h0 : 0 ≤ n) : range1D [.int n] = .ok (rangeL 0 1 n.toNat) := if_pos (by unfold smallI; omega)
theorem range2_ok {m n : Int} (hm : smallI m) (h : smallI n) : range2D [.int m, .int n] = .ok (rangeL m 1 (n - m).toNat) := if_pos ⟨hm, h⟩
end
/-! ### loops -/
theorem forM_inv {b : PyData → SM} {I : Nat → Ev → Prop} : ∀ (xs : List PyData) (ρ : Ev) (n : Nat), I n ρ → (∀ m x, xs[m]? = some x → ∀ ρ, I (n + m) ρ → ∃ ρ', b x ρ = .ok (.nx ρ') ∧ I (n + m + 1) ρ') →
    ∃ ρ', forM b xs ρ = .ok (.nx ρ') ∧ I (n + xs.length) ρ'
  | [], ρ, n, h, _ => ⟨ρ, rfl, h⟩
  | x :: xs, ρ, n, h, hb => by
    obtain ⟨ρ1, e1, h1⟩ := hb 0 x rfl ρ h
    obtain ⟨ρ2, e2, h2⟩ := forM_inv (b := b) (I := I) xs ρ1 (n + 1) h1 fun m y hy ρ hi => by
      have := hb (m + 1) y hy ρ (by rw [show n + (m + 1) = n + 1 + m by omega]; exact hi)
      rw [show n + (m + 1) + 1 = n + 1 + m + 1 by omega] at this
      exact this
    refine ⟨ρ2, ?_, ?_⟩
    · unfold forM
      rw [e1]
      exact e2
    · rw [List.length_cons, show n + (xs.length + 1) = n + 1 + xs.length by omega]
      exact h2
/-- a loop that returns nothing of its own: every turn goes on -/
theorem forM_all {b : PyData → SM} {I : Ev → Prop} (xs : List PyData) (ρ : Ev) (h : I ρ) (hb : ∀ x ∈ xs, ∀ ρ, I ρ → ∃ ρ', b x ρ = .ok (.nx ρ') ∧ I ρ') : ∃ ρ', forM b xs ρ = .ok (.nx ρ') ∧ I ρ' := by
  obtain ⟨ρ', e, h'⟩ := forM_inv (b := b) (I := fun _ => I) xs ρ 0 h fun m x hx ρ hi => hb x (List.mem_of_getElem? hx) ρ hi
  exact ⟨ρ', e, h'⟩
theorem forG_inv {g : PyData → Ev → R Ev} {b : SM} {I : Nat → Ev → Prop} (xs : List PyData) (ρ : Ev) (h : I 0 ρ) (hb : ∀ m x, xs[m]? = some x → ∀ ρ, I m ρ → ∃ ρ', (g x ρ).bind b = .ok (.nx ρ') ∧ I (m + 1) ρ') :
    ∃ ρ', forG g b xs ρ = .ok (.nx ρ') ∧ I xs.length ρ' := by
  obtain ⟨ρ', e, h'⟩ := forM_inv (b := fun x ρ => (g x ρ).bind b) (I := I) xs ρ 0 h fun m x hx ρ hi => by
    rw [Nat.zero_add] at hi ⊢
    exact hb m x hx ρ hi
  exact ⟨ρ', e, by rw [Nat.zero_add] at h'; exact h'⟩
theorem forG_all {g : PyData → Ev → R Ev} {b : SM} {I : Ev → Prop} (xs : List PyData) (ρ : Ev) (h : I ρ) (hb : ∀ x ∈ xs, ∀ ρ, I ρ → ∃ ρ', (g x ρ).bind b = .ok (.nx ρ') ∧ I ρ') : ∃ ρ', forG g b xs ρ = .ok (.nx ρ') ∧ I ρ' := by
  obtain ⟨ρ', e, h'⟩ := forG_inv (g := g) (b := b) (I := fun _ => I) xs ρ h fun m x hx ρ hi => hb x (List.mem_of_getElem? hx) ρ hi
  exact ⟨ρ', e, h'⟩
theorem rangeL_map (n : Nat) : rangeL 0 1 n = (List.range n).map fun k : Nat => PyData.int k := by
  apply List.ext_getElem?
  intro i
  by_cases h : i < n
  · rw [rangeL_get 1 n 0 i h, List.getElem?_map, List.getElem?_range h]
    simp
  · rw [List.getElem?_eq_none (by rw [rangeL_length]; omega), List.getElem?_eq_none (by simp; omega)]
theorem rangeL_map2 (a : Int) (n : Nat) : rangeL a 1 n = (List.range n).map fun k : Nat => PyData.int (a + k) := by
  apply List.ext_getElem?
  intro i
  by_cases h : i < n
  · rw [rangeL_get 1 n a i h, List.getElem?_map, List.getElem?_range h]
    simp
  · rw [List.getElem?_eq_none (by rw [rangeL_length]; omega), List.getElem?_eq_none (by simp; omega)]
/-! ### comprehensions -/
theorem lcM_of {α : Type} {g : PyData → Ev → R Ev} {t : Ev → R Bool} {e : Ev → R PyData} {ρ : Ev} {enc : α → PyData} {p : α → Bool} {f : α → PyData} :
    ∀ xs : List α, (∀ x ∈ xs, ∃ ρ', g (enc x) ρ = .ok ρ' ∧ t ρ' = .ok (p x) ∧ (p x = true → e ρ' = .ok (f x))) → lcM g t e ρ (xs.map enc) = .ok ((xs.filter p).map f)
  | [], _ => rfl
  | x :: xs, h => by
    obtain ⟨ρ', h1, h2, h3⟩ := h x (by simp)
    have ih := lcM_of (g := g) (t := t) (e := e) (ρ := ρ) (enc := enc) (p := p) (f := f) xs fun y hy => h y (by simp [hy])
    rw [List.map_cons]
    unfold lcM
    rw [h1, bind_ok, h2, bind_ok]
    cases hp : p x with
    | true => rw [if_pos rfl, h3 hp, bind_ok, ih, bind_ok, List.filter_cons_of_pos hp, List.map_cons]
    | false => rw [if_neg Bool.false_ne_true, ih, List.filter_cons_of_neg (by rw [hp]; exact Bool.false_ne_true)]
theorem lcE_of {α : Type} {mi : Ev → R (List PyData)} {vs : List Nat} {g : PyData → Ev → R Ev} {t : Ev → R Bool} {e : Ev → R PyData} {ρ : Ev} {enc : α → PyData} {p : α → Bool} {f : α → PyData} (xs : List α) (hi : mi ρ = .ok (xs.map enc)) (hl : xs.length ≤ SZ)
    (h : ∀ x ∈ xs, ∃ ρ', g (enc x) (wipeE ρ vs) = .ok ρ' ∧ t ρ' = .ok (p x) ∧ (p x = true → e ρ' = .ok (f x))) : lcE mi vs g t e ρ = .ok (.list ((xs.filter p).map f)) := by
  unfold lcE
  rw [hi, bind_ok, List.length_map, if_pos hl, lcM_of xs h]
  rfl
/-- without an if -/
theorem lcE_all {α : Type} {mi : Ev → R (List PyData)} {vs : List Nat} {g : PyData → Ev → R Ev} {e : Ev → R PyData} {ρ : Ev} {enc : α → PyData} {f : α → PyData} (xs : List α) (hi : mi ρ = .ok (xs.map enc)) (hl : xs.length ≤ SZ)
    (h : ∀ x ∈ xs, ∃ ρ', g (enc x) (wipeE ρ vs) = .ok ρ' ∧ e ρ' = .ok (f x)) : lcE mi vs g yesT e ρ = .ok (.list (xs.map f)) := by
  have := lcE_of (mi := mi) (vs := vs) (g := g) (t := yesT) (e := e) (ρ := ρ) (enc := enc) (p := fun _ => true) (f := f) xs hi hl fun x hx => by
    obtain ⟨ρ', h1, h2⟩ := h x hx
    exact ⟨ρ', h1, rfl, fun _ => h2⟩
  rw [this, List.filter_eq_self.mpr fun _ _ => rfl]
/-! ### data with a Lean type -/
section
open PySem.W
variable {α : Type} [DecidableEq α] [Datum α]
theorem shp_t (h : Datum.depth α ≤ 60) (a : α) : shp (Datum.toD a) = true := by
  unfold shp
  have := Datum.depth_le a
  rw [Datum.plain, Bool.true_and, decide_eq_true_eq]
  omega
theorem eq_t (h : Datum.depth α ≤ 60) (a b : α) : eqD (Datum.toD a) (Datum.toD b) = .ok (.bool (decide (a = b))) := by
  unfold eqD
  rw [if_pos ⟨shp_t h a, shp_t h b⟩, Datum.eqv]
theorem ne_t (h : Datum.depth α ≤ 60) (a b : α) : neD (Datum.toD a) (Datum.toD b) = .ok (.bool (!decide (a = b))) := by
  unfold neD
  rw [if_pos ⟨shp_t h a, shp_t h b⟩, Datum.eqv]
theorem in_t (h : Datum.depth α ≤ 59) (a : α) (xs : List α) : inD (Datum.toD a) (.list (xs.map Datum.toD)) = .ok (.bool (decide (a ∈ xs))) := by
  have h1 := shp_t (by omega) a
  have h2 : shp (.list (xs.map Datum.toD)) = true := shp_t (α := List α) (show Datum.depth α + 1 ≤ 60 by omega) xs
  have e : inD (Datum.toD a) (.list (xs.map Datum.toD)) = .ok (.bool ((xs.map Datum.toD).any fun z => PyData.eqv z (Datum.toD a))) := by
    show (if shp (Datum.toD a) = true ∧ shp (.list (xs.map Datum.toD)) = true then R.ok (PyData.bool _) else .bad) = _
    rw [if_pos ⟨h1, h2⟩]
  rw [e, any_datum]
theorem inT_t (h : Datum.depth α ≤ 59) (a : α) (xs : List α) : inD (Datum.toD a) (.tuple (xs.map Datum.toD)) = .ok (.bool (decide (a ∈ xs))) := by
  have h1 := shp_t (by omega) a
  have h2 : shp (.tuple (xs.map Datum.toD)) = true := shp_t (α := Tup α) (show Datum.depth α + 1 ≤ 60 by omega) ⟨xs⟩
  have e : inD (Datum.toD a) (.tuple (xs.map Datum.toD)) = .ok (.bool ((xs.map Datum.toD).any fun z => PyData.eqv z (Datum.toD a))) := by
    show (if shp (Datum.toD a) = true ∧ shp (.tuple (xs.map Datum.toD)) = true then R.ok (PyData.bool _) else .bad) = _
    rw [if_pos ⟨h1, h2⟩]
  rw [e, any_datum]
theorem index_t (h : Datum.depth α ≤ 59) (a : α) (xs : List α) {j : Nat} (hj : xs.findIdx? (fun y => decide (y = a)) = some j) : indexD (xs.map Datum.toD) (Datum.toD a) = .ok (.int j) := by
  have h1 := shp_t (by omega) a
  have h2 : shp (.list (xs.map Datum.toD)) = true := shp_t (α := List α) (show Datum.depth α + 1 ≤ 60 by omega) xs
  unfold indexD
  rw [if_pos ⟨h2, h1⟩]
  have := place_datum xs a
  unfold SeqAt.dataPlace at this
  rw [this, hj]
end
section
open PySem.W
variable {α : Type} [DecidableEq α] [DatumOrd α]
theorem alikeOk_t (h : Datum.depth α ≤ 60) (xs : List α) : alikeOk (xs.map Datum.toD) = true := by
  unfold alikeOk
  have hd := depthAll_map xs
  rw [Bool.and_eq_true, decide_eq_true_eq]
  refine ⟨List.all_eq_true.mpr fun x hx => ?_, by omega⟩
  obtain ⟨a, ha, rfl⟩ := List.mem_map.mp hx
  rw [Bool.and_eq_true]
  refine ⟨List.all_eq_true.mpr fun y hy => ?_, ?_⟩
  · obtain ⟨b, hb, rfl⟩ := List.mem_map.mp hy
    exact DatumOrd.alike a b
  · have := DatumOrd.notNone a
    unfold isN
    split
    · contradiction
    · rfl
theorem min_t (h : Datum.depth α ≤ 60) (x : α) (xs : List α) : PD.minD [.list ((x :: xs).map Datum.toD)] = .ok (Datum.toD (minOf x xs)) := by
  have := alikeOk_t h (x :: xs)
  rw [List.map_cons] at this ⊢
  show (if alikeOk (Datum.toD x :: xs.map Datum.toD) = true then R.ok (PySem.W.minD (Datum.toD x) (xs.map Datum.toD)) else .bad) = _
  rw [if_pos this, minD_map]
theorem max_t (h : Datum.depth α ≤ 60) (x : α) (xs : List α) : PD.maxD [.list ((x :: xs).map Datum.toD)] = .ok (Datum.toD (maxOf x xs)) := by
  have := alikeOk_t h (x :: xs)
  rw [List.map_cons] at this ⊢
  show (if alikeOk (Datum.toD x :: xs.map Datum.toD) = true then R.ok (PySem.W.maxD (Datum.toD x) (xs.map Datum.toD)) else .bad) = _
  rw [if_pos this, maxD_map]
end
@[simp] theorem all_b (bs : List Bool) : allD [.list (bs.map .bool)] = .ok (.bool (bs.all _root_.id)) := by
  unfold allD
  simp only [boolsOf_map]
@[simp] theorem any_b (bs : List Bool) : anyD [.list (bs.map .bool)] = .ok (.bool (bs.any _root_.id)) := by
  unfold anyD
  simp only [boolsOf_map]
@[simp] theorem sum_i (bs : List Int) : sumD [.list (bs.map .int)] = .ok (.int bs.sum) := by
  unfold sumD
  simp only [intsOf_map]
end PD
namespace PD
open PySem PySem.Spec PyProof.Rows L2
/-! ## the numbers that every law draws -/
def drawsB : SM := (seqS (setLS 2 (lstE nilA))
  (seqS (setS 3 (cE (.int 7)))
  (seqS (forS (itE (slE (vE 0) pNo (pAt (cE (.int 63))))) (gN 4)
  (seqS (setS 5 (callB absD (consA (vE 4) nilA)))
  (seqS (setS 3 (op2 modD (callB int1D (consA (op2 addD (op2 addD (op2 mulD (vE 3) (cE (.int 48271))) (vE 5)) (cE (.int 11))) nilA)) (cE (.int 2147483647))))
  (ifS (tvE (op2 geD (vE 5) (op2 powD (cE (.int 10)) (cE (.int 18)))))
  (forS (argI range1D (consA (cE (.int 60)) nilA)) (gN 6)
  (ifS (tvE (op2 gtD (vE 5) (cE (.int 0))))
  (seqS (appS 2 (op2 modD (callB int1D (consA (vE 5) nilA)) (cE (.int 1009))))
  (setS 5 (op2 fdivD (vE 5) (cE (.int 1009)))))
  nxS))
  (appS 2 (op2 modD (op2 fdivD (callB int1D (consA (op2 addD (op2 mulD (vE 3) (cE (.int 16807))) (cE (.int 5))) nilA)) (cE (.int 3))) (cE (.int 65521))))))))
  (seqS (forS (argI range1D (consA (vE 1) nilA)) (gN 6)
  (ifS (tvE (op2 ltD (callB lenD (consA (vB 2) nilA)) (vE 1)))
  (seqS (setS 3 (op2 modD (callB int1D (consA (op2 addD (op2 addD (op2 mulD (vE 3) (cE (.int 69621))) (vE 6)) (cE (.int 1))) nilA)) (cE (.int 2147483647))))
  (appS 2 (op2 modD (op2 fdivD (callB int1D (consA (vE 3) nilA)) (cE (.int 7))) (cE (.int 65521)))))
  nxS))
  (retS (slE (vB 2) pNo (pAt (vE 1))))))))
def Draw (x : Int) : Prop := 0 ≤ x ∧ x < 65521
/-- what stands while the numbers are drawn -/
def DrI (ns : List Int) (many : Nat) (n : Nat) (ρ : Ev) : Prop := ∃ (ds : List Int) (seed : Int) (c nm k : Sl), ρ = [.d (.list (ns.map .int)), .d (.int many), .lo (ds.map .int), .d (.int seed), c, nm, k] ∧ ds.length ≤ n ∧ ∀ x ∈ ds, Draw x
theorem draw_mod {x : Int} (n : Int) (h0 : 0 < n) (h : n ≤ 65521) : Draw (x % n) := ⟨Int.emod_nonneg _ (by omega), Int.lt_of_lt_of_le (Int.emod_lt_of_pos _ h0) h⟩
theorem app_draw {ds : List Int} {x : Int} (h : ∀ y ∈ ds, Draw y) (hx : Draw x) : ∀ y ∈ ds ++ [x], Draw y := fun y hy => by
  rcases List.mem_append.mp hy with hy | hy
  · exact h y hy
  · cases List.mem_singleton.mp hy; exact hx
theorem pow18 : powD (.int 10) (.int 18) = .ok (.int 1000000000000000000) := by
  show (if 0 ≤ (18 : Int) ∧ (18 : Int) ≤ 1000 ∧ (10 : Int).natAbs < 2 ^ 64 then R.ok (PyData.int ((10 : Int) ^ (18 : Int).toNat)) else R.bad) = _
  rw [if_pos (by decide)]
  rfl
def DrJ (n : Nat) (ns : List Int) (many : Nat) (m : Nat) (ρ : Ev) : Prop := ∃ (ds : List Int) (seed : Int) (c : Sl) (nm : Int) (k : Sl), ρ = [.d (.list (ns.map .int)), .d (.int many), .lo (ds.map .int), .d (.int seed), c, .d (.int nm), k] ∧ ds.length ≤ n + m ∧ ∀ x ∈ ds, Draw x
theorem map_snoc (ds : List Int) (x : Int) : ds.map PyData.int ++ [.int x] = (ds ++ [x]).map PyData.int := by rw [List.map_append]; rfl
theorem draws_in (ns : List Int) (many n : Nat) (hn : n ≤ 100000) (x : PyData) (m : Nat) (hm : m ≤ 60) (ρ : Ev) (h : DrJ n ns many m ρ) :
    ∃ ρ', (gN 6 x ρ).bind (ifS (tvE (op2 gtD (vE 5) (cE (.int 0)))) (seqS (appS 2 (op2 modD (callB int1D (consA (vE 5) nilA)) (cE (.int 1009)))) (setS 5 (op2 fdivD (vE 5) (cE (.int 1009))))) nxS) = .ok (.nx ρ') ∧ DrJ n ns many (m + 1) ρ' := by
  obtain ⟨ds, seed, c, nm, k, rfl, hl, hd⟩ := h
  by_cases hp : 0 < nm
  · have hz : ds.length < SZ := by show ds.length < 16777216; omega
    have hd2 := app_draw hd (draw_mod (x := nm) 1009 (by omega) (by omega))
    refine ⟨[.d (.list (ns.map .int)), .d (.int many), .lo ((ds ++ [nm % 1009]).map .int), .d (.int seed), c, .d (.int (nm / 1009)), .d x], ?_, ds ++ [nm % 1009], seed, c, nm / 1009, .d x, rfl, by rw [List.length_append]; simp; omega, hd2⟩
    simp [hp, mod_ii, fdiv_ii]
    rw [if_pos hz]
    simp [fdiv_ii]
  · exact ⟨_, by simp [hp], ds, seed, c, nm, .d x, rfl, by omega, hd⟩
theorem draws_one (ns : List Int) (many n : Nat) (hn : n ≤ 100000) (c : Int) (ρ : Ev) (h : DrI ns many n ρ) :
    ∃ ρ', (gN 4 (.int c) ρ).bind (seqS (setS 5 (callB absD (consA (vE 4) nilA)))
  (seqS (setS 3 (op2 modD (callB int1D (consA (op2 addD (op2 addD (op2 mulD (vE 3) (cE (.int 48271))) (vE 5)) (cE (.int 11))) nilA)) (cE (.int 2147483647))))
  (ifS (tvE (op2 geD (vE 5) (op2 powD (cE (.int 10)) (cE (.int 18)))))
  (forS (argI range1D (consA (cE (.int 60)) nilA)) (gN 6)
  (ifS (tvE (op2 gtD (vE 5) (cE (.int 0))))
  (seqS (appS 2 (op2 modD (callB int1D (consA (vE 5) nilA)) (cE (.int 1009))))
  (setS 5 (op2 fdivD (vE 5) (cE (.int 1009)))))
  nxS))
  (appS 2 (op2 modD (op2 fdivD (callB int1D (consA (op2 addD (op2 mulD (vE 3) (cE (.int 16807))) (cE (.int 5))) nilA)) (cE (.int 3))) (cE (.int 65521))))))) = .ok (.nx ρ') ∧ DrI ns many (n + 60) ρ' := by
  obtain ⟨ds, seed, c0, nm, k, rfl, hl, hd⟩ := h
  have m1 : mulD (.int seed) (.int 48271) = .ok (.int (seed * 48271)) := mul_ii (.inr (by decide))
  have m2 : ∀ t, mulD (.int t) (.int 16807) = .ok (.int (t * 16807)) := fun t => mul_ii (.inr (by decide))
  by_cases hp : (1000000000000000000 : Int) ≤ (c.natAbs : Int)
  · obtain ⟨ρ', e, ds', seed', c', nm', k', e2, hl', hd'⟩ := forG_inv (g := gN 6) (b := (ifS (tvE (op2 gtD (vE 5) (cE (.int 0)))) (seqS (appS 2 (op2 modD (callB int1D (consA (vE 5) nilA)) (cE (.int 1009)))) (setS 5 (op2 fdivD (vE 5) (cE (.int 1009))))) nxS)) (I := DrJ n ns many) (rangeL 0 1 60)
      [.d (.list (ns.map .int)), .d (.int many), .lo (ds.map .int), .d (.int ((seed * 48271 + (c.natAbs : Int) + 11) % 2147483647)), .d (.int c), .d (.int c.natAbs), k] ⟨ds, _, _, _, _, rfl, by omega, hd⟩ fun m x hx ρ hi => by
        have hm := (List.getElem?_eq_some_iff.mp hx).1
        rw [rangeL_length] at hm
        exact draws_in ns many n hn x m (by omega) ρ hi
    rw [rangeL_length] at hl'
    refine ⟨ρ', ?_, ds', seed', c', .d (.int nm'), k', e2, by omega, hd'⟩
    have r60 : range1D [.int 60] = .ok (rangeL 0 1 60) := range1_ok (by decide) (by decide)
    simp [m1, mod_ii, pow18, hp, r60]
    exact e
  · have hz : ds.length < SZ := by show ds.length < 16777216; omega
    have hd2 := app_draw hd (draw_mod (x := (((seed * 48271 + (c.natAbs : Int) + 11) % 2147483647) * 16807 + 5) / 3) 65521 (by omega) (by omega))
    refine ⟨_, ?_, ds ++ [(((seed * 48271 + (c.natAbs : Int) + 11) % 2147483647) * 16807 + 5) / 3 % 65521], (seed * 48271 + (c.natAbs : Int) + 11) % 2147483647, .d (.int c), .d (.int c.natAbs), k, rfl, by rw [List.length_append]; simp; omega, hd2⟩
    simp [m1, m2, mod_ii, fdiv_ii, pow18, hp]
    exact hz
def DrK (ns : List Int) (many : Nat) (m : Nat) (ρ : Ev) : Prop := ∃ (ds : List Int) (seed : Int) (c nm k : Sl), ρ = [.d (.list (ns.map .int)), .d (.int many), .lo (ds.map .int), .d (.int seed), c, nm, k] ∧ ds.length ≤ 10000 ∧ (m ≤ ds.length ∨ many ≤ ds.length) ∧ ∀ x ∈ ds, Draw x
theorem draws_more (ns : List Int) (many : Nat) (hn : many ≤ 1000) (j : Int) (m : Nat) (ρ : Ev) (h : DrK ns many m ρ) :
    ∃ ρ', (gN 6 (.int j) ρ).bind (ifS (tvE (op2 ltD (callB lenD (consA (vB 2) nilA)) (vE 1)))
  (seqS (setS 3 (op2 modD (callB int1D (consA (op2 addD (op2 addD (op2 mulD (vE 3) (cE (.int 69621))) (vE 6)) (cE (.int 1))) nilA)) (cE (.int 2147483647))))
  (appS 2 (op2 modD (op2 fdivD (callB int1D (consA (vE 3) nilA)) (cE (.int 7))) (cE (.int 65521)))))
  nxS) = .ok (.nx ρ') ∧ DrK ns many (m + 1) ρ' := by
  obtain ⟨ds, seed, c0, nm, k, rfl, hz, hl, hd⟩ := h
  have m1 : mulD (.int seed) (.int 69621) = .ok (.int (seed * 69621)) := mul_ii (.inr (by decide))
  by_cases hp : ds.length < many
  · have hz2 : ds.length < SZ := by show ds.length < 16777216; omega
    have hd2 := app_draw hd (draw_mod (x := (seed * 69621 + j + 1) % 2147483647 / 7) 65521 (by omega) (by omega))
    refine ⟨_, ?_, ds ++ [(seed * 69621 + j + 1) % 2147483647 / 7 % 65521], (seed * 69621 + j + 1) % 2147483647, c0, nm, .d (.int j), rfl, by rw [List.length_append]; simp; omega, by rw [List.length_append]; simp; omega, hd2⟩
    simp [hp, m1, mod_ii, fdiv_ii]
    exact hz2
  · refine ⟨_, ?_, ds, seed, c0, nm, .d (.int j), rfl, hz, .inr (by omega), hd⟩
    simp [hp]
theorem cut_take {α : Type} (xs : List α) (n : Nat) : cutL xs none (some (n : Int)) = xs.take n := by
  unfold cutL
  rw [HT.sIx_none, HT.sIx_nat, List.drop_zero, Nat.sub_zero]
  by_cases h : n ≤ xs.length
  · rw [Nat.min_eq_left h]
  · rw [Nat.min_eq_right (by omega), List.take_of_length_le (Nat.le_refl _), List.take_of_length_le (by omega)]
theorem cut_drop {α : Type} (xs : List α) (n : Nat) : cutL xs (some (n : Int)) none = xs.drop n := by
  unfold cutL
  rw [HT.sIx_none, HT.sIx_nat]
  by_cases h : n ≤ xs.length
  · rw [Nat.min_eq_left h, List.take_of_length_le (by rw [List.length_drop]; exact Nat.le_refl _)]
  · rw [Nat.min_eq_right (by omega), List.drop_of_length_le (Nat.le_refl _), List.drop_of_length_le (by omega), List.take_nil]
theorem draws_ok (ns : List Int) (hn : ns.length ≤ 63) (many : Nat) (hm : many ≤ 1000) : ∃ ds : List Int, runB 7 drawsB [.list (ns.map .int), .int many] = .ok (.list (ds.map .int)) ∧ ds.length = many ∧ ∀ x ∈ ds, Draw x := by
  have cut : cutL (ns.map PyData.int) none (some 63) = ns.map PyData.int := by
    have := cut_take (ns.map PyData.int) 63
    rw [List.take_of_length_le (by simpa using hn)] at this
    exact this
  obtain ⟨ρ1, e1, ds1, seed1, c1, nm1, k1, hρ1, hl1, hd1⟩ := forG_inv (g := gN 4) (b := (seqS (setS 5 (callB absD (consA (vE 4) nilA)))
  (seqS (setS 3 (op2 modD (callB int1D (consA (op2 addD (op2 addD (op2 mulD (vE 3) (cE (.int 48271))) (vE 5)) (cE (.int 11))) nilA)) (cE (.int 2147483647))))
  (ifS (tvE (op2 geD (vE 5) (op2 powD (cE (.int 10)) (cE (.int 18)))))
  (forS (argI range1D (consA (cE (.int 60)) nilA)) (gN 6)
  (ifS (tvE (op2 gtD (vE 5) (cE (.int 0))))
  (seqS (appS 2 (op2 modD (callB int1D (consA (vE 5) nilA)) (cE (.int 1009))))
  (setS 5 (op2 fdivD (vE 5) (cE (.int 1009)))))
  nxS))
  (appS 2 (op2 modD (op2 fdivD (callB int1D (consA (op2 addD (op2 mulD (vE 3) (cE (.int 16807))) (cE (.int 5))) nilA)) (cE (.int 3))) (cE (.int 65521)))))))) (I := fun n => DrI ns many (60 * n)) (ns.map .int)
    [.d (.list (ns.map .int)), .d (.int many), .lo [], .d (.int 7), .un, .un, .un] ⟨[], 7, .un, .un, .un, rfl, Nat.zero_le _, fun x hx => by cases hx⟩ fun m x hx ρ hi => by
      obtain ⟨hm1, hm2⟩ := List.getElem?_eq_some_iff.mp hx
      rw [List.getElem_map] at hm2
      rw [List.length_map] at hm1
      subst hm2
      have := draws_one ns many (60 * m) (by omega) (ns[m]) ρ hi
      rw [show 60 * m + 60 = 60 * (m + 1) by omega] at this
      exact this
  rw [List.length_map] at hl1
  subst hρ1
  obtain ⟨ρ2, e2, ds2, seed2, c2, nm2, k2, hρ2, hz2, hl2, hd2⟩ := forG_inv (g := gN 6) (b := (ifS (tvE (op2 ltD (callB lenD (consA (vB 2) nilA)) (vE 1)))
  (seqS (setS 3 (op2 modD (callB int1D (consA (op2 addD (op2 addD (op2 mulD (vE 3) (cE (.int 69621))) (vE 6)) (cE (.int 1))) nilA)) (cE (.int 2147483647))))
  (appS 2 (op2 modD (op2 fdivD (callB int1D (consA (vE 3) nilA)) (cE (.int 7))) (cE (.int 65521)))))
  nxS)) (I := DrK ns many) (rangeL 0 1 many)
    [.d (.list (ns.map .int)), .d (.int many), .lo (ds1.map .int), .d (.int seed1), c1, nm1, k1] ⟨ds1, seed1, c1, nm1, k1, rfl, by omega, .inl (Nat.zero_le _), hd1⟩ fun m x hx ρ hi => by
      have hm1 := (List.getElem?_eq_some_iff.mp hx).1
      rw [rangeL_length] at hm1
      rw [rangeL_get 1 many 0 m hm1] at hx
      cases hx
      exact draws_more ns many hm _ m ρ hi
  rw [rangeL_length] at hl2
  subst hρ2
  have rm : range1D [.int many] = .ok (rangeL 0 1 many) := range1_ok (n := (many : Int)) (by omega) (by omega)
  refine ⟨ds2.take many, ?_, by rw [List.length_take]; omega, fun x hx => hd2 x (List.mem_of_mem_take hx)⟩
  rw [runB_ap]
  unfold drawsB
  simp [cut]
  rw [e1]
  simp [rm]
  rw [e2]
  simp [cut_take]
end PD
namespace PD
open PySem PySem.Spec PyProof.Rows L2 PySem.W
/-! ## the order of data of one type -/
section
variable {α : Type} [DecidableEq α] [DatumOrd α]
theorem lt_lex (a b : α) : DatumOrd.lt a b = PyProof.Rows.lexLt itemOrd (keyToks (Datum.toD a)) (keyToks (Datum.toD b)) := (DatumOrd.lt_eq a b).symm
theorem lt_irr (a : α) : DatumOrd.lt a a = false := by rw [lt_lex]; exact lex_irrefl _
theorem lt_tr {a b c : α} (h : DatumOrd.lt a b = true) (h2 : DatumOrd.lt b c = true) : DatumOrd.lt a c = true := by
  rw [lt_lex] at h h2 ⊢
  exact lex_trans _ _ _ h h2
theorem lt_neg {a c : α} (b : α) (h : DatumOrd.lt a c = true) : DatumOrd.lt a b = true ∨ DatumOrd.lt b c = true := by
  rw [lt_lex] at h
  rw [lt_lex, lt_lex]
  exact lex_negTrans _ _ _ h
theorem lt_anti {a b : α} (h : DatumOrd.lt a b = false) (h2 : DatumOrd.lt b a = false) : a = b := by
  rw [lt_lex] at h h2
  have e := lex_total _ _ h h2
  have t := toks_eqv (Datum.toD a) (Datum.toD b) (DatumOrd.alike a b)
  have q := Datum.eqv a b
  by_cases hab : a = b
  · exact hab
  · exfalso
    rw [decide_eq_false hab] at q
    have t2 := t.2 q [] [Sum.inl 0]
    rw [e, lex_irrefl, lex_pre] at t2
    exact Bool.false_ne_true (t2.symm.trans (by rfl))
theorem minOf_spec : ∀ (xs : List α) (x : α), minOf x xs ∈ x :: xs ∧ ∀ y ∈ x :: xs, DatumOrd.lt y (minOf x xs) = false
  | [], x => ⟨by simp [minOf], fun y hy => by
      cases List.mem_singleton.mp hy
      exact lt_irr _⟩
  | z :: zs, x => by
    have e : minOf x (z :: zs) = minOf (if DatumOrd.lt z x = true then z else x) zs := rfl
    rw [e]
    obtain ⟨h1, h2⟩ := minOf_spec zs (if DatumOrd.lt z x = true then z else x)
    have hs := h2 _ (List.mem_cons_self ..)
    have le2 : ∀ y : α, DatumOrd.lt y (if DatumOrd.lt z x = true then z else x) = false → DatumOrd.lt y (minOf (if DatumOrd.lt z x = true then z else x) zs) = false := fun y hy => by
      cases hc : DatumOrd.lt y (minOf (if DatumOrd.lt z x = true then z else x) zs) with
      | false => rfl
      | true =>
        rcases lt_neg (if DatumOrd.lt z x = true then z else x) hc with h | h
        · rw [hy] at h; cases h
        · rw [hs] at h; cases h
    refine ⟨?_, fun y hy => ?_⟩
    · rcases List.mem_cons.mp h1 with h | h
      · rw [h]
        by_cases hz : DatumOrd.lt z x = true
        · rw [if_pos hz]; simp
        · rw [if_neg hz]; simp
      · simp [h]
    · rcases List.mem_cons.mp hy with rfl | hy
      · refine le2 _ ?_
        by_cases hz : DatumOrd.lt z y = true
        · rw [if_pos hz]
          cases hc : DatumOrd.lt y z with
          | false => rfl
          | true =>
            have := lt_tr hz hc
            rw [lt_irr] at this
            cases this
        · rw [if_neg hz]; exact lt_irr _
      · rcases List.mem_cons.mp hy with rfl | hy
        · refine le2 _ ?_
          by_cases hz : DatumOrd.lt y x = true
          · rw [if_pos hz]; exact lt_irr _
          · rw [if_neg hz]; simpa using hz
        · exact h2 y (by simp [hy])
theorem minOf_mem (x : α) (xs : List α) : minOf x xs ∈ x :: xs := (minOf_spec xs x).1
theorem minOf_le {x : α} {xs : List α} {y : α} (h : y ∈ x :: xs) : DatumOrd.lt y (minOf x xs) = false := (minOf_spec xs x).2 y h
/-- lists with the same members have the same least one -/
theorem minOf_same {x y : α} {xs ys : List α} (h : ∀ z, z ∈ x :: xs ↔ z ∈ y :: ys) : minOf x xs = minOf y ys :=
  lt_anti (minOf_le ((h _).mp (minOf_mem x xs))) (minOf_le ((h _).mpr (minOf_mem y ys)))|>.symm ▸ rfl
end
/-! ## all, any, one by one -/
theorem all_f {α : Type} (f : α → Bool) (xs : List α) : allD [.list (xs.map fun x => .bool (f x))] = .ok (.bool (xs.all f)) := by
  have e : (xs.map fun x => PyData.bool (f x)) = (xs.map f).map .bool := by rw [List.map_map]; rfl
  rw [e, all_b, List.all_map]
  rfl
theorem any_f {α : Type} (f : α → Bool) (xs : List α) : anyD [.list (xs.map fun x => .bool (f x))] = .ok (.bool (xs.any f)) := by
  have e : (xs.map fun x => PyData.bool (f x)) = (xs.map f).map .bool := by rw [List.map_map]; rfl
  rw [e, any_b, List.any_map]
  rfl
theorem modN {k n : Nat} (h : 0 < n) : modD (.int k) (.int n) = .ok (.int ((k % n : Nat) : Int)) := by
  rw [mod_ii (by omega)]
  simp
theorem rangeN {n : Nat} (h : n ≤ 1000000) : range1D [.int (n : Int)] = .ok ((List.range n).map fun k : Nat => PyData.int k) := by
  rw [range1_ok (by omega) (by omega), Int.toNat_natCast, rangeL_map]
theorem addT {us vs : List PyData} (h : us.length + vs.length ≤ 1000000) : addD (.tuple us) (.tuple vs) = .ok (.tuple (us ++ vs)) := add_tt (by show _ ≤ 16777216; omega)
theorem atN {α : Type} (xs : List α) (k : Nat) : atI xs (k : Int) = xs[k]? := by
  unfold atI ixN
  rw [if_pos (by omega)]
  by_cases h : k < xs.length
  · rw [if_pos (by omega)]
    simp
  · rw [if_neg (by omega)]
    simp
    omega
theorem ixL {ds : List PyData} {k : Nat} (h : k < ds.length) : ixD (.list ds) (.int (k : Int)) = .ok ds[k] := ix_list (by rw [atN, List.getElem?_eq_getElem h])
theorem ixT {ds : List PyData} {k : Nat} (h : k < ds.length) : ixD (.tuple ds) (.int (k : Int)) = .ok ds[k] := ix_tuple (by rw [atN, List.getElem?_eq_getElem h])
/-! ## turned lists -/
section
variable {α : Type}
def rot (xs : List α) (j : Nat) : List α := xs.drop j ++ xs.take j
theorem rot_length (xs : List α) (j : Nat) : (rot xs j).length = xs.length := by
  unfold rot
  rw [List.length_append, List.length_drop, List.length_take]
  omega
theorem rot_get {xs : List α} {j k : Nat} (hj : j ≤ xs.length) (hk : k < xs.length) : (rot xs j)[k]? = xs[(k + j) % xs.length]? := by
  unfold rot
  by_cases h : k < xs.length - j
  · rw [List.getElem?_append_left (by rw [List.length_drop]; exact h), List.getElem?_drop, Nat.mod_eq_of_lt (by omega), Nat.add_comm]
  · rw [List.getElem?_append_right (by rw [List.length_drop]; omega), List.length_drop, List.getElem?_take_of_lt (by omega)]
    have e : (k + j) % xs.length = k - (xs.length - j) := by
      rw [show k + j = (k - (xs.length - j)) + xs.length by omega, Nat.add_mod_right, Nat.mod_eq_of_lt (by omega)]
    rw [e]
theorem rot_eq {xs ys : List α} (hl : ys.length = xs.length) (j : Nat) (hj : j ≤ xs.length) (h : ∀ k, k < xs.length → ys[k]? = xs[(k + j) % xs.length]?) : ys = rot xs j := by
  apply List.ext_getElem?
  intro k
  by_cases hk : k < xs.length
  · rw [h k hk, rot_get hj hk]
  · rw [List.getElem?_eq_none (by omega), List.getElem?_eq_none (by rw [rot_length]; omega)]
theorem rot_rot {xs : List α} {i j : Nat} (hi : i ≤ xs.length) (hj : j ≤ xs.length) (hn : 0 < xs.length) : rot (rot xs i) j = rot xs ((i + j) % xs.length) := by
  refine rot_eq (by rw [rot_length, rot_length]) _ (Nat.le_of_lt (Nat.mod_lt _ hn)) fun k hk => ?_
  rw [rot_get (by rw [rot_length]; exact hj) (by rw [rot_length]; exact hk), rot_length, rot_get hi (Nat.mod_lt _ hn), Nat.mod_add_mod, Nat.add_mod_mod]
  congr 2
  omega
theorem rot_zero (xs : List α) : rot xs 0 = xs := by unfold rot; simp
theorem rot_full (xs : List α) : rot xs xs.length = xs := by unfold rot; simp
theorem rot_map {β : Type} (f : α → β) (xs : List α) (j : Nat) : rot (xs.map f) j = (rot xs j).map f := by
  unfold rot
  rw [List.map_append, List.map_drop, List.map_take]
/-- all turned ones -/
def rots (xs : List α) : List (List α) := (List.range xs.length).map (rot xs)
theorem mem_rots {xs ys : List α} : ys ∈ rots xs ↔ ∃ i, i < xs.length ∧ ys = rot xs i := by
  unfold rots
  rw [List.mem_map]
  constructor
  · rintro ⟨i, hi, rfl⟩
    exact ⟨i, List.mem_range.mp hi, rfl⟩
  · rintro ⟨i, hi, rfl⟩
    exact ⟨i, List.mem_range.mpr hi, rfl⟩
theorem rots_self {xs : List α} (h : xs ≠ []) : xs ∈ rots xs := mem_rots.mpr ⟨0, List.length_pos_iff.mpr h, (rot_zero xs).symm⟩
theorem rots_cons {xs : List α} (h : 0 < xs.length) : rots xs = xs :: (rots xs).tail := by
  unfold rots
  rw [show xs.length = (xs.length - 1) + 1 by omega, List.range_succ_eq_map]
  simp [rot_zero]
theorem rots_back {xs ys : List α} (h : ys ∈ rots xs) : xs ∈ rots ys := by
  obtain ⟨i, hi, rfl⟩ := mem_rots.mp h
  by_cases h0 : i = 0
  · subst h0
    rw [rot_zero]
    exact rots_self (by intro z; rw [z] at hi; cases hi)
  · refine mem_rots.mpr ⟨xs.length - i, by rw [rot_length]; omega, ?_⟩
    rw [rot_rot (by omega) (by omega) (by omega), show i + (xs.length - i) = xs.length by omega, Nat.mod_self, rot_zero]
theorem rots_trans {xs ys zs : List α} (h : ys ∈ rots xs) (h2 : zs ∈ rots ys) : zs ∈ rots xs := by
  obtain ⟨i, hi, rfl⟩ := mem_rots.mp h
  obtain ⟨j, hj, rfl⟩ := mem_rots.mp h2
  rw [rot_length] at hj
  exact mem_rots.mpr ⟨(i + j) % xs.length, Nat.mod_lt _ (by omega), rot_rot (by omega) (by omega) (by omega)⟩
theorem rots_same {xs ys : List α} (h : ys ∈ rots xs) (zs : List α) : zs ∈ rots ys ↔ zs ∈ rots xs := ⟨rots_trans h, rots_trans (rots_back h)⟩
end
section
variable {α : Type} [DecidableEq α] [DatumOrd α]
/-- the least turned one -/
def minR (xs : List α) : Tup α := minOf ⟨xs⟩ ((rots xs).map Tup.mk)
theorem minR_mem {xs : List α} (h : xs ≠ []) : (minR xs).items ∈ rots xs := by
  rcases List.mem_cons.mp (minOf_mem (α := Tup α) ⟨xs⟩ ((rots xs).map Tup.mk)) with q | q
  · unfold minR
    rw [q]
    exact rots_self h
  · obtain ⟨ys, hy, e⟩ := List.mem_map.mp q
    unfold minR
    rw [← e]
    exact hy
theorem minR_same {xs ys : List α} (hx : xs ≠ []) (h : ys ∈ rots xs) : minR ys = minR xs := by
  refine minOf_same fun z => ?_
  have hy : ys ≠ [] := fun e => by
    obtain ⟨i, hi, e2⟩ := mem_rots.mp h
    rw [e] at e2
    have := congrArg List.length e2
    rw [rot_length] at this
    rw [← this] at hi
    cases hi
  have m : ∀ (us : List α), us ≠ [] → (z ∈ (⟨us⟩ : Tup α) :: (rots us).map Tup.mk ↔ z.items ∈ rots us) := fun us hu => by
    rw [List.mem_cons, List.mem_map]
    constructor
    · rintro (rfl | ⟨vs, hv, rfl⟩)
      · exact rots_self hu
      · exact hv
    · intro q
      exact .inr ⟨z.items, q, rfl⟩
  rw [m ys hy, m xs hx]
  exact rots_same h z.items
theorem minR_iff {xs ys : List α} (hx : xs ≠ []) (hy : ys ≠ []) : minR xs = minR ys ↔ ys ∈ rots xs := by
  constructor
  · intro e
    have h1 := minR_mem hx
    rw [e] at h1
    exact rots_trans h1 (rots_back (minR_mem hy))
  · intro h
    exact (minR_same hx h).symm
end
end PD
namespace PD
open PySem PySem.Spec PyProof.Rows L2
/-! ## try: .. except X: a suite that asks no name -/
theorem exm_ok {K : PySem.W.Frag} {u : Value} {C : Addr} {b : Bool} (h1 : PySem.W.subIn K (.ref C) (.type "BaseException") = some true) (h2 : PySem.W.isClsIn K C = true) (h3 : PySem.W.typeIn K (.ref C) = some (.type "type")) (h4 : PySem.W.subIn K u (.ref C) = some b) :
    PySem.W.exmOne K u (.ref C) = some b := by
  unfold PySem.W.exmOne PySem.W.kitCls
  have e1 : (PySem.W.subIn K (.ref C) (.type "BaseException") == some true) = true := by rw [h1]; rfl
  rw [if_pos e1]
  have e2 : (PySem.W.clsIn K C).isSome = true := h2
  have e3 : (PySem.W.typeIn K (.ref C) == some (Value.type "type")) = true := by rw [h3]; exact beq_self_eq_true _
  show (if ((PySem.W.clsIn K C).isSome && PySem.W.typeIn K (.ref C) == some (Value.type "type")) = true then PySem.W.subIn K u (.ref C) else none) = some b
  rw [if_pos (by rw [e2, e3]; rfl)]
  exact h4
/-- which clause takes it -/
def pickH : List ((String → Option Bool) × SM) → String → R Out
  | [], c => .err c
  | (mt, ms) :: r, c => match mt c with
    | some true => noErr (ms [])
    | some false => pickH r c
    | none => .bad
def tryS (mb : SM) (hs : List ((String → Option Bool) × SM)) : SM := fun ρ => match mb ρ with
  | .err c => pickH hs c
  | r => r
/-- a suite, from any slots -/
def tK (K : PySem.W.Frag) (ms : SM) : TS := fun D σ H => ∃ F G, Le F G ∧ Le G H ∧ PoS K We0 F G (ms []) D
section
variable {X : Cx} {We : EW} {pos : Pos} {body : List Stmt} {h₀ : ExceptHandler} {hds : List ExceptHandler}
theorem suite_of {st : List Stmt} {ms : SM} (h : XSs X We0 st ms) (hc : ∀ ρ, ms ρ = ms []) : PSs X st (tK X.K ms) := pss_imp h fun D σ H q => by
  obtain ⟨F, G, l1, l2, q⟩ := q
  refine ⟨List.replicate σ.length .un, F, G, ⟨by simp, l1, l2, fun i x e => ?_, fun i j x y a _ e _ o => ?_⟩, by rw [hc]; exact q⟩
  · have := List.mem_of_getElem? e
    rw [List.mem_replicate] at this
    rw [this.2]
    unfold SlOk
    cases σ[i]? <;> trivial
  · have := List.mem_of_getElem? e
    rw [List.mem_replicate] at this
    rw [this.2] at o
    cases o
/-- the clauses: each its class, what it takes of the classes that are known, its suite -/
inductive HsOk (X : Cx) : List ExceptHandler → List ((String → Option Bool) × SM) → Prop
  | nil : HsOk X [] []
  | cons {x : Str} {C : Addr} {mt : String → Option Bool} {ms : SM} {b₀ : Stmt} {suite : List Stmt} {np pos' : Pos} {hds : List ExceptHandler} {l : List ((String → Option Bool) × SM)} (hc : Names X x (.ref C))
      (hm : ∀ (c : String) (b : Bool) (A : Addr), mt c = some b → X.mg (c : Str) = some (.ref A) → PySem.W.exmOne X.K (.ref A) (.ref C) = some b)
      (hk : ∀ ρ, ms ρ = ms [])
      (hsu : ∀ (a : Addr) (oe : Obj) (cls : Value) (d : Option Addr) (pn : List (Addr × Obj)), XSs (X.suite a ((a, oe) :: pn)) We0 (b₀ :: suite) ms) (r : HsOk X hds l) :
      HsOk X (.ExceptHandler (some (.Name x np)) none (b₀ :: suite) pos' :: hds) ((mt, ms) :: l)
def EWof (X : Cx) (W : WX) : EW := fun c σ H => ∀ C, X.mg (c : Str) = some (.ref C) → W (.ref C) none σ H
theorem hs_go {X : Cx} {We : EW} : ∀ {hds : List ExceptHandler} {l : List ((String → Option Bool) × SM)}, HsOk X hds l → ∃ l2 : List (Value × (Addr → Value → Option Addr → TS)), HdsOk X hds l2 ∧
    ∀ (D : Ends) (c : String) (A : Addr) (F G : Hp) (σ' : St) (G' H' : Hp), X.mg (c : Str) = some (.ref A) → Le F G → Le G G' → Le G' H' → PoS X.K We F G (pickH l c) D → wMany X.K (WW X.mg We) D l2 (.ref A) none σ' H'
  | _, _, .nil => ⟨[], .nil, fun D c A F G σ' G' H' hA lf l1 l2 q => by
      have q' : PoS X.K We F G (.err c) D := q
      exact ⟨c, A, rfl, rfl, hA, q' σ' G' H' l1 l2⟩⟩
  | _, _, .cons (C := C) (mt := mt) (ms := ms) hc hm hk hsu r => by
    obtain ⟨l2, h2, go⟩ := hs_go (We := We) r
    refine ⟨(.ref C, fun _ _ _ => tK X.K ms) :: l2, .cons hc (fun a oe cls d pn _ _ => suite_of (hsu a oe cls d pn) hk) h2, fun D c A F G σ' G' H' hA lf l1 l2 q => ?_⟩
    unfold pickH at q
    cases hmc : mt c with
    | none => rw [hmc] at q; exact q.elim
    | some b =>
      rw [hmc] at q
      refine ⟨b, hm c b A hmc hA, fun hb a _ => ?_, fun hb => ?_⟩
      · subst hb
        refine ⟨F, G', lf.trans l1, l2, PoS.step ⟨Le.refl F, l1, fun _ _ => rfl⟩ ?_⟩
        have q' : PoS X.K We F G (noErr (ms [])) D := q
        cases hms : ms [] with
        | ok o => rw [hms] at q'; cases o <;> exact q'
        | err c => rw [hms] at q'; exact q'.elim
        | bad => rw [hms] at q'; exact q'
      · subst hb
        exact go D c A F G σ' G' H' hA lf l1 l2 q
theorem xs_try {mb : SM} {l : List ((String → Option Bool) × SM)} (hs : X.stack = X.env :: X.outer) (hf : X.env.frame = some X.env.locals) (tk : Tk X We)
    (hb : ∀ (W : EW) (pn : List (Addr × Obj)) (xe : Value → Shared → Prop), Tk (X.tr pn xe) W → PassesOwn (model X.prog X.w) X.A X.env xe → XSs (X.tr pn xe) W body mb)
    (hh : HsOk X (h₀ :: hds) l) : XS X We (.Try body (h₀ :: hds) [] [] pos) (tryS mb l) := by
  obtain ⟨l2, h2, go⟩ := hs_go (We := We) hh
  refine ps_imp (ps_try_many hs hf tk (tb := fun W => tS X.K (EWof X W) mb) (fun W pn xe tkW hp => hb (EWof X W) pn xe (tkW.imp fun cls d σ H z => ?_) hp) h2) fun D σ H q => ?_
  · obtain ⟨c, C, rfl, rfl, hC, z⟩ := z
    exact z C hC
  · obtain ⟨ρ, F, G, r, q⟩ := q
    refine ⟨ρ, F, G, r, ?_⟩
    unfold tryS at q
    cases hmb : mb ρ with
    | ok o => rw [hmb] at q; cases o <;> exact q
    | bad => rw [hmb] at q; exact q
    | err c =>
      rw [hmb] at q
      exact fun σ' G' H' l1 l2 C hC => go D c C F G σ' G' H' hC r.fg l1 l2 q
end
@[simp] theorem tryS_ap (mb : SM) (hs : List ((String → Option Bool) × SM)) (ρ : Ev) : tryS mb hs ρ = (match mb ρ with | .err c => pickH hs c | r => r) := (rfl)
end PD
namespace PD
open PySem PySem.Spec PyProof.Rows L2
section
variable {X : Cx} {We : EW} {e a b c : Expr} {es : List Expr} {pos p pos2 p2 : Pos} {x : Str}
/-! ## [x] * n -/
def repL (x : PyData) (k : PyData) : R PyData := match x, k with
  | .list xs, .int k => if k.natAbs < 4611686018427387904 ∧ xs.length * k.toNat ≤ SZ then .ok (.list (List.replicate k.toNat xs).flatten) else .bad
  | _, _ => .bad
def repE (ma mb : Ev → R PyData) (ρ : Ev) : R PyData := (ma ρ).bind fun x => (mb ρ).bind fun k => repL x k
theorem dpAll_rep {K : PySem.W.Frag} {F : Hp} {vs : List V} {xs : List PyData} (h : DpAll K F vs xs) : ∀ n : Nat, DpAll K F (List.replicate n vs).flatten (List.replicate n xs).flatten
  | 0 => .nil
  | n + 1 => by
    rw [List.replicate_succ, List.replicate_succ, List.flatten_cons, List.flatten_cons]
    exact h.append (dpAll_rep h n)
theorem xf_rep {ma mb : Ev → R PyData} (ha : XF X We a ma) (hb : XB X We b mb) : XF X We (.BinOp a .Mult b pos) (repE ma mb) :=
  pe_imp (pe_op op_rep ha hb) fun σ H Q q => by
    obtain ⟨ρ, F, G, r, q⟩ := q
    refine ⟨ρ, F, G, r, Po.bind (P := pF X.K) q fun d v F1 H1 g1 p1 q1 => ?_⟩
    obtain ⟨l, vs, ds, rfl, rfl, n0, n1, h1, hd⟩ := p1
    refine ⟨ρ, F1, _, (r.grow g1).1, Po.bind (P := pB X.K) q1 fun k y F2 H2 g2 p2 q2 => ?_⟩
    cases k with
    | int i =>
      have e3 := p2.int
      subst e3
      have q3 : Po We (pF X.K) F2 H2 σ (if i.natAbs < 4611686018427387904 ∧ ds.length * i.toNat ≤ SZ then R.ok (PyData.list (List.replicate i.toNat ds).flatten) else .bad) Q := q2
      split at q3
      · rename_i hz
        have hl := hd.length
        have sq := sz_eq
        refine ⟨l, i, vs, rfl, rfl, g2.h _ _ h1, by omega, by omega, by rw [sq, hl]; exact hz.2, fun p np => ?_⟩
        exact q3 _ _ _ (Gr.own g2.le np) ⟨p, _, _, rfl, rfl, np, g2.le.none np, upd_same, dpAll_rep (hd.le g2.f) _⟩
      · exact q3.elim
    | _ => exact q2.elim
/-! ## list(range(..)) -/
def lrE1 (m : Ev → R PyData) (ρ : Ev) : R PyData := (m ρ).bind fun d => match d with
  | .int n => if smallI n ∧ n ≤ 16777216 then .ok (.list (rangeL 0 1 n.toNat)) else .bad
  | _ => .bad
def lrE2 (m m2 : Ev → R PyData) (ρ : Ev) : R PyData := (m ρ).bind fun d => (m2 ρ).bind fun d2 => match d, d2 with
  | .int a, .int n => if smallI a ∧ smallI n ∧ n - a ≤ 16777216 then .ok (.list (rangeL a 1 (n - a).toNat)) else .bad
  | _, _ => .bad
theorem rgV_dp {K : PySem.W.Frag} {F : Hp} (a b : Int) : DpAll K F (rgV a b) (rangeL a 1 (b - a).toNat) := by
  unfold rgV
  generalize (b - a).toNat = n
  have : ∀ (n : Nat) (a : Int), DpAll K F ((List.range n).map fun i => V.int (a + (i : Nat))) (rangeL a 1 n) := by
    intro n
    induction n with
    | zero => intro a; exact .nil
    | succ n ih =>
      intro a
      rw [List.range_succ_eq_map, List.map_cons, List.map_map]
      unfold rangeL
      refine .cons (by have e : a + ((0 : Nat) : Int) = a := by omega
                       rw [e]; exact .int _) ?_
      have e : ((fun i : Nat => V.int (a + (i : Nat))) ∘ Nat.succ) = fun i : Nat => V.int (a + 1 + (i : Nat)) := by
        funext i
        show V.int (a + ((i + 1 : Nat) : Int)) = V.int (a + 1 + (i : Nat))
        congr 1
        omega
      rw [e]
      exact ih (a + 1)
  exact this n a
theorem xf_lr1 {m : Ev → R PyData} (hc : X.calm = true) (hg : Gl X "list") (hm : X.mg "list" = none) (hg2 : Gl X "range") (hm2 : X.mg "range" = none) (ha : XE X We a m)
    (na : starEach [a] X.env = (false, eval a X.env) :: starEach [] X.env) (na2 : starEach [.Call (.Name "range" p2) [a] [] pos2] X.env = (false, eval (.Call (.Name "range" p2) [a] [] pos2) X.env) :: starEach [] X.env) :
    XF X We (.Call (.Name "list" p) [.Call (.Name "range" p2) [a] [] pos2] [] pos) (lrE1 m) :=
  pe_imp (pe_listRg hc hg hm (prg_1 hg2 hm2 ha na) na2) fun σ H Q q => by
    obtain ⟨ρ, F, G, r, q⟩ := q
    refine ⟨ρ, F, G, r, Po.bind (P := pD X.K) q fun d v F1 H1 g1 p1 q1 => ?_⟩
    split at q1
    · rename_i n
      have e3 := Dp.int_inv p1
      subst e3
      split at q1
      · rename_i hz
        have h1 := smallI_un hz.1
        refine ⟨n, rfl, ⟨by omega, by omega, h1.1, h1.2, by omega⟩, fun p np => ?_⟩
        have hd : DpAll X.K F1 (rgV 0 n) (rangeL 0 1 (n - 0).toNat) := rgV_dp 0 n
        rw [Int.sub_zero] at hd
        exact q1 _ _ _ (Gr.own g1.le np) ⟨p, _, _, rfl, rfl, np, g1.le.none np, upd_same, hd⟩
      · exact q1.elim
    · exact q1.elim
theorem xf_lr2 {m m2 : Ev → R PyData} (hc : X.calm = true) (hg : Gl X "list") (hm : X.mg "list" = none) (hg2 : Gl X "range") (hm2 : X.mg "range" = none) (ha : XE X We a m) (hb : XE X We b m2)
    (na : starEach [a, b] X.env = (false, eval a X.env) :: starEach [b] X.env) (na1 : starEach [b] X.env = (false, eval b X.env) :: starEach [] X.env) (npl : (backTo pos2 (starEach [b] X.env)).any (·.1) = false)
    (na2 : starEach [.Call (.Name "range" p2) [a, b] [] pos2] X.env = (false, eval (.Call (.Name "range" p2) [a, b] [] pos2) X.env) :: starEach [] X.env) :
    XF X We (.Call (.Name "list" p) [.Call (.Name "range" p2) [a, b] [] pos2] [] pos) (lrE2 m m2) :=
  pe_imp (pe_listRg hc hg hm (prg_2 hg2 hm2 ha hb na na1 npl) na2) fun σ H Q q => by
    obtain ⟨ρ, F, G, r, q⟩ := q
    refine ⟨ρ, F, G, r, Po.bind (P := pD X.K) q fun d v F1 H1 g1 p1 q1 => ?_⟩
    refine ⟨ρ, F1, _, (r.grow g1).1, Po.bind (P := pD X.K) q1 fun d2 v2 F2 H2 g2 p2 q2 => ?_⟩
    split at q2
    · rename_i a n
      have e3 := Dp.int_inv p1
      have e4 := Dp.int_inv p2
      subst e3; subst e4
      split at q2
      · rename_i hz
        have h1 := smallI_un hz.1
        have h2 := smallI_un hz.2.1
        refine ⟨a, n, rfl, rfl, ⟨h1.1, h1.2, h2.1, h2.2, by omega⟩, fun p np => ?_⟩
        exact q2 _ _ _ (Gr.own g2.le np) ⟨p, _, _, rfl, rfl, np, g2.le.none np, upd_same, rgV_dp a n⟩
      · exact q2.elim
    · exact q2.elim
end
/-! ## loops with a test -/
theorem whileM_inv {c : Ev → R Bool} {b : SM} {I : Nat → Ev → Prop} {Q : Ev → Prop} (h : ∀ m ρ, I m ρ → (c ρ = .ok false ∧ Q ρ) ∨ (c ρ = .ok true ∧ ∃ ρ' m', b ρ = .ok (.nx ρ') ∧ m' < m ∧ I m' ρ')) :
    ∀ (fuel m : Nat) (ρ : Ev), m < fuel → I m ρ → ∃ ρ', whileM c b fuel ρ = .ok (.nx ρ') ∧ Q ρ'
  | 0, _, _, hf, _ => by omega
  | f + 1, m, ρ, hf, hi => by
    unfold whileM
    rcases h m ρ hi with ⟨e, q⟩ | ⟨e, ρ', m', e2, hm, hi'⟩
    · refine ⟨ρ, ?_, q⟩
      rw [e]
      rfl
    · obtain ⟨ρ2, e3, q⟩ := whileM_inv h f m' ρ' (by omega) hi'
      refine ⟨ρ2, ?_, q⟩
      rw [e, bind_ok, if_pos rfl, e2]
      exact e3
@[simp] theorem parS_ap (i j : Nat) (m : Ev → R (List PyData)) (ρ : Ev) (a b : PyData) (h : m ρ = .ok [a, b]) : parS i j m ρ = .ok (.nx ((ρ.set i (.d a)).set j (.d b))) := by
  unfold parS
  rw [h]
  rfl
end PD
namespace G
open PySem PySem.Spec PyProof.Rows L2 PD
/-! ## what each def computes -/
abbrev cLETTERS : PyData := .str "abcdefghijklmnopqrstuvwxyz"
abbrev cMOST_LETTERS : PyData := .int 8
abbrev cMOST_STRANDS : PyData := .int 12
def mtBadColours (c : String) : Option Bool := if c = "BadColours" then some true else if c = "BadLay" then some false else if c = "BadSteps" then some false else none
def mtBadLay (c : String) : Option Bool := if c = "BadColours" then some false else if c = "BadLay" then some true else if c = "BadSteps" then some false else none
def mtBadSteps (c : String) : Option Bool := if c = "BadColours" then some false else if c = "BadLay" then some false else if c = "BadSteps" then some true else none
def w1_divisor : SM := (parS 0 1 (consA (vE 1) (consA (op2 modD (vE 0) (vE 1)) nilA)))
def t2_divisor : Ev → R Bool := (tvE (op2 gtD (vE 1) (cE (.int 0))))
def b_divisor : SM := (seqS (parS 0 1 (consA (callB absD (consA (vE 0) nilA)) (consA (callB absD (consA (vE 1) nilA)) nilA)))
  (seqS (whileM t2_divisor
  w1_divisor 1000000000)
  (retS (vE 0))))
def m_divisor : List PyData → R PyData := runB 2 b_divisor
def b_quotient : SM := (seqS (setS 2 (callE 2 m_divisor (consA (vE 0) (consA (vE 1) nilA))))
  (retS (tupE (consA (op2 fdivD (vE 0) (vE 2)) (consA (op2 fdivD (vE 1) (vE 2)) nilA)))))
def m_quotient : List PyData → R PyData := runB 3 b_quotient
def b_times : SM := (retS (callE 2 m_quotient (consA (op2 mulD (op2 ixD (vE 0) (cE (.int 0))) (op2 ixD (vE 1) (cE (.int 0)))) (consA (op2 mulD (op2 ixD (vE 0) (cE (.int 1))) (op2 ixD (vE 1) (cE (.int 1)))) nilA))))
def m_times : List PyData → R PyData := runB 2 b_times
def b_over : SM := (retS (callE 2 m_quotient (consA (op2 mulD (op2 ixD (vE 0) (cE (.int 0))) (op2 ixD (vE 1) (cE (.int 1)))) (consA (op2 mulD (op2 ixD (vE 0) (cE (.int 1))) (op2 ixD (vE 1) (cE (.int 0)))) nilA))))
def m_over : List PyData → R PyData := runB 2 b_over
def b_is_less : SM := (retS (op2 ltD (op2 mulD (op2 ixD (vE 0) (cE (.int 0))) (op2 ixD (vE 1) (cE (.int 1)))) (op2 mulD (op2 ixD (vE 1) (cE (.int 0))) (op2 ixD (vE 0) (cE (.int 1))))))
def m_is_less : List PyData → R PyData := runB 2 b_is_less
def b_is_integer : SM := (retS (andE (op1 (isiD .int) (vE 0)) (notE (op1 (isiD .bool) (vE 0)))))
def m_is_integer : List PyData → R PyData := runB 1 b_is_integer
def b_is_quotient : SM := (seqS (ifS (orT (notT (tvE (op1 (isiD .tuple) (vE 0)))) (orT (tvE (op2 neD (callB lenD (consA (vE 0) nilA)) (cE (.int 2)))) (orT (notT (tvE (callE 1 m_is_integer (consA (op2 ixD (vE 0) (cE (.int 0))) nilA)))) (notT (tvE (callE 1 m_is_integer (consA (op2 ixD (vE 0) (cE (.int 1))) nilA)))))))
  (retS (cE (.bool false)))
  nxS)
  (retS (andE (op2 gtD (op2 ixD (vE 0) (cE (.int 1))) (cE (.int 0))) (op2 eqD (callE 2 m_divisor (consA (op2 ixD (vE 0) (cE (.int 0))) (consA (op2 ixD (vE 0) (cE (.int 1))) nilA))) (cE (.int 1))))))
def m_is_quotient : List PyData → R PyData := runB 1 b_is_quotient
def l1_is_colour : Ev → R PyData := lcE (itE (vE 0)) [1] (gN 1) yesT (op2 inD (vE 1) (cE cLETTERS))
def b_is_colour : SM := (retS (andE (op1 (isiD .str) (vE 0)) (andE (chainE leD leD (cE (.int 1)) (callB lenD (consA (vE 0) nilA)) (cE cMOST_LETTERS)) (callB allD (consA l1_is_colour nilA)))))
def m_is_colour : List PyData → R PyData := runB 2 b_is_colour
def b_is_lay : SM := (retS (andE (callE 1 m_is_quotient (consA (vE 0) nilA)) (andE (notE (callE 2 m_is_less (consA (vE 0) (consA (tupE (consA (cE (.int 1)) (consA (cE (.int 100)) nilA))) nilA)))) (notE (callE 2 m_is_less (consA (tupE (consA (cE (.int 100)) (consA (cE (.int 1)) nilA))) (consA (vE 0) nilA)))))))
def m_is_lay : List PyData → R PyData := runB 1 b_is_lay
def l1_check_colours : Ev → R PyData := lcE (itE (vE 0)) [1] (gN 1) yesT (callE 1 m_is_colour (consA (vE 1) nilA))
def b_check_colours : SM := (seqS (ifS (orT (notT (tvE (op1 (isiD .tuple) (vE 0)))) (notT (tvE (chainE leD leD (cE (.int 1)) (callB lenD (consA (vE 0) nilA)) (cE cMOST_STRANDS)))))
  (errS "BadColours")
  nxS)
  (ifS (notT (tvE (callB allD (consA l1_check_colours nilA))))
  (errS "BadColours")
  nxS))
def m_check_colours : List PyData → R PyData := runB 2 b_check_colours
def b__turned : SM := (seqS (setS 2 (op2 modD (vE 1) (callB lenD (consA (vE 0) nilA))))
  (retS (op2 addD (slE (vE 0) (pAt (vE 2)) pNo) (slE (vE 0) pNo (pAt (vE 2))))))
def m__turned : List PyData → R PyData := runB 3 b__turned
def l1__least_steps : Ev → R PyData := lcE (argI range2D (consA (cE (.int 1)) (consA (op2 addD (callB lenD (consA (vE 0) nilA)) (cE (.int 1))) nilA))) [1] (gN 1) (tvE (op2 eqD (callE 2 m__turned (consA (vE 0) (consA (vE 1) nilA))) (vE 0))) (vE 1)
def b__least_steps : SM := (retS (op2 ixD l1__least_steps (cE (.int 0))))
def m__least_steps : List PyData → R PyData := runB 2 b__least_steps
def b_least_steps : SM := (seqS (dropS (callE 1 m_check_colours (consA (vE 0) nilA)))
  (retS (callE 1 m__least_steps (consA (vE 0) nilA))))
def m_least_steps : List PyData → R PyData := runB 1 b_least_steps
def b_turned : SM := (seqS (dropS (callE 1 m_check_colours (consA (vE 0) nilA)))
  (seqS (ifS (notT (tvE (callE 1 m_is_integer (consA (vE 1) nilA))))
  (errS "BadSteps")
  nxS)
  (retS (callE 2 m__turned (consA (vE 0) (consA (vE 1) nilA))))))
def m_turned : List PyData → R PyData := runB 2 b_turned
def b__check_lay : SM := (ifS (notT (tvE (callE 1 m_is_lay (consA (vE 0) nilA))))
  (errS "BadLay")
  nxS)
def m__check_lay : List PyData → R PyData := runB 1 b__check_lay
def b__again : SM := (retS (callE 2 m_times (consA (vE 1) (consA (callE 2 m_quotient (consA (callE 1 m__least_steps (consA (vE 0) nilA)) (consA (callB lenD (consA (vE 0) nilA)) nilA))) nilA))))
def m__again : List PyData → R PyData := runB 2 b__again
def b_comes_again : SM := (seqS (dropS (callE 1 m_check_colours (consA (vE 0) nilA)))
  (seqS (dropS (callE 1 m__check_lay (consA (vE 1) nilA)))
  (retS (callE 2 m__again (consA (vE 0) (consA (vE 1) nilA))))))
def m_comes_again : List PyData → R PyData := runB 2 b_comes_again
def b_both_again : SM := (seqS (dropS (callE 1 m_check_colours (consA (vE 0) nilA)))
  (seqS (dropS (callE 1 m__check_lay (consA (vE 1) nilA)))
  (seqS (dropS (callE 1 m_check_colours (consA (vE 2) nilA)))
  (seqS (dropS (callE 1 m__check_lay (consA (vE 3) nilA)))
  (seqS (parS 4 5 (consA (callE 2 m__again (consA (vE 0) (consA (vE 1) nilA))) (consA (callE 2 m__again (consA (vE 2) (consA (vE 3) nilA))) nilA)))
  (seqS (setS 6 (callE 2 m_over (consA (vE 4) (consA (vE 5) nilA))))
  (retS (callE 2 m_times (consA (vE 4) (consA (tupE (consA (op2 ixD (vE 6) (cE (.int 1))) (consA (cE (.int 1)) nilA))) nilA))))))))))
def m_both_again : List PyData → R PyData := runB 7 b_both_again
def l1__least_turned : Ev → R PyData := lcE (argI range1D (consA (callB lenD (consA (vE 0) nilA)) nilA)) [1] (gN 1) yesT (callE 2 m__turned (consA (vE 0) (consA (vE 1) nilA)))
def b__least_turned : SM := (retS (callB minD (consA l1__least_turned nilA)))
def m__least_turned : List PyData → R PyData := runB 2 b__least_turned
def b_least_turned : SM := (seqS (dropS (callE 1 m_check_colours (consA (vE 0) nilA)))
  (retS (callE 1 m__least_turned (consA (vE 0) nilA))))
def m_least_turned : List PyData → R PyData := runB 1 b_least_turned
def b_same_rope : SM := (seqS (dropS (callE 1 m_check_colours (consA (vE 0) nilA)))
  (seqS (dropS (callE 1 m_check_colours (consA (vE 1) nilA)))
  (retS (op2 eqD (callE 1 m__least_turned (consA (vE 0) nilA)) (callE 1 m__least_turned (consA (vE 1) nilA))))))
def m_same_rope : List PyData → R PyData := runB 2 b_same_rope
def l1_turning : Ev → R PyData := lcE (argI range1D (consA (callB lenD (consA (vE 0) nilA)) nilA)) [3] (gN 3) (tvE (op2 eqD (callE 2 m__turned (consA (vE 0) (consA (vE 3) nilA))) (vE 1))) (vE 3)
def b_turning : SM := (seqS (dropS (callE 1 m_check_colours (consA (vE 0) nilA)))
  (seqS (dropS (callE 1 m_check_colours (consA (vE 1) nilA)))
  (seqS (setS 2 l1_turning)
  (retS (ifE (tvE (op2 gtD (callB lenD (consA (vE 2) nilA)) (cE (.int 0)))) (op2 ixD (vE 2) (cE (.int 0))) (cE .none))))))
def m_turning : List PyData → R PyData := runB 4 b_turning
def b__mirrored : SM := (retS (op2 addD (slE (vE 0) pNo (pAt (cE (.int 1)))) (op1 revD (slE (vE 0) (pAt (cE (.int 1))) pNo))))
def m__mirrored : List PyData → R PyData := runB 1 b__mirrored
def b_mirrored : SM := (seqS (dropS (callE 1 m_check_colours (consA (vE 0) nilA)))
  (retS (callE 1 m__mirrored (consA (vE 0) nilA))))
def m_mirrored : List PyData → R PyData := runB 1 b_mirrored
def b_is_even_handed : SM := (seqS (dropS (callE 1 m_check_colours (consA (vE 0) nilA)))
  (retS (op2 eqD (callE 1 m__least_turned (consA (callE 1 m__mirrored (consA (vE 0) nilA)) nilA)) (callE 1 m__least_turned (consA (vE 0) nilA)))))
def m_is_even_handed : List PyData → R PyData := runB 1 b_is_even_handed
def w1__law_draws : SM := (ifS (tvE (op2 gtD (vE 5) (cE (.int 0))))
  (seqS (appS 2 (op2 modD (callB int1D (consA (vE 5) nilA)) (cE (.int 1009))))
  (setS 5 (op2 fdivD (vE 5) (cE (.int 1009)))))
  nxS)
def w2__law_draws : SM := (seqS (setS 5 (callB absD (consA (vE 4) nilA)))
  (seqS (setS 3 (op2 modD (callB int1D (consA (op2 addD (op2 addD (op2 mulD (vE 3) (cE (.int 48271))) (vE 5)) (cE (.int 11))) nilA)) (cE (.int 2147483647))))
  (ifS (tvE (op2 geD (vE 5) (op2 powD (cE (.int 10)) (cE (.int 18)))))
  (forS (argI range1D (consA (cE (.int 60)) nilA)) (gN 6)
  w1__law_draws)
  (appS 2 (op2 modD (op2 fdivD (callB int1D (consA (op2 addD (op2 mulD (vE 3) (cE (.int 16807))) (cE (.int 5))) nilA)) (cE (.int 3))) (cE (.int 65521)))))))
def w3__law_draws : SM := (ifS (tvE (op2 ltD (callB lenD (consA (vB 2) nilA)) (vE 1)))
  (seqS (setS 3 (op2 modD (callB int1D (consA (op2 addD (op2 addD (op2 mulD (vE 3) (cE (.int 69621))) (vE 6)) (cE (.int 1))) nilA)) (cE (.int 2147483647))))
  (appS 2 (op2 modD (op2 fdivD (callB int1D (consA (vE 3) nilA)) (cE (.int 7))) (cE (.int 65521)))))
  nxS)
def b__law_draws : SM := (seqS (setLS 2 (lstE nilA))
  (seqS (setS 3 (cE (.int 7)))
  (seqS (forS (itE (slE (vE 0) pNo (pAt (cE (.int 63))))) (gN 4)
  w2__law_draws)
  (seqS (forS (argI range1D (consA (vE 1) nilA)) (gN 6)
  w3__law_draws)
  (retS (slE (vB 2) pNo (pAt (vE 1))))))))
def m__law_draws : List PyData → R PyData := runB 7 b__law_draws
def l1__law_colours : Ev → R PyData := lcE (argI range1D (consA (op2 addD (cE (.int 1)) (op2 modD (callB int1D (consA (op2 ixD (vE 0) (vE 1)) nilA)) (vE 2))) nilA)) [4] (gN 4) yesT (op2 ixD (lstE (consA (cE (.str "a")) (consA (cE (.str "b")) (consA (cE (.str "cc")) nilA)))) (op2 modD (callB int1D (consA (op2 ixD (vE 0) (op2 addD (op2 addD (vE 1) (cE (.int 1))) (vE 4))) nilA)) (vE 3)))
def b__law_colours : SM := (retS (callB tuple1D (consA l1__law_colours nilA)))
def m__law_colours : List PyData → R PyData := runB 5 b__law_colours
def w1__law_low : SM := (parS 2 3 (consA (vE 3) (consA (op2 modD (vE 2) (vE 3)) nilA)))
def t2__law_low : Ev → R Bool := (tvE (op2 gtD (vE 3) (cE (.int 0))))
def b__law_low : SM := (seqS (parS 2 3 (consA (vE 0) (consA (vE 1) nilA)))
  (seqS (whileM t2__law_low
  w1__law_low 1000000000)
  (retS (tupE (consA (op2 fdivD (vE 0) (vE 2)) (consA (op2 fdivD (vE 1) (vE 2)) nilA))))))
def m__law_low : List PyData → R PyData := runB 4 b__law_low
def l1__law_steps : Ev → R PyData := lcE (argI range1D (consA (vE 1) nilA)) [3] (gN 3) yesT (op2 eqD (op2 ixD (vE 0) (op2 modD (callB int1D (consA (op2 addD (vE 3) (vE 2)) nilA)) (vE 1))) (op2 ixD (vE 0) (vE 3)))
def l2__law_steps : Ev → R PyData := lcE (argI range2D (consA (cE (.int 1)) (consA (op2 addD (vE 1) (cE (.int 1))) nilA))) [2] (gN 2) (tvE (callB allD (consA l1__law_steps nilA))) (vE 2)
def b__law_steps : SM := (seqS (setS 1 (callB lenD (consA (vE 0) nilA)))
  (retS (callB minD (consA l2__law_steps nilA))))
def m__law_steps : List PyData → R PyData := runB 4 b__law_steps
def b__law_call : SM := (ifS (tvE (op2 eqD (vE 0) (cE (.int 0))))
  (dropS (callE 1 m_least_steps (consA (vE 1) nilA)))
  (ifS (tvE (op2 eqD (vE 0) (cE (.int 1))))
  (dropS (callE 2 m_turned (consA (vE 1) (consA (vE 2) nilA))))
  (ifS (tvE (op2 eqD (vE 0) (cE (.int 2))))
  (dropS (callE 2 m_comes_again (consA (vE 1) (consA (vE 2) nilA))))
  (ifS (tvE (op2 eqD (vE 0) (cE (.int 3))))
  (dropS (callE 4 m_both_again (consA (vE 1) (consA (vE 2) (consA (vE 3) (consA (vE 4) nilA))))))
  (ifS (tvE (op2 eqD (vE 0) (cE (.int 4))))
  (dropS (callE 1 m_least_turned (consA (vE 1) nilA)))
  (ifS (tvE (op2 eqD (vE 0) (cE (.int 5))))
  (dropS (callE 2 m_same_rope (consA (vE 1) (consA (vE 3) nilA))))
  (ifS (tvE (op2 eqD (vE 0) (cE (.int 6))))
  (dropS (callE 2 m_turning (consA (vE 1) (consA (vE 3) nilA))))
  (ifS (tvE (op2 eqD (vE 0) (cE (.int 7))))
  (dropS (callE 1 m_mirrored (consA (vE 1) nilA)))
  (dropS (callE 1 m_is_even_handed (consA (vE 1) nilA)))))))))))
def m__law_call : List PyData → R PyData := runB 5 b__law_call
def b__law_word : SM := (seqS (tryS (dropS (callE 5 m__law_call (consA (vE 0) (consA (vE 1) (consA (vE 2) (consA (vE 3) (consA (vE 4) nilA))))))) [(mtBadColours, (retS (cE (.str "colours")))), (mtBadLay, (retS (cE (.str "lay")))), (mtBadSteps, (retS (cE (.str "steps"))))])
  (retS (cE (.str "none"))))
def m__law_word : List PyData → R PyData := runB 5 b__law_word
def l1_law : Ev → R PyData := lcE (argI range1D (consA (vE 9) nilA)) [19] (gN 19) yesT (op2 ixD (vE 3) (op2 modD (callB int1D (consA (op2 addD (vE 19) (vE 11)) nilA)) (vE 9)))
def w2_law : SM := (ifS (tvE (op2 neD (callE 2 m_turned (consA (vE 3) (consA (vE 11) nilA))) (callB tuple1D (consA l1_law nilA))))
  (retS (cE (.bool false)))
  nxS)
def w3_law : SM := (setS 15 (op2 addD (vE 15) (vE 13)))
def t4_law : Ev → R Bool := (tvE (op2 neD (op2 modD (callB int1D (consA (vE 15) nilA)) (vE 14)) (cE (.int 0))))
def l5_law : Ev → R PyData := lcE (argI range1D (consA (cE (.int 9)) nilA)) [18] (gN 18) yesT (callE 5 m__law_word (consA (vE 18) (consA (vE 16) (consA (tupE (consA (cE (.int 1)) (consA (cE (.int 1)) nilA))) (consA (vE 4) (consA (tupE (consA (cE (.int 1)) (consA (cE (.int 1)) nilA))) nilA))))))
def l6_law : Ev → R PyData := lcE (itE (tupE (consA (cE (.int 3)) (consA (cE (.int 5)) (consA (cE (.int 6)) nilA))))) [18] (gN 18) yesT (callE 5 m__law_word (consA (vE 18) (consA (vE 3) (consA (tupE (consA (cE (.int 1)) (consA (cE (.int 1)) nilA))) (consA (vE 16) (consA (tupE (consA (cE (.int 1)) (consA (cE (.int 1)) nilA))) nilA))))))
def w7_law : SM := (seqS (setS 17 (op2 addD l5_law l6_law))
  (ifS (tvE (op2 neD (vE 17) (repE (lstE (consA (cE (.str "colours")) nilA)) (cE (.int 12)))))
  (retS (cE (.bool false)))
  nxS))
def w8_law : SM := (ifS (orT (tvE (op2 neD (callE 5 m__law_word (consA (cE (.int 2)) (consA (vE 3) (consA (vE 16) (consA (cE .none) (consA (cE .none) nilA)))))) (cE (.str "lay")))) (orT (tvE (op2 neD (callE 5 m__law_word (consA (cE (.int 3)) (consA (vE 3) (consA (vE 16) (consA (cE .none) (consA (cE .none) nilA)))))) (cE (.str "lay")))) (tvE (op2 neD (callE 5 m__law_word (consA (cE (.int 3)) (consA (vE 3) (consA (tupE (consA (cE (.int 1)) (consA (cE (.int 1)) nilA))) (consA (vE 4) (consA (vE 16) nilA)))))) (cE (.str "lay"))))))
  (retS (cE (.bool false)))
  nxS)
def l9_law : Ev → R PyData := lcE (itE (lstE (consA (cE .none) (consA (cE (.bool true)) (consA (cE (.str "1")) (consA (tupE (consA (cE (.int 1)) nilA)) nilA)))))) [16] (gN 16) yesT (op2 eqD (callE 5 m__law_word (consA (cE (.int 1)) (consA (vE 3) (consA (vE 16) (consA (cE .none) (consA (cE .none) nilA)))))) (cE (.str "steps")))
def w10_law : SM := (seqS (asgS (tupE (consA (callE 4 m__law_colours (consA (vE 1) (consA (op2 mulD (cE (.int 9)) (vE 2)) (consA (op2 ixD (lstE (consA (cE (.int 8)) (consA (cE (.int 12)) (consA (cE (.int 4)) (consA (cE (.int 3)) (consA (cE (.int 6)) nilA)))))) (vE 2)) (consA (op2 ixD (lstE (consA (cE (.int 2)) (consA (cE (.int 3)) (consA (cE (.int 2)) (consA (cE (.int 1)) (consA (cE (.int 3)) nilA)))))) (vE 2)) nilA))))) (consA (callE 4 m__law_colours (consA (vE 1) (consA (op2 addD (op2 mulD (cE (.int 9)) (vE 2)) (cE (.int 4))) (consA (op2 ixD (lstE (consA (cE (.int 5)) (consA (cE (.int 4)) (consA (cE (.int 6)) (consA (cE (.int 3)) (consA (cE (.int 8)) nilA)))))) (vE 2)) (consA (cE (.int 2)) nilA))))) nilA))) (gT 2 (gsCons (gN 3) (gsCons (gN 4) gsNil))))
  (seqS (ifS (tvE (op2 eqD (op2 modD (vE 2) (cE (.int 2))) (cE (.int 1))))
  (setS 3 (op2 mulD (slE (vE 3) pNo (pAt (cE (.int 4)))) (op2 addD (cE (.int 1)) (op2 modD (callB int1D (consA (op2 ixD (vE 1) (cE (.int 50))) nilA)) (cE (.int 3))))))
  nxS)
  (seqS (parS 5 6 (consA (callE 2 m__law_low (consA (op2 addD (cE (.int 1)) (op2 modD (callB int1D (consA (op2 ixD (vE 1) (op2 addD (cE (.int 51)) (vE 2))) nilA)) (cE (.int 30)))) (consA (op2 addD (cE (.int 1)) (op2 modD (callB int1D (consA (op2 ixD (vE 1) (op2 addD (cE (.int 52)) (vE 2))) nilA)) (cE (.int 6)))) nilA))) (consA (callE 2 m__law_low (consA (op2 addD (cE (.int 1)) (op2 modD (callB int1D (consA (op2 ixD (vE 1) (op2 addD (cE (.int 53)) (vE 2))) nilA)) (cE (.int 12)))) (consA (op2 addD (cE (.int 1)) (op2 modD (callB int1D (consA (op2 ixD (vE 1) (op2 addD (cE (.int 54)) (vE 2))) nilA)) (cE (.int 5)))) nilA))) nilA)))
  (seqS (asgS (tupE (consA (callE 1 m__law_steps (consA (vE 3) nilA)) (consA (callE 1 m__law_steps (consA (vE 4) nilA)) (consA (callB lenD (consA (vE 3) nilA)) (consA (callB lenD (consA (vE 4) nilA)) nilA))))) (gT 4 (gsCons (gN 7) (gsCons (gN 8) (gsCons (gN 9) (gsCons (gN 10) gsNil))))))
  (seqS (ifS (orT (tvE (op2 neD (callE 1 m_least_steps (consA (vE 3) nilA)) (vE 7))) (orT (tvE (op2 neD (callE 1 m_least_steps (consA (vE 4) nilA)) (vE 8))) (tvE (op2 neD (op2 modD (callB int1D (consA (vE 9) nilA)) (vE 7)) (cE (.int 0))))))
  (retS (cE (.bool false)))
  nxS)
  (seqS (forS (itE (lstE (consA (cE (.int 0)) (consA (cE (.int 1)) (consA (op1 negD (cE (.int 1))) (consA (vE 9) (consA (op2 subD (callB int1D (consA (op2 ixD (vE 1) (cE (.int 56))) nilA)) (cE (.int 30000))) (consA (op2 addD (op2 powD (cE (.int 10)) (cE (.int 20))) (cE (.int 3))) (consA (vE 7) nilA))))))))) (gN 11)
  w2_law)
  (seqS (ifS (tvE (op2 neD (callE 2 m_comes_again (consA (vE 3) (consA (vE 5) nilA))) (callE 2 m__law_low (consA (op2 mulD (op2 ixD (vE 5) (cE (.int 0))) (vE 7)) (consA (op2 mulD (op2 ixD (vE 5) (cE (.int 1))) (vE 9)) nilA)))))
  (retS (cE (.bool false)))
  nxS)
  (seqS (setS 12 (op2 mulD (op2 mulD (op2 mulD (op2 ixD (vE 5) (cE (.int 1))) (vE 9)) (op2 ixD (vE 6) (cE (.int 1)))) (vE 10)))
  (seqS (parS 13 14 (consA (op2 mulD (op2 mulD (op2 ixD (vE 5) (cE (.int 0))) (vE 7)) (op2 fdivD (vE 12) (op2 mulD (op2 ixD (vE 5) (cE (.int 1))) (vE 9)))) (consA (op2 mulD (op2 mulD (op2 ixD (vE 6) (cE (.int 0))) (vE 8)) (op2 fdivD (vE 12) (op2 mulD (op2 ixD (vE 6) (cE (.int 1))) (vE 10)))) nilA)))
  (seqS (setS 15 (vE 13))
  (seqS (whileM t4_law
  w3_law 1000000000)
  (seqS (ifS (orT (tvE (op2 neD (callE 4 m_both_again (consA (vE 3) (consA (vE 5) (consA (vE 4) (consA (vE 6) nilA))))) (callE 2 m__law_low (consA (vE 15) (consA (vE 12) nilA))))) (tvE (op2 neD (callE 4 m_both_again (consA (vE 4) (consA (vE 6) (consA (vE 3) (consA (vE 5) nilA))))) (callE 2 m__law_low (consA (vE 15) (consA (vE 12) nilA))))))
  (retS (cE (.bool false)))
  nxS)
  (seqS (forS (itE (lstE (consA (cE .none) (consA (tupE nilA) (consA (callB list1D (consA (vE 3) nilA)) (consA (op2 mulD (tupE (consA (cE (.str "a")) nilA)) (cE (.int 13))) (consA (tupE (consA (cE (.str "")) nilA)) (consA (tupE (consA (cE (.str "A")) nilA)) (consA (tupE (consA (cE (.str "abcdefghi")) nilA)) (consA (tupE (consA (cE (.int 5)) nilA)) (consA (cE (.str "aa")) (consA (op2 addD (vE 3) (tupE (consA (cE .none) nilA))) nilA)))))))))))) (gN 16)
  w7_law)
  (seqS (forS (itE (lstE (consA (cE .none) (consA (tupE (consA (cE (.int 1)) (consA (cE (.int 101)) nilA))) (consA (tupE (consA (cE (.int 101)) (consA (cE (.int 1)) nilA))) (consA (tupE (consA (cE (.int 0)) (consA (cE (.int 1)) nilA))) (consA (tupE (consA (cE (.int 2)) (consA (cE (.int 2)) nilA))) (consA (tupE (consA (op1 negD (cE (.int 1))) (consA (cE (.int 1)) nilA))) (consA (tupE (consA (cE (.bool true)) (consA (cE (.int 1)) nilA))) (consA (lstE (consA (cE (.int 1)) (consA (cE (.int 1)) nilA))) (consA (cE (.int 1)) nilA))))))))))) (gN 16)
  w8_law)
  (ifS (notT (tvE (callB allD (consA l9_law nilA))))
  (retS (cE (.bool false)))
  nxS)))))))))))))))
def b_law : SM := (seqS (setS 1 (callE 2 m__law_draws (consA (vE 0) (consA (cE (.int 60)) nilA))))
  (seqS (forS (argI range1D (consA (cE (.int 5)) nilA)) (gN 2)
  w10_law)
  (seqS (ifS (orT (tvE (op2 neD (callE 2 m_comes_again (consA (tupE (consA (cE (.str "a")) (consA (cE (.str "b")) (consA (cE (.str "a")) (consA (cE (.str "b")) nilA))))) (consA (tupE (consA (cE (.int 6)) (consA (cE (.int 1)) nilA))) nilA))) (tupE (consA (cE (.int 3)) (consA (cE (.int 1)) nilA))))) (orT (tvE (op2 neD (callE 4 m_both_again (consA (tupE (consA (cE (.str "a")) nilA)) (consA (tupE (consA (cE (.int 4)) (consA (cE (.int 1)) nilA))) (consA (tupE (consA (cE (.str "a")) nilA)) (consA (tupE (consA (cE (.int 6)) (consA (cE (.int 1)) nilA))) nilA))))) (tupE (consA (cE (.int 12)) (consA (cE (.int 1)) nilA))))) (tvE (op2 neD (callE 4 m_both_again (consA (tupE (consA (cE (.str "a")) (consA (cE (.str "b")) nilA))) (consA (tupE (consA (cE (.int 1)) (consA (cE (.int 2)) nilA))) (consA (tupE (consA (cE (.str "a")) nilA)) (consA (tupE (consA (cE (.int 1)) (consA (cE (.int 3)) nilA))) nilA))))) (tupE (consA (cE (.int 1)) (consA (cE (.int 1)) nilA)))))))
  (retS (cE (.bool false)))
  nxS)
  (retS (andE (op2 eqD (callE 1 m_least_steps (consA (tupE (consA (cE (.str "a")) (consA (cE (.str "a")) (consA (cE (.str "a")) nilA)))) nilA)) (cE (.int 1))) (andE (op2 eqD (callE 2 m_turned (consA (tupE (consA (cE (.str "a")) (consA (cE (.str "b")) (consA (cE (.str "cc")) nilA)))) (consA (op1 negD (cE (.int 1))) nilA))) (tupE (consA (cE (.str "cc")) (consA (cE (.str "a")) (consA (cE (.str "b")) nilA))))) (op2 eqD (callE 2 m_comes_again (consA (tupE (consA (cE (.str "a")) (consA (cE (.str "b")) (consA (cE (.str "cc")) nilA)))) (consA (tupE (consA (cE (.int 1)) (consA (cE (.int 100)) nilA))) nilA))) (tupE (consA (cE (.int 1)) (consA (cE (.int 100)) nilA))))))))))
def m_law : List PyData → R PyData := runB 20 b_law
end G
namespace G
open PySem PySem.Spec PyProof.Rows L2 PD PySem.W
/-! ## colours -/
def Col (s : Str) : Prop := s = "a" ∨ s = "b" ∨ s = "cc"
def T (xs : List Str) : PyData := .tuple (xs.map .str)
structure Rp (xs : List Str) : Prop where
  ne : xs ≠ []
  len : xs.length ≤ 12
  col : ∀ s ∈ xs, Col s
theorem Rp.pos {xs : List Str} (h : Rp xs) : 0 < xs.length := List.length_pos_iff.mpr h.ne
theorem e_is_integer (k : Int) : m_is_integer [.int k] = .ok (.bool true) := by
  unfold m_is_integer
  rw [runB_ap]
  unfold b_is_integer
  simp [isiB]
theorem e_is_colour {s : Str} (h : Col s) : m_is_colour [.str s] = .ok (.bool true) := by
  rcases h with rfl | rfl | rfl <;> kernel_rfl
theorem e_check {xs : List Str} (h : Rp xs) : m_check_colours [T xs] = .ok .none := by
  have hp := h.pos
  have hl := h.len
  have hc : l1_check_colours [.d (T xs), .un] = .ok (.list (xs.map fun _ => .bool true)) := by
    unfold l1_check_colours
    refine lcE_all (enc := .str) xs rfl (by show xs.length ≤ 16777216; omega) fun s hs => ⟨_, rfl, ?_⟩
    simp [wipeE, e_is_colour (h.col s hs)]
  have hb := all_f (fun _ => true) xs
  unfold m_check_colours
  rw [runB_ap]
  unfold b_check_colours
  have h1 : (1 : Int) ≤ (xs.length : Int) := by omega
  have h2 : (xs.length : Int) ≤ 12 := by omega
  simp [T, isiB, h1, h2]
  rw [show PyData.tuple (xs.map .str) = T xs from rfl, hc, bind_ok, bind_ok, hb, show (xs.all fun _ => true) = true from List.all_eq_true.mpr fun _ _ => rfl]
  simp
theorem e_turnedD {ds : List PyData} (hp : 0 < ds.length) (hl : ds.length ≤ 12) (k : Nat) : m__turned [.tuple ds, .int k] = .ok (.tuple (rot ds (k % ds.length))) := by
  have hm : k % ds.length < ds.length := Nat.mod_lt _ hp
  have e := addT (us := ds.drop (k % ds.length)) (vs := ds.take (k % ds.length)) (by rw [List.length_drop, List.length_take]; omega)
  have c1 := cut_drop ds (k % ds.length)
  have c2 := cut_take ds (k % ds.length)
  unfold m__turned
  rw [runB_ap]
  unfold b__turned
  simp [modN hp]
  rw [← Int.natCast_emod, c1, c2, e]
  rfl
theorem e_turned {xs : List Str} (h : Rp xs) (k : Nat) : m__turned [T xs, .int k] = .ok (T (rot xs (k % xs.length))) := by
  have := e_turnedD (ds := xs.map PyData.str) (by rw [List.length_map]; exact h.pos) (by rw [List.length_map]; exact h.len) k
  rw [List.length_map, rot_map] at this
  exact this
/-- the turned ones, as they stand in a list -/
def RL (xs : List Str) : List PyData := (rots xs).map T
theorem RL_toD (xs : List Str) : RL xs = ((rots xs).map Tup.mk).map Datum.toD := by
  unfold RL
  rw [List.map_map]
  rfl
theorem min_RL {xs : List Str} (h : Rp xs) : PD.minD [.list (RL xs)] = .ok (T (minR xs).items) := by
  have h0 := rots_cons h.pos
  have e1 := min_t (α := Tup Str) (by decide) ⟨xs⟩ ((rots xs).tail.map Tup.mk)
  have e2 : (rots xs).map Tup.mk = (⟨xs⟩ : Tup Str) :: (rots xs).tail.map Tup.mk := by
    rw [← List.map_cons, ← h0]
  rw [RL_toD, e2, e1]
  have e3 : minOf (⟨xs⟩ : Tup Str) ((rots xs).tail.map Tup.mk) = minR xs := by
    unfold minR
    refine minOf_same fun z => ?_
    rw [e2]
    simp
  rw [e3]
  rfl
theorem e__least_turned {xs : List Str} (h : Rp xs) : m__least_turned [T xs] = .ok (T (minR xs).items) := by
  have hp := h.pos
  have hl := h.len
  have hc : l1__least_turned [.d (T xs), .un] = .ok (.list (RL xs)) := by
    unfold l1__least_turned
    have r : range1D [.int (xs.length : Int)] = .ok ((List.range xs.length).map fun k : Nat => PyData.int k) := rangeN (by omega)
    have := lcE_all (mi := argI range1D (consA (callB lenD (consA (vE 0) nilA)) nilA)) (vs := [1]) (g := gN 1) (e := callE 2 m__turned (consA (vE 0) (consA (vE 1) nilA))) (ρ := [.d (T xs), .un]) (enc := fun k : Nat => PyData.int k) (f := fun k => T (rot xs k)) (List.range xs.length)
      (by simp [T, r]) (by rw [List.length_range]; show xs.length ≤ 16777216; omega) fun k hk => ⟨_, rfl, by
        have hk2 := List.mem_range.mp hk
        have := e_turned h k
        rw [Nat.mod_eq_of_lt hk2] at this
        simp [wipeE, this]⟩
    rw [this]
    unfold RL rots
    rw [List.map_map]
    rfl
  unfold m__least_turned
  rw [runB_ap]
  unfold b__least_turned
  have e5 : (List.map Sl.d [T xs] ++ List.replicate (2 - [T xs].length) Sl.un) = [.d (T xs), .un] := rfl
  rw [e5]
  simp [hc, min_RL h]
theorem e_least_turned {xs : List Str} (h : Rp xs) : m_least_turned [T xs] = .ok (T (minR xs).items) := by
  unfold m_least_turned
  rw [runB_ap]
  unfold b_least_turned
  simp [e_check h, e__least_turned h]
theorem eqT (xs ys : List Str) : eqD (T xs) (T ys) = .ok (.bool (decide (xs = ys))) := by
  have := eq_t (α := Tup Str) (by decide) ⟨xs⟩ ⟨ys⟩
  simp only [Tup.mk.injEq] at this
  exact this
theorem neT (xs ys : List Str) : neD (T xs) (T ys) = .ok (.bool (!decide (xs = ys))) := by
  have := ne_t (α := Tup Str) (by decide) ⟨xs⟩ ⟨ys⟩
  simp only [Tup.mk.injEq] at this
  exact this
theorem items_eq {a b : Tup Str} : a.items = b.items ↔ a = b := ⟨fun e => by cases a; cases b; cases e; rfl, fun e => by rw [e]⟩
theorem e_same_rope {xs ys : List Str} (h : Rp xs) (h2 : Rp ys) : m_same_rope [T xs, T ys] = .ok (.bool (decide (ys ∈ rots xs))) := by
  unfold m_same_rope
  rw [runB_ap]
  unfold b_same_rope
  simp [e_check h, e_check h2, e__least_turned h, e__least_turned h2, eqT, items_eq, minR_iff h.ne h2.ne]
theorem RL_length (xs : List Str) : (RL xs).length = xs.length := by
  unfold RL rots
  simp
/-- the first place at which xs turned is ys -/
def fst (xs ys : List Str) : Option Nat := (List.range xs.length).find? fun s => decide (rot xs s = ys)
def optD : Option Nat → PyData
  | some k => .int k
  | none => .none
theorem e_turning {xs ys : List Str} (h : Rp xs) (h2 : Rp ys) : m_turning [T xs, T ys] = .ok (optD (fst xs ys)) := by
  have hp := h.pos
  have hl := h.len
  have hc : l1_turning [.d (T xs), .d (T ys), .un, .un] = .ok (.list (((List.range xs.length).filter fun s => decide (rot xs s = ys)).map fun k : Nat => PyData.int k)) := by
    unfold l1_turning
    have r : range1D [.int (xs.length : Int)] = .ok ((List.range xs.length).map fun k : Nat => PyData.int k) := rangeN (by omega)
    refine lcE_of (enc := fun k : Nat => PyData.int k) (p := fun s => decide (rot xs s = ys)) (f := fun k : Nat => PyData.int k) (List.range xs.length) (by simp [T, r]) (by rw [List.length_range]; show xs.length ≤ 16777216; omega) fun k hk => ⟨_, rfl, ?_, fun _ => ?_⟩
    · have hk2 := List.mem_range.mp hk
      have := e_turned h k
      rw [Nat.mod_eq_of_lt hk2] at this
      simp [wipeE, this, eqT]
    · simp [wipeE]
  unfold m_turning
  rw [runB_ap]
  unfold b_turning
  have e5 : (List.map Sl.d [T xs, T ys] ++ List.replicate (4 - [T xs, T ys].length) Sl.un) = [.d (T xs), .d (T ys), .un, .un] := rfl
  rw [e5]
  have hh : ((List.range xs.length).filter fun s => decide (rot xs s = ys)).head? = fst xs ys := List.head?_filter ..
  generalize hz : ((List.range xs.length).filter fun s => decide (rot xs s = ys)) = zs at hc hh
  simp [e_check h, e_check h2, hc]
  cases zs with
  | nil =>
    rw [← hh]
    simp [optD]
  | cons z zs =>
    rw [← hh]
    have := ixL (ds := .int (z : Int) :: zs.map fun k : Nat => PyData.int k) (k := 0) (by simp)
    have e0 : ((0 : Nat) : Int) = 0 := rfl
    rw [e0] at this
    simp [optD, this]
theorem e_m_turned {xs : List Str} (h : Rp xs) {k : Nat} (hk : k < xs.length) : m_turned [T xs, .int k] = .ok (T (rot xs k)) := by
  unfold m_turned
  rw [runB_ap]
  unfold b_turned
  have := e_turned h k
  rw [Nat.mod_eq_of_lt hk] at this
  simp [e_check h, e_is_integer, this]
def lst (xs : List Str) : Option Nat := ((List.range xs.length).map fun k => 1 + k).find? fun s => decide (rot xs (s % xs.length) = xs)
theorem e_least_steps {xs : List Str} (h : Rp xs) : ∃ p : Nat, m_least_steps [T xs] = .ok (.int p) ∧ 0 < p ∧ p ≤ xs.length ∧ rot xs (p % xs.length) = xs := by
  have hp := h.pos
  have hl := h.len
  have hc : l1__least_steps [.d (T xs), .un]
      = .ok (.list ((((List.range xs.length).map fun k => 1 + k).filter fun s => decide (rot xs (s % xs.length) = xs)).map fun k : Nat => PyData.int k)) := by
    unfold l1__least_steps
    have r : range2D [.int 1, .int ((xs.length : Int) + 1)] = .ok (((List.range xs.length).map fun k => 1 + k).map fun k : Nat => PyData.int k) := by
      rw [range2_ok (by decide) (by unfold smallI; omega), rangeL_map2, List.map_map]
      have e1 : ((xs.length : Int) + 1 - 1).toNat = xs.length := by omega
      rw [e1]
      congr 1
    refine lcE_of (enc := fun k : Nat => PyData.int k) (p := fun s => decide (rot xs (s % xs.length) = xs)) (f := fun k : Nat => PyData.int k) ((List.range xs.length).map fun k => 1 + k) (by simp [T]; rw [r]; simp) (by rw [List.length_map, List.length_range]; show xs.length ≤ 16777216; omega) fun k hk => ⟨_, rfl, ?_, fun _ => ?_⟩
    · have := e_turned h k
      simp [wipeE, this, eqT]
    · simp [wipeE]
  have hh : (((List.range xs.length).map fun k => 1 + k).filter fun s => decide (rot xs (s % xs.length) = xs)).head? = lst xs := List.head?_filter ..
  have hm : xs.length ∈ ((List.range xs.length).map fun k => 1 + k).filter fun s => decide (rot xs (s % xs.length) = xs) := by
    refine List.mem_filter.mpr ⟨List.mem_map.mpr ⟨xs.length - 1, List.mem_range.mpr (by omega), by omega⟩, ?_⟩
    rw [Nat.mod_self, rot_zero]
    simp
  have hin : ∀ z ∈ ((List.range xs.length).map fun k => 1 + k).filter fun s => decide (rot xs (s % xs.length) = xs), 0 < z ∧ z ≤ xs.length ∧ rot xs (z % xs.length) = xs := fun z hz => by
    obtain ⟨h1, h2⟩ := List.mem_filter.mp hz
    obtain ⟨k, hk, rfl⟩ := List.mem_map.mp h1
    have := List.mem_range.mp hk
    exact ⟨by omega, by omega, of_decide_eq_true h2⟩
  generalize hz : (((List.range xs.length).map fun k => 1 + k).filter fun s => decide (rot xs (s % xs.length) = xs)) = zs at hc hh hm hin
  cases zs with
  | nil => cases hm
  | cons z zs =>
    refine ⟨z, ?_, hin z (by simp)⟩
    have := ixL (ds := .int (z : Int) :: zs.map fun k : Nat => PyData.int k) (k := 0) (by simp)
    have e0 : ((0 : Nat) : Int) = 0 := rfl
    rw [e0] at this
    have e1 : m__least_steps [T xs] = .ok (.int z) := by
      unfold m__least_steps
      rw [runB_ap]
      unfold b__least_steps
      have e5 : (List.map Sl.d [T xs] ++ List.replicate (2 - [T xs].length) Sl.un) = [.d (T xs), .un] := rfl
      rw [e5]
      simp [hc, this]
    unfold m_least_steps
    rw [runB_ap]
    unfold b_least_steps
    simp [e_check h, e1]
/-! ## mirrors -/
def mir {α : Type} (xs : List α) : List α := xs.take 1 ++ (xs.drop 1).reverse
theorem mir_mir {α : Type} (xs : List α) : mir (mir xs) = xs := by
  cases xs with
  | nil => rfl
  | cons x xs => simp [mir]
theorem mir_length {α : Type} (xs : List α) : (mir xs).length = xs.length := by
  cases xs with
  | nil => rfl
  | cons x xs => simp [mir]
theorem mir_get {α : Type} {xs : List α} {k : Nat} (hk : k < xs.length) : (mir xs)[k]? = xs[(xs.length - k) % xs.length]? := by
  cases xs with
  | nil => cases hk
  | cons x xs =>
    cases k with
    | zero => simp [mir]
    | succ k =>
      rw [Nat.mod_eq_of_lt (by simp; omega)]
      have hk2 : k < xs.length := by simpa using hk
      have e1 : mir (x :: xs) = x :: xs.reverse := by simp [mir]
      rw [e1, List.getElem?_cons_succ, List.getElem?_reverse hk2]
      have e2 : (x :: xs).length - (k + 1) = (xs.length - 1 - k) + 1 := by simp; omega
      rw [e2, List.getElem?_cons_succ]
theorem mir_map {α β : Type} (f : α → β) (xs : List α) : mir (xs.map f) = (mir xs).map f := by
  unfold mir
  simp
theorem mir_mem {α : Type} {xs : List α} {x : α} (h : x ∈ mir xs) : x ∈ xs := by
  cases xs with
  | nil => exact h
  | cons y ys => simpa [mir] using h
theorem Rp.mir {xs : List Str} (h : Rp xs) : Rp (mir xs) := ⟨fun e => by have := mir_length xs; rw [e] at this; exact h.ne (List.length_eq_zero_iff.mp this.symm), by rw [mir_length]; exact h.len, fun s hs => h.col s (mir_mem hs)⟩
theorem e__mirrored {xs : List Str} (h : Rp xs) : m__mirrored [T xs] = .ok (T (G.mir xs)) := by
  have hl := h.len
  have e : m__mirrored [.tuple (xs.map PyData.str)] = .ok (.tuple (G.mir (xs.map PyData.str))) := by
    have hl2 : (xs.map PyData.str).length ≤ 12 := by rw [List.length_map]; exact hl
    generalize xs.map PyData.str = ds at hl2
    have c1 := cut_take ds 1
    have c2 := cut_drop ds 1
    have a := addT (us := ds.take 1) (vs := (ds.drop 1).reverse) (by rw [List.length_take, List.length_reverse, List.length_drop]; omega)
    unfold m__mirrored
    rw [runB_ap]
    unfold b__mirrored
    have e0 : ((1 : Nat) : Int) = 1 := rfl
    rw [e0] at c1 c2
    simp only [runB_ap, seqS_ap, op1_ap, op2_ap, vE_ap, cE_ap, bind_ok, List.map_cons, List.map_nil, List.cons_append, List.nil_append, List.getElem?_cons_zero, ofS_d, retS_ap, slE_ap, pAt_ap, pNo_ap, intD_ap, slD_tuple, c1, c2, rev_tuple, a, outR_rt]
    rfl
  rw [mir_map] at e
  exact e
theorem e_mirrored {xs : List Str} (h : Rp xs) : m_mirrored [T xs] = .ok (T (G.mir xs)) := by
  unfold m_mirrored
  rw [runB_ap]
  unfold b_mirrored
  simp [e_check h, e__mirrored h]
theorem e_even {xs : List Str} (h : Rp xs) : m_is_even_handed [T xs] = .ok (.bool (decide (G.mir xs ∈ rots xs))) := by
  unfold m_is_even_handed
  rw [runB_ap]
  unfold b_is_even_handed
  have e : (minR (G.mir xs) = minR xs) = (G.mir xs ∈ rots xs) := propext ⟨fun q => (minR_iff h.ne h.mir.ne).mp q.symm, fun q => ((minR_iff h.ne h.mir.ne).mpr q).symm⟩
  simp [e_check h, e__mirrored h, e__least_turned h, e__least_turned h.mir, eqT, items_eq, e]
end G
namespace G
open PySem PySem.Spec PyProof.Rows L2 PD PySem.W
/-! ## whole numbers told as quotients -/
def low (a b : Nat) : PyData := .tuple [.int ((a / Nat.gcd a b : Nat) : Int), .int ((b / Nat.gcd a b : Nat) : Int)]
theorem low_mul {k : Nat} (hk : 0 < k) (a b : Nat) : low (k * a) (k * b) = low a b := by
  unfold low
  rw [Nat.gcd_mul_left, Nat.mul_div_mul_left _ _ hk, Nat.mul_div_mul_left _ _ hk]
theorem low_eq {a b c d : Nat} (hb : 0 < b) (hd : 0 < d) (h : a * d = c * b) : low a b = low c d := by
  rw [← low_mul hd a b, ← low_mul hb c d, Nat.mul_comm d a, h, Nat.mul_comm c b, Nat.mul_comm d b]
theorem gcdStep (x y : Nat) : Nat.gcd y (x % y) = Nat.gcd x y := by
  rw [Nat.gcd_comm y (x % y), ← Nat.gcd_rec, Nat.gcd_comm]
theorem modNN (x : Nat) {y : Nat} (h : 0 < y) : modD (.int x) (.int y) = .ok (.int ((x % y : Nat) : Int)) := modN h
theorem fdivNN (x : Nat) {y : Nat} (h : 0 < y) (h2 : y < 1000000000) : fdivD (.int x) (.int y) = .ok (.int ((x / y : Nat) : Int)) := by
  rw [fdiv_ii (by omega) (by omega)]
  rfl
theorem mulNN (x y : Nat) (h : x < 18446744073709551616) : mulD (.int x) (.int y) = .ok (.int ((x * y : Nat) : Int)) := by
  rw [mul_ii (.inl (by omega))]
  congr 2
theorem e_divisor (a b : Nat) (hb : b < 100000000) : m_divisor [.int a, .int b] = .ok (.int ((Nat.gcd a b : Nat) : Int)) := by
  obtain ⟨ρ', e, x, hx⟩ := whileM_inv (c := t2_divisor) (b := w1_divisor) (I := fun m ρ => ∃ x y : Nat, ρ = [.d (.int x), .d (.int y)] ∧ y = m ∧ Nat.gcd x y = Nat.gcd a b) (Q := fun ρ => ∃ x : Sl, ρ = [.d (.int ((Nat.gcd a b : Nat) : Int)), x])
    (fun m ρ hi => by
      obtain ⟨x, y, rfl, rfl, hg⟩ := hi
      by_cases hy : 0 < y
      · refine .inr ⟨by unfold t2_divisor; simp [hy], [.d (.int y), .d (.int ((x % y : Nat) : Int))], x % y, ?_, Nat.mod_lt _ hy, y, x % y, rfl, rfl, by rw [gcdStep, hg]⟩
        unfold w1_divisor
        rw [parS_ap _ _ _ _ (.int y) (.int ((x % y : Nat) : Int)) (by simp only [consA_ap, nilA_ap, op2_ap, vE_ap, List.getElem?_cons_zero, List.getElem?_cons_succ, ofS_d, bind_ok, modNN x hy])]
        rfl
      · have h0 : y = 0 := by omega
        subst h0
        rw [Nat.gcd_zero_right] at hg
        exact .inl ⟨by unfold t2_divisor; simp, .d (.int ((0 : Nat) : Int)), by rw [hg]⟩) 1000000000 b [.d (.int a), .d (.int b)] (by omega) ⟨a, b, rfl, rfl, rfl⟩
  subst hx
  unfold m_divisor
  rw [runB_ap]
  unfold b_divisor
  rw [show (List.map Sl.d [PyData.int (a : Int), .int b] ++ List.replicate (2 - [PyData.int (a : Int), .int b].length) Sl.un) = [.d (.int a), .d (.int b)] from rfl]
  rw [seqS_ap, parS_ap _ _ _ _ (.int a) (.int b) (by simp), thenS_nx]
  simp only [List.set_cons_zero, List.set_cons_succ, seqS_ap]
  rw [e]
  simp
theorem e_quotient (a b : Nat) (h0 : 0 < b) (hb : b < 100000000) : m_quotient [.int a, .int b] = .ok (low a b) := by
  have hg : 0 < Nat.gcd a b := Nat.gcd_pos_of_pos_right _ h0
  have hl : Nat.gcd a b ≤ b := Nat.le_of_dvd h0 (Nat.gcd_dvd_right _ _)
  have f1 := fdivNN a hg (by omega)
  have f2 := fdivNN b hg (by omega)
  unfold m_quotient
  rw [runB_ap]
  unfold b_quotient
  simp only [List.map_cons, List.map_nil, List.length_cons, List.length_nil, List.cons_append, List.nil_append, List.replicate, seqS_ap, setS_ap, callE_ap, consA_ap, nilA_ap, vE_ap, List.getElem?_cons_zero, List.getElem?_cons_succ, ofS_d, bind_ok, if_true, e_divisor a b hb, List.set_cons_zero, List.set_cons_succ, thenS_nx, retS_ap, tupE_ap, op2_ap, f1, f2]
  rfl
theorem e_law_low (a b : Nat) (h0 : 0 < b) (hb : b < 100000000) : m__law_low [.int a, .int b] = .ok (low a b) := by
  have hg : 0 < Nat.gcd a b := Nat.gcd_pos_of_pos_right _ h0
  have hl : Nat.gcd a b ≤ b := Nat.le_of_dvd h0 (Nat.gcd_dvd_right _ _)
  have f1 := fdivNN a hg (by omega)
  have f2 := fdivNN b hg (by omega)
  obtain ⟨ρ', e, x, hx⟩ := whileM_inv (c := t2__law_low) (b := w1__law_low) (I := fun m ρ => ∃ x y : Nat, ρ = [.d (.int a), .d (.int b), .d (.int x), .d (.int y)] ∧ y = m ∧ Nat.gcd x y = Nat.gcd a b) (Q := fun ρ => ∃ x : Sl, ρ = [.d (.int a), .d (.int b), .d (.int ((Nat.gcd a b : Nat) : Int)), x])
    (fun m ρ hi => by
      obtain ⟨x, y, rfl, rfl, hg⟩ := hi
      by_cases hy : 0 < y
      · refine .inr ⟨by unfold t2__law_low; simp [hy], [.d (.int a), .d (.int b), .d (.int y), .d (.int ((x % y : Nat) : Int))], x % y, ?_, Nat.mod_lt _ hy, y, x % y, rfl, rfl, by rw [gcdStep, hg]⟩
        unfold w1__law_low
        rw [parS_ap _ _ _ _ (.int y) (.int ((x % y : Nat) : Int)) (by simp only [consA_ap, nilA_ap, op2_ap, vE_ap, List.getElem?_cons_zero, List.getElem?_cons_succ, ofS_d, bind_ok, modNN x hy])]
        rfl
      · have h0 : y = 0 := by omega
        subst h0
        rw [Nat.gcd_zero_right] at hg
        exact .inl ⟨by unfold t2__law_low; simp, .d (.int ((0 : Nat) : Int)), by rw [hg]⟩) 1000000000 b [.d (.int a), .d (.int b), .d (.int a), .d (.int b)] (by omega) ⟨a, b, rfl, rfl, rfl⟩
  subst hx
  unfold m__law_low
  rw [runB_ap]
  unfold b__law_low
  rw [show (List.map Sl.d [PyData.int (a : Int), .int b] ++ List.replicate (4 - [PyData.int (a : Int), .int b].length) Sl.un) = [.d (.int a), .d (.int b), .un, .un] from rfl]
  rw [seqS_ap, parS_ap _ _ _ _ (.int a) (.int b) (by simp), thenS_nx]
  simp only [List.set_cons_zero, List.set_cons_succ, seqS_ap]
  rw [e]
  simp only [thenS_nx, retS_ap, tupE_ap, op2_ap, consA_ap, nilA_ap, vE_ap, List.getElem?_cons_zero, List.getElem?_cons_succ, ofS_d, bind_ok, f1, f2]
  rfl
def pq (p q : Nat) : PyData := .tuple [.int p, .int q]
theorem ix0 (p q : Nat) : ixD (pq p q) (.int 0) = .ok (.int p) := rfl
theorem ix1 (p q : Nat) : ixD (pq p q) (.int 1) = .ok (.int q) := rfl
theorem e_times (a b c d : Nat) (hb : 0 < b) (hd : 0 < d) (ha1 : a < 1000000) (hb1 : b < 10000) (hc1 : c < 1000000) (hd1 : d < 10000) : m_times [pq a b, pq c d] = .ok (low (a * c) (b * d)) := by
  have h1 := mulNN a c (by omega)
  have h2 := mulNN b d (by omega)
  have h3 : b * d < 100000000 := by
    have := Nat.mul_lt_mul'' hb1 hd1
    omega
  unfold m_times
  rw [runB_ap]
  unfold b_times
  simp only [List.map_cons, List.map_nil, List.length_cons, List.length_nil, List.cons_append, List.nil_append, List.replicate, retS_ap, callE_ap, consA_ap, nilA_ap, op2_ap, vE_ap, cE_ap, List.getElem?_cons_zero, List.getElem?_cons_succ, ofS_d, bind_ok, ix0, ix1, h1, h2, if_true, e_quotient (a * c) (b * d) (Nat.mul_pos hb hd) h3, outR_rt]
theorem e_over (a b c d : Nat) (hb : 0 < b) (hc : 0 < c) (ha1 : a < 1000000) (hb1 : b < 10000) (hc1 : c < 10000) (hd1 : d < 10000) : m_over [pq a b, pq c d] = .ok (low (a * d) (b * c)) := by
  have h1 := mulNN a d (by omega)
  have h2 := mulNN b c (by omega)
  have h3 : b * c < 100000000 := by
    have := Nat.mul_lt_mul'' hb1 hc1
    omega
  unfold m_over
  rw [runB_ap]
  unfold b_over
  simp only [List.map_cons, List.map_nil, List.length_cons, List.length_nil, List.cons_append, List.nil_append, List.replicate, retS_ap, callE_ap, consA_ap, nilA_ap, op2_ap, vE_ap, cE_ap, List.getElem?_cons_zero, List.getElem?_cons_succ, ofS_d, bind_ok, ix0, ix1, h1, h2, if_true, e_quotient (a * d) (b * c) (Nat.mul_pos hb hc) h3, outR_rt]
theorem e_is_less (a b c d : Nat) (h1 : a < 1000000) (h2 : c < 1000000) : m_is_less [pq a b, pq c d] = .ok (.bool (decide (a * d < c * b))) := by
  have m1 := mulNN a d (by omega)
  have m2 := mulNN c b (by omega)
  unfold m_is_less
  rw [runB_ap]
  unfold b_is_less
  simp only [List.map_cons, List.map_nil, List.length_cons, List.length_nil, List.cons_append, List.nil_append, List.replicate, retS_ap, op2_ap, vE_ap, cE_ap, List.getElem?_cons_zero, List.getElem?_cons_succ, ofS_d, bind_ok, ix0, ix1, m1, m2, lt_ii, outR_rt]
  congr 2
  exact decide_eq_decide.mpr (by omega)
end G
namespace G
open PySem PySem.Spec PyProof.Rows L2 PD PySem.W
/-! ## lays -/
theorem isI (k : Int) : isiB .int (.int k) = true := rfl
theorem ne_ii (a b : Int) : neD (.int a) (.int b) = .ok (.bool (!decide (a = b))) := ne_t (α := Int) (by decide) a b
theorem eq_ii (a b : Int) : eqD (.int a) (.int b) = .ok (.bool (decide (a = b))) := eq_t (α := Int) (by decide) a b
structure Lay (p q : Nat) : Prop where
  q0 : 0 < q
  co : Nat.gcd p q = 1
  lo : q ≤ 100 * p
  hi : p ≤ 100 * q
  pb : p ≤ 100
  qb : q ≤ 100
theorem e_is_quotient {p q : Nat} (h : Lay p q) : m_is_quotient [pq p q] = .ok (.bool true) := by
  have h1 := h.q0
  have h2 := e_divisor p q (by have := h.qb; omega)
  rw [h.co] at h2
  unfold m_is_quotient
  rw [runB_ap]
  unfold b_is_quotient
  have hl : lenD [pq p q] = .ok (.int 2) := rfl
  have ht : isiB .tuple (pq p q) = true := rfl
  simp [hl, ht, ne_ii, ix0, ix1, e_is_integer, h1, h2, eq_ii]
theorem e_is_lay {p q : Nat} (h : Lay p q) : m_is_lay [pq p q] = .ok (.bool true) := by
  have l1 := e_is_less p q 1 100 (by have := h.pb; omega) (by omega)
  have l2 := e_is_less 100 1 p q (by omega) (by have := h.pb; omega)
  have n1 : ¬ (p * 100 < 1 * q) := by have := h.lo; omega
  have n2 : ¬ (100 * q < p * 1) := by have := h.hi; omega
  rw [decide_eq_false n1] at l1
  rw [decide_eq_false n2] at l2
  unfold m_is_lay
  rw [runB_ap]
  unfold b_is_lay
  have t1 : (if (0 : Nat) + 1 + 1 ≤ SZ then R.ok (PyData.tuple [.int 1, .int 100]) else .bad) = .ok (pq 1 100) := rfl
  have t2 : (if (0 : Nat) + 1 + 1 ≤ SZ then R.ok (PyData.tuple [.int 100, .int 1]) else .bad) = .ok (pq 100 1) := rfl
  simp only [List.map_cons, List.map_nil, List.length_cons, List.length_nil, List.cons_append, List.nil_append, List.replicate, retS_ap, andE_ap, notE_ap, callE_ap, consA_ap, nilA_ap, tupE_ap, cE_ap, vE_ap, List.getElem?_cons_zero, List.getElem?_cons_succ, ofS_d, bind_ok, if_true, e_is_quotient h, boolD_ap, iteR_t, t1, t2, l1, l2, Bool.not_false, outR_rt]
theorem e_check_lay {p q : Nat} (h : Lay p q) : m__check_lay [pq p q] = .ok .none := by
  unfold m__check_lay
  rw [runB_ap]
  unfold b__check_lay
  simp [e_is_lay h]
/-- the least steps, as a number -/
structure Per (xs : List Str) (p : Nat) : Prop where
  e : m__least_steps [T xs] = .ok (.int p)
  p0 : 0 < p
  pn : p ≤ xs.length
  fix : rot xs (p % xs.length) = xs
  least : ∀ j, 0 < j → j < p → rot xs (j % xs.length) ≠ xs
theorem e_again {xs : List Str} (h : Rp xs) {p : Nat} (hp : Per xs p) {a b : Nat} (hb : 0 < b) (ha1 : a ≤ 10000) (hb1 : b < 1000) : m__again [T xs, pq a b] = .ok (low (a * p) (b * xs.length)) := by
  have hn := h.pos
  have hl := h.len
  have h1 := hp.pn
  have hg : 0 < Nat.gcd p xs.length := Nat.gcd_pos_of_pos_right _ hn
  have q1 : p / Nat.gcd p xs.length ≤ p := Nat.div_le_self _ _
  have q2 : xs.length / Nat.gcd p xs.length ≤ xs.length := Nat.div_le_self _ _
  have q3 : 0 < xs.length / Nat.gcd p xs.length := Nat.div_pos (Nat.le_of_dvd hn (Nat.gcd_dvd_right _ _)) hg
  have e1 := e_quotient p xs.length hn (by omega)
  have e2 := e_times a b (p / Nat.gcd p xs.length) (xs.length / Nat.gcd p xs.length) hb q3 (by omega) (by omega) (by omega) (by omega)
  have e3 : low (a * (p / Nat.gcd p xs.length)) (b * (xs.length / Nat.gcd p xs.length)) = low (a * p) (b * xs.length) := by
    refine low_eq (Nat.mul_pos hb q3) (Nat.mul_pos hb hn) ?_
    have c1 : p / Nat.gcd p xs.length * Nat.gcd p xs.length = p := Nat.div_mul_cancel (Nat.gcd_dvd_left _ _)
    have c2 : xs.length / Nat.gcd p xs.length * Nat.gcd p xs.length = xs.length := Nat.div_mul_cancel (Nat.gcd_dvd_right _ _)
    generalize p / Nat.gcd p xs.length = u at *
    generalize xs.length / Nat.gcd p xs.length = v at *
    generalize Nat.gcd p xs.length = g at *
    rw [← c1, ← c2]
    ac_rfl
  rw [e3] at e2
  have hlen : lenD [T xs] = .ok (.int xs.length) := by unfold T; simp
  have e1' : m_quotient [.int p, .int xs.length] = .ok (pq (p / Nat.gcd p xs.length) (xs.length / Nat.gcd p xs.length)) := e1
  unfold m__again
  rw [runB_ap]
  unfold b__again
  simp only [List.map_cons, List.map_nil, List.length_cons, List.length_nil, List.cons_append, List.nil_append, List.replicate, retS_ap, callE_ap, callB_ap, consA_ap, nilA_ap, vE_ap, List.getElem?_cons_zero, List.getElem?_cons_succ, ofS_d, bind_ok, if_true, hp.e, hlen, e1', e2, outR_rt]
theorem e_comes {xs : List Str} (h : Rp xs) {p : Nat} (hp : Per xs p) {a b : Nat} (hL : Lay a b) : m_comes_again [T xs, pq a b] = .ok (low (a * p) (b * xs.length)) := by
  have := e_again (a := a) h hp hL.q0 (by have := hL.pb; omega) (by have := hL.qb; omega)
  unfold m_comes_again
  rw [runB_ap]
  unfold b_comes_again
  simp [e_check h, e_check_lay hL, this]
/-- two quotients together -/
theorem both_low {A B C D : Nat} (hA : 0 < A) (hB : 0 < B) (hC : 0 < C) (hD : 0 < D) :
    low (A / Nat.gcd A B * ((B / Nat.gcd A B * (C / Nat.gcd C D)) / Nat.gcd (A / Nat.gcd A B * (D / Nat.gcd C D)) (B / Nat.gcd A B * (C / Nat.gcd C D)))) (B / Nat.gcd A B) = low (Nat.lcm (A * D) (C * B)) (B * D) := by
  have g1 : 0 < Nat.gcd A B := Nat.gcd_pos_of_pos_right _ hB
  have g2 : 0 < Nat.gcd C D := Nat.gcd_pos_of_pos_right _ hD
  have c1 : A / Nat.gcd A B * Nat.gcd A B = A := Nat.div_mul_cancel (Nat.gcd_dvd_left _ _)
  have c2 : B / Nat.gcd A B * Nat.gcd A B = B := Nat.div_mul_cancel (Nat.gcd_dvd_right _ _)
  have c3 : C / Nat.gcd C D * Nat.gcd C D = C := Nat.div_mul_cancel (Nat.gcd_dvd_left _ _)
  have c4 : D / Nat.gcd C D * Nat.gcd C D = D := Nat.div_mul_cancel (Nat.gcd_dvd_right _ _)
  have p1 : 0 < A / Nat.gcd A B := Nat.pos_of_ne_zero fun e => by rw [e] at c1; omega
  have p2 : 0 < B / Nat.gcd A B := Nat.pos_of_ne_zero fun e => by rw [e] at c2; omega
  have p3 : 0 < C / Nat.gcd C D := Nat.pos_of_ne_zero fun e => by rw [e] at c3; omega
  have p4 : 0 < D / Nat.gcd C D := Nat.pos_of_ne_zero fun e => by rw [e] at c4; omega
  generalize A / Nat.gcd A B = x at *
  generalize B / Nat.gcd A B = y at *
  generalize C / Nat.gcd C D = z at *
  generalize D / Nat.gcd C D = w at *
  generalize Nat.gcd A B = g at *
  generalize Nat.gcd C D = k at *
  subst c1; subst c2; subst c3; subst c4
  have e1 : x * g * (w * k) = (g * k) * (x * w) := by ac_rfl
  have e2 : z * k * (y * g) = (g * k) * (y * z) := by ac_rfl
  have hgk : 0 < g * k := Nat.mul_pos g1 g2
  have e3 : Nat.lcm (x * g * (w * k)) (z * k * (y * g)) = (g * k) * Nat.lcm (x * w) (y * z) := by rw [e1, e2, Nat.lcm_mul_left]
  have e4 : Nat.lcm (x * w) (y * z) = x * w * (y * z / Nat.gcd (x * w) (y * z)) := by
    unfold Nat.lcm
    rw [Nat.mul_div_assoc _ (Nat.gcd_dvd_right _ _)]
  rw [e3, e4]
  generalize y * z / Nat.gcd (x * w) (y * z) = t
  refine low_eq p2 (Nat.mul_pos (Nat.mul_pos p2 g1) (Nat.mul_pos p4 g2)) ?_
  ac_rfl
theorem e_both {xs ys : List Str} (h : Rp xs) (h2 : Rp ys) {p r : Nat} (hp : Per xs p) (hr : Per ys r) {a b c d : Nat} (hL : Lay a b) (hM : Lay c d) (ha : 0 < a) (hc : 0 < c) (hb40 : a ≤ 30) (hd40 : c ≤ 30) (hb6 : b ≤ 6) (hd6 : d ≤ 6) :
    m_both_again [T xs, pq a b, T ys, pq c d] = .ok (low (Nat.lcm (a * p * (d * ys.length)) (c * r * (b * xs.length))) (b * xs.length * (d * ys.length))) := by
  have hn := h.pos
  have hm := h2.pos
  have hl := h.len
  have hl2 := h2.len
  have b1 : a * p ≤ 30 * 12 := Nat.mul_le_mul hb40 (Nat.le_trans hp.pn hl)
  have b2 : b * xs.length ≤ 6 * 12 := Nat.mul_le_mul hb6 hl
  have b3 : c * r ≤ 30 * 12 := Nat.mul_le_mul hd40 (Nat.le_trans hr.pn hl2)
  have b4 : d * ys.length ≤ 6 * 12 := Nat.mul_le_mul hd6 hl2
  have A0 : 0 < a * p := Nat.mul_pos ha hp.p0
  have B0 : 0 < b * xs.length := Nat.mul_pos hL.q0 hn
  have C0 : 0 < c * r := Nat.mul_pos hc hr.p0
  have D0 : 0 < d * ys.length := Nat.mul_pos hM.q0 hm
  have e1 := e_again (a := a) h hp hL.q0 (by omega) (by omega)
  have e2 := e_again (a := c) h2 hr hM.q0 (by omega) (by omega)
  have key := both_low A0 B0 C0 D0
  generalize a * p = A at *
  generalize b * xs.length = B at *
  generalize c * r = C at *
  generalize d * ys.length = D at *
  have x1 : A / Nat.gcd A B ≤ A := Nat.div_le_self _ _
  have x2 : B / Nat.gcd A B ≤ B := Nat.div_le_self _ _
  have x3 : C / Nat.gcd C D ≤ C := Nat.div_le_self _ _
  have x4 : D / Nat.gcd C D ≤ D := Nat.div_le_self _ _
  have g1 : 0 < Nat.gcd A B := Nat.gcd_pos_of_pos_right _ B0
  have g2 : 0 < Nat.gcd C D := Nat.gcd_pos_of_pos_right _ D0
  have y2 : 0 < B / Nat.gcd A B := Nat.div_pos (Nat.le_of_dvd B0 (Nat.gcd_dvd_right _ _)) g1
  have y3 : 0 < C / Nat.gcd C D := Nat.div_pos (Nat.le_of_dvd C0 (Nat.gcd_dvd_left _ _)) g2
  have e1' : m__again [T xs, pq a b] = .ok (pq (A / Nat.gcd A B) (B / Nat.gcd A B)) := e1
  have e2' : m__again [T ys, pq c d] = .ok (pq (C / Nat.gcd C D) (D / Nat.gcd C D)) := e2
  generalize A / Nat.gcd A B = x at *
  generalize B / Nat.gcd A B = y at *
  generalize C / Nat.gcd C D = z at *
  generalize D / Nat.gcd C D = w at *
  have b5 : y * z ≤ 72 * 360 := Nat.mul_le_mul (by omega) (by omega)
  have o := e_over x y z w y2 y3 (by omega) (by omega) (by omega) (by omega)
  have o' : m_over [pq x y, pq z w] = .ok (pq (x * w / Nat.gcd (x * w) (y * z)) (y * z / Nat.gcd (x * w) (y * z))) := o
  have x5 : y * z / Nat.gcd (x * w) (y * z) ≤ y * z := Nat.div_le_self _ _
  generalize y * z / Nat.gcd (x * w) (y * z) = t at *
  generalize x * w / Nat.gcd (x * w) (y * z) = u at *
  have tt := e_times x y t 1 y2 (by omega) (by omega) (by omega) (by omega) (by omega)
  rw [Nat.mul_one, key] at tt
  unfold m_both_again
  rw [runB_ap]
  unfold b_both_again
  have e5 : (List.map Sl.d [T xs, pq a b, T ys, pq c d] ++ List.replicate (7 - [T xs, pq a b, T ys, pq c d].length) Sl.un) = [.d (T xs), .d (pq a b), .d (T ys), .d (pq c d), .un, .un, .un] := rfl
  have z2 : (if (0 : Nat) + 1 + 1 ≤ SZ then R.ok (PyData.tuple [.int t, .int 1]) else .bad) = .ok (pq t 1) := rfl
  have q1 : (0 + 1 = 1) = True := by simp
  have q2 : (0 + 1 + 1 = 2) = True := by simp
  have par : parS 4 5 (consA (callE 2 m__again (consA (vE 0) (consA (vE 1) nilA))) (consA (callE 2 m__again (consA (vE 2) (consA (vE 3) nilA))) nilA)) [.d (T xs), .d (pq a b), .d (T ys), .d (pq c d), .un, .un, .un] = .ok (.nx [.d (T xs), .d (pq a b), .d (T ys), .d (pq c d), .d (pq x y), .d (pq z w), .un]) := by
    rw [parS_ap _ _ _ _ (pq x y) (pq z w) (by simp only [consA_ap, nilA_ap, callE_ap, vE_ap, List.getElem?_cons_zero, List.getElem?_cons_succ, ofS_d, bind_ok, List.length_cons, List.length_nil, q2, if_true, e1', e2'])]
    rfl
  rw [e5]
  simp only [seqS_ap, dropS_ap, callE_ap, consA_ap, nilA_ap, vE_ap, List.getElem?_cons_zero, List.getElem?_cons_succ, ofS_d, bind_ok, List.length_cons, List.length_nil, q1, q2, if_true, e_check h, e_check h2, e_check_lay hL, e_check_lay hM, thenS_nx, par, setS_ap, o', List.set_cons_succ, List.set_cons_zero, retS_ap, tupE_ap, op2_ap, cE_ap, ix1, z2, tt, outR_rt]
end G
namespace G
open PySem PySem.Spec PyProof.Rows L2 PD PySem.W
theorem eq_ss (a b : Str) : eqD (.str a) (.str b) = .ok (.bool (decide (a = b))) := eq_t (α := Str) (by decide) a b
def gS (xs : List Str) (k : Nat) : Str := xs.getD k ""
theorem ixTS {xs : List Str} {k : Nat} (h : k < xs.length) : ixD (T xs) (.int (k : Int)) = .ok (.str (gS xs k)) := by
  unfold T
  rw [ixT (by rw [List.length_map]; exact h), List.getElem_map]
  unfold gS
  rw [List.getD_eq_getElem?_getD, List.getElem?_eq_getElem h]
  rfl
theorem gS_some {xs : List Str} {k : Nat} (h : k < xs.length) : xs[k]? = some (gS xs k) := by
  unfold gS
  rw [List.getD_eq_getElem?_getD, List.getElem?_eq_getElem h]
  rfl
theorem rot_iff {xs : List Str} (h : 0 < xs.length) (s : Nat) : rot xs (s % xs.length) = xs ↔ ∀ k, k < xs.length → gS xs ((k + s) % xs.length) = gS xs k := by
  have hm : s % xs.length < xs.length := Nat.mod_lt _ h
  constructor
  · intro e k hk
    have := rot_get (xs := xs) (j := s % xs.length) (k := k) (by omega) hk
    rw [e, Nat.add_mod_mod, gS_some hk, gS_some (Nat.mod_lt _ h)] at this
    exact (Option.some.inj this).symm
  · intro e
    refine (rot_eq rfl _ (by omega) fun k hk => ?_).symm
    rw [Nat.add_mod_mod, gS_some hk, gS_some (Nat.mod_lt _ h), e k hk]
theorem all_rot {xs : List Str} (h : 0 < xs.length) (s : Nat) : ((List.range xs.length).all fun k => decide (gS xs ((k + s) % xs.length) = gS xs k)) = decide (rot xs (s % xs.length) = xs) := by
  rw [Bool.eq_iff_iff, List.all_eq_true, decide_eq_true_eq, rot_iff h]
  constructor
  · exact fun q k hk => of_decide_eq_true (q k (List.mem_range.mpr hk))
  · exact fun q k hk => decide_eq_true (q k (List.mem_range.mp hk))
def stepsL (xs : List Str) : List Nat := ((List.range xs.length).map fun k => 1 + k).filter fun s => decide (rot xs (s % xs.length) = xs)
theorem stepsL_ok {xs : List Str} (h : 0 < xs.length) : ∃ z zs, stepsL xs = z :: zs ∧ 0 < z ∧ z ≤ xs.length ∧ rot xs (z % xs.length) = xs ∧ (∀ j, 0 < j → j < z → rot xs (j % xs.length) ≠ xs) ∧ ∀ y ∈ zs, z ≤ y := by
  have hm : xs.length ∈ stepsL xs := by
    refine List.mem_filter.mpr ⟨List.mem_map.mpr ⟨xs.length - 1, List.mem_range.mpr (by omega), by omega⟩, ?_⟩
    rw [Nat.mod_self, rot_zero]
    simp
  have hin : ∀ z, z ∈ stepsL xs ↔ 0 < z ∧ z ≤ xs.length ∧ rot xs (z % xs.length) = xs := fun z => by
    constructor
    · intro hz
      obtain ⟨h1, h2⟩ := List.mem_filter.mp hz
      obtain ⟨k, hk, rfl⟩ := List.mem_map.mp h1
      have := List.mem_range.mp hk
      exact ⟨by omega, by omega, of_decide_eq_true h2⟩
    · rintro ⟨h1, h2, h3⟩
      exact List.mem_filter.mpr ⟨List.mem_map.mpr ⟨z - 1, List.mem_range.mpr (by omega), by omega⟩, decide_eq_true h3⟩
  have hp : (stepsL xs).Pairwise (· < ·) := by
    refine List.Pairwise.sublist List.filter_sublist ?_
    rw [List.pairwise_map]
    exact List.pairwise_lt_range.imp fun q => by omega
  cases hz : stepsL xs with
  | nil => rw [hz] at hm; cases hm
  | cons z zs =>
    rw [hz] at hp hin
    obtain ⟨a1, a2, a3⟩ := (hin z).mp (by simp)
    have hlt := (List.pairwise_cons.mp hp).1
    refine ⟨z, zs, rfl, a1, a2, a3, fun j j0 jz e => ?_, fun y hy => Nat.le_of_lt (hlt y hy)⟩
    rcases List.mem_cons.mp ((hin j).mpr ⟨j0, by omega, e⟩) with q | q
    · omega
    · have := hlt j q
      omega
theorem range2N (n : Nat) (hn : n ≤ 1000) : range2D [.int 1, .int ((n : Int) + 1)] = .ok (((List.range n).map fun k => 1 + k).map fun k : Nat => PyData.int k) := by
  rw [range2_ok (by decide) (by unfold smallI; omega), rangeL_map2, List.map_map]
  have e1 : ((n : Int) + 1 - 1).toNat = n := by omega
  rw [e1]
  congr 1
theorem per_ok {xs : List Str} (h : Rp xs) : ∃ p, Per xs p ∧ m__law_steps [T xs] = .ok (.int p) := by
  have hp := h.pos
  have hl := h.len
  obtain ⟨z, zs, hz, z0, z1, z2, z3, z4⟩ := stepsL_ok hp
  have r := range2N xs.length (by omega)
  have r1 : range1D [.int (xs.length : Int)] = .ok ((List.range xs.length).map fun k : Nat => PyData.int k) := rangeN (by omega)
  have hlen : lenD [T xs] = .ok (.int xs.length) := by unfold T; simp
  refine ⟨z, ⟨?_, z0, z1, z2, z3⟩, ?_⟩
  · have hc : l1__least_steps [.d (T xs), .un] = .ok (.list ((stepsL xs).map fun k : Nat => PyData.int k)) := by
      unfold l1__least_steps stepsL
      refine lcE_of (enc := fun k : Nat => PyData.int k) (p := fun s => decide (rot xs (s % xs.length) = xs)) (f := fun k : Nat => PyData.int k) ((List.range xs.length).map fun k => 1 + k) (by simp only [argI_ap, consA_ap, nilA_ap, cE_ap, op2_ap, callB_ap, vE_ap, List.getElem?_cons_zero, ofS_d, bind_ok, hlen, add_ii, r]) (by rw [List.length_map, List.length_range]; show xs.length ≤ 16777216; omega) fun k hk => ⟨_, rfl, ?_, fun _ => ?_⟩
      · have := e_turned h k
        simp [wipeE, this, eqT]
      · simp [wipeE]
    have := ixL (ds := .int (z : Int) :: zs.map fun k : Nat => PyData.int k) (k := 0) (by simp)
    have e0 : ((0 : Nat) : Int) = 0 := rfl
    rw [e0] at this
    rw [hz] at hc
    unfold m__least_steps
    rw [runB_ap]
    unfold b__least_steps
    rw [show (List.map Sl.d [T xs] ++ List.replicate (2 - [T xs].length) Sl.un) = [.d (T xs), .un] from rfl]
    simp [hc, this]
  · have hin : ∀ s : Nat, l1__law_steps [.d (T xs), .d (.int xs.length), .d (.int s), .un] = .ok (.list ((List.range xs.length).map fun k => .bool (decide (gS xs ((k + s) % xs.length) = gS xs k)))) := fun s => by
      unfold l1__law_steps
      refine lcE_all (enc := fun k : Nat => PyData.int k) (List.range xs.length) (by simp only [argI_ap, consA_ap, nilA_ap, vE_ap, List.getElem?_cons_zero, List.getElem?_cons_succ, ofS_d, bind_ok, r1]) (by rw [List.length_range]; show xs.length ≤ 16777216; omega) fun k hk => ⟨_, rfl, ?_⟩
      have hk2 := List.mem_range.mp hk
      have em : modD (.int ((k : Int) + (s : Int))) (.int (xs.length : Int)) = .ok (.int (((k + s) % xs.length : Nat) : Int)) := by
        rw [show (k : Int) + (s : Int) = ((k + s : Nat) : Int) by omega]
        exact modN hp
      simp only [wipeE, List.set_cons_succ, List.set_cons_zero, op2_ap, vE_ap, List.getElem?_cons_zero, List.getElem?_cons_succ, ofS_d, bind_ok, callB_ap, consA_ap, nilA_ap, add_ii, int1_i, em, ixTS hk2, ixTS (Nat.mod_lt (k + s) hp), eq_ss]
    have hc : l2__law_steps [.d (T xs), .d (.int xs.length), .un, .un] = .ok (.list ((stepsL xs).map fun k : Nat => PyData.int k)) := by
      unfold l2__law_steps stepsL
      refine lcE_of (enc := fun k : Nat => PyData.int k) (p := fun s => decide (rot xs (s % xs.length) = xs)) (f := fun k : Nat => PyData.int k) ((List.range xs.length).map fun k => 1 + k) (by simp only [argI_ap, consA_ap, nilA_ap, cE_ap, op2_ap, vE_ap, List.getElem?_cons_zero, List.getElem?_cons_succ, ofS_d, bind_ok, add_ii, r]) (by rw [List.length_map, List.length_range]; show xs.length ≤ 16777216; omega) fun k hk => ⟨_, rfl, ?_, fun _ => ?_⟩
      · have e5 : (wipeE [Sl.d (T xs), .d (.int xs.length), .un, .un] [2]).set 2 (.d (.int (k : Int))) = [.d (T xs), .d (.int xs.length), .d (.int k), .un] := rfl
        rw [e5]
        simp only [tvE_ap, callB_ap, consA_ap, nilA_ap, hin k, bind_ok, all_f, boolD_ap, all_rot hp]
      · simp [wipeE]
    rw [hz] at hc
    have hmin : PD.minD [.list ((z :: zs).map fun k : Nat => PyData.int k)] = .ok (.int z) := by
      have := min_t (α := Int) (by decide) (z : Int) (zs.map fun k : Nat => (k : Int))
      have e2 : (((z : Int) :: zs.map fun k : Nat => (k : Int)).map Datum.toD) = (z :: zs).map fun k : Nat => PyData.int k := by
        rw [List.map_cons, List.map_map, List.map_cons]
        rfl
      rw [e2] at this
      rw [this]
      have e3 : minOf (z : Int) (zs.map fun k : Nat => (k : Int)) = z := by
        refine lt_anti ?_ (minOf_le (by simp))
        rcases List.mem_cons.mp (minOf_mem (z : Int) (zs.map fun k : Nat => (k : Int))) with q | q
        · rw [q]; exact lt_irr _
        · obtain ⟨y, hy, e⟩ := List.mem_map.mp q
          rw [← e]
          have := z4 y hy
          show decide ((y : Int) < (z : Int)) = false
          exact decide_eq_false (by omega)
      rw [e3]
      rfl
    unfold m__law_steps
    rw [runB_ap]
    unfold b__law_steps
    rw [show (List.map Sl.d [T xs] ++ List.replicate (4 - [T xs].length) Sl.un) = [.d (T xs), .un, .un, .un] from rfl]
    simp only [seqS_ap, setS_ap, callB_ap, consA_ap, nilA_ap, vE_ap, List.getElem?_cons_zero, ofS_d, bind_ok, hlen, List.set_cons_succ, List.set_cons_zero, thenS_nx, retS_ap, hc, hmin, outR_rt]
theorem e_m_least {xs : List Str} (h : Rp xs) {p : Nat} (hp : Per xs p) : m_least_steps [T xs] = .ok (.int p) := by
  unfold m_least_steps
  rw [runB_ap]
  unfold b_least_steps
  simp [e_check h, hp.e]
/-- the least steps part the size -/
theorem per_dvd {xs : List Str} (h : Rp xs) {p : Nat} (hp : Per xs p) : xs.length % p = 0 := by
  have hn := h.pos
  have h0 := hp.p0
  have hl := hp.pn
  have all : ∀ m : Nat, rot xs ((p * m) % xs.length) = xs := fun m => by
    induction m with
    | zero => rw [Nat.mul_zero, Nat.zero_mod, rot_zero]
    | succ m ih =>
      have := rot_rot (xs := xs) (i := (p * m) % xs.length) (j := p % xs.length) (Nat.le_of_lt (Nat.mod_lt _ hn)) (Nat.le_of_lt (Nat.mod_lt _ hn)) hn
      rw [ih, hp.fix, ← Nat.add_mod] at this
      rw [Nat.mul_succ]
      exact this.symm
  have hr : xs.length % p < p := Nat.mod_lt _ h0
  by_cases hz : xs.length % p = 0
  · exact hz
  · exfalso
    have e1 := all (xs.length / p)
    have e2 := rot_rot (xs := xs) (i := (p * (xs.length / p)) % xs.length) (j := xs.length % p) (Nat.le_of_lt (Nat.mod_lt _ hn)) (by omega) hn
    rw [e1, Nat.mod_add_mod, Nat.div_add_mod, Nat.mod_self, rot_zero] at e2
    have := hp.least (xs.length % p) (by omega) hr
    rw [Nat.mod_eq_of_lt (by omega)] at this
    exact this e2
/-! ## turned by any number of steps -/
theorem modI (s : Int) {n : Nat} (h : 0 < n) : modD (.int s) (.int n) = .ok (.int (((s % n).toNat : Nat) : Int)) := by
  rw [mod_ii (by omega)]
  have := Int.emod_nonneg s (show (n : Int) ≠ 0 by omega)
  congr 2
  omega
theorem e_m_turnedI {xs : List Str} (h : Rp xs) (s : Int) : m_turned [T xs, .int s] = .ok (T (rot xs (s % xs.length).toNat)) := by
  have hp := h.pos
  have hl := h.len
  have e : m__turned [T xs, .int s] = .ok (T (rot xs (s % xs.length).toNat)) := by
    have h1 := e_turned h (s % xs.length).toNat
    have hlt : (s % xs.length).toNat < xs.length := by
      have := Int.emod_lt_of_pos s (show (0 : Int) < xs.length by omega)
      have := Int.emod_nonneg s (show (xs.length : Int) ≠ 0 by omega)
      omega
    rw [Nat.mod_eq_of_lt hlt] at h1
    rw [← h1]
    have e1 := modI s hp
    have e2 : modD (.int (((s % xs.length).toNat : Nat) : Int)) (.int (xs.length : Int)) = .ok (.int (((s % xs.length).toNat : Nat) : Int)) := by
      rw [modN hp, Nat.mod_eq_of_lt hlt]
    have hlen : lenD [T xs] = .ok (.int xs.length) := by unfold T; simp
    unfold m__turned
    rw [runB_ap, runB_ap]
    unfold b__turned
    simp only [List.map_cons, List.map_nil, List.length_cons, List.length_nil, List.cons_append, List.nil_append, List.replicate, seqS_ap, setS_ap, op2_ap, vE_ap, callB_ap, consA_ap, nilA_ap, List.getElem?_cons_zero, List.getElem?_cons_succ, ofS_d, bind_ok, hlen, e1, e2, List.set_cons_succ, List.set_cons_zero, thenS_nx, retS_ap, slE_ap, pAt_ap, pNo_ap, intD_ap]
  unfold m_turned
  rw [runB_ap]
  unfold b_turned
  simp [e_check h, e_is_integer, e]
end G
namespace G
open PySem PySem.Spec PyProof.Rows L2 PD PySem.W
/-! ## what is refused -/
theorem lay11 : Lay 1 1 := ⟨by decide, by decide, by decide, by decide, by decide, by decide⟩
theorem pick_c : pickH [(mtBadColours, (retS (cE (.str "colours")))), (mtBadLay, (retS (cE (.str "lay")))), (mtBadSteps, (retS (cE (.str "steps"))))] "BadColours" = .ok (.rt (.str "colours")) := by rfl
theorem pick_l : pickH [(mtBadColours, (retS (cE (.str "colours")))), (mtBadLay, (retS (cE (.str "lay")))), (mtBadSteps, (retS (cE (.str "steps"))))] "BadLay" = .ok (.rt (.str "lay")) := by rfl
theorem pick_s : pickH [(mtBadColours, (retS (cE (.str "colours")))), (mtBadLay, (retS (cE (.str "lay")))), (mtBadSteps, (retS (cE (.str "steps"))))] "BadSteps" = .ok (.rt (.str "steps")) := by rfl
def wordOf (c : String) : R PyData := outR (pickH [(mtBadColours, (retS (cE (.str "colours")))), (mtBadLay, (retS (cE (.str "lay")))), (mtBadSteps, (retS (cE (.str "steps"))))] c)
theorem word_err {w a b c d : PyData} {x : String} {z : PyData} (h : m__law_call [w, a, b, c, d] = .err x) (hz : pickH [(mtBadColours, (retS (cE (.str "colours")))), (mtBadLay, (retS (cE (.str "lay")))), (mtBadSteps, (retS (cE (.str "steps"))))] x = .ok (.rt z)) :
    m__law_word [w, a, b, c, d] = .ok z := by
  unfold m__law_word
  rw [runB_ap]
  unfold b__law_word
  simp only [List.map_cons, List.map_nil, List.length_cons, List.length_nil, List.cons_append, List.nil_append, List.replicate, seqS_ap, tryS_ap, dropS_ap, callE_ap, consA_ap, nilA_ap, vE_ap, List.getElem?_cons_zero, List.getElem?_cons_succ, ofS_d, bind_ok, if_true, h, bind_err, hz, thenS_rt, outR_rt]
theorem call_c {W a b c : PyData} (hW : m_check_colours [W] = .err "BadColours") (k : Nat) (hk : k < 9) : m__law_call [.int k, W, a, b, c] = .err "BadColours" := by
  have e0 : m_least_steps [W] = .err "BadColours" := by unfold m_least_steps; rw [runB_ap]; unfold b_least_steps; simp [hW]
  have e1 : ∀ u, m_turned [W, u] = .err "BadColours" := fun u => by unfold m_turned; rw [runB_ap]; unfold b_turned; simp [hW]
  have e2 : ∀ u, m_comes_again [W, u] = .err "BadColours" := fun u => by unfold m_comes_again; rw [runB_ap]; unfold b_comes_again; simp [hW]
  have e3 : ∀ u v w, m_both_again [W, u, v, w] = .err "BadColours" := fun u v w => by unfold m_both_again; rw [runB_ap]; unfold b_both_again; simp [hW]
  have e4 : m_least_turned [W] = .err "BadColours" := by unfold m_least_turned; rw [runB_ap]; unfold b_least_turned; simp [hW]
  have e5 : ∀ u, m_same_rope [W, u] = .err "BadColours" := fun u => by unfold m_same_rope; rw [runB_ap]; unfold b_same_rope; simp [hW]
  have e6 : ∀ u, m_turning [W, u] = .err "BadColours" := fun u => by unfold m_turning; rw [runB_ap]; unfold b_turning; simp [hW]
  have e7 : m_mirrored [W] = .err "BadColours" := by unfold m_mirrored; rw [runB_ap]; unfold b_mirrored; simp [hW]
  have e8 : m_is_even_handed [W] = .err "BadColours" := by unfold m_is_even_handed; rw [runB_ap]; unfold b_is_even_handed; simp [hW]
  have q : k = 0 ∨ k = 1 ∨ k = 2 ∨ k = 3 ∨ k = 4 ∨ k = 5 ∨ k = 6 ∨ k = 7 ∨ k = 8 := by omega
  unfold m__law_call
  rw [runB_ap]
  unfold b__law_call
  rcases q with rfl | rfl | rfl | rfl | rfl | rfl | rfl | rfl | rfl <;> simp [eq_ii, e0, e1, e2, e3, e4, e5, e6, e7, e8]
theorem call_o {xs : List Str} (h : Rp xs) {W : PyData} (hW : m_check_colours [W] = .err "BadColours") (k : Nat) (hk : k = 3 ∨ k = 5 ∨ k = 6) : m__law_call [.int k, T xs, pq 1 1, W, pq 1 1] = .err "BadColours" := by
  have e3 : m_both_again [T xs, pq 1 1, W, pq 1 1] = .err "BadColours" := by unfold m_both_again; rw [runB_ap]; unfold b_both_again; simp [e_check h, e_check_lay lay11, hW]
  have e5 : m_same_rope [T xs, W] = .err "BadColours" := by unfold m_same_rope; rw [runB_ap]; unfold b_same_rope; simp [e_check h, hW]
  have e6 : m_turning [T xs, W] = .err "BadColours" := by unfold m_turning; rw [runB_ap]; unfold b_turning; simp [e_check h, hW]
  unfold m__law_call
  rw [runB_ap]
  unfold b__law_call
  rcases hk with rfl | rfl | rfl <;> simp [eq_ii, e3, e5, e6]
theorem call_l2 {xs : List Str} (h : Rp xs) {W a b : PyData} (hW : m__check_lay [W] = .err "BadLay") : m__law_call [.int 2, T xs, W, a, b] = .err "BadLay" := by
  have e : m_comes_again [T xs, W] = .err "BadLay" := by unfold m_comes_again; rw [runB_ap]; unfold b_comes_again; simp [e_check h, hW]
  unfold m__law_call
  rw [runB_ap]
  unfold b__law_call
  simp [eq_ii, e]
theorem call_l3 {xs : List Str} (h : Rp xs) {W a b : PyData} (hW : m__check_lay [W] = .err "BadLay") : m__law_call [.int 3, T xs, W, a, b] = .err "BadLay" := by
  have e : m_both_again [T xs, W, a, b] = .err "BadLay" := by unfold m_both_again; rw [runB_ap]; unfold b_both_again; simp [e_check h, hW]
  unfold m__law_call
  rw [runB_ap]
  unfold b__law_call
  simp [eq_ii, e]
theorem call_l4 {xs ys : List Str} (h : Rp xs) (h2 : Rp ys) {W : PyData} (hW : m__check_lay [W] = .err "BadLay") : m__law_call [.int 3, T xs, pq 1 1, T ys, W] = .err "BadLay" := by
  have e : m_both_again [T xs, pq 1 1, T ys, W] = .err "BadLay" := by unfold m_both_again; rw [runB_ap]; unfold b_both_again; simp [e_check h, e_check h2, e_check_lay lay11, hW]
  unfold m__law_call
  rw [runB_ap]
  unfold b__law_call
  simp [eq_ii, e]
theorem call_s {xs : List Str} (h : Rp xs) {W a b : PyData} (hW : m_is_integer [W] = .ok (.bool false)) : m__law_call [.int 1, T xs, W, a, b] = .err "BadSteps" := by
  have e : m_turned [T xs, W] = .err "BadSteps" := by unfold m_turned; rw [runB_ap]; unfold b_turned; simp [e_check h, hW]
  unfold m__law_call
  rw [runB_ap]
  unfold b__law_call
  simp [eq_ii, e]
/-! the values -/
theorem bad_1 : m_check_colours [.none] = .err "BadColours" := by kernel_rfl
theorem bad_2 : m_check_colours [.tuple []] = .err "BadColours" := by kernel_rfl
theorem bad_3 (xs : List PyData) : m_check_colours [.list xs] = .err "BadColours" := by
  unfold m_check_colours
  rw [runB_ap]
  unfold b_check_colours
  simp [isiB]
theorem bad_4 : m_check_colours [.tuple [.str "a", .str "a", .str "a", .str "a", .str "a", .str "a", .str "a", .str "a", .str "a", .str "a", .str "a", .str "a", .str "a"]] = .err "BadColours" := by kernel_rfl
theorem bad_5 : m_check_colours [.tuple [.str ""]] = .err "BadColours" := by kernel_rfl
theorem bad_6 : m_check_colours [.tuple [.str "A"]] = .err "BadColours" := by kernel_rfl
theorem bad_7 : m_check_colours [.tuple [.str "abcdefghi"]] = .err "BadColours" := by kernel_rfl
theorem bad_8 : m_check_colours [.tuple [.int 5]] = .err "BadColours" := by kernel_rfl
theorem bad_9 : m_check_colours [.str "aa"] = .err "BadColours" := by kernel_rfl
theorem bad_0 {xs : List Str} (h : Rp xs) : m_check_colours [.tuple (xs.map PyData.str ++ [PyData.none])] = .err "BadColours" := by
  have hl := h.len
  have hnone : m_is_colour [.none] = .ok (.bool false) := by kernel_rfl
  have hc : l1_check_colours [.d (.tuple (xs.map PyData.str ++ [PyData.none])), .un] = .ok (.list ((xs.map PyData.str ++ [PyData.none]).map fun x => .bool (!isN x))) := by
    unfold l1_check_colours
    refine lcE_all (enc := fun x : PyData => x) (xs.map PyData.str ++ [PyData.none]) (by rw [List.map_id']; rfl) (by rw [List.length_append, List.length_map]; show _ ≤ 16777216; simp; omega) fun s hs => ⟨_, rfl, ?_⟩
    rcases List.mem_append.mp hs with hs | hs
    · obtain ⟨t, ht, rfl⟩ := List.mem_map.mp hs
      simp [wipeE, e_is_colour (h.col t ht), isN]
    · cases List.mem_singleton.mp hs
      simp [wipeE, hnone, isN]
  have hb := all_f (fun x : PyData => !isN x) (xs.map PyData.str ++ [PyData.none])
  have hf : ((xs.map PyData.str ++ [PyData.none]).all fun x : PyData => !isN x) = false := by
    rw [List.all_append]
    simp [isN]
  rw [hf] at hb
  unfold m_check_colours
  rw [runB_ap]
  unfold b_check_colours
  have hle : (xs.length : Int) + 1 ≤ 12 ∨ ¬ (xs.length : Int) + 1 ≤ 12 := by omega
  have h1 : (1 : Int) ≤ (xs.length : Int) + 1 := by omega
  rcases hle with hle | hle
  · simp [isiB, h1, hle]
    rw [hc, bind_ok, bind_ok, hb]
    rfl
  · simp [isiB, h1, hle]
theorem lay_1 : m__check_lay [.none] = .err "BadLay" := by kernel_rfl
theorem lay_2 : m__check_lay [.tuple [.int 1, .int 101]] = .err "BadLay" := by kernel_rfl
theorem lay_3 : m__check_lay [.tuple [.int 101, .int 1]] = .err "BadLay" := by kernel_rfl
theorem lay_4 : m__check_lay [.tuple [.int 0, .int 1]] = .err "BadLay" := by kernel_rfl
theorem lay_5 : m__check_lay [.tuple [.int 2, .int 2]] = .err "BadLay" := by kernel_rfl
theorem lay_6 : m__check_lay [.tuple [.int (-1), .int 1]] = .err "BadLay" := by kernel_rfl
theorem lay_7 : m__check_lay [.tuple [.bool true, .int 1]] = .err "BadLay" := by kernel_rfl
theorem lay_8 : m__check_lay [.list [.int 1, .int 1]] = .err "BadLay" := by kernel_rfl
theorem lay_9 : m__check_lay [.int 1] = .err "BadLay" := by kernel_rfl
theorem st_1 : m_is_integer [.none] = .ok (.bool false) := by kernel_rfl
theorem st_2 : m_is_integer [.bool true] = .ok (.bool false) := by kernel_rfl
theorem st_3 : m_is_integer [.str "1"] = .ok (.bool false) := by kernel_rfl
theorem st_4 : m_is_integer [.tuple [.int 1]] = .ok (.bool false) := by kernel_rfl
end G
namespace G
open PySem PySem.Spec PyProof.Rows L2 PD PySem.W
theorem ixI {ds : List Int} {k : Nat} (h : k < ds.length) : ixD (.list (ds.map .int)) (.int (k : Int)) = .ok (.int (ds.getD k 0)) := by
  have := ixL (ds := ds.map PyData.int) (k := k) (by rw [List.length_map]; exact h)
  rw [this, List.getElem_map, List.getD_eq_getElem?_getD, List.getElem?_eq_getElem h]
  rfl
theorem draw_at {ds : List Int} (h : ∀ x ∈ ds, Draw x) (k : Nat) : Draw (ds.getD k 0) := by
  rw [List.getD_eq_getElem?_getD]
  by_cases hk : k < ds.length
  · rw [List.getElem?_eq_getElem hk]
    exact h _ (List.getElem_mem hk)
  · rw [List.getElem?_eq_none (by omega)]
    exact ⟨by decide, by decide⟩
def pick (i : Int) : Str := if i = 0 then "a" else if i = 1 then "b" else "cc"
theorem pick_col (i : Int) : Col (pick i) := by
  unfold pick Col
  by_cases h : i = 0
  · rw [if_pos h]; exact .inl rfl
  · rw [if_neg h]
    by_cases h2 : i = 1
    · rw [if_pos h2]; exact .inr (.inl rfl)
    · rw [if_neg h2]; exact .inr (.inr rfl)
theorem ix3 {i : Int} (h0 : 0 ≤ i) (h : i < 3) : ixD (.list [.str "a", .str "b", .str "cc"]) (.int i) = .ok (.str (pick i)) := by
  have : i = 0 ∨ i = 1 ∨ i = 2 := by omega
  rcases this with rfl | rfl | rfl <;> rfl
theorem e_cols {ds : List Int} (hl : ds.length = 60) (hd : ∀ x ∈ ds, Draw x) (p many : Nat) (hm1 : 0 < many) (hm2 : many ≤ 12) (hp : p + many < 60) (kinds : Int) (h1 : 0 < kinds) (h3 : kinds ≤ 3) : ∃ cs, m__law_colours [.list (ds.map .int), .int p, .int many, .int kinds] = .ok (T cs) ∧ Rp cs := by
  obtain ⟨a0, a1⟩ := draw_at hd p
  have hm0 := Int.emod_nonneg (ds.getD p 0) (show (many : Int) ≠ 0 by omega)
  have hm9 := Int.emod_lt_of_pos (ds.getD p 0) (show (0 : Int) < many by omega)
  obtain ⟨n, hn⟩ : ∃ n : Nat, 1 + ds.getD p 0 % many = (n : Int) := ⟨(1 + ds.getD p 0 % many).toNat, by omega⟩
  have hn1 : 1 ≤ n ∧ n ≤ many := by omega
  refine ⟨(List.range n).map fun k => pick (ds.getD (p + 1 + k) 0 % kinds), ?_, ⟨?_, ?_, ?_⟩⟩
  · have hc : l1__law_colours [.d (.list (ds.map .int)), .d (.int p), .d (.int many), .d (.int kinds), .un] = .ok (.list ((List.range n).map fun k => .str (pick (ds.getD (p + 1 + k) 0 % kinds)))) := by
      unfold l1__law_colours
      refine lcE_all (enc := fun k : Nat => PyData.int k) (List.range n) ?_ (by rw [List.length_range]; show n ≤ 16777216; omega) fun k hk => ⟨_, rfl, ?_⟩
      · have hx := ixI (ds := ds) (k := p) (by omega)
        simp only [argI_ap, consA_ap, op2_ap, cE_ap, callB_ap, vE_ap, nilA_ap, bind_ok, List.getElem?_cons_zero, List.getElem?_cons_succ, ofS_d, hx, int1_i]
        rw [mod_ii (by omega)]
        simp only [bind_ok, add_ii, hn]
        exact rangeN (by omega)
      · have hk2 := List.mem_range.mp hk
        have hx := ixI (ds := ds) (k := p + 1 + k) (by omega)
        have ei : ((p : Int) + 1 + (k : Int)) = ((p + 1 + k : Nat) : Int) := by omega
        obtain ⟨b0, b1⟩ := draw_at hd (p + 1 + k)
        have g0 := Int.emod_nonneg (ds.getD (p + 1 + k) 0) (show kinds ≠ 0 by omega)
        have g3 := Int.emod_lt_of_pos (ds.getD (p + 1 + k) 0) h1
        have h3 := ix3 g0 (show ds.getD (p + 1 + k) 0 % kinds < 3 by omega)
        simp only [wipeE, List.set_cons_succ, List.set_cons_zero, op2_ap, vE_ap, cE_ap, lstE_ap, List.getElem?_cons_zero, List.getElem?_cons_succ, ofS_d, bind_ok, callB_ap, consA_ap, nilA_ap, add_ii, int1_i, ei, hx, mod_ii h1]
        exact h3
    unfold m__law_colours
    rw [runB_ap]
    unfold b__law_colours
    have e5 : (List.map Sl.d [PyData.list (ds.map .int), .int p, .int many, .int kinds] ++ List.replicate (5 - [PyData.list (ds.map .int), .int p, .int many, .int kinds].length) Sl.un) = [.d (.list (ds.map .int)), .d (.int p), .d (.int many), .d (.int kinds), .un] := rfl
    rw [e5]
    simp only [retS_ap, callB_ap, consA_ap, nilA_ap, hc, bind_ok, tuple1_list, outR_rt]
    unfold T
    rw [List.map_map]
    rfl
  · intro e
    have := congrArg List.length e
    simp at this
    omega
  · simp; omega
  · intro s hs
    obtain ⟨k, _, rfl⟩ := List.mem_map.mp hs
    exact pick_col _
/-- colours[:4] * k -/
theorem rp_rep {xs : List Str} (h : Rp xs) (k : Nat) (h0 : 0 < k) (h3 : k ≤ 3) : Rp (List.replicate k (xs.take 4)).flatten ∧ mulD (.tuple ((xs.map PyData.str).take 4)) (.int k) = .ok (T (List.replicate k (xs.take 4)).flatten) := by
  have hp := h.pos
  have hln : (xs.take 4).length ≤ 4 := by rw [List.length_take]; omega
  have hlen : (List.replicate k (xs.take 4)).flatten.length = k * (xs.take 4).length := by simp
  refine ⟨⟨fun e => ?_, ?_, fun s hs => ?_⟩, ?_⟩
  · have := congrArg List.length e
    rw [hlen, List.length_take] at this
    have h4 : 0 < min 4 xs.length := by omega
    have := Nat.mul_pos h0 h4
    simp at *
    omega
  · rw [hlen]
    have := Nat.mul_le_mul h3 hln
    omega
  · obtain ⟨l, hl, hs⟩ := List.mem_flatten.mp hs
    rw [(List.mem_replicate.mp hl).2] at hs
    exact h.col s (List.mem_of_mem_take hs)
  · have e : mulD (.tuple ((xs.map PyData.str).take 4)) (.int (k : Int)) = .ok (.tuple (List.replicate (k : Int).toNat ((xs.map PyData.str).take 4)).flatten) := if_pos ⟨by omega, by omega, by rw [List.length_take]; omega⟩
    rw [e, Int.toNat_natCast]
    unfold T
    rw [← List.map_take]
    congr 2
    simp [List.map_flatten]
/-- what this law draws as a lay -/
theorem e_lay {ds : List Int} (hl : ds.length = 60) (hd : ∀ x ∈ ds, Draw x) (i j : Nat) (hi : i < 60) (hj : j < 60) (u v : Nat) (hu0 : 0 < u) (hv0 : 0 < v) (hu : u ≤ 30) (hv : v ≤ 6) :
    ∃ a b x y : Nat, ds.getD i 0 % u = (a : Int) ∧ ds.getD j 0 % v = (b : Int) ∧ low (1 + a) (1 + b) = pq x y ∧ Lay x y ∧ 0 < x ∧ x ≤ 30 ∧ y ≤ 6 ∧ a < 30 ∧ b < 6 := by
  have a1 := Int.emod_nonneg (ds.getD i 0) (show (u : Int) ≠ 0 by omega)
  have a2 := Int.emod_lt_of_pos (ds.getD i 0) (show (0 : Int) < u by omega)
  have b1 := Int.emod_nonneg (ds.getD j 0) (show (v : Int) ≠ 0 by omega)
  have b2 := Int.emod_lt_of_pos (ds.getD j 0) (show (0 : Int) < v by omega)
  obtain ⟨a, ea⟩ : ∃ a : Nat, ds.getD i 0 % u = (a : Int) := ⟨(ds.getD i 0 % u).toNat, by omega⟩
  obtain ⟨b, eb⟩ : ∃ b : Nat, ds.getD j 0 % v = (b : Int) := ⟨(ds.getD j 0 % v).toNat, by omega⟩
  have hg : 0 < Nat.gcd (1 + a) (1 + b) := Nat.gcd_pos_of_pos_right _ (by omega)
  have c1 : 0 < (1 + a) / Nat.gcd (1 + a) (1 + b) := Nat.div_pos (Nat.le_of_dvd (by omega) (Nat.gcd_dvd_left _ _)) hg
  have c2 : 0 < (1 + b) / Nat.gcd (1 + a) (1 + b) := Nat.div_pos (Nat.le_of_dvd (by omega) (Nat.gcd_dvd_right _ _)) hg
  have c3 : (1 + a) / Nat.gcd (1 + a) (1 + b) ≤ 1 + a := Nat.div_le_self _ _
  have c4 : (1 + b) / Nat.gcd (1 + a) (1 + b) ≤ 1 + b := Nat.div_le_self _ _
  have co : Nat.gcd ((1 + a) / Nat.gcd (1 + a) (1 + b)) ((1 + b) / Nat.gcd (1 + a) (1 + b)) = 1 := Nat.coprime_div_gcd_div_gcd hg
  exact ⟨a, b, _, _, ea, eb, rfl, ⟨c2, co, by omega, by omega, by omega, by omega⟩, c1, by omega, by omega, by omega, by omega⟩
/-- the first of the many that the other one parts -/
theorem lcm_loop {A B : Nat} (hA : 0 < A) (hB : 0 < B) (hA1 : A < 10000000) (hB1 : B < 10000000) {ρ : Ev} (h13 : ρ[13]? = some (.d (.int A))) (h14 : ρ[14]? = some (.d (.int B))) (hln : 15 < ρ.length) :
    whileM t4_law w3_law 1000000000 (ρ.set 15 (.d (.int A))) = .ok (.nx (ρ.set 15 (.d (.int ((Nat.lcm A B : Nat) : Int))))) := by
  have hg : 0 < Nat.gcd A B := Nat.gcd_pos_of_pos_right _ hB
  have c1 : A / Nat.gcd A B * Nat.gcd A B = A := Nat.div_mul_cancel (Nat.gcd_dvd_left _ _)
  have c2 : B / Nat.gcd A B * Nat.gcd A B = B := Nat.div_mul_cancel (Nat.gcd_dvd_right _ _)
  have ht : 0 < B / Nat.gcd A B := Nat.div_pos (Nat.le_of_dvd hB (Nat.gcd_dvd_right _ _)) hg
  have hle : B / Nat.gcd A B ≤ B := Nat.div_le_self _ _
  have co : Nat.Coprime (B / Nat.gcd A B) (A / Nat.gcd A B) := (Nat.coprime_div_gcd_div_gcd hg).symm
  have key : ∀ k, (A * k) % B = 0 ↔ B / Nat.gcd A B ∣ k := fun k => by
    constructor
    · intro e
      have d1 : B ∣ A * k := Nat.dvd_of_mod_eq_zero e
      have d2 : B / Nat.gcd A B ∣ A / Nat.gcd A B * k := by
        obtain ⟨m, hm⟩ := d1
        refine ⟨m, Nat.eq_of_mul_eq_mul_right hg ?_⟩
        rw [Nat.mul_right_comm, c1, hm, Nat.mul_right_comm, c2]
      exact co.dvd_of_dvd_mul_left d2
    · rintro ⟨m, rfl⟩
      refine Nat.mod_eq_zero_of_dvd ⟨A / Nat.gcd A B * m, ?_⟩
      have e1 : A * (B / Nat.gcd A B * m) = (A / Nat.gcd A B * Nat.gcd A B) * (B / Nat.gcd A B * m) := by rw [c1]
      have e2 : B * (A / Nat.gcd A B * m) = (B / Nat.gcd A B * Nat.gcd A B) * (A / Nat.gcd A B * m) := by rw [c2]
      rw [e1, e2]
      ac_rfl
  have hlcm : Nat.lcm A B = A * (B / Nat.gcd A B) := by
    unfold Nat.lcm
    rw [Nat.mul_div_assoc _ (Nat.gcd_dvd_right _ _)]
  obtain ⟨ρ', e, hQ⟩ := whileM_inv (c := t4_law) (b := w3_law) (I := fun m σ => ∃ k, σ = ρ.set 15 (.d (.int ((A * k : Nat) : Int))) ∧ 0 < k ∧ k + m = B / Nat.gcd A B) (Q := fun σ => σ = ρ.set 15 (.d (.int ((Nat.lcm A B : Nat) : Int))))
    (fun m σ hi => by
      obtain ⟨k, rfl, k0, hk⟩ := hi
      have r13 : (ρ.set 15 (.d (.int ((A * k : Nat) : Int))))[13]? = some (.d (.int A)) := by rw [List.getElem?_set_ne (by decide)]; exact h13
      have r14 : (ρ.set 15 (.d (.int ((A * k : Nat) : Int))))[14]? = some (.d (.int B)) := by rw [List.getElem?_set_ne (by decide)]; exact h14
      have r15 : (ρ.set 15 (.d (.int ((A * k : Nat) : Int))))[15]? = some (.d (.int ((A * k : Nat) : Int))) := by rw [List.getElem?_set_self hln]
      have ec : t4_law (ρ.set 15 (.d (.int ((A * k : Nat) : Int)))) = .ok (!decide ((((A * k % B : Nat) : Nat) : Int) = 0)) := by
        unfold t4_law
        simp only [tvE_ap, op2_ap, callB_ap, consA_ap, nilA_ap, vE_ap, cE_ap, r14, r15, ofS_d, bind_ok, int1_i, modN hB, ne_ii, boolD_ap]
      by_cases hm : m = 0
      · subst hm
        have hk2 : k = B / Nat.gcd A B := by omega
        refine .inl ⟨?_, by rw [hlcm, hk2]⟩
        rw [ec, (key k).mpr (by rw [hk2]; exact Nat.dvd_refl _)]
        rfl
      · have hnd : ¬ (A * k % B = 0) := fun e => by
          have := Nat.le_of_dvd k0 ((key k).mp e)
          omega
        refine .inr ⟨?_, ρ.set 15 (.d (.int ((A * (k + 1) : Nat) : Int))), m - 1, ?_, by omega, k + 1, rfl, by omega, by omega⟩
        · rw [ec, decide_eq_false (by omega)]
          rfl
        · unfold w3_law
          simp only [setS_ap, op2_ap, vE_ap, r13, r15, ofS_d, bind_ok, add_ii, List.set_set]
          congr 5)
    1000000000 (B / Nat.gcd A B - 1) (ρ.set 15 (.d (.int A))) (by omega) ⟨1, by rw [Nat.mul_one], by omega, by omega⟩
  rw [e, hQ]
end G
namespace G
open PySem PySem.Spec PyProof.Rows L2 PD PySem.W
theorem rotT (xs : List Str) (st : Nat) (hs : st < xs.length) : (PyData.tuple ((List.range xs.length).map fun k => PyData.str (gS xs ((k + st) % xs.length)))) = T (rot xs st) := by
  unfold T
  rw [← rot_map]
  congr 1
  refine rot_eq (by simp) st (by simp; omega) fun k hk => ?_
  rw [List.length_map] at hk ⊢
  have hm : (k + st) % xs.length < xs.length := Nat.mod_lt _ (by omega)
  rw [List.getElem?_map, List.getElem?_range hk, Option.map_some, List.getElem?_map, gS_some hm]
  rfl
/-- one step that is tried -/
theorem step_ok {xs : List Str} (h : Rp xs) (s : Int) (s0 s1 s2 s4 s5 s6 s7 s8 s10 s11 s12 s13 s14 s15 s16 s17 s18 s19 : Sl) :
    (gN 11 (.int s) [s0, s1, s2, .d (T xs), s4, s5, s6, s7, s8, .d (.int xs.length), s10, s11, s12, s13, s14, s15, s16, s17, s18, s19]).bind w2_law = .ok (.nx [s0, s1, s2, .d (T xs), s4, s5, s6, s7, s8, .d (.int xs.length), s10, .d (.int s), s12, s13, s14, s15, s16, s17, s18, s19]) := by
  have hp := h.pos
  have hl := h.len
  have hlt : (s % xs.length).toNat < xs.length := by
    have := Int.emod_lt_of_pos s (show (0 : Int) < xs.length by omega)
    have := Int.emod_nonneg s (show (xs.length : Int) ≠ 0 by omega)
    omega
  have r : range1D [.int (xs.length : Int)] = .ok ((List.range xs.length).map fun k : Nat => PyData.int k) := rangeN (by omega)
  have hc : l1_law [s0, s1, s2, .d (T xs), s4, s5, s6, s7, s8, .d (.int xs.length), s10, .d (.int s), s12, s13, s14, s15, s16, s17, s18, s19] = .ok (.list ((List.range xs.length).map fun k => PyData.str (gS xs ((k + (s % xs.length).toNat) % xs.length)))) := by
    unfold l1_law
    refine lcE_all (enc := fun k : Nat => PyData.int k) (List.range xs.length) (by simp [r]) (by rw [List.length_range]; show xs.length ≤ 16777216; omega) fun k hk => ⟨_, rfl, ?_⟩
    have hm : (k + (s % xs.length).toNat) % xs.length < xs.length := Nat.mod_lt _ hp
    have em : modD (.int ((k : Int) + s)) (.int (xs.length : Int)) = .ok (.int (((k + (s % xs.length).toNat) % xs.length : Nat) : Int)) := by
      rw [mod_ii (by omega)]
      congr 2
      have h0 := Int.emod_nonneg s (show (xs.length : Int) ≠ 0 by omega)
      rw [Int.natCast_emod, Int.natCast_add, Int.toNat_of_nonneg h0, Int.add_emod_emod]
    simp only [wipeE, List.set_cons_succ, List.set_cons_zero, op2_ap, vE_ap, List.getElem?_cons_zero, List.getElem?_cons_succ, ofS_d, bind_ok, callB_ap, consA_ap, nilA_ap, add_ii, int1_i, em, ixTS hm]
  have hn : neD (T (rot xs (s % xs.length).toNat)) (T (rot xs (s % xs.length).toNat)) = .ok (.bool false) := by rw [neT]; simp
  have hrt := rotT xs _ hlt
  unfold w2_law
  simp only [gN_ap, bind_ok, List.set_cons_succ, List.set_cons_zero, ifS_ap, tvE_ap, op2_ap, callE_ap, callB_ap, consA_ap, nilA_ap, vE_ap, List.getElem?_cons_zero, List.getElem?_cons_succ, ofS_d, List.length_cons, List.length_nil, if_true, e_m_turnedI h, hc, tuple1_list, hrt, hn, boolD_ap, iteR_f, nxS_ap]
/-- a value that is no colours -/
theorem wrong_ok {xs ys : List Str} (h : Rp xs) (h2 : Rp ys) {W : PyData} (hW : m_check_colours [W] = .err "BadColours") (s0 s1 s2 s5 s6 s7 s8 s9 s10 s11 s12 s13 s14 s15 s16 s17 s18 s19 : Sl) :
    ∃ z, (gN 16 W [s0, s1, s2, .d (T xs), .d (T ys), s5, s6, s7, s8, s9, s10, s11, s12, s13, s14, s15, s16, s17, s18, s19]).bind w7_law = .ok (.nx [s0, s1, s2, .d (T xs), .d (T ys), s5, s6, s7, s8, s9, s10, s11, s12, s13, s14, s15, .d W, z, s18, s19]) := by
  have z2 : (if (0 : Nat) + 1 + 1 ≤ SZ then R.ok (PyData.tuple [.int 1, .int 1]) else .bad) = .ok (pq 1 1) := rfl
  have q5 : (0 + 1 + 1 + 1 + 1 + 1 = 5) = True := by simp
  have r9 : range1D [.int 9] = .ok ((List.range 9).map fun k : Nat => PyData.int k) := rangeN (n := 9) (by decide)
  have h5 : l5_law [s0, s1, s2, .d (T xs), .d (T ys), s5, s6, s7, s8, s9, s10, s11, s12, s13, s14, s15, .d W, s17, s18, s19] = .ok (.list ((List.range 9).map fun _ => PyData.str "colours")) := by
    unfold l5_law
    refine lcE_all (enc := fun k : Nat => PyData.int k) (List.range 9) (by simp [r9]) (by rw [List.length_range]; show 9 ≤ 16777216; omega) fun k hk => ⟨_, rfl, ?_⟩
    have := word_err (call_c (a := pq 1 1) (b := T ys) (c := pq 1 1) hW k (List.mem_range.mp hk)) pick_c
    simp only [wipeE, List.set_cons_succ, List.set_cons_zero, callE_ap, consA_ap, nilA_ap, tupE_ap, cE_ap, vE_ap, List.getElem?_cons_zero, List.getElem?_cons_succ, ofS_d, bind_ok, List.length_cons, List.length_nil, z2, q5, if_true, this]
  have h6 : l6_law [s0, s1, s2, .d (T xs), .d (T ys), s5, s6, s7, s8, s9, s10, s11, s12, s13, s14, s15, .d W, s17, s18, s19] = .ok (.list (([3, 5, 6] : List Nat).map fun _ => PyData.str "colours")) := by
    unfold l6_law
    refine lcE_all (enc := fun k : Nat => PyData.int k) ([3, 5, 6] : List Nat) (by simp [SZ]) (by show 3 ≤ 16777216; omega) fun k hk => ⟨_, rfl, ?_⟩
    have hk3 : k = 3 ∨ k = 5 ∨ k = 6 := by simpa using hk
    have := word_err (call_o h hW k hk3) pick_c
    simp only [wipeE, List.set_cons_succ, List.set_cons_zero, callE_ap, consA_ap, nilA_ap, tupE_ap, cE_ap, vE_ap, List.getElem?_cons_zero, List.getElem?_cons_succ, ofS_d, bind_ok, List.length_cons, List.length_nil, z2, q5, if_true, this]
  have ha : addD (.list ((List.range 9).map fun _ => PyData.str "colours")) (.list (([3, 5, 6] : List Nat).map fun _ => PyData.str "colours")) = .ok (.list (List.replicate 12 (.str "colours"))) := by rfl
  have hr : repE (lstE (consA (cE (.str "colours")) nilA)) (cE (.int 12)) [s0, s1, s2, .d (T xs), .d (T ys), s5, s6, s7, s8, s9, s10, s11, s12, s13, s14, s15, .d W, .d (.list (List.replicate 12 (.str "colours"))), s18, s19] = .ok (.list (List.replicate 12 (.str "colours"))) := by rfl
  have hn : neD (.list (List.replicate 12 (.str "colours"))) (.list (List.replicate 12 (.str "colours"))) = .ok (.bool false) := by
    refine (ne_t (α := List Str) (by decide) (List.replicate 12 "colours") (List.replicate 12 "colours")).trans ?_
    rw [decide_eq_true rfl]
    rfl
  refine ⟨.d (.list (List.replicate 12 (.str "colours"))), ?_⟩
  unfold w7_law
  simp only [gN_ap, bind_ok, List.set_cons_succ, List.set_cons_zero, seqS_ap, setS_ap, op2_ap, h5, h6, ha, thenS_nx, ifS_ap, tvE_ap, vE_ap, List.getElem?_cons_zero, List.getElem?_cons_succ, ofS_d, hr, hn, boolD_ap, iteR_f, nxS_ap]
theorem ne_ss (a b : Str) : neD (.str a) (.str b) = .ok (.bool (!decide (a = b))) := ne_t (α := Str) (by decide) a b
/-- a value that is no lay -/
theorem layw_ok {xs ys : List Str} (h : Rp xs) (h2 : Rp ys) {W : PyData} (hW : m__check_lay [W] = .err "BadLay") (s0 s1 s2 s5 s6 s7 s8 s9 s10 s11 s12 s13 s14 s15 s16 s17 s18 s19 : Sl) :
    (gN 16 W [s0, s1, s2, .d (T xs), .d (T ys), s5, s6, s7, s8, s9, s10, s11, s12, s13, s14, s15, s16, s17, s18, s19]).bind w8_law = .ok (.nx [s0, s1, s2, .d (T xs), .d (T ys), s5, s6, s7, s8, s9, s10, s11, s12, s13, s14, s15, .d W, s17, s18, s19]) := by
  have z2 : (if (0 : Nat) + 1 + 1 ≤ SZ then R.ok (PyData.tuple [.int 1, .int 1]) else .bad) = .ok (pq 1 1) := rfl
  have q5 : (0 + 1 + 1 + 1 + 1 + 1 = 5) = True := by simp
  have e1 := word_err (call_l2 (a := .none) (b := .none) h hW) pick_l
  have e2 := word_err (call_l3 (a := .none) (b := .none) h hW) pick_l
  have e3 := word_err (call_l4 h h2 hW) pick_l
  have hn : neD (.str "lay") (.str "lay") = .ok (.bool false) := by rw [ne_ss]; simp
  unfold w8_law
  simp only [gN_ap, bind_ok, List.set_cons_succ, List.set_cons_zero, ifS_ap, orT_ap, tvE_ap, op2_ap, callE_ap, consA_ap, nilA_ap, tupE_ap, cE_ap, vE_ap, List.getElem?_cons_zero, List.getElem?_cons_succ, ofS_d, List.length_cons, List.length_nil, z2, q5, if_true, e1, e2, e3, hn, boolD_ap, iteR_f, nxS_ap]
/-- values that are no steps -/
theorem stepw_ok {xs : List Str} (h : Rp xs) (s0 s1 s2 s4 s5 s6 s7 s8 s9 s10 s11 s12 s13 s14 s15 s16 s17 s18 s19 : Sl) :
    callB allD (consA l9_law nilA) [s0, s1, s2, .d (T xs), s4, s5, s6, s7, s8, s9, s10, s11, s12, s13, s14, s15, s16, s17, s18, s19] = .ok (.bool true) := by
  have q5 : (0 + 1 + 1 + 1 + 1 + 1 = 5) = True := by simp
  have hs : eqD (.str "steps") (.str "steps") = .ok (.bool true) := by rw [eq_ss]; simp
  have hc : l9_law [s0, s1, s2, .d (T xs), s4, s5, s6, s7, s8, s9, s10, s11, s12, s13, s14, s15, s16, s17, s18, s19] = .ok (.list (([.none, .bool true, .str "1", .tuple [.int 1]] : List PyData).map fun _ => .bool true)) := by
    unfold l9_law
    refine lcE_all (enc := fun x : PyData => x) ([.none, .bool true, .str "1", .tuple [.int 1]] : List PyData) (by rfl) (by show 4 ≤ 16777216; omega) fun W hW => ⟨_, rfl, ?_⟩
    have hWi : m_is_integer [W] = .ok (.bool false) := by
      simp only [List.mem_cons, List.not_mem_nil, or_false] at hW
      rcases hW with rfl | rfl | rfl | rfl
      · exact st_1
      · exact st_2
      · exact st_3
      · exact st_4
    have := word_err (call_s (a := .none) (b := .none) h hWi) pick_s
    simp only [wipeE, List.set_cons_succ, List.set_cons_zero, op2_ap, callE_ap, consA_ap, nilA_ap, cE_ap, vE_ap, List.getElem?_cons_zero, List.getElem?_cons_succ, ofS_d, bind_ok, List.length_cons, List.length_nil, q5, if_true, this, hs]
  have := all_f (fun _ : PyData => true) ([.none, .bool true, .str "1", .tuple [.int 1]] : List PyData)
  simp only [callB_ap, consA_ap, nilA_ap, hc, bind_ok, this]
  rfl
end G
namespace G
open PySem PySem.Spec PyProof.Rows L2 PD PySem.W
theorem ix5 (a b c d e : Int) (t : Nat) (ht : t < 5) : ixD (.list [.int a, .int b, .int c, .int d, .int e]) (.int t) = .ok (.int (([a, b, c, d, e] : List Int).getD t 0)) := ixI (ds := [a, b, c, d, e]) (k := t) ht
theorem fin5 {P : Nat → Prop} (h0 : P 0) (h1 : P 1) (h2 : P 2) (h3 : P 3) (h4 : P 4) (t : Nat) (ht : t < 5) : P t := by
  have : t = 0 ∨ t = 1 ∨ t = 2 ∨ t = 3 ∨ t = 4 := by omega
  rcases this with rfl | rfl | rfl | rfl | rfl <;> assumption
theorem rest_ok {ds : List Int} (hl : ds.length = 60) (hd : ∀ x ∈ ds, Draw x) {xs ys : List Str} (h : Rp xs) (h2 : Rp ys) {p r : Nat} (hp : Per xs p) (hr : Per ys r) (sp : m__law_steps [T xs] = .ok (.int p)) (sr : m__law_steps [T ys] = .ok (.int r)) (t : Nat) (ht : t < 5)
    {mb : SM} (K : SM) (hmb : mb = (seqS (parS 5 6 (consA (callE 2 m__law_low (consA (op2 addD (cE (.int 1)) (op2 modD (callB int1D (consA (op2 ixD (vE 1) (op2 addD (cE (.int 51)) (vE 2))) nilA)) (cE (.int 30)))) (consA (op2 addD (cE (.int 1)) (op2 modD (callB int1D (consA (op2 ixD (vE 1) (op2 addD (cE (.int 52)) (vE 2))) nilA)) (cE (.int 6)))) nilA))) (consA (callE 2 m__law_low (consA (op2 addD (cE (.int 1)) (op2 modD (callB int1D (consA (op2 ixD (vE 1) (op2 addD (cE (.int 53)) (vE 2))) nilA)) (cE (.int 12)))) (consA (op2 addD (cE (.int 1)) (op2 modD (callB int1D (consA (op2 ixD (vE 1) (op2 addD (cE (.int 54)) (vE 2))) nilA)) (cE (.int 5)))) nilA))) nilA)))
  (seqS (asgS (tupE (consA (callE 1 m__law_steps (consA (vE 3) nilA)) (consA (callE 1 m__law_steps (consA (vE 4) nilA)) (consA (callB lenD (consA (vE 3) nilA)) (consA (callB lenD (consA (vE 4) nilA)) nilA))))) (gT 4 (gsCons (gN 7) (gsCons (gN 8) (gsCons (gN 9) (gsCons (gN 10) gsNil))))))
  (seqS (ifS (orT (tvE (op2 neD (callE 1 m_least_steps (consA (vE 3) nilA)) (vE 7))) (orT (tvE (op2 neD (callE 1 m_least_steps (consA (vE 4) nilA)) (vE 8))) (tvE (op2 neD (op2 modD (callB int1D (consA (vE 9) nilA)) (vE 7)) (cE (.int 0))))))
  (retS (cE (.bool false)))
  nxS)
  (seqS (forS (itE (lstE (consA (cE (.int 0)) (consA (cE (.int 1)) (consA (op1 negD (cE (.int 1))) (consA (vE 9) (consA (op2 subD (callB int1D (consA (op2 ixD (vE 1) (cE (.int 56))) nilA)) (cE (.int 30000))) (consA (op2 addD (op2 powD (cE (.int 10)) (cE (.int 20))) (cE (.int 3))) (consA (vE 7) nilA))))))))) (gN 11)
  w2_law)
  (seqS (ifS (tvE (op2 neD (callE 2 m_comes_again (consA (vE 3) (consA (vE 5) nilA))) (callE 2 m__law_low (consA (op2 mulD (op2 ixD (vE 5) (cE (.int 0))) (vE 7)) (consA (op2 mulD (op2 ixD (vE 5) (cE (.int 1))) (vE 9)) nilA)))))
  (retS (cE (.bool false)))
  nxS)
  (seqS (setS 12 (op2 mulD (op2 mulD (op2 mulD (op2 ixD (vE 5) (cE (.int 1))) (vE 9)) (op2 ixD (vE 6) (cE (.int 1)))) (vE 10)))
  (seqS (parS 13 14 (consA (op2 mulD (op2 mulD (op2 ixD (vE 5) (cE (.int 0))) (vE 7)) (op2 fdivD (vE 12) (op2 mulD (op2 ixD (vE 5) (cE (.int 1))) (vE 9)))) (consA (op2 mulD (op2 mulD (op2 ixD (vE 6) (cE (.int 0))) (vE 8)) (op2 fdivD (vE 12) (op2 mulD (op2 ixD (vE 6) (cE (.int 1))) (vE 10)))) nilA)))
  (seqS (setS 15 (vE 13))
  (seqS (whileM t4_law
  w3_law 1000000000)
  (seqS (ifS (orT (tvE (op2 neD (callE 4 m_both_again (consA (vE 3) (consA (vE 5) (consA (vE 4) (consA (vE 6) nilA))))) (callE 2 m__law_low (consA (vE 15) (consA (vE 12) nilA))))) (tvE (op2 neD (callE 4 m_both_again (consA (vE 4) (consA (vE 6) (consA (vE 3) (consA (vE 5) nilA))))) (callE 2 m__law_low (consA (vE 15) (consA (vE 12) nilA))))))
  (retS (cE (.bool false)))
  nxS)
  K)))))))))))
    (s0 s5 s6 s7 s8 s9 s10 s11 s12 s13 s14 s15 s16 s17 s18 s19 : Sl) :
    ∃ t5 t6 t7 t8 t9 t10 t11 t12 t13 t14 t15, mb [s0, .d (.list (ds.map .int)), .d (.int t), .d (T xs), .d (T ys), s5, s6, s7, s8, s9, s10, s11, s12, s13, s14, s15, s16, s17, s18, s19] = K [s0, .d (.list (ds.map .int)), .d (.int t), .d (T xs), .d (T ys), t5, t6, t7, t8, t9, t10, t11, t12, t13, t14, t15, s16, s17, s18, s19] := by
  subst hmb
  have hn := h.pos
  have hm := h2.pos
  have hnl := h.len
  have hml := h2.len
  obtain ⟨a, b, x, y, ea, eb, exy, L1, x0, x30, y6, a30, b6⟩ := e_lay hl hd (51 + t) (52 + t) (by omega) (by omega) 30 6 (by decide) (by decide) (by decide) (by decide)
  obtain ⟨c, d, z, w, ec, ed, ezw, L2', z0, z30, w6, c30, d6⟩ := e_lay hl hd (53 + t) (54 + t) (by omega) (by omega) 12 5 (by decide) (by decide) (by decide) (by decide)
  have i51 := ixI (ds := ds) (k := 51 + t) (by omega)
  have i52 := ixI (ds := ds) (k := 52 + t) (by omega)
  have i53 := ixI (ds := ds) (k := 53 + t) (by omega)
  have i54 := ixI (ds := ds) (k := 54 + t) (by omega)
  have i56 := ixI (ds := ds) (k := 56) (by omega)
  rw [show ((51 + t : Nat) : Int) = 51 + (t : Int) by omega] at i51
  rw [show ((52 + t : Nat) : Int) = 52 + (t : Int) by omega] at i52
  rw [show ((53 + t : Nat) : Int) = 53 + (t : Int) by omega] at i53
  rw [show ((54 + t : Nat) : Int) = 54 + (t : Int) by omega] at i54
  rw [show ((56 : Nat) : Int) = 56 from rfl] at i56
  have l1 : m__law_low [.int (1 + (a : Int)), .int (1 + (b : Int))] = .ok (pq x y) := by
    have := e_law_low (1 + a) (1 + b) (by omega) (by omega)
    rw [exy] at this
    rw [show 1 + (a : Int) = ((1 + a : Nat) : Int) by omega, show 1 + (b : Int) = ((1 + b : Nat) : Int) by omega]
    exact this
  have l2 : m__law_low [.int (1 + (c : Int)), .int (1 + (d : Int))] = .ok (pq z w) := by
    have := e_law_low (1 + c) (1 + d) (by omega) (by omega)
    rw [ezw] at this
    rw [show 1 + (c : Int) = ((1 + c : Nat) : Int) by omega, show 1 + (d : Int) = ((1 + d : Nat) : Int) by omega]
    exact this
  have m30 : modD (.int (ds.getD (51 + t) 0)) (.int 30) = .ok (.int a) := by rw [mod_ii (by decide)]; congr 2
  have m6 : modD (.int (ds.getD (52 + t) 0)) (.int 6) = .ok (.int b) := by rw [mod_ii (by decide)]; congr 2
  have m12 : modD (.int (ds.getD (53 + t) 0)) (.int 12) = .ok (.int c) := by rw [mod_ii (by decide)]; congr 2
  have m5 : modD (.int (ds.getD (54 + t) 0)) (.int 5) = .ok (.int d) := by rw [mod_ii (by decide)]; congr 2
  have q2 : (0 + 1 + 1 = 2) = True := by simp
  have q1 : (0 + 1 = 1) = True := by simp
  have q4 : (0 + 1 + 1 + 1 + 1 = 4) = True := by simp
  have z4 : ((0 : Nat) + 1 + 1 + 1 + 1 ≤ SZ) = True := eq_true (by show _ ≤ 16777216; omega)
  have z7 : ((0 : Nat) + 1 + 1 + 1 + 1 + 1 + 1 + 1 ≤ SZ) = True := eq_true (by show _ ≤ 16777216; omega)
  have hlenx : lenD [T xs] = .ok (.int xs.length) := by unfold T; simp
  have hleny : lenD [T ys] = .ok (.int ys.length) := by unfold T; simp
  -- the sizes
  have b1 : x * p ≤ 30 * 12 := Nat.mul_le_mul x30 (Nat.le_trans hp.pn hnl)
  have b2 : y * xs.length ≤ 6 * 12 := Nat.mul_le_mul y6 hnl
  have b3 : z * r ≤ 30 * 12 := Nat.mul_le_mul z30 (Nat.le_trans hr.pn hml)
  have b4 : w * ys.length ≤ 6 * 12 := Nat.mul_le_mul w6 hml
  have p1 : 0 < x * p := Nat.mul_pos x0 hp.p0
  have p2 : 0 < y * xs.length := Nat.mul_pos L1.q0 hn
  have p3 : 0 < z * r := Nat.mul_pos z0 hr.p0
  have p4 : 0 < w * ys.length := Nat.mul_pos L2'.q0 hm
  have kA := mulNN x p (by omega)
  have kB := mulNN y xs.length (by omega)
  have kC := mulNN z r (by omega)
  have kD := mulNN w ys.length (by omega)
  have u1 := mulNN (y * xs.length) w (by omega)
  have bu : y * xs.length * w ≤ 72 * 6 := Nat.mul_le_mul (by omega) w6
  have u2 := mulNN (y * xs.length * w) ys.length (by omega)
  have eu : y * xs.length * w * ys.length = y * xs.length * (w * ys.length) := Nat.mul_assoc _ _ _
  rw [eu] at u2
  have f1 := fdivNN (y * xs.length * (w * ys.length)) p2 (by omega)
  rw [Nat.mul_div_cancel_left _ p2] at f1
  have f2 := fdivNN (y * xs.length * (w * ys.length)) p4 (by omega)
  rw [Nat.mul_div_cancel _ p4] at f2
  have o1 := mulNN (x * p) (w * ys.length) (by omega)
  have o2 := mulNN (z * r) (y * xs.length) (by omega)
  have bA : x * p * (w * ys.length) ≤ 360 * 72 := Nat.mul_le_mul (by omega) (by omega)
  have bB : z * r * (y * xs.length) ≤ 360 * 72 := Nat.mul_le_mul (by omega) (by omega)
  have bU : y * xs.length * (w * ys.length) ≤ 72 * 72 := Nat.mul_le_mul (by omega) (by omega)
  have A0 : 0 < x * p * (w * ys.length) := Nat.mul_pos p1 p4
  have B0 : 0 < z * r * (y * xs.length) := Nat.mul_pos p3 p2
  have U0 : 0 < y * xs.length * (w * ys.length) := Nat.mul_pos p2 p4
  have hcomes := e_comes h hp L1
  have hlow := e_law_low (x * p) (y * xs.length) p2 (by omega)
  have hboth := e_both h h2 hp hr L1 L2' x0 z0 x30 z30 y6 w6
  have hboth2 := e_both h2 h hr hp L2' L1 z0 x0 z30 x30 w6 y6
  have hll := e_law_low (Nat.lcm (x * p * (w * ys.length)) (z * r * (y * xs.length))) (y * xs.length * (w * ys.length)) U0 (by omega)
  rw [Nat.lcm_comm, Nat.mul_comm (w * ys.length) (y * xs.length)] at hboth2
  have nsame : ∀ a b : Nat, neD (low a b) (low a b) = .ok (.bool false) := fun a b => by
    have := ne_t (α := Tup Int) (by decide) ⟨[((a / Nat.gcd a b : Nat) : Int), ((b / Nat.gcd a b : Nat) : Int)]⟩ ⟨[((a / Nat.gcd a b : Nat) : Int), ((b / Nat.gcd a b : Nat) : Int)]⟩
    rw [decide_eq_true rfl] at this
    exact this
  have npp : ∀ k : Int, neD (.int k) (.int k) = .ok (.bool false) := fun k => by rw [ne_ii]; simp
  have nmod : modD (.int (xs.length : Int)) (.int (p : Int)) = .ok (.int 0) := by rw [modN hp.p0, per_dvd h hp]; rfl
  have p20 : powD (.int 10) (.int 20) = .ok (.int 100000000000000000000) := by
    show (if 0 ≤ (20 : Int) ∧ (20 : Int) ≤ 1000 ∧ (10 : Int).natAbs < 2 ^ 64 then R.ok (PyData.int ((10 : Int) ^ (20 : Int).toNat)) else R.bad) = _
    rw [if_pos (by decide)]
    rfl
  -- the steps that are tried
  obtain ⟨ρ', ef, u11, hρ⟩ := forG_all (g := gN 11) (b := w2_law) (I := fun ρ => ∃ u11, ρ = [s0, .d (.list (ds.map .int)), .d (.int t), .d (T xs), .d (T ys), .d (pq x y), .d (pq z w), .d (.int p), .d (.int r), .d (.int xs.length), .d (.int ys.length), u11, s12, s13, s14, s15, s16, s17, s18, s19])
    [.int 0, .int 1, .int (-1), .int xs.length, .int (ds.getD 56 0 - 30000), .int (100000000000000000000 + 3), .int p] [s0, .d (.list (ds.map .int)), .d (.int t), .d (T xs), .d (T ys), .d (pq x y), .d (pq z w), .d (.int p), .d (.int r), .d (.int xs.length), .d (.int ys.length), s11, s12, s13, s14, s15, s16, s17, s18, s19] ⟨_, rfl⟩ fun v hv ρ hi => by
      obtain ⟨u11, rfl⟩ := hi
      obtain ⟨s, rfl⟩ : ∃ s, v = .int s := by
        simp only [List.mem_cons, List.not_mem_nil, or_false] at hv
        rcases hv with rfl | rfl | rfl | rfl | rfl | rfl | rfl <;> exact ⟨_, rfl⟩
      exact ⟨_, step_ok h s _ _ _ _ _ _ _ _ _ _ _ _ _ _ _ _ _ _, _, rfl⟩
  subst hρ
  have par1 : ∀ (g5 g6 : Sl), parS 5 6 (consA (callE 2 m__law_low (consA (op2 addD (cE (.int 1)) (op2 modD (callB int1D (consA (op2 ixD (vE 1) (op2 addD (cE (.int 51)) (vE 2))) nilA)) (cE (.int 30)))) (consA (op2 addD (cE (.int 1)) (op2 modD (callB int1D (consA (op2 ixD (vE 1) (op2 addD (cE (.int 52)) (vE 2))) nilA)) (cE (.int 6)))) nilA))) (consA (callE 2 m__law_low (consA (op2 addD (cE (.int 1)) (op2 modD (callB int1D (consA (op2 ixD (vE 1) (op2 addD (cE (.int 53)) (vE 2))) nilA)) (cE (.int 12)))) (consA (op2 addD (cE (.int 1)) (op2 modD (callB int1D (consA (op2 ixD (vE 1) (op2 addD (cE (.int 54)) (vE 2))) nilA)) (cE (.int 5)))) nilA))) nilA))
      [s0, .d (.list (ds.map .int)), .d (.int t), .d (T xs), .d (T ys), g5, g6, s7, s8, s9, s10, s11, s12, s13, s14, s15, s16, s17, s18, s19] = .ok (.nx [s0, .d (.list (ds.map .int)), .d (.int t), .d (T xs), .d (T ys), .d (pq x y), .d (pq z w), s7, s8, s9, s10, s11, s12, s13, s14, s15, s16, s17, s18, s19]) := fun g5 g6 => by
    rw [parS_ap _ _ _ _ (pq x y) (pq z w) (by simp only [gN_ap, bind_ok, List.set_cons_succ, List.set_cons_zero, seqS_ap, asgS_ap, tupE_ap, consA_ap, nilA_ap, callE_ap, callB_ap, vE_ap, List.getElem?_cons_zero, List.getElem?_cons_succ, ofS_d, op1_ap, op2_ap, cE_ap, lstE_ap, List.length_cons, List.length_nil, thenS_nx, setS_ap, ifS_ap, orT_ap, andT_ap, notT_ap, tvE_ap, boolD_ap, iteR_t, iteR_f, kT_ap, nxS_ap, itE_ap, iterD_list, forS_ap, add_ii, sub_ii, int1_i, PD.len_list, gT_tuple, gsCons_ap, gsNil_ap, pAt_ap, pNo_ap, intD_ap, slE_ap, neg_i, isi_ap, PD.len_tuple, Bool.not_true, Bool.not_false, i51, i52, i53, i54, m30, m6, m12, m5, q2, if_true, l1, l2])]
    rfl
  have par2 : parS 13 14 (consA (op2 mulD (op2 mulD (op2 ixD (vE 5) (cE (.int 0))) (vE 7)) (op2 fdivD (vE 12) (op2 mulD (op2 ixD (vE 5) (cE (.int 1))) (vE 9)))) (consA (op2 mulD (op2 mulD (op2 ixD (vE 6) (cE (.int 0))) (vE 8)) (op2 fdivD (vE 12) (op2 mulD (op2 ixD (vE 6) (cE (.int 1))) (vE 10)))) nilA))
      [s0, .d (.list (ds.map .int)), .d (.int t), .d (T xs), .d (T ys), .d (pq x y), .d (pq z w), .d (.int p), .d (.int r), .d (.int xs.length), .d (.int ys.length), u11, .d (.int ((y * xs.length * (w * ys.length) : Nat) : Int)), s13, s14, s15, s16, s17, s18, s19] = .ok (.nx [s0, .d (.list (ds.map .int)), .d (.int t), .d (T xs), .d (T ys), .d (pq x y), .d (pq z w), .d (.int p), .d (.int r), .d (.int xs.length), .d (.int ys.length), u11, .d (.int ((y * xs.length * (w * ys.length) : Nat) : Int)), .d (.int ((x * p * (w * ys.length) : Nat) : Int)), .d (.int ((z * r * (y * xs.length) : Nat) : Int)), s15, s16, s17, s18, s19]) := by
    rw [parS_ap _ _ _ _ (.int ((x * p * (w * ys.length) : Nat) : Int)) (.int ((z * r * (y * xs.length) : Nat) : Int)) (by simp only [gN_ap, bind_ok, List.set_cons_succ, List.set_cons_zero, seqS_ap, asgS_ap, tupE_ap, consA_ap, nilA_ap, callE_ap, callB_ap, vE_ap, List.getElem?_cons_zero, List.getElem?_cons_succ, ofS_d, op1_ap, op2_ap, cE_ap, lstE_ap, List.length_cons, List.length_nil, thenS_nx, setS_ap, ifS_ap, orT_ap, andT_ap, notT_ap, tvE_ap, boolD_ap, iteR_t, iteR_f, kT_ap, nxS_ap, itE_ap, iterD_list, forS_ap, add_ii, sub_ii, int1_i, PD.len_list, gT_tuple, gsCons_ap, gsNil_ap, pAt_ap, pNo_ap, intD_ap, slE_ap, neg_i, isi_ap, PD.len_tuple, Bool.not_true, Bool.not_false, ix0, ix1, kA, kB, kC, kD, f1, f2, o1, o2])]
    rfl
  have hlp := lcm_loop (A := x * p * (w * ys.length)) (B := z * r * (y * xs.length)) A0 B0 (by omega) (by omega) (ρ := [s0, .d (.list (ds.map .int)), .d (.int t), .d (T xs), .d (T ys), .d (pq x y), .d (pq z w), .d (.int p), .d (.int r), .d (.int xs.length), .d (.int ys.length), u11, .d (.int ((y * xs.length * (w * ys.length) : Nat) : Int)), .d (.int ((x * p * (w * ys.length) : Nat) : Int)), .d (.int ((z * r * (y * xs.length) : Nat) : Int)), s15, s16, s17, s18, s19]) rfl rfl (by simp)
  simp only [List.set_cons_succ, List.set_cons_zero] at hlp
  refine ⟨.d (pq x y), .d (pq z w), .d (.int p), .d (.int r), .d (.int xs.length), .d (.int ys.length), u11, .d (.int ((y * xs.length * (w * ys.length) : Nat) : Int)), .d (.int ((x * p * (w * ys.length) : Nat) : Int)), .d (.int ((z * r * (y * xs.length) : Nat) : Int)), .d (.int ((Nat.lcm (x * p * (w * ys.length)) (z * r * (y * xs.length)) : Nat) : Int)), ?_⟩
  simp only [gN_ap, bind_ok, List.set_cons_succ, List.set_cons_zero, seqS_ap, asgS_ap, tupE_ap, consA_ap, nilA_ap, callE_ap, callB_ap, vE_ap, List.getElem?_cons_zero, List.getElem?_cons_succ, ofS_d, op1_ap, op2_ap, cE_ap, lstE_ap, List.length_cons, List.length_nil, thenS_nx, setS_ap, ifS_ap, orT_ap, andT_ap, notT_ap, tvE_ap, boolD_ap, iteR_t, iteR_f, kT_ap, nxS_ap, itE_ap, iterD_list, forS_ap, add_ii, sub_ii, int1_i, PD.len_list, gT_tuple, gsCons_ap, gsNil_ap, pAt_ap, pNo_ap, intD_ap, slE_ap, neg_i, isi_ap, PD.len_tuple, Bool.not_true, Bool.not_false, par1, q1, q2, q4, z4, z7, if_true, sp, sr, hlenx, hleny, e_m_least h hp, e_m_least h2 hr, npp, nmod, i56, p20, ef, hcomes, ix0, ix1, kA, kB, hlow, nsame, u1, u2, par2, hlp, hboth, hboth2, hll]
end G
namespace G
open PySem PySem.Spec PyProof.Rows L2 PD PySem.W
def bK : SM := (seqS (forS (itE (lstE (consA (cE .none) (consA (tupE nilA) (consA (callB list1D (consA (vE 3) nilA)) (consA (op2 mulD (tupE (consA (cE (.str "a")) nilA)) (cE (.int 13))) (consA (tupE (consA (cE (.str "")) nilA)) (consA (tupE (consA (cE (.str "A")) nilA)) (consA (tupE (consA (cE (.str "abcdefghi")) nilA)) (consA (tupE (consA (cE (.int 5)) nilA)) (consA (cE (.str "aa")) (consA (op2 addD (vE 3) (tupE (consA (cE .none) nilA))) nilA)))))))))))) (gN 16)
  w7_law)
  (seqS (forS (itE (lstE (consA (cE .none) (consA (tupE (consA (cE (.int 1)) (consA (cE (.int 101)) nilA))) (consA (tupE (consA (cE (.int 101)) (consA (cE (.int 1)) nilA))) (consA (tupE (consA (cE (.int 0)) (consA (cE (.int 1)) nilA))) (consA (tupE (consA (cE (.int 2)) (consA (cE (.int 2)) nilA))) (consA (tupE (consA (op1 negD (cE (.int 1))) (consA (cE (.int 1)) nilA))) (consA (tupE (consA (cE (.bool true)) (consA (cE (.int 1)) nilA))) (consA (lstE (consA (cE (.int 1)) (consA (cE (.int 1)) nilA))) (consA (cE (.int 1)) nilA))))))))))) (gN 16)
  w8_law)
  (ifS (notT (tvE (callB allD (consA l9_law nilA))))
  (retS (cE (.bool false)))
  nxS)))
def bE : SM := (seqS (ifS (orT (tvE (op2 neD (callE 2 m_comes_again (consA (tupE (consA (cE (.str "a")) (consA (cE (.str "b")) (consA (cE (.str "a")) (consA (cE (.str "b")) nilA))))) (consA (tupE (consA (cE (.int 6)) (consA (cE (.int 1)) nilA))) nilA))) (tupE (consA (cE (.int 3)) (consA (cE (.int 1)) nilA))))) (orT (tvE (op2 neD (callE 4 m_both_again (consA (tupE (consA (cE (.str "a")) nilA)) (consA (tupE (consA (cE (.int 4)) (consA (cE (.int 1)) nilA))) (consA (tupE (consA (cE (.str "a")) nilA)) (consA (tupE (consA (cE (.int 6)) (consA (cE (.int 1)) nilA))) nilA))))) (tupE (consA (cE (.int 12)) (consA (cE (.int 1)) nilA))))) (tvE (op2 neD (callE 4 m_both_again (consA (tupE (consA (cE (.str "a")) (consA (cE (.str "b")) nilA))) (consA (tupE (consA (cE (.int 1)) (consA (cE (.int 2)) nilA))) (consA (tupE (consA (cE (.str "a")) nilA)) (consA (tupE (consA (cE (.int 1)) (consA (cE (.int 3)) nilA))) nilA))))) (tupE (consA (cE (.int 1)) (consA (cE (.int 1)) nilA)))))))
  (retS (cE (.bool false)))
  nxS)
  (retS (andE (op2 eqD (callE 1 m_least_steps (consA (tupE (consA (cE (.str "a")) (consA (cE (.str "a")) (consA (cE (.str "a")) nilA)))) nilA)) (cE (.int 1))) (andE (op2 eqD (callE 2 m_turned (consA (tupE (consA (cE (.str "a")) (consA (cE (.str "b")) (consA (cE (.str "cc")) nilA)))) (consA (op1 negD (cE (.int 1))) nilA))) (tupE (consA (cE (.str "cc")) (consA (cE (.str "a")) (consA (cE (.str "b")) nilA))))) (op2 eqD (callE 2 m_comes_again (consA (tupE (consA (cE (.str "a")) (consA (cE (.str "b")) (consA (cE (.str "cc")) nilA)))) (consA (tupE (consA (cE (.int 1)) (consA (cE (.int 100)) nilA))) nilA))) (tupE (consA (cE (.int 1)) (consA (cE (.int 100)) nilA))))))))
theorem k_ok {xs ys : List Str} (h : Rp xs) (h2 : Rp ys) (s0 s1 s2 s5 s6 s7 s8 s9 s10 s11 s12 s13 s14 s15 s16 s17 s18 s19 : Sl) :
    ∃ t16 t17, bK [s0, s1, s2, .d (T xs), .d (T ys), s5, s6, s7, s8, s9, s10, s11, s12, s13, s14, s15, s16, s17, s18, s19] = .ok (.nx [s0, s1, s2, .d (T xs), .d (T ys), s5, s6, s7, s8, s9, s10, s11, s12, s13, s14, s15, t16, t17, s18, s19]) := by
  have z10 : ((0 : Nat) + 1 + 1 + 1 + 1 + 1 + 1 + 1 + 1 + 1 + 1 ≤ SZ) = True := eq_true (by show _ ≤ 16777216; omega)
  have z9 : ((0 : Nat) + 1 + 1 + 1 + 1 + 1 + 1 + 1 + 1 + 1 ≤ SZ) = True := eq_true (by show _ ≤ 16777216; omega)
  have z2 : ((0 : Nat) + 1 + 1 ≤ SZ) = True := eq_true (by show _ ≤ 16777216; omega)
  have z1 : ((0 : Nat) + 1 ≤ SZ) = True := eq_true (by show _ ≤ 16777216; omega)
  have z0 : ((0 : Nat) ≤ SZ) = True := eq_true (by show _ ≤ 16777216; omega)
  have m13 : mulD (.tuple [.str "a"]) (.int 13) = .ok (.tuple [.str "a", .str "a", .str "a", .str "a", .str "a", .str "a", .str "a", .str "a", .str "a", .str "a", .str "a", .str "a", .str "a"]) := by rfl
  have ls : list1D [T xs] = .ok (.list (xs.map .str)) := rfl
  have ap : addD (T xs) (.tuple [.none]) = .ok (.tuple (xs.map PyData.str ++ [PyData.none])) := by
    have := h.len
    unfold T
    rw [addT (by rw [List.length_map]; simp; omega)]
  obtain ⟨ρ1, e1, t16, t17, h1⟩ := forG_all (g := gN 16) (b := w7_law) (I := fun ρ => ∃ t16 t17, ρ = [s0, s1, s2, .d (T xs), .d (T ys), s5, s6, s7, s8, s9, s10, s11, s12, s13, s14, s15, t16, t17, s18, s19])
    [.none, .tuple [], .list (xs.map .str), .tuple [.str "a", .str "a", .str "a", .str "a", .str "a", .str "a", .str "a", .str "a", .str "a", .str "a", .str "a", .str "a", .str "a"], .tuple [.str ""], .tuple [.str "A"], .tuple [.str "abcdefghi"], .tuple [.int 5], .str "aa", .tuple (xs.map PyData.str ++ [PyData.none])]
    [s0, s1, s2, .d (T xs), .d (T ys), s5, s6, s7, s8, s9, s10, s11, s12, s13, s14, s15, s16, s17, s18, s19] ⟨_, _, rfl⟩ fun W hW ρ hi => by
      obtain ⟨t16, t17, rfl⟩ := hi
      have hb : m_check_colours [W] = .err "BadColours" := by
        simp only [List.mem_cons, List.not_mem_nil, or_false] at hW
        rcases hW with rfl | rfl | rfl | rfl | rfl | rfl | rfl | rfl | rfl | rfl
        · exact bad_1
        · exact bad_2
        · exact bad_3 _
        · exact bad_4
        · exact bad_5
        · exact bad_6
        · exact bad_7
        · exact bad_8
        · exact bad_9
        · exact bad_0 h
      obtain ⟨z, e⟩ := wrong_ok h h2 hb s0 s1 s2 s5 s6 s7 s8 s9 s10 s11 s12 s13 s14 s15 t16 t17 s18 s19
      exact ⟨_, e, _, _, rfl⟩
  subst h1
  obtain ⟨ρ2, e2, u16, h3⟩ := forG_all (g := gN 16) (b := w8_law) (I := fun ρ => ∃ t16, ρ = [s0, s1, s2, .d (T xs), .d (T ys), s5, s6, s7, s8, s9, s10, s11, s12, s13, s14, s15, t16, t17, s18, s19])
    [.none, .tuple [.int 1, .int 101], .tuple [.int 101, .int 1], .tuple [.int 0, .int 1], .tuple [.int 2, .int 2], .tuple [.int (-1), .int 1], .tuple [.bool true, .int 1], .list [.int 1, .int 1], .int 1]
    [s0, s1, s2, .d (T xs), .d (T ys), s5, s6, s7, s8, s9, s10, s11, s12, s13, s14, s15, t16, t17, s18, s19] ⟨_, rfl⟩ fun W hW ρ hi => by
      obtain ⟨t16, rfl⟩ := hi
      have hb : m__check_lay [W] = .err "BadLay" := by
        simp only [List.mem_cons, List.not_mem_nil, or_false] at hW
        rcases hW with rfl | rfl | rfl | rfl | rfl | rfl | rfl | rfl | rfl
        · exact lay_1
        · exact lay_2
        · exact lay_3
        · exact lay_4
        · exact lay_5
        · exact lay_6
        · exact lay_7
        · exact lay_8
        · exact lay_9
      exact ⟨_, layw_ok h h2 hb _ _ _ _ _ _ _ _ _ _ _ _ _ _ _ _ _ _, _, rfl⟩
  subst h3
  have sw := stepw_ok h s0 s1 s2 (.d (T ys)) s5 s6 s7 s8 s9 s10 s11 s12 s13 s14 s15 u16 t17 s18 s19
  have sw2 : tvE (callB allD (consA l9_law nilA)) [s0, s1, s2, .d (T xs), .d (T ys), s5, s6, s7, s8, s9, s10, s11, s12, s13, s14, s15, u16, t17, s18, s19] = .ok true := by
    unfold tvE
    rw [sw]
    rfl
  refine ⟨u16, t17, ?_⟩
  unfold bK
  simp only [gN_ap, bind_ok, seqS_ap, tupE_ap, consA_ap, nilA_ap, vE_ap, List.getElem?_cons_zero, List.getElem?_cons_succ, ofS_d, op1_ap, op2_ap, cE_ap, lstE_ap, List.length_cons, List.length_nil, thenS_nx, ifS_ap, notT_ap, itE_ap, iterD_list, forS_ap, neg_i, z10, z9, z2, z1, z0, if_true]
  rw [show callB list1D (consA (vE 3) nilA) [s0, s1, s2, .d (T xs), .d (T ys), s5, s6, s7, s8, s9, s10, s11, s12, s13, s14, s15, s16, s17, s18, s19] = .ok (.list (xs.map .str)) from rfl]
  simp only [bind_ok, m13, ap, List.length_cons, List.length_nil, z10, z9, if_true, iterD_list, e1, thenS_nx, forS_ap, itE_ap, lstE_ap, consA_ap, nilA_ap, cE_ap, tupE_ap, z2, z1, z0, op1_ap, neg_i, e2, seqS_ap, ifS_ap, notT_ap, sw2, Bool.not_true, iteR_f, nxS_ap]
theorem turn_ok {ds : List Int} (hl : ds.length = 60) (hd : ∀ x ∈ ds, Draw x) (t : Nat) (ht : t < 5) (s0 s2 s3 s4 s5 s6 s7 s8 s9 s10 s11 s12 s13 s14 s15 s16 s17 s18 s19 : Sl) :
    ∃ t2 t3 t4 t5 t6 t7 t8 t9 t10 t11 t12 t13 t14 t15 t16 t17 t18 t19, (gN 2 (.int t) [s0, .d (.list (ds.map .int)), s2, s3, s4, s5, s6, s7, s8, s9, s10, s11, s12, s13, s14, s15, s16, s17, s18, s19]).bind w10_law = .ok (.nx [s0, .d (.list (ds.map .int)), t2, t3, t4, t5, t6, t7, t8, t9, t10, t11, t12, t13, t14, t15, t16, t17, t18, t19]) := by
  have m9 : mulD (.int 9) (.int t) = .ok (.int ((9 * t : Nat) : Int)) := mulNN 9 t (by decide)
  obtain ⟨m1, k1, m2, x1, x2, x3, a1, a2, a3, b1, b2, c1, c2, c3⟩ : ∃ (m1 : Nat) (k1 : Int) (m2 : Nat), ixD (.list [.int 8, .int 12, .int 4, .int 3, .int 6]) (.int t) = .ok (.int m1) ∧ ixD (.list [.int 2, .int 3, .int 2, .int 1, .int 3]) (.int t) = .ok (.int k1) ∧ ixD (.list [.int 5, .int 4, .int 6, .int 3, .int 8]) (.int t) = .ok (.int m2) ∧
      0 < m1 ∧ m1 ≤ 12 ∧ 9 * t + m1 < 60 ∧ 0 < k1 ∧ k1 ≤ 3 ∧ 0 < m2 ∧ m2 ≤ 12 ∧ 9 * t + 4 + m2 < 60 := by
    have : t = 0 ∨ t = 1 ∨ t = 2 ∨ t = 3 ∨ t = 4 := by omega
    rcases this with rfl | rfl | rfl | rfl | rfl
    · exact ⟨8, 2, 5, rfl, rfl, rfl, by decide, by decide, by decide, by decide, by decide, by decide, by decide, by decide⟩
    · exact ⟨12, 3, 4, rfl, rfl, rfl, by decide, by decide, by decide, by decide, by decide, by decide, by decide, by decide⟩
    · exact ⟨4, 2, 6, rfl, rfl, rfl, by decide, by decide, by decide, by decide, by decide, by decide, by decide, by decide⟩
    · exact ⟨3, 1, 3, rfl, rfl, rfl, by decide, by decide, by decide, by decide, by decide, by decide, by decide, by decide⟩
    · exact ⟨6, 3, 8, rfl, rfl, rfl, by decide, by decide, by decide, by decide, by decide, by decide, by decide, by decide⟩
  obtain ⟨cs, ec, hc⟩ := e_cols hl hd (9 * t) m1 a1 a2 a3 k1 b1 b2
  obtain ⟨ys, eo, ho⟩ := e_cols hl hd (9 * t + 4) m2 c1 c2 c3 2 (by decide) (by decide)
  rw [show ((9 * t + 4 : Nat) : Int) = ((9 * t : Nat) : Int) + 4 by omega] at eo
  have h50 := ixI (ds := ds) (k := 50) (by omega)
  rw [show ((50 : Nat) : Int) = 50 from rfl] at h50
  have p0 := Int.emod_nonneg (ds.getD 50 0) (show (3 : Int) ≠ 0 by decide)
  have p3 := Int.emod_lt_of_pos (ds.getD 50 0) (show (0 : Int) < 3 by decide)
  obtain ⟨k, hk⟩ : ∃ k : Nat, ds.getD 50 0 % 3 = (k : Int) := ⟨(ds.getD 50 0 % 3).toNat, by omega⟩
  have m3 : modD (.int (ds.getD 50 0)) (.int 3) = .ok (.int k) := by rw [mod_ii (by decide)]; congr 2
  obtain ⟨hrp, hrm⟩ := rp_rep hc (1 + k) (by omega) (by omega)
  rw [show ((1 + k : Nat) : Int) = 1 + (k : Int) by omega] at hrm
  have sl4 : slD none (some 4) (T cs) = .ok (.tuple ((cs.map PyData.str).take 4)) := by
    have := cut_take (cs.map PyData.str) 4
    show R.ok (PyData.tuple (cutL (cs.map PyData.str) none (some 4))) = _
    rw [show (4 : Int) = ((4 : Nat) : Int) from rfl, this]
  have m2' : modD (.int t) (.int 2) = .ok (.int ((t % 2 : Nat) : Int)) := modN (n := 2) (by decide)
  have q4 : (0 + 1 + 1 + 1 + 1 = 4) = True := by simp
  have q2 : (0 + 1 + 1 = 2) = True := by simp
  have z5 : ((0 : Nat) + 1 + 1 + 1 + 1 + 1 ≤ SZ) = True := eq_true (by show _ ≤ 16777216; omega)
  have z2 : ((0 : Nat) + 1 + 1 ≤ SZ) = True := eq_true (by show _ ≤ 16777216; omega)
  -- the colours of this turn
  obtain ⟨xs, hx, hset⟩ : ∃ xs, Rp xs ∧ iteR (tvE (op2 eqD (op2 modD (vE 2) (cE (.int 2))) (cE (.int 1))) [s0, .d (.list (ds.map .int)), .d (.int t), .d (T cs), .d (T ys), s5, s6, s7, s8, s9, s10, s11, s12, s13, s14, s15, s16, s17, s18, s19])
      (setS 3 (op2 mulD (slE (vE 3) pNo (pAt (cE (.int 4)))) (op2 addD (cE (.int 1)) (op2 modD (callB int1D (consA (op2 ixD (vE 1) (cE (.int 50))) nilA)) (cE (.int 3)))))) nxS
      [s0, .d (.list (ds.map .int)), .d (.int t), .d (T cs), .d (T ys), s5, s6, s7, s8, s9, s10, s11, s12, s13, s14, s15, s16, s17, s18, s19] = .ok (.nx [s0, .d (.list (ds.map .int)), .d (.int t), .d (T xs), .d (T ys), s5, s6, s7, s8, s9, s10, s11, s12, s13, s14, s15, s16, s17, s18, s19]) := by
    by_cases hodd : t % 2 = 1
    · have e2 : decide ((((t % 2 : Nat) : Nat) : Int) = 1) = true := decide_eq_true (by omega)
      refine ⟨_, hrp, ?_⟩
      simp only [gN_ap, bind_ok, List.set_cons_succ, List.set_cons_zero, seqS_ap, asgS_ap, tupE_ap, consA_ap, nilA_ap, callE_ap, callB_ap, vE_ap, List.getElem?_cons_zero, List.getElem?_cons_succ, ofS_d, op1_ap, op2_ap, cE_ap, lstE_ap, List.length_cons, List.length_nil, thenS_nx, setS_ap, ifS_ap, orT_ap, andT_ap, notT_ap, tvE_ap, boolD_ap, iteR_t, iteR_f, kT_ap, nxS_ap, itE_ap, iterD_list, forS_ap, add_ii, sub_ii, int1_i, PD.len_list, gT_tuple, gsCons_ap, gsNil_ap, pAt_ap, pNo_ap, intD_ap, slE_ap, neg_i, isi_ap, PD.len_tuple, Bool.not_true, Bool.not_false, m2', eq_ii, e2, sl4, h50, m3, hrm]
    · have e2 : decide ((((t % 2 : Nat) : Nat) : Int) = 1) = false := decide_eq_false (by omega)
      refine ⟨cs, hc, ?_⟩
      simp only [gN_ap, bind_ok, List.set_cons_succ, List.set_cons_zero, seqS_ap, asgS_ap, tupE_ap, consA_ap, nilA_ap, callE_ap, callB_ap, vE_ap, List.getElem?_cons_zero, List.getElem?_cons_succ, ofS_d, op1_ap, op2_ap, cE_ap, lstE_ap, List.length_cons, List.length_nil, thenS_nx, setS_ap, ifS_ap, orT_ap, andT_ap, notT_ap, tvE_ap, boolD_ap, iteR_t, iteR_f, kT_ap, nxS_ap, itE_ap, iterD_list, forS_ap, add_ii, sub_ii, int1_i, PD.len_list, gT_tuple, gsCons_ap, gsNil_ap, pAt_ap, pNo_ap, intD_ap, slE_ap, neg_i, isi_ap, PD.len_tuple, Bool.not_true, Bool.not_false, m2', eq_ii, e2]
  obtain ⟨p, hp, sp⟩ := per_ok hx
  obtain ⟨r, hr, sr⟩ := per_ok ho
  obtain ⟨t5, t6, t7, t8, t9, t10, t11, t12, t13, t14, t15, hrest⟩ := rest_ok hl hd hx ho hp hr sp sr t ht bK rfl s0 s5 s6 s7 s8 s9 s10 s11 s12 s13 s14 s15 s16 s17 s18 s19
  obtain ⟨t16, t17, hK⟩ := k_ok hx ho s0 (.d (.list (ds.map .int))) (.d (.int t)) t5 t6 t7 t8 t9 t10 t11 t12 t13 t14 t15 s16 s17 s18 s19
  rw [hK] at hrest
  refine ⟨.d (.int t), .d (T xs), .d (T ys), t5, t6, t7, t8, t9, t10, t11, t12, t13, t14, t15, t16, t17, s18, s19, ?_⟩
  rw [← hrest]
  unfold w10_law
  rw [gN_ap, bind_ok]
  simp only [List.set_cons_succ, List.set_cons_zero]
  rw [seqS_ap]
  rw [show asgS (tupE (consA (callE 4 m__law_colours (consA (vE 1) (consA (op2 mulD (cE (.int 9)) (vE 2)) (consA (op2 ixD (lstE (consA (cE (.int 8)) (consA (cE (.int 12)) (consA (cE (.int 4)) (consA (cE (.int 3)) (consA (cE (.int 6)) nilA)))))) (vE 2)) (consA (op2 ixD (lstE (consA (cE (.int 2)) (consA (cE (.int 3)) (consA (cE (.int 2)) (consA (cE (.int 1)) (consA (cE (.int 3)) nilA)))))) (vE 2)) nilA))))) (consA (callE 4 m__law_colours (consA (vE 1) (consA (op2 addD (op2 mulD (cE (.int 9)) (vE 2)) (cE (.int 4))) (consA (op2 ixD (lstE (consA (cE (.int 5)) (consA (cE (.int 4)) (consA (cE (.int 6)) (consA (cE (.int 3)) (consA (cE (.int 8)) nilA)))))) (vE 2)) (consA (cE (.int 2)) nilA))))) nilA))) (gT 2 (gsCons (gN 3) (gsCons (gN 4) gsNil)))
      [s0, .d (.list (ds.map .int)), .d (.int t), s3, s4, s5, s6, s7, s8, s9, s10, s11, s12, s13, s14, s15, s16, s17, s18, s19] = .ok (.nx [s0, .d (.list (ds.map .int)), .d (.int t), .d (T cs), .d (T ys), s5, s6, s7, s8, s9, s10, s11, s12, s13, s14, s15, s16, s17, s18, s19]) from by
    simp only [gN_ap, bind_ok, List.set_cons_succ, List.set_cons_zero, seqS_ap, asgS_ap, tupE_ap, consA_ap, nilA_ap, callE_ap, callB_ap, vE_ap, List.getElem?_cons_zero, List.getElem?_cons_succ, ofS_d, op1_ap, op2_ap, cE_ap, lstE_ap, List.length_cons, List.length_nil, thenS_nx, setS_ap, ifS_ap, orT_ap, andT_ap, notT_ap, tvE_ap, boolD_ap, iteR_t, iteR_f, kT_ap, nxS_ap, itE_ap, iterD_list, forS_ap, add_ii, sub_ii, int1_i, PD.len_list, gT_tuple, gsCons_ap, gsNil_ap, pAt_ap, pNo_ap, intD_ap, slE_ap, neg_i, isi_ap, PD.len_tuple, Bool.not_true, Bool.not_false, m9, x1, x2, x3, ec, eo, q4, q2, z5, z2, if_true]]
  rw [thenS_nx, seqS_ap, ifS_ap, hset, thenS_nx]
  rfl
theorem end_ok (s0 s1 s2 s3 s4 s5 s6 s7 s8 s9 s10 s11 s12 s13 s14 s15 s16 s17 s18 s19 : Sl) : bE [s0, s1, s2, s3, s4, s5, s6, s7, s8, s9, s10, s11, s12, s13, s14, s15, s16, s17, s18, s19] = .ok (.rt (.bool true)) := by
  have e1 : m_comes_again [.tuple [.str "a", .str "b", .str "a", .str "b"], .tuple [.int 6, .int 1]] = .ok (.tuple [.int 3, .int 1]) := by kernel_rfl
  have e2 : m_both_again [.tuple [.str "a"], .tuple [.int 4, .int 1], .tuple [.str "a"], .tuple [.int 6, .int 1]] = .ok (.tuple [.int 12, .int 1]) := by kernel_rfl
  have e3 : m_both_again [.tuple [.str "a", .str "b"], .tuple [.int 1, .int 2], .tuple [.str "a"], .tuple [.int 1, .int 3]] = .ok (.tuple [.int 1, .int 1]) := by kernel_rfl
  have e4 : m_least_steps [.tuple [.str "a", .str "a", .str "a"]] = .ok (.int 1) := by kernel_rfl
  have e5 : m_turned [.tuple [.str "a", .str "b", .str "cc"], .int (-1)] = .ok (.tuple [.str "cc", .str "a", .str "b"]) := by kernel_rfl
  have e6 : m_comes_again [.tuple [.str "a", .str "b", .str "cc"], .tuple [.int 1, .int 100]] = .ok (.tuple [.int 1, .int 100]) := by kernel_rfl
  have n1 : neD (.tuple [.int 3, .int 1]) (.tuple [.int 3, .int 1]) = .ok (.bool false) := by rfl
  have n2 : neD (.tuple [.int 12, .int 1]) (.tuple [.int 12, .int 1]) = .ok (.bool false) := by rfl
  have n3 : neD (.tuple [.int 1, .int 1]) (.tuple [.int 1, .int 1]) = .ok (.bool false) := by rfl
  have n4 : eqD (.int 1) (.int 1) = .ok (.bool true) := by rfl
  have n5 : eqD (.tuple [.str "cc", .str "a", .str "b"]) (.tuple [.str "cc", .str "a", .str "b"]) = .ok (.bool true) := eqT ["cc", "a", "b"] ["cc", "a", "b"]
  have n6 : eqD (.tuple [.int 1, .int 100]) (.tuple [.int 1, .int 100]) = .ok (.bool true) := by rfl
  unfold bE
  simp [SZ, e1, e2, e3, e4, e5, e6, n1, n2, n3, n4, n5, n6]
theorem law_true : ∀ ns : List Int, ns.length ≤ 63 → m_law [.list (ns.map .int)] = .ok (.bool true) := by
  intro ns hn
  obtain ⟨ds, e, hl, hd⟩ := draws_ok ns hn 60 (by decide)
  have ed : m__law_draws [.list (ns.map .int), .int 60] = .ok (.list (ds.map .int)) := e
  have r5 : range1D [.int 5] = .ok (rangeL 0 1 5) := range1_ok (by decide) (by decide)
  unfold m_law
  rw [runB_ap]
  show outR ((seqS (setS 1 (callE 2 m__law_draws (consA (vE 0) (consA (cE (.int 60)) nilA)))) (seqS (forS (argI range1D (consA (cE (.int 5)) nilA)) (gN 2) w10_law) bE)) [.d (.list (ns.map .int)), .un, .un, .un, .un, .un, .un, .un, .un, .un, .un, .un, .un, .un, .un, .un, .un, .un, .un, .un]) = _
  obtain ⟨ρ', e1, t2, t3, t4, t5, t6, t7, t8, t9, t10, t11, t12, t13, t14, t15, t16, t17, t18, t19, hρ⟩ := forG_all (g := gN 2) (b := w10_law) (I := fun ρ => ∃ t2 t3 t4 t5 t6 t7 t8 t9 t10 t11 t12 t13 t14 t15 t16 t17 t18 t19, ρ = [.d (.list (ns.map .int)), .d (.list (ds.map .int)), t2, t3, t4, t5, t6, t7, t8, t9, t10, t11, t12, t13, t14, t15, t16, t17, t18, t19])
    (rangeL 0 1 5) [.d (.list (ns.map .int)), .d (.list (ds.map .int)), .un, .un, .un, .un, .un, .un, .un, .un, .un, .un, .un, .un, .un, .un, .un, .un, .un, .un] ⟨_, _, _, _, _, _, _, _, _, _, _, _, _, _, _, _, _, _, rfl⟩ fun x hx ρ hi => by
      obtain ⟨t2, t3, t4, t5, t6, t7, t8, t9, t10, t11, t12, t13, t14, t15, t16, t17, t18, t19, rfl⟩ := hi
      rw [rangeL_map] at hx
      obtain ⟨t, ht, rfl⟩ := List.mem_map.mp hx
      obtain ⟨u2, u3, u4, u5, u6, u7, u8, u9, u10, u11, u12, u13, u14, u15, u16, u17, u18, u19, e⟩ := turn_ok hl hd t (List.mem_range.mp ht) (.d (.list (ns.map .int))) t2 t3 t4 t5 t6 t7 t8 t9 t10 t11 t12 t13 t14 t15 t16 t17 t18 t19
      exact ⟨_, e, _, _, _, _, _, _, _, _, _, _, _, _, _, _, _, _, _, _, rfl⟩
  subst hρ
  simp only [seqS_ap, setS_ap, callE_ap, consA_ap, nilA_ap, vE_ap, cE_ap, List.getElem?_cons_zero, ofS_d, bind_ok, List.length_cons, List.length_nil, show (0 + 1 + 1 = 2) = True by simp, if_true, ed, List.set_cons_succ, List.set_cons_zero, thenS_nx, forS_ap, argI_ap, r5, e1, end_ok, outR_rt]
end G
namespace G
open PySem PySem.Spec PyProof.Rows L2 PD
/-! ## the text by its places -/
def topS (i : Nat) : Stmt := PySem.Challenge.pw_rigwright_k59_whole_patterns.main.body.getD i (.Pass ⟨0, 0, 0, 0⟩)
abbrev s_divisor : Stmt := topS 6
theorem sc_divisor : FnScope ["one", "other"] ["one", "other"] (defScope s_divisor) := ⟨rfl, rfl, rfl, by decide +kernel, rfl, by decide +kernel, by decide +kernel⟩
abbrev s_quotient : Stmt := topS 7
theorem sc_quotient : FnScope ["up", "down", "size"] ["up", "down"] (defScope s_quotient) := ⟨rfl, rfl, rfl, by decide +kernel, rfl, by decide +kernel, by decide +kernel⟩
abbrev s_times : Stmt := topS 8
theorem sc_times : FnScope ["one", "other"] ["one", "other"] (defScope s_times) := ⟨rfl, rfl, rfl, by decide +kernel, rfl, by decide +kernel, by decide +kernel⟩
abbrev s_over : Stmt := topS 9
theorem sc_over : FnScope ["one", "other"] ["one", "other"] (defScope s_over) := ⟨rfl, rfl, rfl, by decide +kernel, rfl, by decide +kernel, by decide +kernel⟩
abbrev s_is_less : Stmt := topS 10
theorem sc_is_less : FnScope ["one", "other"] ["one", "other"] (defScope s_is_less) := ⟨rfl, rfl, rfl, by decide +kernel, rfl, by decide +kernel, by decide +kernel⟩
abbrev s_is_integer : Stmt := topS 11
theorem sc_is_integer : FnScope ["value"] ["value"] (defScope s_is_integer) := ⟨rfl, rfl, rfl, by decide +kernel, rfl, by decide +kernel, by decide +kernel⟩
abbrev s_is_quotient : Stmt := topS 12
theorem sc_is_quotient : FnScope ["value"] ["value"] (defScope s_is_quotient) := ⟨rfl, rfl, rfl, by decide +kernel, rfl, by decide +kernel, by decide +kernel⟩
abbrev s_is_colour : Stmt := topS 16
theorem sc_is_colour : FnScope ["value", "sign"] ["value"] (defScope s_is_colour) := ⟨rfl, rfl, rfl, by decide +kernel, rfl, by decide +kernel, by decide +kernel⟩
abbrev s_is_lay : Stmt := topS 17
theorem sc_is_lay : FnScope ["value"] ["value"] (defScope s_is_lay) := ⟨rfl, rfl, rfl, by decide +kernel, rfl, by decide +kernel, by decide +kernel⟩
abbrev s_check_colours : Stmt := topS 20
theorem sc_check_colours : FnScope ["colours", "one"] ["colours"] (defScope s_check_colours) := ⟨rfl, rfl, rfl, by decide +kernel, rfl, by decide +kernel, by decide +kernel⟩
abbrev s__turned : Stmt := topS 21
theorem sc__turned : FnScope ["colours", "steps", "at"] ["colours", "steps"] (defScope s__turned) := ⟨rfl, rfl, rfl, by decide +kernel, rfl, by decide +kernel, by decide +kernel⟩
abbrev s__least_steps : Stmt := topS 22
theorem sc__least_steps : FnScope ["colours", "steps"] ["colours"] (defScope s__least_steps) := ⟨rfl, rfl, rfl, by decide +kernel, rfl, by decide +kernel, by decide +kernel⟩
abbrev s_least_steps : Stmt := topS 23
theorem sc_least_steps : FnScope ["colours"] ["colours"] (defScope s_least_steps) := ⟨rfl, rfl, rfl, by decide +kernel, rfl, by decide +kernel, by decide +kernel⟩
abbrev s_turned : Stmt := topS 24
theorem sc_turned : FnScope ["colours", "steps"] ["colours", "steps"] (defScope s_turned) := ⟨rfl, rfl, rfl, by decide +kernel, rfl, by decide +kernel, by decide +kernel⟩
abbrev s__check_lay : Stmt := topS 25
theorem sc__check_lay : FnScope ["lay"] ["lay"] (defScope s__check_lay) := ⟨rfl, rfl, rfl, by decide +kernel, rfl, by decide +kernel, by decide +kernel⟩
abbrev s__again : Stmt := topS 26
theorem sc__again : FnScope ["colours", "lay"] ["colours", "lay"] (defScope s__again) := ⟨rfl, rfl, rfl, by decide +kernel, rfl, by decide +kernel, by decide +kernel⟩
abbrev s_comes_again : Stmt := topS 27
theorem sc_comes_again : FnScope ["colours", "lay"] ["colours", "lay"] (defScope s_comes_again) := ⟨rfl, rfl, rfl, by decide +kernel, rfl, by decide +kernel, by decide +kernel⟩
abbrev s_both_again : Stmt := topS 28
theorem sc_both_again : FnScope ["colours", "lay", "others", "other", "one", "two", "ratio"] ["colours", "lay", "others", "other"] (defScope s_both_again) := ⟨rfl, rfl, rfl, by decide +kernel, rfl, by decide +kernel, by decide +kernel⟩
abbrev s__least_turned : Stmt := topS 29
theorem sc__least_turned : FnScope ["colours", "steps"] ["colours"] (defScope s__least_turned) := ⟨rfl, rfl, rfl, by decide +kernel, rfl, by decide +kernel, by decide +kernel⟩
abbrev s_least_turned : Stmt := topS 30
theorem sc_least_turned : FnScope ["colours"] ["colours"] (defScope s_least_turned) := ⟨rfl, rfl, rfl, by decide +kernel, rfl, by decide +kernel, by decide +kernel⟩
abbrev s_same_rope : Stmt := topS 31
theorem sc_same_rope : FnScope ["colours", "other"] ["colours", "other"] (defScope s_same_rope) := ⟨rfl, rfl, rfl, by decide +kernel, rfl, by decide +kernel, by decide +kernel⟩
abbrev s_turning : Stmt := topS 32
theorem sc_turning : FnScope ["colours", "other", "good", "steps"] ["colours", "other"] (defScope s_turning) := ⟨rfl, rfl, rfl, by decide +kernel, rfl, by decide +kernel, by decide +kernel⟩
abbrev s__mirrored : Stmt := topS 33
theorem sc__mirrored : FnScope ["colours"] ["colours"] (defScope s__mirrored) := ⟨rfl, rfl, rfl, by decide +kernel, rfl, by decide +kernel, by decide +kernel⟩
abbrev s_mirrored : Stmt := topS 34
theorem sc_mirrored : FnScope ["colours"] ["colours"] (defScope s_mirrored) := ⟨rfl, rfl, rfl, by decide +kernel, rfl, by decide +kernel, by decide +kernel⟩
abbrev s_is_even_handed : Stmt := topS 35
theorem sc_is_even_handed : FnScope ["colours"] ["colours"] (defScope s_is_even_handed) := ⟨rfl, rfl, rfl, by decide +kernel, rfl, by decide +kernel, by decide +kernel⟩
abbrev s__law_draws : Stmt := topS 37
theorem sc__law_draws : FnScope ["script", "many", "draws", "seed", "cell", "number", "k"] ["script", "many"] (defScope s__law_draws) := ⟨rfl, rfl, rfl, by decide +kernel, rfl, by decide +kernel, by decide +kernel⟩
abbrev s__law_colours : Stmt := topS 38
theorem sc__law_colours : FnScope ["draws", "at", "many", "kinds", "k"] ["draws", "at", "many", "kinds"] (defScope s__law_colours) := ⟨rfl, rfl, rfl, by decide +kernel, rfl, by decide +kernel, by decide +kernel⟩
abbrev s__law_low : Stmt := topS 39
theorem sc__law_low : FnScope ["up", "down", "one", "other"] ["up", "down"] (defScope s__law_low) := ⟨rfl, rfl, rfl, by decide +kernel, rfl, by decide +kernel, by decide +kernel⟩
abbrev s__law_steps : Stmt := topS 40
theorem sc__law_steps : FnScope ["colours", "size", "steps", "k"] ["colours"] (defScope s__law_steps) := ⟨rfl, rfl, rfl, by decide +kernel, rfl, by decide +kernel, by decide +kernel⟩
abbrev s__law_call : Stmt := topS 41
theorem sc__law_call : FnScope ["way", "colours", "lay", "others", "other"] ["way", "colours", "lay", "others", "other"] (defScope s__law_call) := ⟨rfl, rfl, rfl, by decide +kernel, rfl, by decide +kernel, by decide +kernel⟩
abbrev s__law_word : Stmt := topS 42
theorem sc__law_word : FnScope ["way", "colours", "lay", "others", "other"] ["way", "colours", "lay", "others", "other"] (defScope s__law_word) := ⟨rfl, rfl, rfl, by decide +kernel, rfl, by decide +kernel, by decide +kernel⟩
abbrev s_law : Stmt := topS 43
theorem sc_law : FnScope ["script", "draws", "turn", "colours", "others", "lay", "other", "steps", "more", "size", "count", "step", "unit", "one", "two", "both", "wrong", "told", "way", "k"] ["script"] (defScope s_law) := ⟨rfl, rfl, rfl, by decide +kernel, rfl, by decide +kernel, by decide +kernel⟩
/-! ## what the top has left -/
structure Tx (K : PySem.W.Frag) (mg : Str → Option Value) where
  nabs : mg "abs" = none
  nall : mg "all" = none
  nbool : mg "bool" = none
  nint : mg "int" = none
  nisinstance : mg "isinstance" = none
  nlen : mg "len" = none
  nlist : mg "list" = none
  nmin : mg "min" = none
  nrange : mg "range" = none
  nstr : mg "str" = none
  ntuple : mg "tuple" = none
  uLETTERS : Value
  gLETTERS : mg "LETTERS" = some uLETTERS
  rLETTERS : RelV (V.str "abcdefghijklmnopqrstuvwxyz") uLETTERS
  dLETTERS : ∀ F, Dp K F (V.str "abcdefghijklmnopqrstuvwxyz") cLETTERS
  uMOST_LETTERS : Value
  gMOST_LETTERS : mg "MOST_LETTERS" = some uMOST_LETTERS
  rMOST_LETTERS : RelV (V.int 8) uMOST_LETTERS
  dMOST_LETTERS : ∀ F, Dp K F (V.int 8) cMOST_LETTERS
  uMOST_STRANDS : Value
  gMOST_STRANDS : mg "MOST_STRANDS" = some uMOST_STRANDS
  rMOST_STRANDS : RelV (V.int 12) uMOST_STRANDS
  dMOST_STRANDS : ∀ F, Dp K F (V.int 12) cMOST_STRANDS
  CBadColours : Addr
  gBadColours : mg "BadColours" = some (.ref CBadColours)
  xBadColours : PySem.W.excIn K CBadColours [.type "ValueError", .type "Exception", .type "BaseException", .type "object"] "ValueError.__new__" = true
  kBadColours : PySem.W.keepIn K (.ref CBadColours) = true
  qBadColours : PySem.W.subIn K (.ref CBadColours) (.type "BaseException") = some true
  tBadColours : PySem.W.typeIn K (.ref CBadColours) = some (.type "type")
  CBadLay : Addr
  gBadLay : mg "BadLay" = some (.ref CBadLay)
  xBadLay : PySem.W.excIn K CBadLay [.type "ValueError", .type "Exception", .type "BaseException", .type "object"] "ValueError.__new__" = true
  kBadLay : PySem.W.keepIn K (.ref CBadLay) = true
  qBadLay : PySem.W.subIn K (.ref CBadLay) (.type "BaseException") = some true
  tBadLay : PySem.W.typeIn K (.ref CBadLay) = some (.type "type")
  CBadSteps : Addr
  gBadSteps : mg "BadSteps" = some (.ref CBadSteps)
  xBadSteps : PySem.W.excIn K CBadSteps [.type "ValueError", .type "Exception", .type "BaseException", .type "object"] "ValueError.__new__" = true
  kBadSteps : PySem.W.keepIn K (.ref CBadSteps) = true
  qBadSteps : PySem.W.subIn K (.ref CBadSteps) (.type "BaseException") = some true
  tBadSteps : PySem.W.typeIn K (.ref CBadSteps) = some (.type "type")
  iBadColours : PySem.W.isClsIn K CBadColours = true
  sBadColours_BadColours : PySem.W.subIn K (.ref CBadColours) (.ref CBadColours) = some true
  sBadLay_BadColours : PySem.W.subIn K (.ref CBadLay) (.ref CBadColours) = some false
  sBadSteps_BadColours : PySem.W.subIn K (.ref CBadSteps) (.ref CBadColours) = some false
  iBadLay : PySem.W.isClsIn K CBadLay = true
  sBadColours_BadLay : PySem.W.subIn K (.ref CBadColours) (.ref CBadLay) = some false
  sBadLay_BadLay : PySem.W.subIn K (.ref CBadLay) (.ref CBadLay) = some true
  sBadSteps_BadLay : PySem.W.subIn K (.ref CBadSteps) (.ref CBadLay) = some false
  iBadSteps : PySem.W.isClsIn K CBadSteps = true
  sBadColours_BadSteps : PySem.W.subIn K (.ref CBadColours) (.ref CBadSteps) = some false
  sBadLay_BadSteps : PySem.W.subIn K (.ref CBadLay) (.ref CBadSteps) = some false
  sBadSteps_BadSteps : PySem.W.subIn K (.ref CBadSteps) (.ref CBadSteps) = some true
  a_divisor : Addr
  d_divisor : FuncData
  f_divisor : Fun K "divisor" "divisor" s_divisor a_divisor d_divisor
  g_divisor : mg "divisor" = some (.ref a_divisor)
  b_divisor : Binds K d_divisor ["one", "other"] []
  a_quotient : Addr
  d_quotient : FuncData
  f_quotient : Fun K "quotient" "quotient" s_quotient a_quotient d_quotient
  g_quotient : mg "quotient" = some (.ref a_quotient)
  b_quotient : Binds K d_quotient ["up", "down"] []
  a_times : Addr
  d_times : FuncData
  f_times : Fun K "times" "times" s_times a_times d_times
  g_times : mg "times" = some (.ref a_times)
  b_times : Binds K d_times ["one", "other"] []
  a_over : Addr
  d_over : FuncData
  f_over : Fun K "over" "over" s_over a_over d_over
  g_over : mg "over" = some (.ref a_over)
  b_over : Binds K d_over ["one", "other"] []
  a_is_less : Addr
  d_is_less : FuncData
  f_is_less : Fun K "is_less" "is_less" s_is_less a_is_less d_is_less
  g_is_less : mg "is_less" = some (.ref a_is_less)
  b_is_less : Binds K d_is_less ["one", "other"] []
  a_is_integer : Addr
  d_is_integer : FuncData
  f_is_integer : Fun K "is_integer" "is_integer" s_is_integer a_is_integer d_is_integer
  g_is_integer : mg "is_integer" = some (.ref a_is_integer)
  b_is_integer : Binds K d_is_integer ["value"] []
  a_is_quotient : Addr
  d_is_quotient : FuncData
  f_is_quotient : Fun K "is_quotient" "is_quotient" s_is_quotient a_is_quotient d_is_quotient
  g_is_quotient : mg "is_quotient" = some (.ref a_is_quotient)
  b_is_quotient : Binds K d_is_quotient ["value"] []
  a_is_colour : Addr
  d_is_colour : FuncData
  f_is_colour : Fun K "is_colour" "is_colour" s_is_colour a_is_colour d_is_colour
  g_is_colour : mg "is_colour" = some (.ref a_is_colour)
  b_is_colour : Binds K d_is_colour ["value"] []
  a_is_lay : Addr
  d_is_lay : FuncData
  f_is_lay : Fun K "is_lay" "is_lay" s_is_lay a_is_lay d_is_lay
  g_is_lay : mg "is_lay" = some (.ref a_is_lay)
  b_is_lay : Binds K d_is_lay ["value"] []
  a_check_colours : Addr
  d_check_colours : FuncData
  f_check_colours : Fun K "check_colours" "check_colours" s_check_colours a_check_colours d_check_colours
  g_check_colours : mg "check_colours" = some (.ref a_check_colours)
  b_check_colours : Binds K d_check_colours ["colours"] []
  a__turned : Addr
  d__turned : FuncData
  f__turned : Fun K "_turned" "_turned" s__turned a__turned d__turned
  g__turned : mg "_turned" = some (.ref a__turned)
  b__turned : Binds K d__turned ["colours", "steps"] []
  a__least_steps : Addr
  d__least_steps : FuncData
  f__least_steps : Fun K "_least_steps" "_least_steps" s__least_steps a__least_steps d__least_steps
  g__least_steps : mg "_least_steps" = some (.ref a__least_steps)
  b__least_steps : Binds K d__least_steps ["colours"] []
  a_least_steps : Addr
  d_least_steps : FuncData
  f_least_steps : Fun K "least_steps" "least_steps" s_least_steps a_least_steps d_least_steps
  g_least_steps : mg "least_steps" = some (.ref a_least_steps)
  b_least_steps : Binds K d_least_steps ["colours"] []
  a_turned : Addr
  d_turned : FuncData
  f_turned : Fun K "turned" "turned" s_turned a_turned d_turned
  g_turned : mg "turned" = some (.ref a_turned)
  b_turned : Binds K d_turned ["colours", "steps"] []
  a__check_lay : Addr
  d__check_lay : FuncData
  f__check_lay : Fun K "_check_lay" "_check_lay" s__check_lay a__check_lay d__check_lay
  g__check_lay : mg "_check_lay" = some (.ref a__check_lay)
  b__check_lay : Binds K d__check_lay ["lay"] []
  a__again : Addr
  d__again : FuncData
  f__again : Fun K "_again" "_again" s__again a__again d__again
  g__again : mg "_again" = some (.ref a__again)
  b__again : Binds K d__again ["colours", "lay"] []
  a_comes_again : Addr
  d_comes_again : FuncData
  f_comes_again : Fun K "comes_again" "comes_again" s_comes_again a_comes_again d_comes_again
  g_comes_again : mg "comes_again" = some (.ref a_comes_again)
  b_comes_again : Binds K d_comes_again ["colours", "lay"] []
  a_both_again : Addr
  d_both_again : FuncData
  f_both_again : Fun K "both_again" "both_again" s_both_again a_both_again d_both_again
  g_both_again : mg "both_again" = some (.ref a_both_again)
  b_both_again : Binds K d_both_again ["colours", "lay", "others", "other"] []
  a__least_turned : Addr
  d__least_turned : FuncData
  f__least_turned : Fun K "_least_turned" "_least_turned" s__least_turned a__least_turned d__least_turned
  g__least_turned : mg "_least_turned" = some (.ref a__least_turned)
  b__least_turned : Binds K d__least_turned ["colours"] []
  a_least_turned : Addr
  d_least_turned : FuncData
  f_least_turned : Fun K "least_turned" "least_turned" s_least_turned a_least_turned d_least_turned
  g_least_turned : mg "least_turned" = some (.ref a_least_turned)
  b_least_turned : Binds K d_least_turned ["colours"] []
  a_same_rope : Addr
  d_same_rope : FuncData
  f_same_rope : Fun K "same_rope" "same_rope" s_same_rope a_same_rope d_same_rope
  g_same_rope : mg "same_rope" = some (.ref a_same_rope)
  b_same_rope : Binds K d_same_rope ["colours", "other"] []
  a_turning : Addr
  d_turning : FuncData
  f_turning : Fun K "turning" "turning" s_turning a_turning d_turning
  g_turning : mg "turning" = some (.ref a_turning)
  b_turning : Binds K d_turning ["colours", "other"] []
  a__mirrored : Addr
  d__mirrored : FuncData
  f__mirrored : Fun K "_mirrored" "_mirrored" s__mirrored a__mirrored d__mirrored
  g__mirrored : mg "_mirrored" = some (.ref a__mirrored)
  b__mirrored : Binds K d__mirrored ["colours"] []
  a_mirrored : Addr
  d_mirrored : FuncData
  f_mirrored : Fun K "mirrored" "mirrored" s_mirrored a_mirrored d_mirrored
  g_mirrored : mg "mirrored" = some (.ref a_mirrored)
  b_mirrored : Binds K d_mirrored ["colours"] []
  a_is_even_handed : Addr
  d_is_even_handed : FuncData
  f_is_even_handed : Fun K "is_even_handed" "is_even_handed" s_is_even_handed a_is_even_handed d_is_even_handed
  g_is_even_handed : mg "is_even_handed" = some (.ref a_is_even_handed)
  b_is_even_handed : Binds K d_is_even_handed ["colours"] []
  a__law_draws : Addr
  d__law_draws : FuncData
  f__law_draws : Fun K "_law_draws" "_law_draws" s__law_draws a__law_draws d__law_draws
  g__law_draws : mg "_law_draws" = some (.ref a__law_draws)
  b__law_draws : Binds K d__law_draws ["script", "many"] []
  a__law_colours : Addr
  d__law_colours : FuncData
  f__law_colours : Fun K "_law_colours" "_law_colours" s__law_colours a__law_colours d__law_colours
  g__law_colours : mg "_law_colours" = some (.ref a__law_colours)
  b__law_colours : Binds K d__law_colours ["draws", "at", "many", "kinds"] []
  a__law_low : Addr
  d__law_low : FuncData
  f__law_low : Fun K "_law_low" "_law_low" s__law_low a__law_low d__law_low
  g__law_low : mg "_law_low" = some (.ref a__law_low)
  b__law_low : Binds K d__law_low ["up", "down"] []
  a__law_steps : Addr
  d__law_steps : FuncData
  f__law_steps : Fun K "_law_steps" "_law_steps" s__law_steps a__law_steps d__law_steps
  g__law_steps : mg "_law_steps" = some (.ref a__law_steps)
  b__law_steps : Binds K d__law_steps ["colours"] []
  a__law_call : Addr
  d__law_call : FuncData
  f__law_call : Fun K "_law_call" "_law_call" s__law_call a__law_call d__law_call
  g__law_call : mg "_law_call" = some (.ref a__law_call)
  b__law_call : Binds K d__law_call ["way", "colours", "lay", "others", "other"] []
  a__law_word : Addr
  d__law_word : FuncData
  f__law_word : Fun K "_law_word" "_law_word" s__law_word a__law_word d__law_word
  g__law_word : mg "_law_word" = some (.ref a__law_word)
  b__law_word : Binds K d__law_word ["way", "colours", "lay", "others", "other"] []
  a_law : Addr
  d_law : FuncData
  f_law : Fun K "law" "law" s_law a_law d_law
  g_law : mg "law" = some (.ref a_law)
  b_law : Binds K d_law ["script"] []
theorem mtBadColours_ok {K : PySem.W.Frag} {mg : Str → Option Value} (T : Tx K mg) (c : String) (b : Bool) (A : Addr) (h : mtBadColours c = some b) (hA : mg (c : Str) = some (.ref A)) : PySem.W.exmOne K (.ref A) (.ref T.CBadColours) = some b := by
  unfold mtBadColours at h
  split at h
  · rename_i e; subst e; have z := hA.symm.trans T.gBadColours; cases z; cases h; exact exm_ok T.qBadColours T.iBadColours T.tBadColours T.sBadColours_BadColours
  split at h
  · rename_i e; subst e; have z := hA.symm.trans T.gBadLay; cases z; cases h; exact exm_ok T.qBadColours T.iBadColours T.tBadColours T.sBadLay_BadColours
  split at h
  · rename_i e; subst e; have z := hA.symm.trans T.gBadSteps; cases z; cases h; exact exm_ok T.qBadColours T.iBadColours T.tBadColours T.sBadSteps_BadColours
  cases h
theorem mtBadLay_ok {K : PySem.W.Frag} {mg : Str → Option Value} (T : Tx K mg) (c : String) (b : Bool) (A : Addr) (h : mtBadLay c = some b) (hA : mg (c : Str) = some (.ref A)) : PySem.W.exmOne K (.ref A) (.ref T.CBadLay) = some b := by
  unfold mtBadLay at h
  split at h
  · rename_i e; subst e; have z := hA.symm.trans T.gBadColours; cases z; cases h; exact exm_ok T.qBadLay T.iBadLay T.tBadLay T.sBadColours_BadLay
  split at h
  · rename_i e; subst e; have z := hA.symm.trans T.gBadLay; cases z; cases h; exact exm_ok T.qBadLay T.iBadLay T.tBadLay T.sBadLay_BadLay
  split at h
  · rename_i e; subst e; have z := hA.symm.trans T.gBadSteps; cases z; cases h; exact exm_ok T.qBadLay T.iBadLay T.tBadLay T.sBadSteps_BadLay
  cases h
theorem mtBadSteps_ok {K : PySem.W.Frag} {mg : Str → Option Value} (T : Tx K mg) (c : String) (b : Bool) (A : Addr) (h : mtBadSteps c = some b) (hA : mg (c : Str) = some (.ref A)) : PySem.W.exmOne K (.ref A) (.ref T.CBadSteps) = some b := by
  unfold mtBadSteps at h
  split at h
  · rename_i e; subst e; have z := hA.symm.trans T.gBadColours; cases z; cases h; exact exm_ok T.qBadSteps T.iBadSteps T.tBadSteps T.sBadColours_BadSteps
  split at h
  · rename_i e; subst e; have z := hA.symm.trans T.gBadLay; cases z; cases h; exact exm_ok T.qBadSteps T.iBadSteps T.tBadSteps T.sBadLay_BadSteps
  split at h
  · rename_i e; subst e; have z := hA.symm.trans T.gBadSteps; cases z; cases h; exact exm_ok T.qBadSteps T.iBadSteps T.tBadSteps T.sBadSteps_BadSteps
  cases h
section
variable {P : Program} {w : World} {K : PySem.W.Frag} {mg : Str → Option Value} {base : Heap}
theorem ok_divisor (T : Tx K mg) : FnP P w K mg base 1 T.a_divisor T.d_divisor ["one", "other"] m_divisor := by
  refine fnP_of (N := ["one", "other"]) (k := 0) (st := s_divisor) (b := b_divisor) T.f_divisor sc_divisor ?_
  intro cdv A outer s H E We hr tk hp
  have hu := hr.units
  have hv := hu65_of hr
  refine xss_cons ?_ ?_
  · exact xs_par (i := 0) (j := 1) rfl sc_divisor.nd rfl rfl (by decide) (ps_par rfl sc_divisor.nd rfl rfl (by decide) rfl rfl (xa_cons (xe_callB absD_p cb_abs (by rfl) T.nabs (by decide +kernel) (xab_cons (xeB (xe_var (i := 0) rfl (.inl rfl) (hd := by decide) (hcd := by decide))) xab_nil (hs := by rfl)) (hn := by decide) (hdb := by decide) (he := by rfl) (hpl := by rfl)) (xa_cons (xe_callB absD_p cb_abs (by rfl) T.nabs (by decide +kernel) (xab_cons (xeB (xe_var (i := 1) rfl (.inl rfl) (hd := by decide) (hcd := by decide))) xab_nil (hs := by rfl)) (hn := by decide) (hdb := by decide) (he := by rfl) (hpl := by rfl)) xa_nil (hs := by rfl)) (hs := by rfl)) (by rfl))
  · refine xss_cons ?_ ?_
    · refine xs_while 1000000000 hp ?_ ?_
      · refine xt_cmp gtD_p (opx_gt (by exact hu)) (nomark _) ?_ ?_
        · refine xeB ?_
          · exact xe_var (i := 1) rfl (.inl rfl) (hd := by decide) (hcd := by decide)
        · refine xeB ?_
          · exact xe_int
      · refine xss_one ?_
        · exact xs_par (i := 0) (j := 1) rfl sc_divisor.nd rfl rfl (by decide) (ps_par rfl sc_divisor.nd rfl rfl (by decide) rfl rfl (xa_cons (xe_var (i := 1) rfl (.inl rfl) (hd := by decide) (hcd := by decide)) (xa_cons (xe_op modD_p opx_mod (xeB (xe_var (i := 0) rfl (.inl rfl) (hd := by decide) (hcd := by decide))) (xeB (xe_var (i := 1) rfl (.inl rfl) (hd := by decide) (hcd := by decide)))) xa_nil (hs := by rfl)) (hs := by rfl)) (by rfl))
    · refine xss_one ?_
      · refine xs_ret ?_
        · exact xe_var (i := 0) rfl (.inl rfl) (hd := by decide) (hcd := by decide)
theorem ok_quotient (T : Tx K mg) : FnP P w K mg base 2 T.a_quotient T.d_quotient ["up", "down"] m_quotient := by
  refine fnP_of (N := ["up", "down", "size"]) (k := 1) (st := s_quotient) (b := b_quotient) T.f_quotient sc_quotient ?_
  intro cdv A outer s H E We hr tk hp
  have hu := hr.units
  have hv := hu65_of hr
  refine xss_cons ?_ ?_
  · refine xs_set (i := 2) sc_quotient.nd rfl (.inl rfl) ?_ (hs := by rfl) (hf := by first | exact .inl rfl | exact .inr rfl | assumption)
    · refine xe_call (ps := ["one", "other"]) (ok_divisor T) (by exact hr.mono (by decide)) (by rfl) T.g_divisor T.f_divisor.kp T.b_divisor tk ?_ (hdb := by decide) (he := by rfl) (hpl := by rfl)
      · refine xa_cons ?_ ?_ (hs := by rfl)
        · exact xe_var (i := 0) rfl (.inl rfl) (hd := by decide) (hcd := by decide)
        · refine xa_cons ?_ ?_ (hs := by rfl)
          · exact xe_var (i := 1) rfl (.inl rfl) (hd := by decide) (hcd := by decide)
          · exact xa_nil
  · refine xss_one ?_
    · refine xs_ret ?_
      · refine xe_tup ?_
        · refine xa_cons ?_ ?_ (hs := by rfl)
          · refine xe_op fdivD_p opx_fdiv ?_ ?_
            · refine xeB ?_
              · exact xe_var (i := 0) rfl (.inl rfl) (hd := by decide) (hcd := by decide)
            · refine xeB ?_
              · exact xe_var (i := 2) rfl (.inl rfl) (hd := by decide) (hcd := by decide)
          · refine xa_cons ?_ ?_ (hs := by rfl)
            · refine xe_op fdivD_p opx_fdiv ?_ ?_
              · refine xeB ?_
                · exact xe_var (i := 1) rfl (.inl rfl) (hd := by decide) (hcd := by decide)
              · refine xeB ?_
                · exact xe_var (i := 2) rfl (.inl rfl) (hd := by decide) (hcd := by decide)
            · exact xa_nil
theorem ok_times (T : Tx K mg) : FnP P w K mg base 3 T.a_times T.d_times ["one", "other"] m_times := by
  refine fnP_of (N := ["one", "other"]) (k := 2) (st := s_times) (b := b_times) T.f_times sc_times ?_
  intro cdv A outer s H E We hr tk hp
  have hu := hr.units
  have hv := hu65_of hr
  refine xss_one ?_
  · refine xs_ret ?_
    · refine xe_call (ps := ["up", "down"]) (ok_quotient T) (by exact hr.mono (by decide)) (by rfl) T.g_quotient T.f_quotient.kp T.b_quotient tk ?_ (hdb := by decide) (he := by rfl) (hpl := by rfl)
      · refine xa_cons ?_ ?_ (hs := by rfl)
        · refine xe_op mulD_p opx_mul ?_ ?_
          · refine xeB ?_
            · refine xe_ix ?_ ?_ (hs := by intro _ _; rfl)
              · refine xeB ?_
                · exact xe_var (i := 0) rfl (.inl rfl) (hd := by decide) (hcd := by decide)
              · refine xeB ?_
                · exact xe_int
          · refine xeB ?_
            · refine xe_ix ?_ ?_ (hs := by intro _ _; rfl)
              · refine xeB ?_
                · exact xe_var (i := 1) rfl (.inl rfl) (hd := by decide) (hcd := by decide)
              · refine xeB ?_
                · exact xe_int
        · refine xa_cons ?_ ?_ (hs := by rfl)
          · refine xe_op mulD_p opx_mul ?_ ?_
            · refine xeB ?_
              · refine xe_ix ?_ ?_ (hs := by intro _ _; rfl)
                · refine xeB ?_
                  · exact xe_var (i := 0) rfl (.inl rfl) (hd := by decide) (hcd := by decide)
                · refine xeB ?_
                  · exact xe_int
            · refine xeB ?_
              · refine xe_ix ?_ ?_ (hs := by intro _ _; rfl)
                · refine xeB ?_
                  · exact xe_var (i := 1) rfl (.inl rfl) (hd := by decide) (hcd := by decide)
                · refine xeB ?_
                  · exact xe_int
          · exact xa_nil
theorem ok_over (T : Tx K mg) : FnP P w K mg base 3 T.a_over T.d_over ["one", "other"] m_over := by
  refine fnP_of (N := ["one", "other"]) (k := 2) (st := s_over) (b := b_over) T.f_over sc_over ?_
  intro cdv A outer s H E We hr tk hp
  have hu := hr.units
  have hv := hu65_of hr
  refine xss_one ?_
  · refine xs_ret ?_
    · refine xe_call (ps := ["up", "down"]) (ok_quotient T) (by exact hr.mono (by decide)) (by rfl) T.g_quotient T.f_quotient.kp T.b_quotient tk ?_ (hdb := by decide) (he := by rfl) (hpl := by rfl)
      · refine xa_cons ?_ ?_ (hs := by rfl)
        · refine xe_op mulD_p opx_mul ?_ ?_
          · refine xeB ?_
            · refine xe_ix ?_ ?_ (hs := by intro _ _; rfl)
              · refine xeB ?_
                · exact xe_var (i := 0) rfl (.inl rfl) (hd := by decide) (hcd := by decide)
              · refine xeB ?_
                · exact xe_int
          · refine xeB ?_
            · refine xe_ix ?_ ?_ (hs := by intro _ _; rfl)
              · refine xeB ?_
                · exact xe_var (i := 1) rfl (.inl rfl) (hd := by decide) (hcd := by decide)
              · refine xeB ?_
                · exact xe_int
        · refine xa_cons ?_ ?_ (hs := by rfl)
          · refine xe_op mulD_p opx_mul ?_ ?_
            · refine xeB ?_
              · refine xe_ix ?_ ?_ (hs := by intro _ _; rfl)
                · refine xeB ?_
                  · exact xe_var (i := 0) rfl (.inl rfl) (hd := by decide) (hcd := by decide)
                · refine xeB ?_
                  · exact xe_int
            · refine xeB ?_
              · refine xe_ix ?_ ?_ (hs := by intro _ _; rfl)
                · refine xeB ?_
                  · exact xe_var (i := 1) rfl (.inl rfl) (hd := by decide) (hcd := by decide)
                · refine xeB ?_
                  · exact xe_int
          · exact xa_nil
theorem ok_is_less (T : Tx K mg) : FnP P w K mg base 1 T.a_is_less T.d_is_less ["one", "other"] m_is_less := by
  refine fnP_of (N := ["one", "other"]) (k := 0) (st := s_is_less) (b := b_is_less) T.f_is_less sc_is_less ?_
  intro cdv A outer s H E We hr tk hp
  have hu := hr.units
  have hv := hu65_of hr
  refine xss_one ?_
  · refine xs_ret ?_
    · refine xe_cmp ltD_p (opx_lt (by exact hu)) (nomark _) ?_ ?_
      · refine xeB ?_
        · refine xe_op mulD_p opx_mul ?_ ?_
          · refine xeB ?_
            · refine xe_ix ?_ ?_ (hs := by intro _ _; rfl)
              · refine xeB ?_
                · exact xe_var (i := 0) rfl (.inl rfl) (hd := by decide) (hcd := by decide)
              · refine xeB ?_
                · exact xe_int
          · refine xeB ?_
            · refine xe_ix ?_ ?_ (hs := by intro _ _; rfl)
              · refine xeB ?_
                · exact xe_var (i := 1) rfl (.inl rfl) (hd := by decide) (hcd := by decide)
              · refine xeB ?_
                · exact xe_int
      · refine xeB ?_
        · refine xe_op mulD_p opx_mul ?_ ?_
          · refine xeB ?_
            · refine xe_ix ?_ ?_ (hs := by intro _ _; rfl)
              · refine xeB ?_
                · exact xe_var (i := 1) rfl (.inl rfl) (hd := by decide) (hcd := by decide)
              · refine xeB ?_
                · exact xe_int
          · refine xeB ?_
            · refine xe_ix ?_ ?_ (hs := by intro _ _; rfl)
              · refine xeB ?_
                · exact xe_var (i := 0) rfl (.inl rfl) (hd := by decide) (hcd := by decide)
              · refine xeB ?_
                · exact xe_int
theorem ok_is_integer (T : Tx K mg) : FnP P w K mg base 1 T.a_is_integer T.d_is_integer ["value"] m_is_integer := by
  refine fnP_of (N := ["value"]) (k := 0) (st := s_is_integer) (b := b_is_integer) T.f_is_integer sc_is_integer ?_
  intro cdv A outer s H E We hr tk hp
  have hu := hr.units
  have hv := hu65_of hr
  refine xss_one ?_
  · refine xs_ret ?_
    · refine xe_and ?_ ?_
      · refine xe_isi .int (by rfl) T.nisinstance (by rfl) T.nint (by decide +kernel) ?_ (hn := by decide) (hd := by decide) (hs1 := by rfl) (hs2 := by rfl) (hpl := by rfl)
        · refine xeB ?_
          · exact xe_var (i := 0) rfl (.inl rfl) (hd := by decide) (hcd := by decide)
      · refine xe_one ?_
        · refine xe_not ?_
          · refine xe_isi .bool (by rfl) T.nisinstance (by rfl) T.nbool (by decide +kernel) ?_ (hn := by decide) (hd := by decide) (hs1 := by rfl) (hs2 := by rfl) (hpl := by rfl)
            · refine xeB ?_
              · exact xe_var (i := 0) rfl (.inl rfl) (hd := by decide) (hcd := by decide)
theorem ok_is_quotient (T : Tx K mg) : FnP P w K mg base 2 T.a_is_quotient T.d_is_quotient ["value"] m_is_quotient := by
  refine fnP_of (N := ["value"]) (k := 1) (st := s_is_quotient) (b := b_is_quotient) T.f_is_quotient sc_is_quotient ?_
  intro cdv A outer s H E We hr tk hp
  have hu := hr.units
  have hv := hu65_of hr
  refine xss_cons ?_ ?_
  · refine xs_if ?_ ?_ ?_
    · refine xt_w ?_
      · refine xw_or ?_ ?_
        · refine xt_not ?_
          · refine xt_val ?_ (he := by intro _; rfl)
            · refine xe_isi .tuple (by rfl) T.nisinstance (by rfl) T.ntuple (by decide +kernel) ?_ (hn := by decide) (hd := by decide) (hs1 := by rfl) (hs2 := by rfl) (hpl := by rfl)
              · refine xeB ?_
                · exact xe_var (i := 0) rfl (.inl rfl) (hd := by decide) (hcd := by decide)
        · refine xw_or ?_ ?_
          · refine xt_cmp neD_p (opx_ne (by exact hu)) (nomark _) ?_ ?_
            · refine xeB ?_
              · refine xe_callB lenD_p cb_len (by rfl) T.nlen PySem.boot_len ?_ (hn := by decide) (hdb := by decide) (he := by rfl) (hpl := by rfl)
                · refine xab_cons ?_ ?_ (hs := by rfl)
                  · refine xeB ?_
                    · exact xe_var (i := 0) rfl (.inl rfl) (hd := by decide) (hcd := by decide)
                  · exact xab_nil
            · refine xeB ?_
              · exact xe_int
          · refine xw_or ?_ ?_
            · refine xt_not ?_
              · refine xt_val ?_ (he := by intro _; rfl)
                · refine xe_call (ps := ["value"]) (ok_is_integer T) (by exact hr.mono (by decide)) (by rfl) T.g_is_integer T.f_is_integer.kp T.b_is_integer tk ?_ (hdb := by decide) (he := by rfl) (hpl := by rfl)
                  · refine xa_cons ?_ ?_ (hs := by rfl)
                    · refine xe_ix ?_ ?_ (hs := by intro _ _; rfl)
                      · refine xeB ?_
                        · exact xe_var (i := 0) rfl (.inl rfl) (hd := by decide) (hcd := by decide)
                      · refine xeB ?_
                        · exact xe_int
                    · exact xa_nil
            · refine xw_or1 ?_
              · refine xt_not ?_
                · refine xt_val ?_ (he := by intro _; rfl)
                  · refine xe_call (ps := ["value"]) (ok_is_integer T) (by exact hr.mono (by decide)) (by rfl) T.g_is_integer T.f_is_integer.kp T.b_is_integer tk ?_ (hdb := by decide) (he := by rfl) (hpl := by rfl)
                    · refine xa_cons ?_ ?_ (hs := by rfl)
                      · refine xe_ix ?_ ?_ (hs := by intro _ _; rfl)
                        · refine xeB ?_
                          · exact xe_var (i := 0) rfl (.inl rfl) (hd := by decide) (hcd := by decide)
                        · refine xeB ?_
                          · exact xe_int
                      · exact xa_nil
    · refine xss_one ?_
      · refine xs_ret ?_
        · exact xe_bool
    · exact xss_nil
  · refine xss_one ?_
    · refine xs_ret ?_
      · refine xe_and ?_ ?_
        · refine xe_cmp gtD_p (opx_gt (by exact hu)) (nomark _) ?_ ?_
          · refine xeB ?_
            · refine xe_ix ?_ ?_ (hs := by intro _ _; rfl)
              · refine xeB ?_
                · exact xe_var (i := 0) rfl (.inl rfl) (hd := by decide) (hcd := by decide)
              · refine xeB ?_
                · exact xe_int
          · refine xeB ?_
            · exact xe_int
        · refine xe_one ?_
          · refine xe_cmp eqD_p (opx_eq (by exact hu)) (nomark _) ?_ ?_
            · refine xeB ?_
              · refine xe_call (ps := ["one", "other"]) (ok_divisor T) (by exact hr.mono (by decide)) (by rfl) T.g_divisor T.f_divisor.kp T.b_divisor tk ?_ (hdb := by decide) (he := by rfl) (hpl := by rfl)
                · refine xa_cons ?_ ?_ (hs := by rfl)
                  · refine xe_ix ?_ ?_ (hs := by intro _ _; rfl)
                    · refine xeB ?_
                      · exact xe_var (i := 0) rfl (.inl rfl) (hd := by decide) (hcd := by decide)
                    · refine xeB ?_
                      · exact xe_int
                  · refine xa_cons ?_ ?_ (hs := by rfl)
                    · refine xe_ix ?_ ?_ (hs := by intro _ _; rfl)
                      · refine xeB ?_
                        · exact xe_var (i := 0) rfl (.inl rfl) (hd := by decide) (hcd := by decide)
                      · refine xeB ?_
                        · exact xe_int
                    · exact xa_nil
            · refine xeB ?_
              · exact xe_int
theorem ok_is_colour (T : Tx K mg) : FnP P w K mg base 1 T.a_is_colour T.d_is_colour ["value"] m_is_colour := by
  refine fnP_of (N := ["value", "sign"]) (k := 0) (st := s_is_colour) (b := b_is_colour) T.f_is_colour sc_is_colour ?_
  intro cdv A outer s H E We hr tk hp
  have hu := hr.units
  have hv := hu65_of hr
  refine xss_one ?_
  · refine xs_ret ?_
    · refine xe_and ?_ ?_
      · refine xe_isi .str (by rfl) T.nisinstance (by rfl) T.nstr (by decide +kernel) ?_ (hn := by decide) (hd := by decide) (hs1 := by rfl) (hs2 := by rfl) (hpl := by rfl)
        · refine xeB ?_
          · exact xe_var (i := 0) rfl (.inl rfl) (hd := by decide) (hcd := by decide)
      · refine xe_and ?_ ?_
        · refine xe_chain leD_p leD_p (opx_le (by exact hu)) (opx_le (by exact hu)) ?_ ?_ ?_ (hm := by with_unfolding_all rfl)
          · refine xeB ?_
            · exact xe_int
          · refine xeB ?_
            · refine xe_callB lenD_p cb_len (by rfl) T.nlen PySem.boot_len ?_ (hn := by decide) (hdb := by decide) (he := by rfl) (hpl := by rfl)
              · refine xab_cons ?_ ?_ (hs := by rfl)
                · refine xeB ?_
                  · exact xe_var (i := 0) rfl (.inl rfl) (hd := by decide) (hcd := by decide)
                · exact xab_nil
          · refine xeB ?_
            · exact xe_glob (by rfl) T.gMOST_LETTERS T.rMOST_LETTERS (fun _ => T.dMOST_LETTERS _) (hdb := by decide)
        · refine xe_one ?_
          · refine xe_callB allD_p (cb_all rfl) (by rfl) T.nall (by decide +kernel) ?_ (hn := by decide) (hdb := by decide) (he := by rfl) (hpl := by rfl)
            · refine xab_cons ?_ ?_ (hs := by rfl)
              · refine xfB ?_
                · refine xf_lc rfl sc_is_colour.nd (own := [("sign", 1)]) (ts := [1]) ?_ (blkOk_by (N := ["value", "sign"]) (sc := defScope s_is_colour) (own := [("sign", 1)]) (by decide +kernel)) (by decide) ?_ ?_ ?_ (hs := by intro _; rfl)
                  · refine xi_any ?_
                    · exact xe_var (i := 0) rfl (.inl rfl) (hd := by decide) (hcd := by decide)
                  · intro _ _ _ _ _
                    exact xg_name (i := 1) sc_is_colour.nd rfl (.inl rfl) (hf := by first | exact .inl rfl | exact .inr rfl | assumption)
                  · intro _ _ _ _ _
                    exact xts_nil
                  · intro _ _ _ _ _
                    refine xe_cmp inD_p (opx_in (by exact hv)) (by with_unfolding_all rfl) ?_ ?_
                    · refine xeB ?_
                      · exact xe_var (i := 1) rfl (.inl rfl) (hd := by decide) (hcd := by decide)
                    · refine xeB ?_
                      · exact xe_glob (by rfl) T.gLETTERS T.rLETTERS (fun _ => T.dLETTERS _) (hdb := by decide)
              · exact xab_nil
theorem ok_is_lay (T : Tx K mg) : FnP P w K mg base 3 T.a_is_lay T.d_is_lay ["value"] m_is_lay := by
  refine fnP_of (N := ["value"]) (k := 2) (st := s_is_lay) (b := b_is_lay) T.f_is_lay sc_is_lay ?_
  intro cdv A outer s H E We hr tk hp
  have hu := hr.units
  have hv := hu65_of hr
  refine xss_one ?_
  · refine xs_ret ?_
    · refine xe_and ?_ ?_
      · refine xe_call (ps := ["value"]) (ok_is_quotient T) (by exact hr.mono (by decide)) (by rfl) T.g_is_quotient T.f_is_quotient.kp T.b_is_quotient tk ?_ (hdb := by decide) (he := by rfl) (hpl := by rfl)
        · refine xa_cons ?_ ?_ (hs := by rfl)
          · exact xe_var (i := 0) rfl (.inl rfl) (hd := by decide) (hcd := by decide)
          · exact xa_nil
      · refine xe_and ?_ ?_
        · refine xe_not ?_
          · refine xe_call (ps := ["one", "other"]) (ok_is_less T) (by exact hr.mono (by decide)) (by rfl) T.g_is_less T.f_is_less.kp T.b_is_less tk ?_ (hdb := by decide) (he := by rfl) (hpl := by rfl)
            · refine xa_cons ?_ ?_ (hs := by rfl)
              · exact xe_var (i := 0) rfl (.inl rfl) (hd := by decide) (hcd := by decide)
              · refine xa_cons ?_ ?_ (hs := by rfl)
                · refine xe_tup ?_
                  · refine xa_cons ?_ ?_ (hs := by rfl)
                    · exact xe_int
                    · refine xa_cons ?_ ?_ (hs := by rfl)
                      · exact xe_int
                      · exact xa_nil
                · exact xa_nil
        · refine xe_one ?_
          · refine xe_not ?_
            · refine xe_call (ps := ["one", "other"]) (ok_is_less T) (by exact hr.mono (by decide)) (by rfl) T.g_is_less T.f_is_less.kp T.b_is_less tk ?_ (hdb := by decide) (he := by rfl) (hpl := by rfl)
              · refine xa_cons ?_ ?_ (hs := by rfl)
                · refine xe_tup ?_
                  · refine xa_cons ?_ ?_ (hs := by rfl)
                    · exact xe_int
                    · refine xa_cons ?_ ?_ (hs := by rfl)
                      · exact xe_int
                      · exact xa_nil
                · refine xa_cons ?_ ?_ (hs := by rfl)
                  · exact xe_var (i := 0) rfl (.inl rfl) (hd := by decide) (hcd := by decide)
                  · exact xa_nil
theorem ok_check_colours (T : Tx K mg) : FnP P w K mg base 2 T.a_check_colours T.d_check_colours ["colours"] m_check_colours := by
  refine fnP_of (N := ["colours", "one"]) (k := 1) (st := s_check_colours) (b := b_check_colours) T.f_check_colours sc_check_colours ?_
  intro cdv A outer s H E We hr tk hp
  have hu := hr.units
  have hv := hu65_of hr
  refine xss_cons ?_ ?_
  · refine xs_if ?_ ?_ ?_
    · refine xt_w ?_
      · refine xw_or ?_ ?_
        · refine xt_not ?_
          · refine xt_val ?_ (he := by intro _; rfl)
            · refine xe_isi .tuple (by rfl) T.nisinstance (by rfl) T.ntuple (by decide +kernel) ?_ (hn := by decide) (hd := by decide) (hs1 := by rfl) (hs2 := by rfl) (hpl := by rfl)
              · refine xeB ?_
                · exact xe_var (i := 0) rfl (.inl rfl) (hd := by decide) (hcd := by decide)
        · refine xw_or1 ?_
          · refine xt_not ?_
            · refine xt_chain leD_p leD_p (opx_le (by exact hu)) (opx_le (by exact hu)) ?_ ?_ ?_ (hm := by with_unfolding_all rfl)
              · refine xeB ?_
                · exact xe_int
              · refine xeB ?_
                · refine xe_callB lenD_p cb_len (by rfl) T.nlen PySem.boot_len ?_ (hn := by decide) (hdb := by decide) (he := by rfl) (hpl := by rfl)
                  · refine xab_cons ?_ ?_ (hs := by rfl)
                    · refine xeB ?_
                      · exact xe_var (i := 0) rfl (.inl rfl) (hd := by decide) (hcd := by decide)
                    · exact xab_nil
              · refine xeB ?_
                · exact xe_glob (by rfl) T.gMOST_STRANDS T.rMOST_STRANDS (fun _ => T.dMOST_STRANDS _) (hdb := by decide)
    · refine xss_one ?_
      · exact xs_raise rfl tk PySem.F.excBase_ValueError T.xBadColours T.gBadColours T.kBadColours (raises_own T.qBadColours T.tBadColours) rfl (hdb := by decide)
    · exact xss_nil
  · refine xss_one ?_
    · refine xs_if ?_ ?_ ?_
      · refine xt_not ?_
        · refine xt_val ?_ (he := by intro _; rfl)
          · refine xe_callB allD_p (cb_all rfl) (by rfl) T.nall (by decide +kernel) ?_ (hn := by decide) (hdb := by decide) (he := by rfl) (hpl := by rfl)
            · refine xab_cons ?_ ?_ (hs := by rfl)
              · refine xfB ?_
                · refine xf_lc rfl sc_check_colours.nd (own := [("one", 1)]) (ts := [1]) ?_ (blkOk_by (N := ["colours", "one"]) (sc := defScope s_check_colours) (own := [("one", 1)]) (by decide +kernel)) (by decide) ?_ ?_ ?_ (hs := by intro _; rfl)
                  · refine xi_any ?_
                    · exact xe_var (i := 0) rfl (.inl rfl) (hd := by decide) (hcd := by decide)
                  · intro _ _ _ _ _
                    exact xg_name (i := 1) sc_check_colours.nd rfl (.inl rfl) (hf := by first | exact .inl rfl | exact .inr rfl | assumption)
                  · intro _ _ _ _ _
                    exact xts_nil
                  · intro _ _ _ _ _
                    refine xe_call (ps := ["value"]) (ok_is_colour T) (by exact hr.mono (by decide)) (by rfl) T.g_is_colour T.f_is_colour.kp T.b_is_colour tk0 ?_ (hdb := by decide) (he := by rfl) (hpl := by rfl)
                    · refine xa_cons ?_ ?_ (hs := by rfl)
                      · exact xe_var (i := 1) rfl (.inl rfl) (hd := by decide) (hcd := by decide)
                      · exact xa_nil
              · exact xab_nil
      · refine xss_one ?_
        · exact xs_raise rfl tk PySem.F.excBase_ValueError T.xBadColours T.gBadColours T.kBadColours (raises_own T.qBadColours T.tBadColours) rfl (hdb := by decide)
      · exact xss_nil
theorem ok__turned (T : Tx K mg) : FnP P w K mg base 1 T.a__turned T.d__turned ["colours", "steps"] m__turned := by
  refine fnP_of (N := ["colours", "steps", "at"]) (k := 0) (st := s__turned) (b := b__turned) T.f__turned sc__turned ?_
  intro cdv A outer s H E We hr tk hp
  have hu := hr.units
  have hv := hu65_of hr
  refine xss_cons ?_ ?_
  · refine xs_set (i := 2) sc__turned.nd rfl (.inl rfl) ?_ (hs := by rfl) (hf := by first | exact .inl rfl | exact .inr rfl | assumption)
    · refine xe_op modD_p opx_mod ?_ ?_
      · refine xeB ?_
        · exact xe_var (i := 1) rfl (.inl rfl) (hd := by decide) (hcd := by decide)
      · refine xeB ?_
        · refine xe_callB lenD_p cb_len (by rfl) T.nlen PySem.boot_len ?_ (hn := by decide) (hdb := by decide) (he := by rfl) (hpl := by rfl)
          · refine xab_cons ?_ ?_ (hs := by rfl)
            · refine xeB ?_
              · exact xe_var (i := 0) rfl (.inl rfl) (hd := by decide) (hcd := by decide)
            · exact xab_nil
  · refine xss_one ?_
    · refine xs_ret ?_
      · refine xe_op addD_p opx_add ?_ ?_
        · refine xeB ?_
          · refine xe_sl ?_ ?_ ?_
            · refine xeB ?_
              · exact xe_var (i := 0) rfl (.inl rfl) (hd := by decide) (hcd := by decide)
            · refine xo_at ?_
              · refine xeB ?_
                · exact xe_var (i := 2) rfl (.inl rfl) (hd := by decide) (hcd := by decide)
            · exact xo_no
        · refine xeB ?_
          · refine xe_sl ?_ ?_ ?_
            · refine xeB ?_
              · exact xe_var (i := 0) rfl (.inl rfl) (hd := by decide) (hcd := by decide)
            · exact xo_no
            · refine xo_at ?_
              · refine xeB ?_
                · exact xe_var (i := 2) rfl (.inl rfl) (hd := by decide) (hcd := by decide)
theorem ok__least_steps (T : Tx K mg) : FnP P w K mg base 2 T.a__least_steps T.d__least_steps ["colours"] m__least_steps := by
  refine fnP_of (N := ["colours", "steps"]) (k := 1) (st := s__least_steps) (b := b__least_steps) T.f__least_steps sc__least_steps ?_
  intro cdv A outer s H E We hr tk hp
  have hu := hr.units
  have hv := hu65_of hr
  refine xss_one ?_
  · refine xs_ret ?_
    · refine xe_ix ?_ ?_ (hs := by intro _ _; rfl)
      · refine xfB ?_
        · refine xf_lc rfl sc__least_steps.nd (own := [("steps", 1)]) (ts := [1]) ?_ (blkOk_by (N := ["colours", "steps"]) (sc := defScope s__least_steps) (own := [("steps", 1)]) (by decide +kernel)) (by decide) ?_ ?_ ?_ (hs := by intro _; rfl)
          · refine xi_range2 (by rfl) T.nrange ?_ (hs := by rfl) (hs2 := by rfl)
            · refine xa_cons ?_ ?_ (hs := by rfl)
              · exact xe_int
              · refine xa_cons ?_ ?_ (hs := by rfl)
                · refine xe_op addD_p opx_add ?_ ?_
                  · refine xeB ?_
                    · refine xe_callB lenD_p cb_len (by rfl) T.nlen PySem.boot_len ?_ (hn := by decide) (hdb := by decide) (he := by rfl) (hpl := by rfl)
                      · refine xab_cons ?_ ?_ (hs := by rfl)
                        · refine xeB ?_
                          · exact xe_var (i := 0) rfl (.inr (.inl rfl)) (hd := by decide) (hcd := by decide)
                        · exact xab_nil
                  · refine xeB ?_
                    · exact xe_int
                · exact xa_nil
          · intro _ _ _ _ _
            exact xg_name (i := 1) sc__least_steps.nd rfl (.inl rfl) (hf := by first | exact .inl rfl | exact .inr rfl | assumption)
          · intro _ _ _ _ _
            refine xts_one ?_
            · refine xt_cmp eqD_p (opx_eq (by exact hu)) (nomark _) ?_ ?_
              · refine xeB ?_
                · refine xe_call (ps := ["colours", "steps"]) (ok__turned T) (by exact hr.mono (by decide)) (by rfl) T.g__turned T.f__turned.kp T.b__turned tk0 ?_ (hdb := by decide) (he := by rfl) (hpl := by rfl)
                  · refine xa_cons ?_ ?_ (hs := by rfl)
                    · exact xe_var (i := 0) rfl (.inr (.inl rfl)) (hd := by decide) (hcd := by decide)
                    · refine xa_cons ?_ ?_ (hs := by rfl)
                      · exact xe_var (i := 1) rfl (.inl rfl) (hd := by decide) (hcd := by decide)
                      · exact xa_nil
              · refine xeB ?_
                · exact xe_var (i := 0) rfl (.inr (.inl rfl)) (hd := by decide) (hcd := by decide)
          · intro _ _ _ _ _
            exact xe_var (i := 1) rfl (.inl rfl) (hd := by decide) (hcd := by decide)
      · refine xeB ?_
        · exact xe_int
theorem ok_least_steps (T : Tx K mg) : FnP P w K mg base 3 T.a_least_steps T.d_least_steps ["colours"] m_least_steps := by
  refine fnP_of (N := ["colours"]) (k := 2) (st := s_least_steps) (b := b_least_steps) T.f_least_steps sc_least_steps ?_
  intro cdv A outer s H E We hr tk hp
  have hu := hr.units
  have hv := hu65_of hr
  refine xss_cons ?_ ?_
  · refine xs_expr ?_ (hs := by rfl)
    · refine xe_call (ps := ["colours"]) (ok_check_colours T) (by exact hr.mono (by decide)) (by rfl) T.g_check_colours T.f_check_colours.kp T.b_check_colours tk ?_ (hdb := by decide) (he := by rfl) (hpl := by rfl)
      · refine xa_cons ?_ ?_ (hs := by rfl)
        · exact xe_var (i := 0) rfl (.inl rfl) (hd := by decide) (hcd := by decide)
        · exact xa_nil
  · refine xss_one ?_
    · refine xs_ret ?_
      · refine xe_call (ps := ["colours"]) (ok__least_steps T) (by exact hr.mono (by decide)) (by rfl) T.g__least_steps T.f__least_steps.kp T.b__least_steps tk ?_ (hdb := by decide) (he := by rfl) (hpl := by rfl)
        · refine xa_cons ?_ ?_ (hs := by rfl)
          · exact xe_var (i := 0) rfl (.inl rfl) (hd := by decide) (hcd := by decide)
          · exact xa_nil
theorem ok_turned (T : Tx K mg) : FnP P w K mg base 3 T.a_turned T.d_turned ["colours", "steps"] m_turned := by
  refine fnP_of (N := ["colours", "steps"]) (k := 2) (st := s_turned) (b := b_turned) T.f_turned sc_turned ?_
  intro cdv A outer s H E We hr tk hp
  have hu := hr.units
  have hv := hu65_of hr
  refine xss_cons ?_ ?_
  · refine xs_expr ?_ (hs := by rfl)
    · refine xe_call (ps := ["colours"]) (ok_check_colours T) (by exact hr.mono (by decide)) (by rfl) T.g_check_colours T.f_check_colours.kp T.b_check_colours tk ?_ (hdb := by decide) (he := by rfl) (hpl := by rfl)
      · refine xa_cons ?_ ?_ (hs := by rfl)
        · exact xe_var (i := 0) rfl (.inl rfl) (hd := by decide) (hcd := by decide)
        · exact xa_nil
  · refine xss_cons ?_ ?_
    · refine xs_if ?_ ?_ ?_
      · refine xt_not ?_
        · refine xt_val ?_ (he := by intro _; rfl)
          · refine xe_call (ps := ["value"]) (ok_is_integer T) (by exact hr.mono (by decide)) (by rfl) T.g_is_integer T.f_is_integer.kp T.b_is_integer tk ?_ (hdb := by decide) (he := by rfl) (hpl := by rfl)
            · refine xa_cons ?_ ?_ (hs := by rfl)
              · exact xe_var (i := 1) rfl (.inl rfl) (hd := by decide) (hcd := by decide)
              · exact xa_nil
      · refine xss_one ?_
        · exact xs_raise rfl tk PySem.F.excBase_ValueError T.xBadSteps T.gBadSteps T.kBadSteps (raises_own T.qBadSteps T.tBadSteps) rfl (hdb := by decide)
      · exact xss_nil
    · refine xss_one ?_
      · refine xs_ret ?_
        · refine xe_call (ps := ["colours", "steps"]) (ok__turned T) (by exact hr.mono (by decide)) (by rfl) T.g__turned T.f__turned.kp T.b__turned tk ?_ (hdb := by decide) (he := by rfl) (hpl := by rfl)
          · refine xa_cons ?_ ?_ (hs := by rfl)
            · exact xe_var (i := 0) rfl (.inl rfl) (hd := by decide) (hcd := by decide)
            · refine xa_cons ?_ ?_ (hs := by rfl)
              · exact xe_var (i := 1) rfl (.inl rfl) (hd := by decide) (hcd := by decide)
              · exact xa_nil
theorem ok__check_lay (T : Tx K mg) : FnP P w K mg base 4 T.a__check_lay T.d__check_lay ["lay"] m__check_lay := by
  refine fnP_of (N := ["lay"]) (k := 3) (st := s__check_lay) (b := b__check_lay) T.f__check_lay sc__check_lay ?_
  intro cdv A outer s H E We hr tk hp
  have hu := hr.units
  have hv := hu65_of hr
  refine xss_one ?_
  · refine xs_if ?_ ?_ ?_
    · refine xt_not ?_
      · refine xt_val ?_ (he := by intro _; rfl)
        · refine xe_call (ps := ["value"]) (ok_is_lay T) (by exact hr.mono (by decide)) (by rfl) T.g_is_lay T.f_is_lay.kp T.b_is_lay tk ?_ (hdb := by decide) (he := by rfl) (hpl := by rfl)
          · refine xa_cons ?_ ?_ (hs := by rfl)
            · exact xe_var (i := 0) rfl (.inl rfl) (hd := by decide) (hcd := by decide)
            · exact xa_nil
    · refine xss_one ?_
      · exact xs_raise rfl tk PySem.F.excBase_ValueError T.xBadLay T.gBadLay T.kBadLay (raises_own T.qBadLay T.tBadLay) rfl (hdb := by decide)
    · exact xss_nil
theorem ok__again (T : Tx K mg) : FnP P w K mg base 4 T.a__again T.d__again ["colours", "lay"] m__again := by
  refine fnP_of (N := ["colours", "lay"]) (k := 3) (st := s__again) (b := b__again) T.f__again sc__again ?_
  intro cdv A outer s H E We hr tk hp
  have hu := hr.units
  have hv := hu65_of hr
  refine xss_one ?_
  · refine xs_ret ?_
    · refine xe_call (ps := ["one", "other"]) (ok_times T) (by exact hr.mono (by decide)) (by rfl) T.g_times T.f_times.kp T.b_times tk ?_ (hdb := by decide) (he := by rfl) (hpl := by rfl)
      · refine xa_cons ?_ ?_ (hs := by rfl)
        · exact xe_var (i := 1) rfl (.inl rfl) (hd := by decide) (hcd := by decide)
        · refine xa_cons ?_ ?_ (hs := by rfl)
          · refine xe_call (ps := ["up", "down"]) (ok_quotient T) (by exact hr.mono (by decide)) (by rfl) T.g_quotient T.f_quotient.kp T.b_quotient tk ?_ (hdb := by decide) (he := by rfl) (hpl := by rfl)
            · refine xa_cons ?_ ?_ (hs := by rfl)
              · refine xe_call (ps := ["colours"]) (ok__least_steps T) (by exact hr.mono (by decide)) (by rfl) T.g__least_steps T.f__least_steps.kp T.b__least_steps tk ?_ (hdb := by decide) (he := by rfl) (hpl := by rfl)
                · refine xa_cons ?_ ?_ (hs := by rfl)
                  · exact xe_var (i := 0) rfl (.inl rfl) (hd := by decide) (hcd := by decide)
                  · exact xa_nil
              · refine xa_cons ?_ ?_ (hs := by rfl)
                · refine xe_callB lenD_p cb_len (by rfl) T.nlen PySem.boot_len ?_ (hn := by decide) (hdb := by decide) (he := by rfl) (hpl := by rfl)
                  · refine xab_cons ?_ ?_ (hs := by rfl)
                    · refine xeB ?_
                      · exact xe_var (i := 0) rfl (.inl rfl) (hd := by decide) (hcd := by decide)
                    · exact xab_nil
                · exact xa_nil
          · exact xa_nil
theorem ok_comes_again (T : Tx K mg) : FnP P w K mg base 5 T.a_comes_again T.d_comes_again ["colours", "lay"] m_comes_again := by
  refine fnP_of (N := ["colours", "lay"]) (k := 4) (st := s_comes_again) (b := b_comes_again) T.f_comes_again sc_comes_again ?_
  intro cdv A outer s H E We hr tk hp
  have hu := hr.units
  have hv := hu65_of hr
  refine xss_cons ?_ ?_
  · refine xs_expr ?_ (hs := by rfl)
    · refine xe_call (ps := ["colours"]) (ok_check_colours T) (by exact hr.mono (by decide)) (by rfl) T.g_check_colours T.f_check_colours.kp T.b_check_colours tk ?_ (hdb := by decide) (he := by rfl) (hpl := by rfl)
      · refine xa_cons ?_ ?_ (hs := by rfl)
        · exact xe_var (i := 0) rfl (.inl rfl) (hd := by decide) (hcd := by decide)
        · exact xa_nil
  · refine xss_cons ?_ ?_
    · refine xs_expr ?_ (hs := by rfl)
      · refine xe_call (ps := ["lay"]) (ok__check_lay T) (by exact hr.mono (by decide)) (by rfl) T.g__check_lay T.f__check_lay.kp T.b__check_lay tk ?_ (hdb := by decide) (he := by rfl) (hpl := by rfl)
        · refine xa_cons ?_ ?_ (hs := by rfl)
          · exact xe_var (i := 1) rfl (.inl rfl) (hd := by decide) (hcd := by decide)
          · exact xa_nil
    · refine xss_one ?_
      · refine xs_ret ?_
        · refine xe_call (ps := ["colours", "lay"]) (ok__again T) (by exact hr.mono (by decide)) (by rfl) T.g__again T.f__again.kp T.b__again tk ?_ (hdb := by decide) (he := by rfl) (hpl := by rfl)
          · refine xa_cons ?_ ?_ (hs := by rfl)
            · exact xe_var (i := 0) rfl (.inl rfl) (hd := by decide) (hcd := by decide)
            · refine xa_cons ?_ ?_ (hs := by rfl)
              · exact xe_var (i := 1) rfl (.inl rfl) (hd := by decide) (hcd := by decide)
              · exact xa_nil
theorem ok_both_again (T : Tx K mg) : FnP P w K mg base 5 T.a_both_again T.d_both_again ["colours", "lay", "others", "other"] m_both_again := by
  refine fnP_of (N := ["colours", "lay", "others", "other", "one", "two", "ratio"]) (k := 4) (st := s_both_again) (b := b_both_again) T.f_both_again sc_both_again ?_
  intro cdv A outer s H E We hr tk hp
  have hu := hr.units
  have hv := hu65_of hr
  refine xss_cons ?_ ?_
  · refine xs_expr ?_ (hs := by rfl)
    · refine xe_call (ps := ["colours"]) (ok_check_colours T) (by exact hr.mono (by decide)) (by rfl) T.g_check_colours T.f_check_colours.kp T.b_check_colours tk ?_ (hdb := by decide) (he := by rfl) (hpl := by rfl)
      · refine xa_cons ?_ ?_ (hs := by rfl)
        · exact xe_var (i := 0) rfl (.inl rfl) (hd := by decide) (hcd := by decide)
        · exact xa_nil
  · refine xss_cons ?_ ?_
    · refine xs_expr ?_ (hs := by rfl)
      · refine xe_call (ps := ["lay"]) (ok__check_lay T) (by exact hr.mono (by decide)) (by rfl) T.g__check_lay T.f__check_lay.kp T.b__check_lay tk ?_ (hdb := by decide) (he := by rfl) (hpl := by rfl)
        · refine xa_cons ?_ ?_ (hs := by rfl)
          · exact xe_var (i := 1) rfl (.inl rfl) (hd := by decide) (hcd := by decide)
          · exact xa_nil
    · refine xss_cons ?_ ?_
      · refine xs_expr ?_ (hs := by rfl)
        · refine xe_call (ps := ["colours"]) (ok_check_colours T) (by exact hr.mono (by decide)) (by rfl) T.g_check_colours T.f_check_colours.kp T.b_check_colours tk ?_ (hdb := by decide) (he := by rfl) (hpl := by rfl)
          · refine xa_cons ?_ ?_ (hs := by rfl)
            · exact xe_var (i := 2) rfl (.inl rfl) (hd := by decide) (hcd := by decide)
            · exact xa_nil
      · refine xss_cons ?_ ?_
        · refine xs_expr ?_ (hs := by rfl)
          · refine xe_call (ps := ["lay"]) (ok__check_lay T) (by exact hr.mono (by decide)) (by rfl) T.g__check_lay T.f__check_lay.kp T.b__check_lay tk ?_ (hdb := by decide) (he := by rfl) (hpl := by rfl)
            · refine xa_cons ?_ ?_ (hs := by rfl)
              · exact xe_var (i := 3) rfl (.inl rfl) (hd := by decide) (hcd := by decide)
              · exact xa_nil
        · refine xss_cons ?_ ?_
          · exact xs_par (i := 4) (j := 5) rfl sc_both_again.nd rfl rfl (by decide) (ps_par rfl sc_both_again.nd rfl rfl (by decide) rfl rfl (xa_cons (xe_call (ps := ["colours", "lay"]) (ok__again T) (by exact hr.mono (by decide)) (by rfl) T.g__again T.f__again.kp T.b__again tk (xa_cons (xe_var (i := 0) rfl (.inl rfl) (hd := by decide) (hcd := by decide)) (xa_cons (xe_var (i := 1) rfl (.inl rfl) (hd := by decide) (hcd := by decide)) xa_nil (hs := by rfl)) (hs := by rfl)) (hdb := by decide) (he := by rfl) (hpl := by rfl)) (xa_cons (xe_call (ps := ["colours", "lay"]) (ok__again T) (by exact hr.mono (by decide)) (by rfl) T.g__again T.f__again.kp T.b__again tk (xa_cons (xe_var (i := 2) rfl (.inl rfl) (hd := by decide) (hcd := by decide)) (xa_cons (xe_var (i := 3) rfl (.inl rfl) (hd := by decide) (hcd := by decide)) xa_nil (hs := by rfl)) (hs := by rfl)) (hdb := by decide) (he := by rfl) (hpl := by rfl)) xa_nil (hs := by rfl)) (hs := by rfl)) (by rfl))
          · refine xss_cons ?_ ?_
            · refine xs_set (i := 6) sc_both_again.nd rfl (.inl rfl) ?_ (hs := by rfl) (hf := by first | exact .inl rfl | exact .inr rfl | assumption)
              · refine xe_call (ps := ["one", "other"]) (ok_over T) (by exact hr.mono (by decide)) (by rfl) T.g_over T.f_over.kp T.b_over tk ?_ (hdb := by decide) (he := by rfl) (hpl := by rfl)
                · refine xa_cons ?_ ?_ (hs := by rfl)
                  · exact xe_var (i := 4) rfl (.inl rfl) (hd := by decide) (hcd := by decide)
                  · refine xa_cons ?_ ?_ (hs := by rfl)
                    · exact xe_var (i := 5) rfl (.inl rfl) (hd := by decide) (hcd := by decide)
                    · exact xa_nil
            · refine xss_one ?_
              · refine xs_ret ?_
                · refine xe_call (ps := ["one", "other"]) (ok_times T) (by exact hr.mono (by decide)) (by rfl) T.g_times T.f_times.kp T.b_times tk ?_ (hdb := by decide) (he := by rfl) (hpl := by rfl)
                  · refine xa_cons ?_ ?_ (hs := by rfl)
                    · exact xe_var (i := 4) rfl (.inl rfl) (hd := by decide) (hcd := by decide)
                    · refine xa_cons ?_ ?_ (hs := by rfl)
                      · refine xe_tup ?_
                        · refine xa_cons ?_ ?_ (hs := by rfl)
                          · refine xe_ix ?_ ?_ (hs := by intro _ _; rfl)
                            · refine xeB ?_
                              · exact xe_var (i := 6) rfl (.inl rfl) (hd := by decide) (hcd := by decide)
                            · refine xeB ?_
                              · exact xe_int
                          · refine xa_cons ?_ ?_ (hs := by rfl)
                            · exact xe_int
                            · exact xa_nil
                      · exact xa_nil
theorem ok__least_turned (T : Tx K mg) : FnP P w K mg base 2 T.a__least_turned T.d__least_turned ["colours"] m__least_turned := by
  refine fnP_of (N := ["colours", "steps"]) (k := 1) (st := s__least_turned) (b := b__least_turned) T.f__least_turned sc__least_turned ?_
  intro cdv A outer s H E We hr tk hp
  have hu := hr.units
  have hv := hu65_of hr
  refine xss_one ?_
  · refine xs_ret ?_
    · refine xe_callB minD_p (cb_min rfl (by exact hu)) (by rfl) T.nmin (by decide +kernel) ?_ (hn := by decide) (hdb := by decide) (he := by rfl) (hpl := by rfl)
      · refine xab_cons ?_ ?_ (hs := by rfl)
        · refine xfB ?_
          · refine xf_lc rfl sc__least_turned.nd (own := [("steps", 1)]) (ts := [1]) ?_ (blkOk_by (N := ["colours", "steps"]) (sc := defScope s__least_turned) (own := [("steps", 1)]) (by decide +kernel)) (by decide) ?_ ?_ ?_ (hs := by intro _; rfl)
            · refine xi_range1 (by rfl) T.nrange ?_ (hs := by rfl)
              · refine xa_cons ?_ ?_ (hs := by rfl)
                · refine xe_callB lenD_p cb_len (by rfl) T.nlen PySem.boot_len ?_ (hn := by decide) (hdb := by decide) (he := by rfl) (hpl := by rfl)
                  · refine xab_cons ?_ ?_ (hs := by rfl)
                    · refine xeB ?_
                      · exact xe_var (i := 0) rfl (.inr (.inl rfl)) (hd := by decide) (hcd := by decide)
                    · exact xab_nil
                · exact xa_nil
            · intro _ _ _ _ _
              exact xg_name (i := 1) sc__least_turned.nd rfl (.inl rfl) (hf := by first | exact .inl rfl | exact .inr rfl | assumption)
            · intro _ _ _ _ _
              exact xts_nil
            · intro _ _ _ _ _
              refine xe_call (ps := ["colours", "steps"]) (ok__turned T) (by exact hr.mono (by decide)) (by rfl) T.g__turned T.f__turned.kp T.b__turned tk0 ?_ (hdb := by decide) (he := by rfl) (hpl := by rfl)
              · refine xa_cons ?_ ?_ (hs := by rfl)
                · exact xe_var (i := 0) rfl (.inr (.inl rfl)) (hd := by decide) (hcd := by decide)
                · refine xa_cons ?_ ?_ (hs := by rfl)
                  · exact xe_var (i := 1) rfl (.inl rfl) (hd := by decide) (hcd := by decide)
                  · exact xa_nil
        · exact xab_nil
theorem ok_least_turned (T : Tx K mg) : FnP P w K mg base 3 T.a_least_turned T.d_least_turned ["colours"] m_least_turned := by
  refine fnP_of (N := ["colours"]) (k := 2) (st := s_least_turned) (b := b_least_turned) T.f_least_turned sc_least_turned ?_
  intro cdv A outer s H E We hr tk hp
  have hu := hr.units
  have hv := hu65_of hr
  refine xss_cons ?_ ?_
  · refine xs_expr ?_ (hs := by rfl)
    · refine xe_call (ps := ["colours"]) (ok_check_colours T) (by exact hr.mono (by decide)) (by rfl) T.g_check_colours T.f_check_colours.kp T.b_check_colours tk ?_ (hdb := by decide) (he := by rfl) (hpl := by rfl)
      · refine xa_cons ?_ ?_ (hs := by rfl)
        · exact xe_var (i := 0) rfl (.inl rfl) (hd := by decide) (hcd := by decide)
        · exact xa_nil
  · refine xss_one ?_
    · refine xs_ret ?_
      · refine xe_call (ps := ["colours"]) (ok__least_turned T) (by exact hr.mono (by decide)) (by rfl) T.g__least_turned T.f__least_turned.kp T.b__least_turned tk ?_ (hdb := by decide) (he := by rfl) (hpl := by rfl)
        · refine xa_cons ?_ ?_ (hs := by rfl)
          · exact xe_var (i := 0) rfl (.inl rfl) (hd := by decide) (hcd := by decide)
          · exact xa_nil
theorem ok_same_rope (T : Tx K mg) : FnP P w K mg base 3 T.a_same_rope T.d_same_rope ["colours", "other"] m_same_rope := by
  refine fnP_of (N := ["colours", "other"]) (k := 2) (st := s_same_rope) (b := b_same_rope) T.f_same_rope sc_same_rope ?_
  intro cdv A outer s H E We hr tk hp
  have hu := hr.units
  have hv := hu65_of hr
  refine xss_cons ?_ ?_
  · refine xs_expr ?_ (hs := by rfl)
    · refine xe_call (ps := ["colours"]) (ok_check_colours T) (by exact hr.mono (by decide)) (by rfl) T.g_check_colours T.f_check_colours.kp T.b_check_colours tk ?_ (hdb := by decide) (he := by rfl) (hpl := by rfl)
      · refine xa_cons ?_ ?_ (hs := by rfl)
        · exact xe_var (i := 0) rfl (.inl rfl) (hd := by decide) (hcd := by decide)
        · exact xa_nil
  · refine xss_cons ?_ ?_
    · refine xs_expr ?_ (hs := by rfl)
      · refine xe_call (ps := ["colours"]) (ok_check_colours T) (by exact hr.mono (by decide)) (by rfl) T.g_check_colours T.f_check_colours.kp T.b_check_colours tk ?_ (hdb := by decide) (he := by rfl) (hpl := by rfl)
        · refine xa_cons ?_ ?_ (hs := by rfl)
          · exact xe_var (i := 1) rfl (.inl rfl) (hd := by decide) (hcd := by decide)
          · exact xa_nil
    · refine xss_one ?_
      · refine xs_ret ?_
        · refine xe_cmp eqD_p (opx_eq (by exact hu)) (nomark _) ?_ ?_
          · refine xeB ?_
            · refine xe_call (ps := ["colours"]) (ok__least_turned T) (by exact hr.mono (by decide)) (by rfl) T.g__least_turned T.f__least_turned.kp T.b__least_turned tk ?_ (hdb := by decide) (he := by rfl) (hpl := by rfl)
              · refine xa_cons ?_ ?_ (hs := by rfl)
                · exact xe_var (i := 0) rfl (.inl rfl) (hd := by decide) (hcd := by decide)
                · exact xa_nil
          · refine xeB ?_
            · refine xe_call (ps := ["colours"]) (ok__least_turned T) (by exact hr.mono (by decide)) (by rfl) T.g__least_turned T.f__least_turned.kp T.b__least_turned tk ?_ (hdb := by decide) (he := by rfl) (hpl := by rfl)
              · refine xa_cons ?_ ?_ (hs := by rfl)
                · exact xe_var (i := 1) rfl (.inl rfl) (hd := by decide) (hcd := by decide)
                · exact xa_nil
theorem ok_turning (T : Tx K mg) : FnP P w K mg base 3 T.a_turning T.d_turning ["colours", "other"] m_turning := by
  refine fnP_of (N := ["colours", "other", "good", "steps"]) (k := 2) (st := s_turning) (b := b_turning) T.f_turning sc_turning ?_
  intro cdv A outer s H E We hr tk hp
  have hu := hr.units
  have hv := hu65_of hr
  refine xss_cons ?_ ?_
  · refine xs_expr ?_ (hs := by rfl)
    · refine xe_call (ps := ["colours"]) (ok_check_colours T) (by exact hr.mono (by decide)) (by rfl) T.g_check_colours T.f_check_colours.kp T.b_check_colours tk ?_ (hdb := by decide) (he := by rfl) (hpl := by rfl)
      · refine xa_cons ?_ ?_ (hs := by rfl)
        · exact xe_var (i := 0) rfl (.inr (.inl rfl)) (hd := by decide) (hcd := by decide)
        · exact xa_nil
  · refine xss_cons ?_ ?_
    · refine xs_expr ?_ (hs := by rfl)
      · refine xe_call (ps := ["colours"]) (ok_check_colours T) (by exact hr.mono (by decide)) (by rfl) T.g_check_colours T.f_check_colours.kp T.b_check_colours tk ?_ (hdb := by decide) (he := by rfl) (hpl := by rfl)
        · refine xa_cons ?_ ?_ (hs := by rfl)
          · exact xe_var (i := 1) rfl (.inr (.inl rfl)) (hd := by decide) (hcd := by decide)
          · exact xa_nil
    · refine xss_cons ?_ ?_
      · refine xs_setLc (i := 2) rfl sc_turning.nd rfl rfl (sw_true rfl rfl rfl (by decide +kernel)) (own := [("steps", 3)]) (ts := [3]) ?_ (blkOk_by (N := ["colours", "other", "good", "steps"]) (sc := defScope s_turning) (own := [("steps", 3)]) (by decide +kernel)) (by decide) ?_ ?_ ?_ (hs := by intro _; rfl)
        · refine xi_range1 (by rfl) T.nrange ?_ (hs := by rfl)
          · refine xa_cons ?_ ?_ (hs := by rfl)
            · refine xe_callB lenD_p cb_len (by rfl) T.nlen PySem.boot_len ?_ (hn := by decide) (hdb := by decide) (he := by rfl) (hpl := by rfl)
              · refine xab_cons ?_ ?_ (hs := by rfl)
                · refine xeB ?_
                  · exact xe_var (i := 0) rfl (.inr (.inl rfl)) (hd := by decide) (hcd := by decide)
                · exact xab_nil
            · exact xa_nil
        · intro _ _ _ _ _
          exact xg_name (i := 3) sc_turning.nd rfl (.inl rfl) (hf := by first | exact .inl rfl | exact .inr rfl | assumption)
        · intro _ _ _ _ _
          refine xts_one ?_
          · refine xt_cmp eqD_p (opx_eq (by exact hu)) (nomark _) ?_ ?_
            · refine xeB ?_
              · refine xe_call (ps := ["colours", "steps"]) (ok__turned T) (by exact hr.mono (by decide)) (by rfl) T.g__turned T.f__turned.kp T.b__turned tk0 ?_ (hdb := by decide) (he := by rfl) (hpl := by rfl)
                · refine xa_cons ?_ ?_ (hs := by rfl)
                  · exact xe_var (i := 0) rfl (.inr (.inl rfl)) (hd := by decide) (hcd := by decide)
                  · refine xa_cons ?_ ?_ (hs := by rfl)
                    · exact xe_var (i := 3) rfl (.inl rfl) (hd := by decide) (hcd := by decide)
                    · exact xa_nil
            · refine xeB ?_
              · exact xe_var (i := 1) rfl (.inr (.inl rfl)) (hd := by decide) (hcd := by decide)
        · intro _ _ _ _ _
          exact xe_var (i := 3) rfl (.inl rfl) (hd := by decide) (hcd := by decide)
      · refine xss_one ?_
        · refine xs_ret ?_
          · refine xe_if ?_ ?_ ?_
            · refine xt_cmp gtD_p (opx_gt (by exact hu)) (nomark _) ?_ ?_
              · refine xeB ?_
                · refine xe_callB lenD_p cb_len (by rfl) T.nlen PySem.boot_len ?_ (hn := by decide) (hdb := by decide) (he := by rfl) (hpl := by rfl)
                  · refine xab_cons ?_ ?_ (hs := by rfl)
                    · refine xeB ?_
                      · exact xe_var (i := 2) rfl (.inl rfl) (hd := by decide) (hcd := by decide)
                    · exact xab_nil
              · refine xeB ?_
                · exact xe_int
            · refine xe_ix ?_ ?_ (hs := by intro _ _; rfl)
              · refine xeB ?_
                · exact xe_var (i := 2) rfl (.inl rfl) (hd := by decide) (hcd := by decide)
              · refine xeB ?_
                · exact xe_int
            · exact xe_none
theorem ok__mirrored (T : Tx K mg) : FnP P w K mg base 1 T.a__mirrored T.d__mirrored ["colours"] m__mirrored := by
  refine fnP_of (N := ["colours"]) (k := 0) (st := s__mirrored) (b := b__mirrored) T.f__mirrored sc__mirrored ?_
  intro cdv A outer s H E We hr tk hp
  have hu := hr.units
  have hv := hu65_of hr
  refine xss_one ?_
  · refine xs_ret ?_
    · refine xe_op addD_p opx_add ?_ ?_
      · refine xeB ?_
        · refine xe_sl ?_ ?_ ?_
          · refine xeB ?_
            · exact xe_var (i := 0) rfl (.inl rfl) (hd := by decide) (hcd := by decide)
          · exact xo_no
          · refine xo_at ?_
            · refine xeB ?_
              · exact xe_int
      · refine xeB ?_
        · refine xe_rev ?_
          · refine xeB ?_
            · refine xe_sl ?_ ?_ ?_
              · refine xeB ?_
                · exact xe_var (i := 0) rfl (.inl rfl) (hd := by decide) (hcd := by decide)
              · refine xo_at ?_
                · refine xeB ?_
                  · exact xe_int
              · exact xo_no
theorem ok_mirrored (T : Tx K mg) : FnP P w K mg base 3 T.a_mirrored T.d_mirrored ["colours"] m_mirrored := by
  refine fnP_of (N := ["colours"]) (k := 2) (st := s_mirrored) (b := b_mirrored) T.f_mirrored sc_mirrored ?_
  intro cdv A outer s H E We hr tk hp
  have hu := hr.units
  have hv := hu65_of hr
  refine xss_cons ?_ ?_
  · refine xs_expr ?_ (hs := by rfl)
    · refine xe_call (ps := ["colours"]) (ok_check_colours T) (by exact hr.mono (by decide)) (by rfl) T.g_check_colours T.f_check_colours.kp T.b_check_colours tk ?_ (hdb := by decide) (he := by rfl) (hpl := by rfl)
      · refine xa_cons ?_ ?_ (hs := by rfl)
        · exact xe_var (i := 0) rfl (.inl rfl) (hd := by decide) (hcd := by decide)
        · exact xa_nil
  · refine xss_one ?_
    · refine xs_ret ?_
      · refine xe_call (ps := ["colours"]) (ok__mirrored T) (by exact hr.mono (by decide)) (by rfl) T.g__mirrored T.f__mirrored.kp T.b__mirrored tk ?_ (hdb := by decide) (he := by rfl) (hpl := by rfl)
        · refine xa_cons ?_ ?_ (hs := by rfl)
          · exact xe_var (i := 0) rfl (.inl rfl) (hd := by decide) (hcd := by decide)
          · exact xa_nil
theorem ok_is_even_handed (T : Tx K mg) : FnP P w K mg base 3 T.a_is_even_handed T.d_is_even_handed ["colours"] m_is_even_handed := by
  refine fnP_of (N := ["colours"]) (k := 2) (st := s_is_even_handed) (b := b_is_even_handed) T.f_is_even_handed sc_is_even_handed ?_
  intro cdv A outer s H E We hr tk hp
  have hu := hr.units
  have hv := hu65_of hr
  refine xss_cons ?_ ?_
  · refine xs_expr ?_ (hs := by rfl)
    · refine xe_call (ps := ["colours"]) (ok_check_colours T) (by exact hr.mono (by decide)) (by rfl) T.g_check_colours T.f_check_colours.kp T.b_check_colours tk ?_ (hdb := by decide) (he := by rfl) (hpl := by rfl)
      · refine xa_cons ?_ ?_ (hs := by rfl)
        · exact xe_var (i := 0) rfl (.inl rfl) (hd := by decide) (hcd := by decide)
        · exact xa_nil
  · refine xss_one ?_
    · refine xs_ret ?_
      · refine xe_cmp eqD_p (opx_eq (by exact hu)) (nomark _) ?_ ?_
        · refine xeB ?_
          · refine xe_call (ps := ["colours"]) (ok__least_turned T) (by exact hr.mono (by decide)) (by rfl) T.g__least_turned T.f__least_turned.kp T.b__least_turned tk ?_ (hdb := by decide) (he := by rfl) (hpl := by rfl)
            · refine xa_cons ?_ ?_ (hs := by rfl)
              · refine xe_call (ps := ["colours"]) (ok__mirrored T) (by exact hr.mono (by decide)) (by rfl) T.g__mirrored T.f__mirrored.kp T.b__mirrored tk ?_ (hdb := by decide) (he := by rfl) (hpl := by rfl)
                · refine xa_cons ?_ ?_ (hs := by rfl)
                  · exact xe_var (i := 0) rfl (.inl rfl) (hd := by decide) (hcd := by decide)
                  · exact xa_nil
              · exact xa_nil
        · refine xeB ?_
          · refine xe_call (ps := ["colours"]) (ok__least_turned T) (by exact hr.mono (by decide)) (by rfl) T.g__least_turned T.f__least_turned.kp T.b__least_turned tk ?_ (hdb := by decide) (he := by rfl) (hpl := by rfl)
            · refine xa_cons ?_ ?_ (hs := by rfl)
              · exact xe_var (i := 0) rfl (.inl rfl) (hd := by decide) (hcd := by decide)
              · exact xa_nil
theorem ok__law_draws (T : Tx K mg) : FnP P w K mg base 1 T.a__law_draws T.d__law_draws ["script", "many"] m__law_draws := by
  refine fnP_of (N := ["script", "many", "draws", "seed", "cell", "number", "k"]) (k := 0) (st := s__law_draws) (b := b__law_draws) T.f__law_draws sc__law_draws ?_
  intro cdv A outer s H E We hr tk hp
  have hu := hr.units
  have hv := hu65_of hr
  refine xss_cons ?_ ?_
  · refine xs_setL (i := 2) sc__law_draws.nd rfl (.inl rfl) ?_ (hs := by rfl) (hf := by first | exact .inl rfl | exact .inr rfl | assumption)
    · refine xf_lst ?_
      · exact xa_nil
  · refine xss_cons ?_ ?_
    · refine xs_set (i := 3) sc__law_draws.nd rfl (.inl rfl) ?_ (hs := by rfl) (hf := by first | exact .inl rfl | exact .inr rfl | assumption)
      · exact xe_int
    · refine xss_cons ?_ ?_
      · refine xs_for (ts := [4]) hp rfl ?_ (xg_name (i := 4) sc__law_draws.nd rfl (.inl rfl) (hf := by first | exact .inl rfl | exact .inr rfl | assumption)) gN_p ?_ (hs := by intro _; rfl)
        · refine xi_any ?_
          · refine xe_sl ?_ ?_ ?_
            · refine xeB ?_
              · exact xe_var (i := 0) rfl (.inl rfl) (hd := by decide) (hcd := by decide)
            · exact xo_no
            · refine xo_at ?_
              · refine xeB ?_
                · exact xe_int
        · refine xss_cons ?_ ?_
          · refine xs_set (i := 5) sc__law_draws.nd rfl (.inl rfl) ?_ (hs := by rfl) (hf := by first | exact .inl rfl | exact .inr rfl | assumption)
            · refine xe_callB absD_p cb_abs (by rfl) T.nabs (by decide +kernel) ?_ (hn := by decide) (hdb := by decide) (he := by rfl) (hpl := by rfl)
              · refine xab_cons ?_ ?_ (hs := by rfl)
                · refine xeB ?_
                  · exact xe_var (i := 4) rfl (.inl rfl) (hd := by decide) (hcd := by decide)
                · exact xab_nil
          · refine xss_cons ?_ ?_
            · refine xs_set (i := 3) sc__law_draws.nd rfl (.inl rfl) ?_ (hs := by rfl) (hf := by first | exact .inl rfl | exact .inr rfl | assumption)
              · refine xe_op modD_p opx_mod ?_ ?_
                · refine xeB ?_
                  · refine xe_callTy int1D_p cb_int (by rfl) T.nint (by decide +kernel) ?_ (hn := by decide) (hdb := by decide) (he := by rfl) (hpl := by rfl)
                    · refine xab_cons ?_ ?_ (hs := by rfl)
                      · refine xeB ?_
                        · refine xe_op addD_p opx_add ?_ ?_
                          · refine xeB ?_
                            · refine xe_op addD_p opx_add ?_ ?_
                              · refine xeB ?_
                                · refine xe_op mulD_p opx_mul ?_ ?_
                                  · refine xeB ?_
                                    · exact xe_var (i := 3) rfl (.inl rfl) (hd := by decide) (hcd := by decide)
                                  · refine xeB ?_
                                    · exact xe_int
                              · refine xeB ?_
                                · exact xe_var (i := 5) rfl (.inl rfl) (hd := by decide) (hcd := by decide)
                          · refine xeB ?_
                            · exact xe_int
                      · exact xab_nil
                · refine xeB ?_
                  · exact xe_int
            · refine xss_one ?_
              · refine xs_if ?_ ?_ ?_
                · refine xt_cmp geD_p (opx_ge (by exact hu)) (nomark _) ?_ ?_
                  · refine xeB ?_
                    · exact xe_var (i := 5) rfl (.inl rfl) (hd := by decide) (hcd := by decide)
                  · refine xeB ?_
                    · refine xe_op powD_p opx_pow ?_ ?_
                      · refine xeB ?_
                        · exact xe_int
                      · refine xeB ?_
                        · exact xe_int
                · refine xss_one ?_
                  · refine xs_for (ts := [6]) hp rfl ?_ (xg_name (i := 6) sc__law_draws.nd rfl (.inl rfl) (hf := by first | exact .inl rfl | exact .inr rfl | assumption)) gN_p ?_ (hs := by intro _; rfl)
                    · refine xi_range1 (by rfl) T.nrange ?_ (hs := by rfl)
                      · refine xa_cons ?_ ?_ (hs := by rfl)
                        · exact xe_int
                        · exact xa_nil
                    · refine xss_one ?_
                      · refine xs_if ?_ ?_ ?_
                        · refine xt_cmp gtD_p (opx_gt (by exact hu)) (nomark _) ?_ ?_
                          · refine xeB ?_
                            · exact xe_var (i := 5) rfl (.inl rfl) (hd := by decide) (hcd := by decide)
                          · refine xeB ?_
                            · exact xe_int
                        · refine xss_cons ?_ ?_
                          · refine xs_append (i := 2) rfl (.inl rfl) ?_ (hd := by decide) (hcd := by decide) (hbase := by rfl) (hfew := by rfl) (hline := by rfl) (hs := by rfl) (hplain := by rfl) (hsw := by rfl)
                            · refine xe_op modD_p opx_mod ?_ ?_
                              · refine xeB ?_
                                · refine xe_callTy int1D_p cb_int (by rfl) T.nint (by decide +kernel) ?_ (hn := by decide) (hdb := by decide) (he := by rfl) (hpl := by rfl)
                                  · refine xab_cons ?_ ?_ (hs := by rfl)
                                    · refine xeB ?_
                                      · exact xe_var (i := 5) rfl (.inl rfl) (hd := by decide) (hcd := by decide)
                                    · exact xab_nil
                              · refine xeB ?_
                                · exact xe_int
                          · refine xss_one ?_
                            · refine xs_set (i := 5) sc__law_draws.nd rfl (.inl rfl) ?_ (hs := by rfl) (hf := by first | exact .inl rfl | exact .inr rfl | assumption)
                              · refine xe_op fdivD_p opx_fdiv ?_ ?_
                                · refine xeB ?_
                                  · exact xe_var (i := 5) rfl (.inl rfl) (hd := by decide) (hcd := by decide)
                                · refine xeB ?_
                                  · exact xe_int
                        · exact xss_nil
                · refine xss_one ?_
                  · refine xs_append (i := 2) rfl (.inl rfl) ?_ (hd := by decide) (hcd := by decide) (hbase := by rfl) (hfew := by rfl) (hline := by rfl) (hs := by rfl) (hplain := by rfl) (hsw := by rfl)
                    · refine xe_op modD_p opx_mod ?_ ?_
                      · refine xeB ?_
                        · refine xe_op fdivD_p opx_fdiv ?_ ?_
                          · refine xeB ?_
                            · refine xe_callTy int1D_p cb_int (by rfl) T.nint (by decide +kernel) ?_ (hn := by decide) (hdb := by decide) (he := by rfl) (hpl := by rfl)
                              · refine xab_cons ?_ ?_ (hs := by rfl)
                                · refine xeB ?_
                                  · refine xe_op addD_p opx_add ?_ ?_
                                    · refine xeB ?_
                                      · refine xe_op mulD_p opx_mul ?_ ?_
                                        · refine xeB ?_
                                          · exact xe_var (i := 3) rfl (.inl rfl) (hd := by decide) (hcd := by decide)
                                        · refine xeB ?_
                                          · exact xe_int
                                    · refine xeB ?_
                                      · exact xe_int
                                · exact xab_nil
                          · refine xeB ?_
                            · exact xe_int
                      · refine xeB ?_
                        · exact xe_int
      · refine xss_cons ?_ ?_
        · refine xs_for (ts := [6]) hp rfl ?_ (xg_name (i := 6) sc__law_draws.nd rfl (.inl rfl) (hf := by first | exact .inl rfl | exact .inr rfl | assumption)) gN_p ?_ (hs := by intro _; rfl)
          · refine xi_range1 (by rfl) T.nrange ?_ (hs := by rfl)
            · refine xa_cons ?_ ?_ (hs := by rfl)
              · exact xe_var (i := 1) rfl (.inl rfl) (hd := by decide) (hcd := by decide)
              · exact xa_nil
          · refine xss_one ?_
            · refine xs_if ?_ ?_ ?_
              · refine xt_cmp ltD_p (opx_lt (by exact hu)) (nomark _) ?_ ?_
                · refine xeB ?_
                  · refine xe_callB lenD_p cb_len (by rfl) T.nlen PySem.boot_len ?_ (hn := by decide) (hdb := by decide) (he := by rfl) (hpl := by rfl)
                    · refine xab_cons ?_ ?_ (hs := by rfl)
                      · exact xb_var (i := 2) rfl (.inl rfl) (hd := by decide) (hcd := by decide)
                      · exact xab_nil
                · refine xeB ?_
                  · exact xe_var (i := 1) rfl (.inl rfl) (hd := by decide) (hcd := by decide)
              · refine xss_cons ?_ ?_
                · refine xs_set (i := 3) sc__law_draws.nd rfl (.inl rfl) ?_ (hs := by rfl) (hf := by first | exact .inl rfl | exact .inr rfl | assumption)
                  · refine xe_op modD_p opx_mod ?_ ?_
                    · refine xeB ?_
                      · refine xe_callTy int1D_p cb_int (by rfl) T.nint (by decide +kernel) ?_ (hn := by decide) (hdb := by decide) (he := by rfl) (hpl := by rfl)
                        · refine xab_cons ?_ ?_ (hs := by rfl)
                          · refine xeB ?_
                            · refine xe_op addD_p opx_add ?_ ?_
                              · refine xeB ?_
                                · refine xe_op addD_p opx_add ?_ ?_
                                  · refine xeB ?_
                                    · refine xe_op mulD_p opx_mul ?_ ?_
                                      · refine xeB ?_
                                        · exact xe_var (i := 3) rfl (.inl rfl) (hd := by decide) (hcd := by decide)
                                      · refine xeB ?_
                                        · exact xe_int
                                  · refine xeB ?_
                                    · exact xe_var (i := 6) rfl (.inl rfl) (hd := by decide) (hcd := by decide)
                              · refine xeB ?_
                                · exact xe_int
                          · exact xab_nil
                    · refine xeB ?_
                      · exact xe_int
                · refine xss_one ?_
                  · refine xs_append (i := 2) rfl (.inl rfl) ?_ (hd := by decide) (hcd := by decide) (hbase := by rfl) (hfew := by rfl) (hline := by rfl) (hs := by rfl) (hplain := by rfl) (hsw := by rfl)
                    · refine xe_op modD_p opx_mod ?_ ?_
                      · refine xeB ?_
                        · refine xe_op fdivD_p opx_fdiv ?_ ?_
                          · refine xeB ?_
                            · refine xe_callTy int1D_p cb_int (by rfl) T.nint (by decide +kernel) ?_ (hn := by decide) (hdb := by decide) (he := by rfl) (hpl := by rfl)
                              · refine xab_cons ?_ ?_ (hs := by rfl)
                                · refine xeB ?_
                                  · exact xe_var (i := 3) rfl (.inl rfl) (hd := by decide) (hcd := by decide)
                                · exact xab_nil
                          · refine xeB ?_
                            · exact xe_int
                      · refine xeB ?_
                        · exact xe_int
              · exact xss_nil
        · refine xss_one ?_
          · refine xs_ret ?_
            · refine xe_sl ?_ ?_ ?_
              · exact xb_var (i := 2) rfl (.inl rfl) (hd := by decide) (hcd := by decide)
              · exact xo_no
              · refine xo_at ?_
                · refine xeB ?_
                  · exact xe_var (i := 1) rfl (.inl rfl) (hd := by decide) (hcd := by decide)
theorem ok__law_colours (T : Tx K mg) : FnP P w K mg base 1 T.a__law_colours T.d__law_colours ["draws", "at", "many", "kinds"] m__law_colours := by
  refine fnP_of (N := ["draws", "at", "many", "kinds", "k"]) (k := 0) (st := s__law_colours) (b := b__law_colours) T.f__law_colours sc__law_colours ?_
  intro cdv A outer s H E We hr tk hp
  have hu := hr.units
  have hv := hu65_of hr
  refine xss_one ?_
  · refine xs_ret ?_
    · refine xe_callTy tuple1D_p cb_tuple (by rfl) T.ntuple (by decide +kernel) ?_ (hn := by decide) (hdb := by decide) (he := by rfl) (hpl := by rfl)
      · refine xab_cons ?_ ?_ (hs := by rfl)
        · refine xfB ?_
          · refine xf_lc rfl sc__law_colours.nd (own := [("k", 4)]) (ts := [4]) ?_ (blkOk_by (N := ["draws", "at", "many", "kinds", "k"]) (sc := defScope s__law_colours) (own := [("k", 4)]) (by decide +kernel)) (by decide) ?_ ?_ ?_ (hs := by intro _; rfl)
            · refine xi_range1 (by rfl) T.nrange ?_ (hs := by rfl)
              · refine xa_cons ?_ ?_ (hs := by rfl)
                · refine xe_op addD_p opx_add ?_ ?_
                  · refine xeB ?_
                    · exact xe_int
                  · refine xeB ?_
                    · refine xe_op modD_p opx_mod ?_ ?_
                      · refine xeB ?_
                        · refine xe_callTy int1D_p cb_int (by rfl) T.nint (by decide +kernel) ?_ (hn := by decide) (hdb := by decide) (he := by rfl) (hpl := by rfl)
                          · refine xab_cons ?_ ?_ (hs := by rfl)
                            · refine xeB ?_
                              · refine xe_ix ?_ ?_ (hs := by intro _ _; rfl)
                                · refine xeB ?_
                                  · exact xe_var (i := 0) rfl (.inr (.inl rfl)) (hd := by decide) (hcd := by decide)
                                · refine xeB ?_
                                  · exact xe_var (i := 1) rfl (.inr (.inl rfl)) (hd := by decide) (hcd := by decide)
                            · exact xab_nil
                      · refine xeB ?_
                        · exact xe_var (i := 2) rfl (.inl rfl) (hd := by decide) (hcd := by decide)
                · exact xa_nil
            · intro _ _ _ _ _
              exact xg_name (i := 4) sc__law_colours.nd rfl (.inl rfl) (hf := by first | exact .inl rfl | exact .inr rfl | assumption)
            · intro _ _ _ _ _
              exact xts_nil
            · intro _ _ _ _ _
              refine xe_ix ?_ ?_ (hs := by intro _ _; rfl)
              · refine xfB ?_
                · refine xf_lst ?_
                  · refine xa_cons ?_ ?_ (hs := by rfl)
                    · exact xe_str
                    · refine xa_cons ?_ ?_ (hs := by rfl)
                      · exact xe_str
                      · refine xa_cons ?_ ?_ (hs := by rfl)
                        · exact xe_str
                        · exact xa_nil
              · refine xeB ?_
                · refine xe_op modD_p opx_mod ?_ ?_
                  · refine xeB ?_
                    · refine xe_callTy int1D_p cb_int (by rfl) T.nint (by decide +kernel) ?_ (hn := by decide) (hdb := by decide) (he := by rfl) (hpl := by rfl)
                      · refine xab_cons ?_ ?_ (hs := by rfl)
                        · refine xeB ?_
                          · refine xe_ix ?_ ?_ (hs := by intro _ _; rfl)
                            · refine xeB ?_
                              · exact xe_var (i := 0) rfl (.inr (.inl rfl)) (hd := by decide) (hcd := by decide)
                            · refine xeB ?_
                              · refine xe_op addD_p opx_add ?_ ?_
                                · refine xeB ?_
                                  · refine xe_op addD_p opx_add ?_ ?_
                                    · refine xeB ?_
                                      · exact xe_var (i := 1) rfl (.inr (.inl rfl)) (hd := by decide) (hcd := by decide)
                                    · refine xeB ?_
                                      · exact xe_int
                                · refine xeB ?_
                                  · exact xe_var (i := 4) rfl (.inl rfl) (hd := by decide) (hcd := by decide)
                        · exact xab_nil
                  · refine xeB ?_
                    · exact xe_var (i := 3) rfl (.inr (.inl rfl)) (hd := by decide) (hcd := by decide)
        · exact xab_nil
theorem ok__law_low (T : Tx K mg) : FnP P w K mg base 1 T.a__law_low T.d__law_low ["up", "down"] m__law_low := by
  refine fnP_of (N := ["up", "down", "one", "other"]) (k := 0) (st := s__law_low) (b := b__law_low) T.f__law_low sc__law_low ?_
  intro cdv A outer s H E We hr tk hp
  have hu := hr.units
  have hv := hu65_of hr
  refine xss_cons ?_ ?_
  · exact xs_par (i := 2) (j := 3) rfl sc__law_low.nd rfl rfl (by decide) (ps_par rfl sc__law_low.nd rfl rfl (by decide) rfl rfl (xa_cons (xe_var (i := 0) rfl (.inl rfl) (hd := by decide) (hcd := by decide)) (xa_cons (xe_var (i := 1) rfl (.inl rfl) (hd := by decide) (hcd := by decide)) xa_nil (hs := by rfl)) (hs := by rfl)) (by rfl))
  · refine xss_cons ?_ ?_
    · refine xs_while 1000000000 hp ?_ ?_
      · refine xt_cmp gtD_p (opx_gt (by exact hu)) (nomark _) ?_ ?_
        · refine xeB ?_
          · exact xe_var (i := 3) rfl (.inl rfl) (hd := by decide) (hcd := by decide)
        · refine xeB ?_
          · exact xe_int
      · refine xss_one ?_
        · exact xs_par (i := 2) (j := 3) rfl sc__law_low.nd rfl rfl (by decide) (ps_par rfl sc__law_low.nd rfl rfl (by decide) rfl rfl (xa_cons (xe_var (i := 3) rfl (.inl rfl) (hd := by decide) (hcd := by decide)) (xa_cons (xe_op modD_p opx_mod (xeB (xe_var (i := 2) rfl (.inl rfl) (hd := by decide) (hcd := by decide))) (xeB (xe_var (i := 3) rfl (.inl rfl) (hd := by decide) (hcd := by decide)))) xa_nil (hs := by rfl)) (hs := by rfl)) (by rfl))
    · refine xss_one ?_
      · refine xs_ret ?_
        · refine xe_tup ?_
          · refine xa_cons ?_ ?_ (hs := by rfl)
            · refine xe_op fdivD_p opx_fdiv ?_ ?_
              · refine xeB ?_
                · exact xe_var (i := 0) rfl (.inl rfl) (hd := by decide) (hcd := by decide)
              · refine xeB ?_
                · exact xe_var (i := 2) rfl (.inl rfl) (hd := by decide) (hcd := by decide)
            · refine xa_cons ?_ ?_ (hs := by rfl)
              · refine xe_op fdivD_p opx_fdiv ?_ ?_
                · refine xeB ?_
                  · exact xe_var (i := 1) rfl (.inl rfl) (hd := by decide) (hcd := by decide)
                · refine xeB ?_
                  · exact xe_var (i := 2) rfl (.inl rfl) (hd := by decide) (hcd := by decide)
              · exact xa_nil
theorem ok__law_steps (T : Tx K mg) : FnP P w K mg base 1 T.a__law_steps T.d__law_steps ["colours"] m__law_steps := by
  refine fnP_of (N := ["colours", "size", "steps", "k"]) (k := 0) (st := s__law_steps) (b := b__law_steps) T.f__law_steps sc__law_steps ?_
  intro cdv A outer s H E We hr tk hp
  have hu := hr.units
  have hv := hu65_of hr
  refine xss_cons ?_ ?_
  · refine xs_set (i := 1) sc__law_steps.nd rfl (.inr rfl) ?_ (hs := by rfl) (hf := by first | exact .inl rfl | exact .inr rfl | assumption)
    · refine xe_callB lenD_p cb_len (by rfl) T.nlen PySem.boot_len ?_ (hn := by decide) (hdb := by decide) (he := by rfl) (hpl := by rfl)
      · refine xab_cons ?_ ?_ (hs := by rfl)
        · refine xeB ?_
          · exact xe_var (i := 0) rfl (.inr (.inl rfl)) (hd := by decide) (hcd := by decide)
        · exact xab_nil
  · refine xss_one ?_
    · refine xs_ret ?_
      · refine xe_callB minD_p (cb_min rfl (by exact hu)) (by rfl) T.nmin (by decide +kernel) ?_ (hn := by decide) (hdb := by decide) (he := by rfl) (hpl := by rfl)
        · refine xab_cons ?_ ?_ (hs := by rfl)
          · refine xfB ?_
            · refine xf_lc rfl sc__law_steps.nd (own := [("steps", 2)]) (ts := [2]) ?_ (blkOk_by (N := ["colours", "size", "steps", "k"]) (sc := defScope s__law_steps) (own := [("steps", 2)]) (by decide +kernel)) (by decide) ?_ ?_ ?_ (hs := by intro _; rfl)
              · refine xi_range2 (by rfl) T.nrange ?_ (hs := by rfl) (hs2 := by rfl)
                · refine xa_cons ?_ ?_ (hs := by rfl)
                  · exact xe_int
                  · refine xa_cons ?_ ?_ (hs := by rfl)
                    · refine xe_op addD_p opx_add ?_ ?_
                      · refine xeB ?_
                        · exact xe_var (i := 1) rfl (.inr (.inl rfl)) (hd := by decide) (hcd := by decide)
                      · refine xeB ?_
                        · exact xe_int
                    · exact xa_nil
              · intro _ _ _ _ _
                exact xg_name (i := 2) sc__law_steps.nd rfl (.inr rfl) (hf := by first | exact .inl rfl | exact .inr rfl | assumption)
              · intro _ _ _ _ _
                refine xts_one ?_
                · refine xt_val ?_ (he := by intro _; rfl)
                  · refine xe_callB allD_p (cb_all rfl) (by rfl) T.nall (by decide +kernel) ?_ (hn := by decide) (hdb := by decide) (he := by rfl) (hpl := by rfl)
                    · refine xab_cons ?_ ?_ (hs := by rfl)
                      · refine xfB ?_
                        · refine xf_lc rfl sc__law_steps.nd (own := [("k", 3)]) (ts := [3]) ?_ (blkOk_in (N := ["colours", "size", "steps", "k"]) (own := [("k", 3)]) rfl (by decide +kernel)) (by decide) ?_ ?_ ?_ (hs := by intro _; rfl)
                          · refine xi_range1 (by rfl) T.nrange ?_ (hs := by rfl)
                            · refine xa_cons ?_ ?_ (hs := by rfl)
                              · exact xe_var (i := 1) rfl (.inr (.inl rfl)) (hd := by decide) (hcd := by decide)
                              · exact xa_nil
                          · intro _ _ _ _ _
                            exact xg_name (i := 3) sc__law_steps.nd rfl (.inl rfl) (hf := by first | exact .inl rfl | exact .inr rfl | assumption)
                          · intro _ _ _ _ _
                            exact xts_nil
                          · intro _ _ _ _ _
                            refine xe_cmp eqD_p (opx_eq (by exact hu)) (nomark _) ?_ ?_
                            · refine xeB ?_
                              · refine xe_ix ?_ ?_ (hs := by intro _ _; rfl)
                                · refine xeB ?_
                                  · exact xe_var (i := 0) rfl (.inr (.inl rfl)) (hd := by decide) (hcd := by decide)
                                · refine xeB ?_
                                  · refine xe_op modD_p opx_mod ?_ ?_
                                    · refine xeB ?_
                                      · refine xe_callTy int1D_p cb_int (by rfl) T.nint (by decide +kernel) ?_ (hn := by decide) (hdb := by decide) (he := by rfl) (hpl := by rfl)
                                        · refine xab_cons ?_ ?_ (hs := by rfl)
                                          · refine xeB ?_
                                            · refine xe_op addD_p opx_add ?_ ?_
                                              · refine xeB ?_
                                                · exact xe_var (i := 3) rfl (.inl rfl) (hd := by decide) (hcd := by decide)
                                              · refine xeB ?_
                                                · exact xe_var (i := 2) rfl (.inr (.inl rfl)) (hd := by decide) (hcd := by decide)
                                          · exact xab_nil
                                    · refine xeB ?_
                                      · exact xe_var (i := 1) rfl (.inr (.inl rfl)) (hd := by decide) (hcd := by decide)
                            · refine xeB ?_
                              · refine xe_ix ?_ ?_ (hs := by intro _ _; rfl)
                                · refine xeB ?_
                                  · exact xe_var (i := 0) rfl (.inr (.inl rfl)) (hd := by decide) (hcd := by decide)
                                · refine xeB ?_
                                  · exact xe_var (i := 3) rfl (.inl rfl) (hd := by decide) (hcd := by decide)
                      · exact xab_nil
              · intro _ _ _ _ _
                exact xe_var (i := 2) rfl (.inr (.inl rfl)) (hd := by decide) (hcd := by decide)
          · exact xab_nil
theorem ok__law_call (T : Tx K mg) : FnP P w K mg base 6 T.a__law_call T.d__law_call ["way", "colours", "lay", "others", "other"] m__law_call := by
  refine fnP_of (N := ["way", "colours", "lay", "others", "other"]) (k := 5) (st := s__law_call) (b := b__law_call) T.f__law_call sc__law_call ?_
  intro cdv A outer s H E We hr tk hp
  have hu := hr.units
  have hv := hu65_of hr
  refine xss_one ?_
  · refine xs_if ?_ ?_ ?_
    · refine xt_cmp eqD_p (opx_eq (by exact hu)) (nomark _) ?_ ?_
      · refine xeB ?_
        · exact xe_var (i := 0) rfl (.inl rfl) (hd := by decide) (hcd := by decide)
      · refine xeB ?_
        · exact xe_int
    · refine xss_one ?_
      · refine xs_expr ?_ (hs := by rfl)
        · refine xe_call (ps := ["colours"]) (ok_least_steps T) (by exact hr.mono (by decide)) (by rfl) T.g_least_steps T.f_least_steps.kp T.b_least_steps tk ?_ (hdb := by decide) (he := by rfl) (hpl := by rfl)
          · refine xa_cons ?_ ?_ (hs := by rfl)
            · exact xe_var (i := 1) rfl (.inl rfl) (hd := by decide) (hcd := by decide)
            · exact xa_nil
    · refine xss_one ?_
      · refine xs_if ?_ ?_ ?_
        · refine xt_cmp eqD_p (opx_eq (by exact hu)) (nomark _) ?_ ?_
          · refine xeB ?_
            · exact xe_var (i := 0) rfl (.inl rfl) (hd := by decide) (hcd := by decide)
          · refine xeB ?_
            · exact xe_int
        · refine xss_one ?_
          · refine xs_expr ?_ (hs := by rfl)
            · refine xe_call (ps := ["colours", "steps"]) (ok_turned T) (by exact hr.mono (by decide)) (by rfl) T.g_turned T.f_turned.kp T.b_turned tk ?_ (hdb := by decide) (he := by rfl) (hpl := by rfl)
              · refine xa_cons ?_ ?_ (hs := by rfl)
                · exact xe_var (i := 1) rfl (.inl rfl) (hd := by decide) (hcd := by decide)
                · refine xa_cons ?_ ?_ (hs := by rfl)
                  · exact xe_var (i := 2) rfl (.inl rfl) (hd := by decide) (hcd := by decide)
                  · exact xa_nil
        · refine xss_one ?_
          · refine xs_if ?_ ?_ ?_
            · refine xt_cmp eqD_p (opx_eq (by exact hu)) (nomark _) ?_ ?_
              · refine xeB ?_
                · exact xe_var (i := 0) rfl (.inl rfl) (hd := by decide) (hcd := by decide)
              · refine xeB ?_
                · exact xe_int
            · refine xss_one ?_
              · refine xs_expr ?_ (hs := by rfl)
                · refine xe_call (ps := ["colours", "lay"]) (ok_comes_again T) (by exact hr.mono (by decide)) (by rfl) T.g_comes_again T.f_comes_again.kp T.b_comes_again tk ?_ (hdb := by decide) (he := by rfl) (hpl := by rfl)
                  · refine xa_cons ?_ ?_ (hs := by rfl)
                    · exact xe_var (i := 1) rfl (.inl rfl) (hd := by decide) (hcd := by decide)
                    · refine xa_cons ?_ ?_ (hs := by rfl)
                      · exact xe_var (i := 2) rfl (.inl rfl) (hd := by decide) (hcd := by decide)
                      · exact xa_nil
            · refine xss_one ?_
              · refine xs_if ?_ ?_ ?_
                · refine xt_cmp eqD_p (opx_eq (by exact hu)) (nomark _) ?_ ?_
                  · refine xeB ?_
                    · exact xe_var (i := 0) rfl (.inl rfl) (hd := by decide) (hcd := by decide)
                  · refine xeB ?_
                    · exact xe_int
                · refine xss_one ?_
                  · refine xs_expr ?_ (hs := by rfl)
                    · refine xe_call (ps := ["colours", "lay", "others", "other"]) (ok_both_again T) (by exact hr.mono (by decide)) (by rfl) T.g_both_again T.f_both_again.kp T.b_both_again tk ?_ (hdb := by decide) (he := by rfl) (hpl := by rfl)
                      · refine xa_cons ?_ ?_ (hs := by rfl)
                        · exact xe_var (i := 1) rfl (.inl rfl) (hd := by decide) (hcd := by decide)
                        · refine xa_cons ?_ ?_ (hs := by rfl)
                          · exact xe_var (i := 2) rfl (.inl rfl) (hd := by decide) (hcd := by decide)
                          · refine xa_cons ?_ ?_ (hs := by rfl)
                            · exact xe_var (i := 3) rfl (.inl rfl) (hd := by decide) (hcd := by decide)
                            · refine xa_cons ?_ ?_ (hs := by rfl)
                              · exact xe_var (i := 4) rfl (.inl rfl) (hd := by decide) (hcd := by decide)
                              · exact xa_nil
                · refine xss_one ?_
                  · refine xs_if ?_ ?_ ?_
                    · refine xt_cmp eqD_p (opx_eq (by exact hu)) (nomark _) ?_ ?_
                      · refine xeB ?_
                        · exact xe_var (i := 0) rfl (.inl rfl) (hd := by decide) (hcd := by decide)
                      · refine xeB ?_
                        · exact xe_int
                    · refine xss_one ?_
                      · refine xs_expr ?_ (hs := by rfl)
                        · refine xe_call (ps := ["colours"]) (ok_least_turned T) (by exact hr.mono (by decide)) (by rfl) T.g_least_turned T.f_least_turned.kp T.b_least_turned tk ?_ (hdb := by decide) (he := by rfl) (hpl := by rfl)
                          · refine xa_cons ?_ ?_ (hs := by rfl)
                            · exact xe_var (i := 1) rfl (.inl rfl) (hd := by decide) (hcd := by decide)
                            · exact xa_nil
                    · refine xss_one ?_
                      · refine xs_if ?_ ?_ ?_
                        · refine xt_cmp eqD_p (opx_eq (by exact hu)) (nomark _) ?_ ?_
                          · refine xeB ?_
                            · exact xe_var (i := 0) rfl (.inl rfl) (hd := by decide) (hcd := by decide)
                          · refine xeB ?_
                            · exact xe_int
                        · refine xss_one ?_
                          · refine xs_expr ?_ (hs := by rfl)
                            · refine xe_call (ps := ["colours", "other"]) (ok_same_rope T) (by exact hr.mono (by decide)) (by rfl) T.g_same_rope T.f_same_rope.kp T.b_same_rope tk ?_ (hdb := by decide) (he := by rfl) (hpl := by rfl)
                              · refine xa_cons ?_ ?_ (hs := by rfl)
                                · exact xe_var (i := 1) rfl (.inl rfl) (hd := by decide) (hcd := by decide)
                                · refine xa_cons ?_ ?_ (hs := by rfl)
                                  · exact xe_var (i := 3) rfl (.inl rfl) (hd := by decide) (hcd := by decide)
                                  · exact xa_nil
                        · refine xss_one ?_
                          · refine xs_if ?_ ?_ ?_
                            · refine xt_cmp eqD_p (opx_eq (by exact hu)) (nomark _) ?_ ?_
                              · refine xeB ?_
                                · exact xe_var (i := 0) rfl (.inl rfl) (hd := by decide) (hcd := by decide)
                              · refine xeB ?_
                                · exact xe_int
                            · refine xss_one ?_
                              · refine xs_expr ?_ (hs := by rfl)
                                · refine xe_call (ps := ["colours", "other"]) (ok_turning T) (by exact hr.mono (by decide)) (by rfl) T.g_turning T.f_turning.kp T.b_turning tk ?_ (hdb := by decide) (he := by rfl) (hpl := by rfl)
                                  · refine xa_cons ?_ ?_ (hs := by rfl)
                                    · exact xe_var (i := 1) rfl (.inl rfl) (hd := by decide) (hcd := by decide)
                                    · refine xa_cons ?_ ?_ (hs := by rfl)
                                      · exact xe_var (i := 3) rfl (.inl rfl) (hd := by decide) (hcd := by decide)
                                      · exact xa_nil
                            · refine xss_one ?_
                              · refine xs_if ?_ ?_ ?_
                                · refine xt_cmp eqD_p (opx_eq (by exact hu)) (nomark _) ?_ ?_
                                  · refine xeB ?_
                                    · exact xe_var (i := 0) rfl (.inl rfl) (hd := by decide) (hcd := by decide)
                                  · refine xeB ?_
                                    · exact xe_int
                                · refine xss_one ?_
                                  · refine xs_expr ?_ (hs := by rfl)
                                    · refine xe_call (ps := ["colours"]) (ok_mirrored T) (by exact hr.mono (by decide)) (by rfl) T.g_mirrored T.f_mirrored.kp T.b_mirrored tk ?_ (hdb := by decide) (he := by rfl) (hpl := by rfl)
                                      · refine xa_cons ?_ ?_ (hs := by rfl)
                                        · exact xe_var (i := 1) rfl (.inl rfl) (hd := by decide) (hcd := by decide)
                                        · exact xa_nil
                                · refine xss_one ?_
                                  · refine xs_expr ?_ (hs := by rfl)
                                    · refine xe_call (ps := ["colours"]) (ok_is_even_handed T) (by exact hr.mono (by decide)) (by rfl) T.g_is_even_handed T.f_is_even_handed.kp T.b_is_even_handed tk ?_ (hdb := by decide) (he := by rfl) (hpl := by rfl)
                                      · refine xa_cons ?_ ?_ (hs := by rfl)
                                        · exact xe_var (i := 1) rfl (.inl rfl) (hd := by decide) (hcd := by decide)
                                        · exact xa_nil
theorem ok__law_word (T : Tx K mg) : FnP P w K mg base 7 T.a__law_word T.d__law_word ["way", "colours", "lay", "others", "other"] m__law_word := by
  refine fnP_of (N := ["way", "colours", "lay", "others", "other"]) (k := 6) (st := s__law_word) (b := b__law_word) T.f__law_word sc__law_word ?_
  intro cdv A outer s H E We hr tk hp
  have hu := hr.units
  have hv := hu65_of hr
  refine xss_cons ?_ ?_
  · refine xs_try rfl rfl tk ?_ ?_
    · intro W pn xe tkW hpW
      refine xss_one ?_
      · refine xs_expr ?_ (hs := by rfl)
        · refine xe_call (ps := ["way", "colours", "lay", "others", "other"]) (ok__law_call T) (by exact hr.mono (by decide)) (by rfl) T.g__law_call T.f__law_call.kp T.b__law_call tkW ?_ (hdb := by decide) (he := by rfl) (hpl := by rfl)
          · refine xa_cons ?_ ?_ (hs := by rfl)
            · exact xe_var (i := 0) rfl (.inl rfl) (hd := by decide) (hcd := by decide)
            · refine xa_cons ?_ ?_ (hs := by rfl)
              · exact xe_var (i := 1) rfl (.inl rfl) (hd := by decide) (hcd := by decide)
              · refine xa_cons ?_ ?_ (hs := by rfl)
                · exact xe_var (i := 2) rfl (.inl rfl) (hd := by decide) (hcd := by decide)
                · refine xa_cons ?_ ?_ (hs := by rfl)
                  · exact xe_var (i := 3) rfl (.inl rfl) (hd := by decide) (hcd := by decide)
                  · refine xa_cons ?_ ?_ (hs := by rfl)
                    · exact xe_var (i := 4) rfl (.inl rfl) (hd := by decide) (hcd := by decide)
                    · exact xa_nil
    · refine HsOk.cons ⟨by rfl, by decide, .inl T.gBadColours⟩ (mtBadColours_ok T) (fun _ => rfl) ?_ (HsOk.cons ⟨by rfl, by decide, .inl T.gBadLay⟩ (mtBadLay_ok T) (fun _ => rfl) ?_ (HsOk.cons ⟨by rfl, by decide, .inl T.gBadSteps⟩ (mtBadSteps_ok T) (fun _ => rfl) ?_ HsOk.nil))
      · intro _ _ _ _ _
        refine xss_one ?_
        · refine xs_ret ?_
          · exact xe_str
      · intro _ _ _ _ _
        refine xss_one ?_
        · refine xs_ret ?_
          · exact xe_str
      · intro _ _ _ _ _
        refine xss_one ?_
        · refine xs_ret ?_
          · exact xe_str
  · refine xss_one ?_
    · refine xs_ret ?_
      · exact xe_str
theorem ok_law (T : Tx K mg) : FnP P w K mg base 8 T.a_law T.d_law ["script"] m_law := by
  refine fnP_of (N := ["script", "draws", "turn", "colours", "others", "lay", "other", "steps", "more", "size", "count", "step", "unit", "one", "two", "both", "wrong", "told", "way", "k"]) (k := 7) (st := s_law) (b := b_law) T.f_law sc_law ?_
  intro cdv A outer s H E We hr tk hp
  have hu := hr.units
  have hv := hu65_of hr
  refine xss_cons ?_ ?_
  · refine xs_set (i := 1) sc_law.nd rfl (.inl rfl) ?_ (hs := by rfl) (hf := by first | exact .inl rfl | exact .inr rfl | assumption)
    · refine xe_call (ps := ["script", "many"]) (ok__law_draws T) (by exact hr.mono (by decide)) (by rfl) T.g__law_draws T.f__law_draws.kp T.b__law_draws tk ?_ (hdb := by decide) (he := by rfl) (hpl := by rfl)
      · refine xa_cons ?_ ?_ (hs := by rfl)
        · exact xe_var (i := 0) rfl (.inl rfl) (hd := by decide) (hcd := by decide)
        · refine xa_cons ?_ ?_ (hs := by rfl)
          · exact xe_int
          · exact xa_nil
  · refine xss_cons ?_ ?_
    · refine xs_for (ts := [2]) hp rfl ?_ (xg_name (i := 2) sc_law.nd rfl (.inl rfl) (hf := by first | exact .inl rfl | exact .inr rfl | assumption)) gN_p ?_ (hs := by intro _; rfl)
      · refine xi_range1 (by rfl) T.nrange ?_ (hs := by rfl)
        · refine xa_cons ?_ ?_ (hs := by rfl)
          · exact xe_int
          · exact xa_nil
      · refine xss_cons ?_ ?_
        · refine xs_asg (ts := [3, 4]) ?_ (xg_tup rfl (xgs_cons (xg_name (i := 3) sc_law.nd rfl (.inr rfl) (hf := by first | exact .inl rfl | exact .inr rfl | assumption)) (xgs_cons (xg_name (i := 4) sc_law.nd rfl (.inr rfl) (hf := by first | exact .inl rfl | exact .inr rfl | assumption)) xgs_nil (hs := by rfl)) (hs := by rfl)) (hn := by rfl) (hst := by rfl)) (gT_p (gsCons_p gN_p (gsCons_p gN_p gsNil_p))) (hs := by rfl) (hw := by rfl) (h1 := by rfl)
          · refine xe_tup ?_
            · refine xa_cons ?_ ?_ (hs := by rfl)
              · refine xe_call (ps := ["draws", "at", "many", "kinds"]) (ok__law_colours T) (by exact hr.mono (by decide)) (by rfl) T.g__law_colours T.f__law_colours.kp T.b__law_colours tk ?_ (hdb := by decide) (he := by rfl) (hpl := by rfl)
                · refine xa_cons ?_ ?_ (hs := by rfl)
                  · exact xe_var (i := 1) rfl (.inl rfl) (hd := by decide) (hcd := by decide)
                  · refine xa_cons ?_ ?_ (hs := by rfl)
                    · refine xe_op mulD_p opx_mul ?_ ?_
                      · refine xeB ?_
                        · exact xe_int
                      · refine xeB ?_
                        · exact xe_var (i := 2) rfl (.inl rfl) (hd := by decide) (hcd := by decide)
                    · refine xa_cons ?_ ?_ (hs := by rfl)
                      · refine xe_ix ?_ ?_ (hs := by intro _ _; rfl)
                        · refine xfB ?_
                          · refine xf_lst ?_
                            · refine xa_cons ?_ ?_ (hs := by rfl)
                              · exact xe_int
                              · refine xa_cons ?_ ?_ (hs := by rfl)
                                · exact xe_int
                                · refine xa_cons ?_ ?_ (hs := by rfl)
                                  · exact xe_int
                                  · refine xa_cons ?_ ?_ (hs := by rfl)
                                    · exact xe_int
                                    · refine xa_cons ?_ ?_ (hs := by rfl)
                                      · exact xe_int
                                      · exact xa_nil
                        · refine xeB ?_
                          · exact xe_var (i := 2) rfl (.inl rfl) (hd := by decide) (hcd := by decide)
                      · refine xa_cons ?_ ?_ (hs := by rfl)
                        · refine xe_ix ?_ ?_ (hs := by intro _ _; rfl)
                          · refine xfB ?_
                            · refine xf_lst ?_
                              · refine xa_cons ?_ ?_ (hs := by rfl)
                                · exact xe_int
                                · refine xa_cons ?_ ?_ (hs := by rfl)
                                  · exact xe_int
                                  · refine xa_cons ?_ ?_ (hs := by rfl)
                                    · exact xe_int
                                    · refine xa_cons ?_ ?_ (hs := by rfl)
                                      · exact xe_int
                                      · refine xa_cons ?_ ?_ (hs := by rfl)
                                        · exact xe_int
                                        · exact xa_nil
                          · refine xeB ?_
                            · exact xe_var (i := 2) rfl (.inl rfl) (hd := by decide) (hcd := by decide)
                        · exact xa_nil
              · refine xa_cons ?_ ?_ (hs := by rfl)
                · refine xe_call (ps := ["draws", "at", "many", "kinds"]) (ok__law_colours T) (by exact hr.mono (by decide)) (by rfl) T.g__law_colours T.f__law_colours.kp T.b__law_colours tk ?_ (hdb := by decide) (he := by rfl) (hpl := by rfl)
                  · refine xa_cons ?_ ?_ (hs := by rfl)
                    · exact xe_var (i := 1) rfl (.inl rfl) (hd := by decide) (hcd := by decide)
                    · refine xa_cons ?_ ?_ (hs := by rfl)
                      · refine xe_op addD_p opx_add ?_ ?_
                        · refine xeB ?_
                          · refine xe_op mulD_p opx_mul ?_ ?_
                            · refine xeB ?_
                              · exact xe_int
                            · refine xeB ?_
                              · exact xe_var (i := 2) rfl (.inl rfl) (hd := by decide) (hcd := by decide)
                        · refine xeB ?_
                          · exact xe_int
                      · refine xa_cons ?_ ?_ (hs := by rfl)
                        · refine xe_ix ?_ ?_ (hs := by intro _ _; rfl)
                          · refine xfB ?_
                            · refine xf_lst ?_
                              · refine xa_cons ?_ ?_ (hs := by rfl)
                                · exact xe_int
                                · refine xa_cons ?_ ?_ (hs := by rfl)
                                  · exact xe_int
                                  · refine xa_cons ?_ ?_ (hs := by rfl)
                                    · exact xe_int
                                    · refine xa_cons ?_ ?_ (hs := by rfl)
                                      · exact xe_int
                                      · refine xa_cons ?_ ?_ (hs := by rfl)
                                        · exact xe_int
                                        · exact xa_nil
                          · refine xeB ?_
                            · exact xe_var (i := 2) rfl (.inl rfl) (hd := by decide) (hcd := by decide)
                        · refine xa_cons ?_ ?_ (hs := by rfl)
                          · exact xe_int
                          · exact xa_nil
                · exact xa_nil
        · refine xss_cons ?_ ?_
          · refine xs_if ?_ ?_ ?_
            · refine xt_cmp eqD_p (opx_eq (by exact hu)) (nomark _) ?_ ?_
              · refine xeB ?_
                · refine xe_op modD_p opx_mod ?_ ?_
                  · refine xeB ?_
                    · exact xe_var (i := 2) rfl (.inl rfl) (hd := by decide) (hcd := by decide)
                  · refine xeB ?_
                    · exact xe_int
              · refine xeB ?_
                · exact xe_int
            · refine xss_one ?_
              · refine xs_set (i := 3) sc_law.nd rfl (.inr rfl) ?_ (hs := by rfl) (hf := by first | exact .inl rfl | exact .inr rfl | assumption)
                · refine xe_op mulD_p opx_mul ?_ ?_
                  · refine xeB ?_
                    · refine xe_sl ?_ ?_ ?_
                      · refine xeB ?_
                        · exact xe_var (i := 3) rfl (.inr (.inl rfl)) (hd := by decide) (hcd := by decide)
                      · exact xo_no
                      · refine xo_at ?_
                        · refine xeB ?_
                          · exact xe_int
                  · refine xeB ?_
                    · refine xe_op addD_p opx_add ?_ ?_
                      · refine xeB ?_
                        · exact xe_int
                      · refine xeB ?_
                        · refine xe_op modD_p opx_mod ?_ ?_
                          · refine xeB ?_
                            · refine xe_callTy int1D_p cb_int (by rfl) T.nint (by decide +kernel) ?_ (hn := by decide) (hdb := by decide) (he := by rfl) (hpl := by rfl)
                              · refine xab_cons ?_ ?_ (hs := by rfl)
                                · refine xeB ?_
                                  · refine xe_ix ?_ ?_ (hs := by intro _ _; rfl)
                                    · refine xeB ?_
                                      · exact xe_var (i := 1) rfl (.inl rfl) (hd := by decide) (hcd := by decide)
                                    · refine xeB ?_
                                      · exact xe_int
                                · exact xab_nil
                          · refine xeB ?_
                            · exact xe_int
            · exact xss_nil
          · refine xss_cons ?_ ?_
            · exact xs_par (i := 5) (j := 6) rfl sc_law.nd rfl rfl (by decide) (ps_par rfl sc_law.nd rfl rfl (by decide) rfl rfl (xa_cons (xe_call (ps := ["up", "down"]) (ok__law_low T) (by exact hr.mono (by decide)) (by rfl) T.g__law_low T.f__law_low.kp T.b__law_low tk (xa_cons (xe_op addD_p opx_add (xeB xe_int) (xeB (xe_op modD_p opx_mod (xeB (xe_callTy int1D_p cb_int (by rfl) T.nint (by decide +kernel) (xab_cons (xeB (xe_ix (xeB (xe_var (i := 1) rfl (.inl rfl) (hd := by decide) (hcd := by decide))) (xeB (xe_op addD_p opx_add (xeB xe_int) (xeB (xe_var (i := 2) rfl (.inl rfl) (hd := by decide) (hcd := by decide))))) (hs := by intro _ _; rfl))) xab_nil (hs := by rfl)) (hn := by decide) (hdb := by decide) (he := by rfl) (hpl := by rfl))) (xeB xe_int)))) (xa_cons (xe_op addD_p opx_add (xeB xe_int) (xeB (xe_op modD_p opx_mod (xeB (xe_callTy int1D_p cb_int (by rfl) T.nint (by decide +kernel) (xab_cons (xeB (xe_ix (xeB (xe_var (i := 1) rfl (.inl rfl) (hd := by decide) (hcd := by decide))) (xeB (xe_op addD_p opx_add (xeB xe_int) (xeB (xe_var (i := 2) rfl (.inl rfl) (hd := by decide) (hcd := by decide))))) (hs := by intro _ _; rfl))) xab_nil (hs := by rfl)) (hn := by decide) (hdb := by decide) (he := by rfl) (hpl := by rfl))) (xeB xe_int)))) xa_nil (hs := by rfl)) (hs := by rfl)) (hdb := by decide) (he := by rfl) (hpl := by rfl)) (xa_cons (xe_call (ps := ["up", "down"]) (ok__law_low T) (by exact hr.mono (by decide)) (by rfl) T.g__law_low T.f__law_low.kp T.b__law_low tk (xa_cons (xe_op addD_p opx_add (xeB xe_int) (xeB (xe_op modD_p opx_mod (xeB (xe_callTy int1D_p cb_int (by rfl) T.nint (by decide +kernel) (xab_cons (xeB (xe_ix (xeB (xe_var (i := 1) rfl (.inl rfl) (hd := by decide) (hcd := by decide))) (xeB (xe_op addD_p opx_add (xeB xe_int) (xeB (xe_var (i := 2) rfl (.inl rfl) (hd := by decide) (hcd := by decide))))) (hs := by intro _ _; rfl))) xab_nil (hs := by rfl)) (hn := by decide) (hdb := by decide) (he := by rfl) (hpl := by rfl))) (xeB xe_int)))) (xa_cons (xe_op addD_p opx_add (xeB xe_int) (xeB (xe_op modD_p opx_mod (xeB (xe_callTy int1D_p cb_int (by rfl) T.nint (by decide +kernel) (xab_cons (xeB (xe_ix (xeB (xe_var (i := 1) rfl (.inl rfl) (hd := by decide) (hcd := by decide))) (xeB (xe_op addD_p opx_add (xeB xe_int) (xeB (xe_var (i := 2) rfl (.inl rfl) (hd := by decide) (hcd := by decide))))) (hs := by intro _ _; rfl))) xab_nil (hs := by rfl)) (hn := by decide) (hdb := by decide) (he := by rfl) (hpl := by rfl))) (xeB xe_int)))) xa_nil (hs := by rfl)) (hs := by rfl)) (hdb := by decide) (he := by rfl) (hpl := by rfl)) xa_nil (hs := by rfl)) (hs := by rfl)) (by rfl))
            · refine xss_cons ?_ ?_
              · refine xs_asg (ts := [7, 8, 9, 10]) ?_ (xg_tup rfl (xgs_cons (xg_name (i := 7) sc_law.nd rfl (.inl rfl) (hf := by first | exact .inl rfl | exact .inr rfl | assumption)) (xgs_cons (xg_name (i := 8) sc_law.nd rfl (.inl rfl) (hf := by first | exact .inl rfl | exact .inr rfl | assumption)) (xgs_cons (xg_name (i := 9) sc_law.nd rfl (.inr rfl) (hf := by first | exact .inl rfl | exact .inr rfl | assumption)) (xgs_cons (xg_name (i := 10) sc_law.nd rfl (.inl rfl) (hf := by first | exact .inl rfl | exact .inr rfl | assumption)) xgs_nil (hs := by rfl)) (hs := by rfl)) (hs := by rfl)) (hs := by rfl)) (hn := by rfl) (hst := by rfl)) (gT_p (gsCons_p gN_p (gsCons_p gN_p (gsCons_p gN_p (gsCons_p gN_p gsNil_p))))) (hs := by rfl) (hw := by rfl) (h1 := by rfl)
                · refine xe_tup ?_
                  · refine xa_cons ?_ ?_ (hs := by rfl)
                    · refine xe_call (ps := ["colours"]) (ok__law_steps T) (by exact hr.mono (by decide)) (by rfl) T.g__law_steps T.f__law_steps.kp T.b__law_steps tk ?_ (hdb := by decide) (he := by rfl) (hpl := by rfl)
                      · refine xa_cons ?_ ?_ (hs := by rfl)
                        · exact xe_var (i := 3) rfl (.inr (.inl rfl)) (hd := by decide) (hcd := by decide)
                        · exact xa_nil
                    · refine xa_cons ?_ ?_ (hs := by rfl)
                      · refine xe_call (ps := ["colours"]) (ok__law_steps T) (by exact hr.mono (by decide)) (by rfl) T.g__law_steps T.f__law_steps.kp T.b__law_steps tk ?_ (hdb := by decide) (he := by rfl) (hpl := by rfl)
                        · refine xa_cons ?_ ?_ (hs := by rfl)
                          · exact xe_var (i := 4) rfl (.inr (.inl rfl)) (hd := by decide) (hcd := by decide)
                          · exact xa_nil
                      · refine xa_cons ?_ ?_ (hs := by rfl)
                        · refine xe_callB lenD_p cb_len (by rfl) T.nlen PySem.boot_len ?_ (hn := by decide) (hdb := by decide) (he := by rfl) (hpl := by rfl)
                          · refine xab_cons ?_ ?_ (hs := by rfl)
                            · refine xeB ?_
                              · exact xe_var (i := 3) rfl (.inr (.inl rfl)) (hd := by decide) (hcd := by decide)
                            · exact xab_nil
                        · refine xa_cons ?_ ?_ (hs := by rfl)
                          · refine xe_callB lenD_p cb_len (by rfl) T.nlen PySem.boot_len ?_ (hn := by decide) (hdb := by decide) (he := by rfl) (hpl := by rfl)
                            · refine xab_cons ?_ ?_ (hs := by rfl)
                              · refine xeB ?_
                                · exact xe_var (i := 4) rfl (.inr (.inl rfl)) (hd := by decide) (hcd := by decide)
                              · exact xab_nil
                          · exact xa_nil
              · refine xss_cons ?_ ?_
                · refine xs_if ?_ ?_ ?_
                  · refine xt_w ?_
                    · refine xw_or ?_ ?_
                      · refine xt_cmp neD_p (opx_ne (by exact hu)) (nomark _) ?_ ?_
                        · refine xeB ?_
                          · refine xe_call (ps := ["colours"]) (ok_least_steps T) (by exact hr.mono (by decide)) (by rfl) T.g_least_steps T.f_least_steps.kp T.b_least_steps tk ?_ (hdb := by decide) (he := by rfl) (hpl := by rfl)
                            · refine xa_cons ?_ ?_ (hs := by rfl)
                              · exact xe_var (i := 3) rfl (.inr (.inl rfl)) (hd := by decide) (hcd := by decide)
                              · exact xa_nil
                        · refine xeB ?_
                          · exact xe_var (i := 7) rfl (.inl rfl) (hd := by decide) (hcd := by decide)
                      · refine xw_or ?_ ?_
                        · refine xt_cmp neD_p (opx_ne (by exact hu)) (nomark _) ?_ ?_
                          · refine xeB ?_
                            · refine xe_call (ps := ["colours"]) (ok_least_steps T) (by exact hr.mono (by decide)) (by rfl) T.g_least_steps T.f_least_steps.kp T.b_least_steps tk ?_ (hdb := by decide) (he := by rfl) (hpl := by rfl)
                              · refine xa_cons ?_ ?_ (hs := by rfl)
                                · exact xe_var (i := 4) rfl (.inr (.inl rfl)) (hd := by decide) (hcd := by decide)
                                · exact xa_nil
                          · refine xeB ?_
                            · exact xe_var (i := 8) rfl (.inl rfl) (hd := by decide) (hcd := by decide)
                        · refine xw_or1 ?_
                          · refine xt_cmp neD_p (opx_ne (by exact hu)) (nomark _) ?_ ?_
                            · refine xeB ?_
                              · refine xe_op modD_p opx_mod ?_ ?_
                                · refine xeB ?_
                                  · refine xe_callTy int1D_p cb_int (by rfl) T.nint (by decide +kernel) ?_ (hn := by decide) (hdb := by decide) (he := by rfl) (hpl := by rfl)
                                    · refine xab_cons ?_ ?_ (hs := by rfl)
                                      · refine xeB ?_
                                        · exact xe_var (i := 9) rfl (.inr (.inl rfl)) (hd := by decide) (hcd := by decide)
                                      · exact xab_nil
                                · refine xeB ?_
                                  · exact xe_var (i := 7) rfl (.inl rfl) (hd := by decide) (hcd := by decide)
                            · refine xeB ?_
                              · exact xe_int
                  · refine xss_one ?_
                    · refine xs_ret ?_
                      · exact xe_bool
                  · exact xss_nil
                · refine xss_cons ?_ ?_
                  · refine xs_for (ts := [11]) hp rfl ?_ (xg_name (i := 11) sc_law.nd rfl (.inr rfl) (hf := by first | exact .inl rfl | exact .inr rfl | assumption)) gN_p ?_ (hs := by intro _; rfl)
                    · refine xi_any ?_
                      · refine xfE ?_
                        · refine xf_lst ?_
                          · refine xa_cons ?_ ?_ (hs := by rfl)
                            · exact xe_int
                            · refine xa_cons ?_ ?_ (hs := by rfl)
                              · exact xe_int
                              · refine xa_cons ?_ ?_ (hs := by rfl)
                                · refine xe_un negD_p unx_neg ?_
                                  · refine xeB ?_
                                    · exact xe_int
                                · refine xa_cons ?_ ?_ (hs := by rfl)
                                  · exact xe_var (i := 9) rfl (.inr (.inl rfl)) (hd := by decide) (hcd := by decide)
                                  · refine xa_cons ?_ ?_ (hs := by rfl)
                                    · refine xe_op subD_p opx_sub ?_ ?_
                                      · refine xeB ?_
                                        · refine xe_callTy int1D_p cb_int (by rfl) T.nint (by decide +kernel) ?_ (hn := by decide) (hdb := by decide) (he := by rfl) (hpl := by rfl)
                                          · refine xab_cons ?_ ?_ (hs := by rfl)
                                            · refine xeB ?_
                                              · refine xe_ix ?_ ?_ (hs := by intro _ _; rfl)
                                                · refine xeB ?_
                                                  · exact xe_var (i := 1) rfl (.inl rfl) (hd := by decide) (hcd := by decide)
                                                · refine xeB ?_
                                                  · exact xe_int
                                            · exact xab_nil
                                      · refine xeB ?_
                                        · exact xe_int
                                    · refine xa_cons ?_ ?_ (hs := by rfl)
                                      · refine xe_op addD_p opx_add ?_ ?_
                                        · refine xeB ?_
                                          · refine xe_op powD_p opx_pow ?_ ?_
                                            · refine xeB ?_
                                              · exact xe_int
                                            · refine xeB ?_
                                              · exact xe_int
                                        · refine xeB ?_
                                          · exact xe_int
                                      · refine xa_cons ?_ ?_ (hs := by rfl)
                                        · exact xe_var (i := 7) rfl (.inl rfl) (hd := by decide) (hcd := by decide)
                                        · exact xa_nil
                    · refine xss_one ?_
                      · refine xs_if ?_ ?_ ?_
                        · refine xt_cmp neD_p (opx_ne (by exact hu)) (nomark _) ?_ ?_
                          · refine xeB ?_
                            · refine xe_call (ps := ["colours", "steps"]) (ok_turned T) (by exact hr.mono (by decide)) (by rfl) T.g_turned T.f_turned.kp T.b_turned tk ?_ (hdb := by decide) (he := by rfl) (hpl := by rfl)
                              · refine xa_cons ?_ ?_ (hs := by rfl)
                                · exact xe_var (i := 3) rfl (.inr (.inl rfl)) (hd := by decide) (hcd := by decide)
                                · refine xa_cons ?_ ?_ (hs := by rfl)
                                  · exact xe_var (i := 11) rfl (.inr (.inl rfl)) (hd := by decide) (hcd := by decide)
                                  · exact xa_nil
                          · refine xeB ?_
                            · refine xe_callTy tuple1D_p cb_tuple (by rfl) T.ntuple (by decide +kernel) ?_ (hn := by decide) (hdb := by decide) (he := by rfl) (hpl := by rfl)
                              · refine xab_cons ?_ ?_ (hs := by rfl)
                                · refine xfB ?_
                                  · refine xf_lc rfl sc_law.nd (own := [("k", 19)]) (ts := [19]) ?_ (blkOk_by (N := ["script", "draws", "turn", "colours", "others", "lay", "other", "steps", "more", "size", "count", "step", "unit", "one", "two", "both", "wrong", "told", "way", "k"]) (sc := defScope s_law) (own := [("k", 19)]) (by decide +kernel)) (by decide) ?_ ?_ ?_ (hs := by intro _; rfl)
                                    · refine xi_range1 (by rfl) T.nrange ?_ (hs := by rfl)
                                      · refine xa_cons ?_ ?_ (hs := by rfl)
                                        · exact xe_var (i := 9) rfl (.inr (.inl rfl)) (hd := by decide) (hcd := by decide)
                                        · exact xa_nil
                                    · intro _ _ _ _ _
                                      exact xg_name (i := 19) sc_law.nd rfl (.inl rfl) (hf := by first | exact .inl rfl | exact .inr rfl | assumption)
                                    · intro _ _ _ _ _
                                      exact xts_nil
                                    · intro _ _ _ _ _
                                      refine xe_ix ?_ ?_ (hs := by intro _ _; rfl)
                                      · refine xeB ?_
                                        · exact xe_var (i := 3) rfl (.inr (.inl rfl)) (hd := by decide) (hcd := by decide)
                                      · refine xeB ?_
                                        · refine xe_op modD_p opx_mod ?_ ?_
                                          · refine xeB ?_
                                            · refine xe_callTy int1D_p cb_int (by rfl) T.nint (by decide +kernel) ?_ (hn := by decide) (hdb := by decide) (he := by rfl) (hpl := by rfl)
                                              · refine xab_cons ?_ ?_ (hs := by rfl)
                                                · refine xeB ?_
                                                  · refine xe_op addD_p opx_add ?_ ?_
                                                    · refine xeB ?_
                                                      · exact xe_var (i := 19) rfl (.inl rfl) (hd := by decide) (hcd := by decide)
                                                    · refine xeB ?_
                                                      · exact xe_var (i := 11) rfl (.inr (.inl rfl)) (hd := by decide) (hcd := by decide)
                                                · exact xab_nil
                                          · refine xeB ?_
                                            · exact xe_var (i := 9) rfl (.inr (.inl rfl)) (hd := by decide) (hcd := by decide)
                                · exact xab_nil
                        · refine xss_one ?_
                          · refine xs_ret ?_
                            · exact xe_bool
                        · exact xss_nil
                  · refine xss_cons ?_ ?_
                    · refine xs_if ?_ ?_ ?_
                      · refine xt_cmp neD_p (opx_ne (by exact hu)) (nomark _) ?_ ?_
                        · refine xeB ?_
                          · refine xe_call (ps := ["colours", "lay"]) (ok_comes_again T) (by exact hr.mono (by decide)) (by rfl) T.g_comes_again T.f_comes_again.kp T.b_comes_again tk ?_ (hdb := by decide) (he := by rfl) (hpl := by rfl)
                            · refine xa_cons ?_ ?_ (hs := by rfl)
                              · exact xe_var (i := 3) rfl (.inr (.inl rfl)) (hd := by decide) (hcd := by decide)
                              · refine xa_cons ?_ ?_ (hs := by rfl)
                                · exact xe_var (i := 5) rfl (.inl rfl) (hd := by decide) (hcd := by decide)
                                · exact xa_nil
                        · refine xeB ?_
                          · refine xe_call (ps := ["up", "down"]) (ok__law_low T) (by exact hr.mono (by decide)) (by rfl) T.g__law_low T.f__law_low.kp T.b__law_low tk ?_ (hdb := by decide) (he := by rfl) (hpl := by rfl)
                            · refine xa_cons ?_ ?_ (hs := by rfl)
                              · refine xe_op mulD_p opx_mul ?_ ?_
                                · refine xeB ?_
                                  · refine xe_ix ?_ ?_ (hs := by intro _ _; rfl)
                                    · refine xeB ?_
                                      · exact xe_var (i := 5) rfl (.inl rfl) (hd := by decide) (hcd := by decide)
                                    · refine xeB ?_
                                      · exact xe_int
                                · refine xeB ?_
                                  · exact xe_var (i := 7) rfl (.inl rfl) (hd := by decide) (hcd := by decide)
                              · refine xa_cons ?_ ?_ (hs := by rfl)
                                · refine xe_op mulD_p opx_mul ?_ ?_
                                  · refine xeB ?_
                                    · refine xe_ix ?_ ?_ (hs := by intro _ _; rfl)
                                      · refine xeB ?_
                                        · exact xe_var (i := 5) rfl (.inl rfl) (hd := by decide) (hcd := by decide)
                                      · refine xeB ?_
                                        · exact xe_int
                                  · refine xeB ?_
                                    · exact xe_var (i := 9) rfl (.inr (.inl rfl)) (hd := by decide) (hcd := by decide)
                                · exact xa_nil
                      · refine xss_one ?_
                        · refine xs_ret ?_
                          · exact xe_bool
                      · exact xss_nil
                    · refine xss_cons ?_ ?_
                      · refine xs_set (i := 12) sc_law.nd rfl (.inl rfl) ?_ (hs := by rfl) (hf := by first | exact .inl rfl | exact .inr rfl | assumption)
                        · refine xe_op mulD_p opx_mul ?_ ?_
                          · refine xeB ?_
                            · refine xe_op mulD_p opx_mul ?_ ?_
                              · refine xeB ?_
                                · refine xe_op mulD_p opx_mul ?_ ?_
                                  · refine xeB ?_
                                    · refine xe_ix ?_ ?_ (hs := by intro _ _; rfl)
                                      · refine xeB ?_
                                        · exact xe_var (i := 5) rfl (.inl rfl) (hd := by decide) (hcd := by decide)
                                      · refine xeB ?_
                                        · exact xe_int
                                  · refine xeB ?_
                                    · exact xe_var (i := 9) rfl (.inr (.inl rfl)) (hd := by decide) (hcd := by decide)
                              · refine xeB ?_
                                · refine xe_ix ?_ ?_ (hs := by intro _ _; rfl)
                                  · refine xeB ?_
                                    · exact xe_var (i := 6) rfl (.inl rfl) (hd := by decide) (hcd := by decide)
                                  · refine xeB ?_
                                    · exact xe_int
                          · refine xeB ?_
                            · exact xe_var (i := 10) rfl (.inl rfl) (hd := by decide) (hcd := by decide)
                      · refine xss_cons ?_ ?_
                        · exact xs_par (i := 13) (j := 14) rfl sc_law.nd rfl rfl (by decide) (ps_par rfl sc_law.nd rfl rfl (by decide) rfl rfl (xa_cons (xe_op mulD_p opx_mul (xeB (xe_op mulD_p opx_mul (xeB (xe_ix (xeB (xe_var (i := 5) rfl (.inl rfl) (hd := by decide) (hcd := by decide))) (xeB xe_int) (hs := by intro _ _; rfl))) (xeB (xe_var (i := 7) rfl (.inl rfl) (hd := by decide) (hcd := by decide))))) (xeB (xe_op fdivD_p opx_fdiv (xeB (xe_var (i := 12) rfl (.inl rfl) (hd := by decide) (hcd := by decide))) (xeB (xe_op mulD_p opx_mul (xeB (xe_ix (xeB (xe_var (i := 5) rfl (.inl rfl) (hd := by decide) (hcd := by decide))) (xeB xe_int) (hs := by intro _ _; rfl))) (xeB (xe_var (i := 9) rfl (.inr (.inl rfl)) (hd := by decide) (hcd := by decide)))))))) (xa_cons (xe_op mulD_p opx_mul (xeB (xe_op mulD_p opx_mul (xeB (xe_ix (xeB (xe_var (i := 6) rfl (.inl rfl) (hd := by decide) (hcd := by decide))) (xeB xe_int) (hs := by intro _ _; rfl))) (xeB (xe_var (i := 8) rfl (.inl rfl) (hd := by decide) (hcd := by decide))))) (xeB (xe_op fdivD_p opx_fdiv (xeB (xe_var (i := 12) rfl (.inl rfl) (hd := by decide) (hcd := by decide))) (xeB (xe_op mulD_p opx_mul (xeB (xe_ix (xeB (xe_var (i := 6) rfl (.inl rfl) (hd := by decide) (hcd := by decide))) (xeB xe_int) (hs := by intro _ _; rfl))) (xeB (xe_var (i := 10) rfl (.inl rfl) (hd := by decide) (hcd := by decide)))))))) xa_nil (hs := by rfl)) (hs := by rfl)) (by rfl))
                        · refine xss_cons ?_ ?_
                          · refine xs_set (i := 15) sc_law.nd rfl (.inl rfl) ?_ (hs := by rfl) (hf := by first | exact .inl rfl | exact .inr rfl | assumption)
                            · exact xe_var (i := 13) rfl (.inl rfl) (hd := by decide) (hcd := by decide)
                          · refine xss_cons ?_ ?_
                            · refine xs_while 1000000000 hp ?_ ?_
                              · refine xt_cmp neD_p (opx_ne (by exact hu)) (nomark _) ?_ ?_
                                · refine xeB ?_
                                  · refine xe_op modD_p opx_mod ?_ ?_
                                    · refine xeB ?_
                                      · refine xe_callTy int1D_p cb_int (by rfl) T.nint (by decide +kernel) ?_ (hn := by decide) (hdb := by decide) (he := by rfl) (hpl := by rfl)
                                        · refine xab_cons ?_ ?_ (hs := by rfl)
                                          · refine xeB ?_
                                            · exact xe_var (i := 15) rfl (.inl rfl) (hd := by decide) (hcd := by decide)
                                          · exact xab_nil
                                    · refine xeB ?_
                                      · exact xe_var (i := 14) rfl (.inl rfl) (hd := by decide) (hcd := by decide)
                                · refine xeB ?_
                                  · exact xe_int
                              · refine xss_one ?_
                                · refine xs_set (i := 15) sc_law.nd rfl (.inl rfl) ?_ (hs := by rfl) (hf := by first | exact .inl rfl | exact .inr rfl | assumption)
                                  · refine xe_op addD_p opx_add ?_ ?_
                                    · refine xeB ?_
                                      · exact xe_var (i := 15) rfl (.inl rfl) (hd := by decide) (hcd := by decide)
                                    · refine xeB ?_
                                      · exact xe_var (i := 13) rfl (.inl rfl) (hd := by decide) (hcd := by decide)
                            · refine xss_cons ?_ ?_
                              · refine xs_if ?_ ?_ ?_
                                · refine xt_w ?_
                                  · refine xw_or ?_ ?_
                                    · refine xt_cmp neD_p (opx_ne (by exact hu)) (nomark _) ?_ ?_
                                      · refine xeB ?_
                                        · refine xe_call (ps := ["colours", "lay", "others", "other"]) (ok_both_again T) (by exact hr.mono (by decide)) (by rfl) T.g_both_again T.f_both_again.kp T.b_both_again tk ?_ (hdb := by decide) (he := by rfl) (hpl := by rfl)
                                          · refine xa_cons ?_ ?_ (hs := by rfl)
                                            · exact xe_var (i := 3) rfl (.inr (.inl rfl)) (hd := by decide) (hcd := by decide)
                                            · refine xa_cons ?_ ?_ (hs := by rfl)
                                              · exact xe_var (i := 5) rfl (.inl rfl) (hd := by decide) (hcd := by decide)
                                              · refine xa_cons ?_ ?_ (hs := by rfl)
                                                · exact xe_var (i := 4) rfl (.inr (.inl rfl)) (hd := by decide) (hcd := by decide)
                                                · refine xa_cons ?_ ?_ (hs := by rfl)
                                                  · exact xe_var (i := 6) rfl (.inl rfl) (hd := by decide) (hcd := by decide)
                                                  · exact xa_nil
                                      · refine xeB ?_
                                        · refine xe_call (ps := ["up", "down"]) (ok__law_low T) (by exact hr.mono (by decide)) (by rfl) T.g__law_low T.f__law_low.kp T.b__law_low tk ?_ (hdb := by decide) (he := by rfl) (hpl := by rfl)
                                          · refine xa_cons ?_ ?_ (hs := by rfl)
                                            · exact xe_var (i := 15) rfl (.inl rfl) (hd := by decide) (hcd := by decide)
                                            · refine xa_cons ?_ ?_ (hs := by rfl)
                                              · exact xe_var (i := 12) rfl (.inl rfl) (hd := by decide) (hcd := by decide)
                                              · exact xa_nil
                                    · refine xw_or1 ?_
                                      · refine xt_cmp neD_p (opx_ne (by exact hu)) (nomark _) ?_ ?_
                                        · refine xeB ?_
                                          · refine xe_call (ps := ["colours", "lay", "others", "other"]) (ok_both_again T) (by exact hr.mono (by decide)) (by rfl) T.g_both_again T.f_both_again.kp T.b_both_again tk ?_ (hdb := by decide) (he := by rfl) (hpl := by rfl)
                                            · refine xa_cons ?_ ?_ (hs := by rfl)
                                              · exact xe_var (i := 4) rfl (.inr (.inl rfl)) (hd := by decide) (hcd := by decide)
                                              · refine xa_cons ?_ ?_ (hs := by rfl)
                                                · exact xe_var (i := 6) rfl (.inl rfl) (hd := by decide) (hcd := by decide)
                                                · refine xa_cons ?_ ?_ (hs := by rfl)
                                                  · exact xe_var (i := 3) rfl (.inr (.inl rfl)) (hd := by decide) (hcd := by decide)
                                                  · refine xa_cons ?_ ?_ (hs := by rfl)
                                                    · exact xe_var (i := 5) rfl (.inl rfl) (hd := by decide) (hcd := by decide)
                                                    · exact xa_nil
                                        · refine xeB ?_
                                          · refine xe_call (ps := ["up", "down"]) (ok__law_low T) (by exact hr.mono (by decide)) (by rfl) T.g__law_low T.f__law_low.kp T.b__law_low tk ?_ (hdb := by decide) (he := by rfl) (hpl := by rfl)
                                            · refine xa_cons ?_ ?_ (hs := by rfl)
                                              · exact xe_var (i := 15) rfl (.inl rfl) (hd := by decide) (hcd := by decide)
                                              · refine xa_cons ?_ ?_ (hs := by rfl)
                                                · exact xe_var (i := 12) rfl (.inl rfl) (hd := by decide) (hcd := by decide)
                                                · exact xa_nil
                                · refine xss_one ?_
                                  · refine xs_ret ?_
                                    · exact xe_bool
                                · exact xss_nil
                              · refine xss_cons ?_ ?_
                                · refine xs_for (ts := [16]) hp rfl ?_ (xg_name (i := 16) sc_law.nd rfl (.inr rfl) (hf := by first | exact .inl rfl | exact .inr rfl | assumption)) gN_p ?_ (hs := by intro _; rfl)
                                  · refine xi_any ?_
                                    · refine xfE ?_
                                      · refine xf_lst ?_
                                        · refine xa_cons ?_ ?_ (hs := by rfl)
                                          · exact xe_none
                                          · refine xa_cons ?_ ?_ (hs := by rfl)
                                            · refine xe_tup ?_
                                              · exact xa_nil
                                            · refine xa_cons ?_ ?_ (hs := by rfl)
                                              · refine xfE ?_
                                                · refine xf_callTy list1D_p cb_list (by rfl) T.nlist (by decide +kernel) ?_ (hn := by decide) (hdb := by decide) (he := by rfl) (hpl := by rfl)
                                                  · refine xab_cons ?_ ?_ (hs := by rfl)
                                                    · refine xeB ?_
                                                      · exact xe_var (i := 3) rfl (.inr (.inl rfl)) (hd := by decide) (hcd := by decide)
                                                    · exact xab_nil
                                              · refine xa_cons ?_ ?_ (hs := by rfl)
                                                · refine xe_op mulD_p opx_mul ?_ ?_
                                                  · refine xeB ?_
                                                    · refine xe_tup ?_
                                                      · refine xa_cons ?_ ?_ (hs := by rfl)
                                                        · exact xe_str
                                                        · exact xa_nil
                                                  · refine xeB ?_
                                                    · exact xe_int
                                                · refine xa_cons ?_ ?_ (hs := by rfl)
                                                  · refine xe_tup ?_
                                                    · refine xa_cons ?_ ?_ (hs := by rfl)
                                                      · exact xe_str
                                                      · exact xa_nil
                                                  · refine xa_cons ?_ ?_ (hs := by rfl)
                                                    · refine xe_tup ?_
                                                      · refine xa_cons ?_ ?_ (hs := by rfl)
                                                        · exact xe_str
                                                        · exact xa_nil
                                                    · refine xa_cons ?_ ?_ (hs := by rfl)
                                                      · refine xe_tup ?_
                                                        · refine xa_cons ?_ ?_ (hs := by rfl)
                                                          · exact xe_str
                                                          · exact xa_nil
                                                      · refine xa_cons ?_ ?_ (hs := by rfl)
                                                        · refine xe_tup ?_
                                                          · refine xa_cons ?_ ?_ (hs := by rfl)
                                                            · exact xe_int
                                                            · exact xa_nil
                                                        · refine xa_cons ?_ ?_ (hs := by rfl)
                                                          · exact xe_str
                                                          · refine xa_cons ?_ ?_ (hs := by rfl)
                                                            · refine xe_op addD_p opx_add ?_ ?_
                                                              · refine xeB ?_
                                                                · exact xe_var (i := 3) rfl (.inr (.inl rfl)) (hd := by decide) (hcd := by decide)
                                                              · refine xeB ?_
                                                                · refine xe_tup ?_
                                                                  · refine xa_cons ?_ ?_ (hs := by rfl)
                                                                    · exact xe_none
                                                                    · exact xa_nil
                                                            · exact xa_nil
                                  · refine xss_cons ?_ ?_
                                    · refine xs_set (i := 17) sc_law.nd rfl (.inl rfl) ?_ (hs := by rfl) (hf := by first | exact .inl rfl | exact .inr rfl | assumption)
                                      · refine xe_op addD_p opx_add ?_ ?_
                                        · refine xfB ?_
                                          · refine xf_lc rfl sc_law.nd (own := [("way", 18)]) (ts := [18]) ?_ (blkOk_by (N := ["script", "draws", "turn", "colours", "others", "lay", "other", "steps", "more", "size", "count", "step", "unit", "one", "two", "both", "wrong", "told", "way", "k"]) (sc := defScope s_law) (own := [("way", 18)]) (by decide +kernel)) (by decide) ?_ ?_ ?_ (hs := by intro _; rfl)
                                            · refine xi_range1 (by rfl) T.nrange ?_ (hs := by rfl)
                                              · refine xa_cons ?_ ?_ (hs := by rfl)
                                                · exact xe_int
                                                · exact xa_nil
                                            · intro _ _ _ _ _
                                              exact xg_name (i := 18) sc_law.nd rfl (.inl rfl) (hf := by first | exact .inl rfl | exact .inr rfl | assumption)
                                            · intro _ _ _ _ _
                                              exact xts_nil
                                            · intro _ _ _ _ _
                                              refine xe_call (ps := ["way", "colours", "lay", "others", "other"]) (ok__law_word T) (by exact hr.mono (by decide)) (by rfl) T.g__law_word T.f__law_word.kp T.b__law_word tk0 ?_ (hdb := by decide) (he := by rfl) (hpl := by rfl)
                                              · refine xa_cons ?_ ?_ (hs := by rfl)
                                                · exact xe_var (i := 18) rfl (.inl rfl) (hd := by decide) (hcd := by decide)
                                                · refine xa_cons ?_ ?_ (hs := by rfl)
                                                  · exact xe_var (i := 16) rfl (.inr (.inl rfl)) (hd := by decide) (hcd := by decide)
                                                  · refine xa_cons ?_ ?_ (hs := by rfl)
                                                    · refine xe_tup ?_
                                                      · refine xa_cons ?_ ?_ (hs := by rfl)
                                                        · exact xe_int
                                                        · refine xa_cons ?_ ?_ (hs := by rfl)
                                                          · exact xe_int
                                                          · exact xa_nil
                                                    · refine xa_cons ?_ ?_ (hs := by rfl)
                                                      · exact xe_var (i := 4) rfl (.inr (.inl rfl)) (hd := by decide) (hcd := by decide)
                                                      · refine xa_cons ?_ ?_ (hs := by rfl)
                                                        · refine xe_tup ?_
                                                          · refine xa_cons ?_ ?_ (hs := by rfl)
                                                            · exact xe_int
                                                            · refine xa_cons ?_ ?_ (hs := by rfl)
                                                              · exact xe_int
                                                              · exact xa_nil
                                                        · exact xa_nil
                                        · refine xfB ?_
                                          · refine xf_lc rfl sc_law.nd (own := [("way", 18)]) (ts := [18]) ?_ (blkOk_by (N := ["script", "draws", "turn", "colours", "others", "lay", "other", "steps", "more", "size", "count", "step", "unit", "one", "two", "both", "wrong", "told", "way", "k"]) (sc := defScope s_law) (own := [("way", 18)]) (by decide +kernel)) (by decide) ?_ ?_ ?_ (hs := by intro _; rfl)
                                            · refine xi_any ?_
                                              · refine xe_tup ?_
                                                · refine xa_cons ?_ ?_ (hs := by rfl)
                                                  · exact xe_int
                                                  · refine xa_cons ?_ ?_ (hs := by rfl)
                                                    · exact xe_int
                                                    · refine xa_cons ?_ ?_ (hs := by rfl)
                                                      · exact xe_int
                                                      · exact xa_nil
                                            · intro _ _ _ _ _
                                              exact xg_name (i := 18) sc_law.nd rfl (.inl rfl) (hf := by first | exact .inl rfl | exact .inr rfl | assumption)
                                            · intro _ _ _ _ _
                                              exact xts_nil
                                            · intro _ _ _ _ _
                                              refine xe_call (ps := ["way", "colours", "lay", "others", "other"]) (ok__law_word T) (by exact hr.mono (by decide)) (by rfl) T.g__law_word T.f__law_word.kp T.b__law_word tk0 ?_ (hdb := by decide) (he := by rfl) (hpl := by rfl)
                                              · refine xa_cons ?_ ?_ (hs := by rfl)
                                                · exact xe_var (i := 18) rfl (.inl rfl) (hd := by decide) (hcd := by decide)
                                                · refine xa_cons ?_ ?_ (hs := by rfl)
                                                  · exact xe_var (i := 3) rfl (.inr (.inl rfl)) (hd := by decide) (hcd := by decide)
                                                  · refine xa_cons ?_ ?_ (hs := by rfl)
                                                    · refine xe_tup ?_
                                                      · refine xa_cons ?_ ?_ (hs := by rfl)
                                                        · exact xe_int
                                                        · refine xa_cons ?_ ?_ (hs := by rfl)
                                                          · exact xe_int
                                                          · exact xa_nil
                                                    · refine xa_cons ?_ ?_ (hs := by rfl)
                                                      · exact xe_var (i := 16) rfl (.inr (.inl rfl)) (hd := by decide) (hcd := by decide)
                                                      · refine xa_cons ?_ ?_ (hs := by rfl)
                                                        · refine xe_tup ?_
                                                          · refine xa_cons ?_ ?_ (hs := by rfl)
                                                            · exact xe_int
                                                            · refine xa_cons ?_ ?_ (hs := by rfl)
                                                              · exact xe_int
                                                              · exact xa_nil
                                                        · exact xa_nil
                                    · refine xss_one ?_
                                      · refine xs_if ?_ ?_ ?_
                                        · refine xt_cmp neD_p (opx_ne (by exact hu)) (nomark _) ?_ ?_
                                          · refine xeB ?_
                                            · exact xe_var (i := 17) rfl (.inl rfl) (hd := by decide) (hcd := by decide)
                                          · refine xfB ?_
                                            · refine xf_rep ?_ ?_
                                              · refine xf_lst ?_
                                                · refine xa_cons ?_ ?_ (hs := by rfl)
                                                  · exact xe_str
                                                  · exact xa_nil
                                              · refine xeB ?_
                                                · exact xe_int
                                        · refine xss_one ?_
                                          · refine xs_ret ?_
                                            · exact xe_bool
                                        · exact xss_nil
                                · refine xss_cons ?_ ?_
                                  · refine xs_for (ts := [16]) hp rfl ?_ (xg_name (i := 16) sc_law.nd rfl (.inr rfl) (hf := by first | exact .inl rfl | exact .inr rfl | assumption)) gN_p ?_ (hs := by intro _; rfl)
                                    · refine xi_any ?_
                                      · refine xfE ?_
                                        · refine xf_lst ?_
                                          · refine xa_cons ?_ ?_ (hs := by rfl)
                                            · exact xe_none
                                            · refine xa_cons ?_ ?_ (hs := by rfl)
                                              · refine xe_tup ?_
                                                · refine xa_cons ?_ ?_ (hs := by rfl)
                                                  · exact xe_int
                                                  · refine xa_cons ?_ ?_ (hs := by rfl)
                                                    · exact xe_int
                                                    · exact xa_nil
                                              · refine xa_cons ?_ ?_ (hs := by rfl)
                                                · refine xe_tup ?_
                                                  · refine xa_cons ?_ ?_ (hs := by rfl)
                                                    · exact xe_int
                                                    · refine xa_cons ?_ ?_ (hs := by rfl)
                                                      · exact xe_int
                                                      · exact xa_nil
                                                · refine xa_cons ?_ ?_ (hs := by rfl)
                                                  · refine xe_tup ?_
                                                    · refine xa_cons ?_ ?_ (hs := by rfl)
                                                      · exact xe_int
                                                      · refine xa_cons ?_ ?_ (hs := by rfl)
                                                        · exact xe_int
                                                        · exact xa_nil
                                                  · refine xa_cons ?_ ?_ (hs := by rfl)
                                                    · refine xe_tup ?_
                                                      · refine xa_cons ?_ ?_ (hs := by rfl)
                                                        · exact xe_int
                                                        · refine xa_cons ?_ ?_ (hs := by rfl)
                                                          · exact xe_int
                                                          · exact xa_nil
                                                    · refine xa_cons ?_ ?_ (hs := by rfl)
                                                      · refine xe_tup ?_
                                                        · refine xa_cons ?_ ?_ (hs := by rfl)
                                                          · refine xe_un negD_p unx_neg ?_
                                                            · refine xeB ?_
                                                              · exact xe_int
                                                          · refine xa_cons ?_ ?_ (hs := by rfl)
                                                            · exact xe_int
                                                            · exact xa_nil
                                                      · refine xa_cons ?_ ?_ (hs := by rfl)
                                                        · refine xe_tup ?_
                                                          · refine xa_cons ?_ ?_ (hs := by rfl)
                                                            · exact xe_bool
                                                            · refine xa_cons ?_ ?_ (hs := by rfl)
                                                              · exact xe_int
                                                              · exact xa_nil
                                                        · refine xa_cons ?_ ?_ (hs := by rfl)
                                                          · refine xfE ?_
                                                            · refine xf_lst ?_
                                                              · refine xa_cons ?_ ?_ (hs := by rfl)
                                                                · exact xe_int
                                                                · refine xa_cons ?_ ?_ (hs := by rfl)
                                                                  · exact xe_int
                                                                  · exact xa_nil
                                                          · refine xa_cons ?_ ?_ (hs := by rfl)
                                                            · exact xe_int
                                                            · exact xa_nil
                                    · refine xss_one ?_
                                      · refine xs_if ?_ ?_ ?_
                                        · refine xt_w ?_
                                          · refine xw_or ?_ ?_
                                            · refine xt_cmp neD_p (opx_ne (by exact hu)) (nomark _) ?_ ?_
                                              · refine xeB ?_
                                                · refine xe_call (ps := ["way", "colours", "lay", "others", "other"]) (ok__law_word T) (by exact hr.mono (by decide)) (by rfl) T.g__law_word T.f__law_word.kp T.b__law_word tk ?_ (hdb := by decide) (he := by rfl) (hpl := by rfl)
                                                  · refine xa_cons ?_ ?_ (hs := by rfl)
                                                    · exact xe_int
                                                    · refine xa_cons ?_ ?_ (hs := by rfl)
                                                      · exact xe_var (i := 3) rfl (.inr (.inl rfl)) (hd := by decide) (hcd := by decide)
                                                      · refine xa_cons ?_ ?_ (hs := by rfl)
                                                        · exact xe_var (i := 16) rfl (.inr (.inl rfl)) (hd := by decide) (hcd := by decide)
                                                        · refine xa_cons ?_ ?_ (hs := by rfl)
                                                          · exact xe_none
                                                          · refine xa_cons ?_ ?_ (hs := by rfl)
                                                            · exact xe_none
                                                            · exact xa_nil
                                              · refine xeB ?_
                                                · exact xe_str
                                            · refine xw_or ?_ ?_
                                              · refine xt_cmp neD_p (opx_ne (by exact hu)) (nomark _) ?_ ?_
                                                · refine xeB ?_
                                                  · refine xe_call (ps := ["way", "colours", "lay", "others", "other"]) (ok__law_word T) (by exact hr.mono (by decide)) (by rfl) T.g__law_word T.f__law_word.kp T.b__law_word tk ?_ (hdb := by decide) (he := by rfl) (hpl := by rfl)
                                                    · refine xa_cons ?_ ?_ (hs := by rfl)
                                                      · exact xe_int
                                                      · refine xa_cons ?_ ?_ (hs := by rfl)
                                                        · exact xe_var (i := 3) rfl (.inr (.inl rfl)) (hd := by decide) (hcd := by decide)
                                                        · refine xa_cons ?_ ?_ (hs := by rfl)
                                                          · exact xe_var (i := 16) rfl (.inr (.inl rfl)) (hd := by decide) (hcd := by decide)
                                                          · refine xa_cons ?_ ?_ (hs := by rfl)
                                                            · exact xe_none
                                                            · refine xa_cons ?_ ?_ (hs := by rfl)
                                                              · exact xe_none
                                                              · exact xa_nil
                                                · refine xeB ?_
                                                  · exact xe_str
                                              · refine xw_or1 ?_
                                                · refine xt_cmp neD_p (opx_ne (by exact hu)) (nomark _) ?_ ?_
                                                  · refine xeB ?_
                                                    · refine xe_call (ps := ["way", "colours", "lay", "others", "other"]) (ok__law_word T) (by exact hr.mono (by decide)) (by rfl) T.g__law_word T.f__law_word.kp T.b__law_word tk ?_ (hdb := by decide) (he := by rfl) (hpl := by rfl)
                                                      · refine xa_cons ?_ ?_ (hs := by rfl)
                                                        · exact xe_int
                                                        · refine xa_cons ?_ ?_ (hs := by rfl)
                                                          · exact xe_var (i := 3) rfl (.inr (.inl rfl)) (hd := by decide) (hcd := by decide)
                                                          · refine xa_cons ?_ ?_ (hs := by rfl)
                                                            · refine xe_tup ?_
                                                              · refine xa_cons ?_ ?_ (hs := by rfl)
                                                                · exact xe_int
                                                                · refine xa_cons ?_ ?_ (hs := by rfl)
                                                                  · exact xe_int
                                                                  · exact xa_nil
                                                            · refine xa_cons ?_ ?_ (hs := by rfl)
                                                              · exact xe_var (i := 4) rfl (.inr (.inl rfl)) (hd := by decide) (hcd := by decide)
                                                              · refine xa_cons ?_ ?_ (hs := by rfl)
                                                                · exact xe_var (i := 16) rfl (.inr (.inl rfl)) (hd := by decide) (hcd := by decide)
                                                                · exact xa_nil
                                                  · refine xeB ?_
                                                    · exact xe_str
                                        · refine xss_one ?_
                                          · refine xs_ret ?_
                                            · exact xe_bool
                                        · exact xss_nil
                                  · refine xss_one ?_
                                    · refine xs_if ?_ ?_ ?_
                                      · refine xt_not ?_
                                        · refine xt_val ?_ (he := by intro _; rfl)
                                          · refine xe_callB allD_p (cb_all rfl) (by rfl) T.nall (by decide +kernel) ?_ (hn := by decide) (hdb := by decide) (he := by rfl) (hpl := by rfl)
                                            · refine xab_cons ?_ ?_ (hs := by rfl)
                                              · refine xfB ?_
                                                · refine xf_lc rfl sc_law.nd (own := [("wrong", 16)]) (ts := [16]) ?_ (blkOk_by (N := ["script", "draws", "turn", "colours", "others", "lay", "other", "steps", "more", "size", "count", "step", "unit", "one", "two", "both", "wrong", "told", "way", "k"]) (sc := defScope s_law) (own := [("wrong", 16)]) (by decide +kernel)) (by decide) ?_ ?_ ?_ (hs := by intro _; rfl)
                                                  · refine xi_any ?_
                                                    · refine xfE ?_
                                                      · refine xf_lst ?_
                                                        · refine xa_cons ?_ ?_ (hs := by rfl)
                                                          · exact xe_none
                                                          · refine xa_cons ?_ ?_ (hs := by rfl)
                                                            · exact xe_bool
                                                            · refine xa_cons ?_ ?_ (hs := by rfl)
                                                              · exact xe_str
                                                              · refine xa_cons ?_ ?_ (hs := by rfl)
                                                                · refine xe_tup ?_
                                                                  · refine xa_cons ?_ ?_ (hs := by rfl)
                                                                    · exact xe_int
                                                                    · exact xa_nil
                                                                · exact xa_nil
                                                  · intro _ _ _ _ _
                                                    exact xg_name (i := 16) sc_law.nd rfl (.inl rfl) (hf := by first | exact .inl rfl | exact .inr rfl | assumption)
                                                  · intro _ _ _ _ _
                                                    exact xts_nil
                                                  · intro _ _ _ _ _
                                                    refine xe_cmp eqD_p (opx_eq (by exact hu)) (nomark _) ?_ ?_
                                                    · refine xeB ?_
                                                      · refine xe_call (ps := ["way", "colours", "lay", "others", "other"]) (ok__law_word T) (by exact hr.mono (by decide)) (by rfl) T.g__law_word T.f__law_word.kp T.b__law_word tk0 ?_ (hdb := by decide) (he := by rfl) (hpl := by rfl)
                                                        · refine xa_cons ?_ ?_ (hs := by rfl)
                                                          · exact xe_int
                                                          · refine xa_cons ?_ ?_ (hs := by rfl)
                                                            · exact xe_var (i := 3) rfl (.inr (.inl rfl)) (hd := by decide) (hcd := by decide)
                                                            · refine xa_cons ?_ ?_ (hs := by rfl)
                                                              · exact xe_var (i := 16) rfl (.inl rfl) (hd := by decide) (hcd := by decide)
                                                              · refine xa_cons ?_ ?_ (hs := by rfl)
                                                                · exact xe_none
                                                                · refine xa_cons ?_ ?_ (hs := by rfl)
                                                                  · exact xe_none
                                                                  · exact xa_nil
                                                    · refine xeB ?_
                                                      · exact xe_str
                                              · exact xab_nil
                                      · refine xss_one ?_
                                        · refine xs_ret ?_
                                          · exact xe_bool
                                      · exact xss_nil
    · refine xss_cons ?_ ?_
      · refine xs_if ?_ ?_ ?_
        · refine xt_w ?_
          · refine xw_or ?_ ?_
            · refine xt_cmp neD_p (opx_ne (by exact hu)) (nomark _) ?_ ?_
              · refine xeB ?_
                · refine xe_call (ps := ["colours", "lay"]) (ok_comes_again T) (by exact hr.mono (by decide)) (by rfl) T.g_comes_again T.f_comes_again.kp T.b_comes_again tk ?_ (hdb := by decide) (he := by rfl) (hpl := by rfl)
                  · refine xa_cons ?_ ?_ (hs := by rfl)
                    · refine xe_tup ?_
                      · refine xa_cons ?_ ?_ (hs := by rfl)
                        · exact xe_str
                        · refine xa_cons ?_ ?_ (hs := by rfl)
                          · exact xe_str
                          · refine xa_cons ?_ ?_ (hs := by rfl)
                            · exact xe_str
                            · refine xa_cons ?_ ?_ (hs := by rfl)
                              · exact xe_str
                              · exact xa_nil
                    · refine xa_cons ?_ ?_ (hs := by rfl)
                      · refine xe_tup ?_
                        · refine xa_cons ?_ ?_ (hs := by rfl)
                          · exact xe_int
                          · refine xa_cons ?_ ?_ (hs := by rfl)
                            · exact xe_int
                            · exact xa_nil
                      · exact xa_nil
              · refine xeB ?_
                · refine xe_tup ?_
                  · refine xa_cons ?_ ?_ (hs := by rfl)
                    · exact xe_int
                    · refine xa_cons ?_ ?_ (hs := by rfl)
                      · exact xe_int
                      · exact xa_nil
            · refine xw_or ?_ ?_
              · refine xt_cmp neD_p (opx_ne (by exact hu)) (nomark _) ?_ ?_
                · refine xeB ?_
                  · refine xe_call (ps := ["colours", "lay", "others", "other"]) (ok_both_again T) (by exact hr.mono (by decide)) (by rfl) T.g_both_again T.f_both_again.kp T.b_both_again tk ?_ (hdb := by decide) (he := by rfl) (hpl := by rfl)
                    · refine xa_cons ?_ ?_ (hs := by rfl)
                      · refine xe_tup ?_
                        · refine xa_cons ?_ ?_ (hs := by rfl)
                          · exact xe_str
                          · exact xa_nil
                      · refine xa_cons ?_ ?_ (hs := by rfl)
                        · refine xe_tup ?_
                          · refine xa_cons ?_ ?_ (hs := by rfl)
                            · exact xe_int
                            · refine xa_cons ?_ ?_ (hs := by rfl)
                              · exact xe_int
                              · exact xa_nil
                        · refine xa_cons ?_ ?_ (hs := by rfl)
                          · refine xe_tup ?_
                            · refine xa_cons ?_ ?_ (hs := by rfl)
                              · exact xe_str
                              · exact xa_nil
                          · refine xa_cons ?_ ?_ (hs := by rfl)
                            · refine xe_tup ?_
                              · refine xa_cons ?_ ?_ (hs := by rfl)
                                · exact xe_int
                                · refine xa_cons ?_ ?_ (hs := by rfl)
                                  · exact xe_int
                                  · exact xa_nil
                            · exact xa_nil
                · refine xeB ?_
                  · refine xe_tup ?_
                    · refine xa_cons ?_ ?_ (hs := by rfl)
                      · exact xe_int
                      · refine xa_cons ?_ ?_ (hs := by rfl)
                        · exact xe_int
                        · exact xa_nil
              · refine xw_or1 ?_
                · refine xt_cmp neD_p (opx_ne (by exact hu)) (nomark _) ?_ ?_
                  · refine xeB ?_
                    · refine xe_call (ps := ["colours", "lay", "others", "other"]) (ok_both_again T) (by exact hr.mono (by decide)) (by rfl) T.g_both_again T.f_both_again.kp T.b_both_again tk ?_ (hdb := by decide) (he := by rfl) (hpl := by rfl)
                      · refine xa_cons ?_ ?_ (hs := by rfl)
                        · refine xe_tup ?_
                          · refine xa_cons ?_ ?_ (hs := by rfl)
                            · exact xe_str
                            · refine xa_cons ?_ ?_ (hs := by rfl)
                              · exact xe_str
                              · exact xa_nil
                        · refine xa_cons ?_ ?_ (hs := by rfl)
                          · refine xe_tup ?_
                            · refine xa_cons ?_ ?_ (hs := by rfl)
                              · exact xe_int
                              · refine xa_cons ?_ ?_ (hs := by rfl)
                                · exact xe_int
                                · exact xa_nil
                          · refine xa_cons ?_ ?_ (hs := by rfl)
                            · refine xe_tup ?_
                              · refine xa_cons ?_ ?_ (hs := by rfl)
                                · exact xe_str
                                · exact xa_nil
                            · refine xa_cons ?_ ?_ (hs := by rfl)
                              · refine xe_tup ?_
                                · refine xa_cons ?_ ?_ (hs := by rfl)
                                  · exact xe_int
                                  · refine xa_cons ?_ ?_ (hs := by rfl)
                                    · exact xe_int
                                    · exact xa_nil
                              · exact xa_nil
                  · refine xeB ?_
                    · refine xe_tup ?_
                      · refine xa_cons ?_ ?_ (hs := by rfl)
                        · exact xe_int
                        · refine xa_cons ?_ ?_ (hs := by rfl)
                          · exact xe_int
                          · exact xa_nil
        · refine xss_one ?_
          · refine xs_ret ?_
            · exact xe_bool
        · exact xss_nil
      · refine xss_one ?_
        · refine xs_ret ?_
          · refine xe_and ?_ ?_
            · refine xe_cmp eqD_p (opx_eq (by exact hu)) (nomark _) ?_ ?_
              · refine xeB ?_
                · refine xe_call (ps := ["colours"]) (ok_least_steps T) (by exact hr.mono (by decide)) (by rfl) T.g_least_steps T.f_least_steps.kp T.b_least_steps tk ?_ (hdb := by decide) (he := by rfl) (hpl := by rfl)
                  · refine xa_cons ?_ ?_ (hs := by rfl)
                    · refine xe_tup ?_
                      · refine xa_cons ?_ ?_ (hs := by rfl)
                        · exact xe_str
                        · refine xa_cons ?_ ?_ (hs := by rfl)
                          · exact xe_str
                          · refine xa_cons ?_ ?_ (hs := by rfl)
                            · exact xe_str
                            · exact xa_nil
                    · exact xa_nil
              · refine xeB ?_
                · exact xe_int
            · refine xe_and ?_ ?_
              · refine xe_cmp eqD_p (opx_eq (by exact hu)) (nomark _) ?_ ?_
                · refine xeB ?_
                  · refine xe_call (ps := ["colours", "steps"]) (ok_turned T) (by exact hr.mono (by decide)) (by rfl) T.g_turned T.f_turned.kp T.b_turned tk ?_ (hdb := by decide) (he := by rfl) (hpl := by rfl)
                    · refine xa_cons ?_ ?_ (hs := by rfl)
                      · refine xe_tup ?_
                        · refine xa_cons ?_ ?_ (hs := by rfl)
                          · exact xe_str
                          · refine xa_cons ?_ ?_ (hs := by rfl)
                            · exact xe_str
                            · refine xa_cons ?_ ?_ (hs := by rfl)
                              · exact xe_str
                              · exact xa_nil
                      · refine xa_cons ?_ ?_ (hs := by rfl)
                        · refine xe_un negD_p unx_neg ?_
                          · refine xeB ?_
                            · exact xe_int
                        · exact xa_nil
                · refine xeB ?_
                  · refine xe_tup ?_
                    · refine xa_cons ?_ ?_ (hs := by rfl)
                      · exact xe_str
                      · refine xa_cons ?_ ?_ (hs := by rfl)
                        · exact xe_str
                        · refine xa_cons ?_ ?_ (hs := by rfl)
                          · exact xe_str
                          · exact xa_nil
              · refine xe_one ?_
                · refine xe_cmp eqD_p (opx_eq (by exact hu)) (nomark _) ?_ ?_
                  · refine xeB ?_
                    · refine xe_call (ps := ["colours", "lay"]) (ok_comes_again T) (by exact hr.mono (by decide)) (by rfl) T.g_comes_again T.f_comes_again.kp T.b_comes_again tk ?_ (hdb := by decide) (he := by rfl) (hpl := by rfl)
                      · refine xa_cons ?_ ?_ (hs := by rfl)
                        · refine xe_tup ?_
                          · refine xa_cons ?_ ?_ (hs := by rfl)
                            · exact xe_str
                            · refine xa_cons ?_ ?_ (hs := by rfl)
                              · exact xe_str
                              · refine xa_cons ?_ ?_ (hs := by rfl)
                                · exact xe_str
                                · exact xa_nil
                        · refine xa_cons ?_ ?_ (hs := by rfl)
                          · refine xe_tup ?_
                            · refine xa_cons ?_ ?_ (hs := by rfl)
                              · exact xe_int
                              · refine xa_cons ?_ ?_ (hs := by rfl)
                                · exact xe_int
                                · exact xa_nil
                          · exact xa_nil
                  · refine xeB ?_
                    · refine xe_tup ?_
                      · refine xa_cons ?_ ?_ (hs := by rfl)
                        · exact xe_int
                        · refine xa_cons ?_ ?_ (hs := by rfl)
                          · exact xe_int
                          · exact xa_nil
end
/-! ## the end -/
theorem all_mk {l : PySem.W.OpenLaw} {w : World} {K : PySem.W.Frag} {h : Heap} {mg : Str → Option Value} {fa : Addr} (law_true : ∀ ns : List Int, ns.length ≤ 63 → m_law [.list (ns.map .int)] = .ok (.bool true)) (X : K.In h) (G : h.Ns mainGlobals mg) (hfa : mg "law" = some (.ref fa))
    {tkLETTERS : Tok} {tkMOST_LETTERS : Tok} {tkMOST_STRANDS : Tok} {CBadColours : Addr} {CBadLay : Addr} {CBadSteps : Addr} {f0 : Addr} {od0 an0 : Option Addr} {sl0 : Array (Option Value)} {oc0 kV0 dc0 pm0 cd0 ct0 : Value} {f1 : Addr} {od1 an1 : Option Addr} {sl1 : Array (Option Value)} {oc1 kV1 dc1 pm1 cd1 ct1 : Value} {f2 : Addr} {od2 an2 : Option Addr} {sl2 : Array (Option Value)} {oc2 kV2 dc2 pm2 cd2 ct2 : Value} {f3 : Addr} {od3 an3 : Option Addr} {sl3 : Array (Option Value)} {oc3 kV3 dc3 pm3 cd3 ct3 : Value} {f4 : Addr} {od4 an4 : Option Addr} {sl4 : Array (Option Value)} {oc4 kV4 dc4 pm4 cd4 ct4 : Value} {f5 : Addr} {od5 an5 : Option Addr} {sl5 : Array (Option Value)} {oc5 kV5 dc5 pm5 cd5 ct5 : Value} {f6 : Addr} {od6 an6 : Option Addr} {sl6 : Array (Option Value)} {oc6 kV6 dc6 pm6 cd6 ct6 : Value} {f7 : Addr} {od7 an7 : Option Addr} {sl7 : Array (Option Value)} {oc7 kV7 dc7 pm7 cd7 ct7 : Value} {f8 : Addr} {od8 an8 : Option Addr} {sl8 : Array (Option Value)} {oc8 kV8 dc8 pm8 cd8 ct8 : Value} {f9 : Addr} {od9 an9 : Option Addr} {sl9 : Array (Option Value)} {oc9 kV9 dc9 pm9 cd9 ct9 : Value} {f10 : Addr} {od10 an10 : Option Addr} {sl10 : Array (Option Value)} {oc10 kV10 dc10 pm10 cd10 ct10 : Value} {f11 : Addr} {od11 an11 : Option Addr} {sl11 : Array (Option Value)} {oc11 kV11 dc11 pm11 cd11 ct11 : Value} {f12 : Addr} {od12 an12 : Option Addr} {sl12 : Array (Option Value)} {oc12 kV12 dc12 pm12 cd12 ct12 : Value} {f13 : Addr} {od13 an13 : Option Addr} {sl13 : Array (Option Value)} {oc13 kV13 dc13 pm13 cd13 ct13 : Value} {f14 : Addr} {od14 an14 : Option Addr} {sl14 : Array (Option Value)} {oc14 kV14 dc14 pm14 cd14 ct14 : Value} {f15 : Addr} {od15 an15 : Option Addr} {sl15 : Array (Option Value)} {oc15 kV15 dc15 pm15 cd15 ct15 : Value} {f16 : Addr} {od16 an16 : Option Addr} {sl16 : Array (Option Value)} {oc16 kV16 dc16 pm16 cd16 ct16 : Value} {f17 : Addr} {od17 an17 : Option Addr} {sl17 : Array (Option Value)} {oc17 kV17 dc17 pm17 cd17 ct17 : Value} {f18 : Addr} {od18 an18 : Option Addr} {sl18 : Array (Option Value)} {oc18 kV18 dc18 pm18 cd18 ct18 : Value} {f19 : Addr} {od19 an19 : Option Addr} {sl19 : Array (Option Value)} {oc19 kV19 dc19 pm19 cd19 ct19 : Value} {f20 : Addr} {od20 an20 : Option Addr} {sl20 : Array (Option Value)} {oc20 kV20 dc20 pm20 cd20 ct20 : Value} {f21 : Addr} {od21 an21 : Option Addr} {sl21 : Array (Option Value)} {oc21 kV21 dc21 pm21 cd21 ct21 : Value} {f22 : Addr} {od22 an22 : Option Addr} {sl22 : Array (Option Value)} {oc22 kV22 dc22 pm22 cd22 ct22 : Value} {f23 : Addr} {od23 an23 : Option Addr} {sl23 : Array (Option Value)} {oc23 kV23 dc23 pm23 cd23 ct23 : Value} {f24 : Addr} {od24 an24 : Option Addr} {sl24 : Array (Option Value)} {oc24 kV24 dc24 pm24 cd24 ct24 : Value} {f25 : Addr} {od25 an25 : Option Addr} {sl25 : Array (Option Value)} {oc25 kV25 dc25 pm25 cd25 ct25 : Value} {f26 : Addr} {od26 an26 : Option Addr} {sl26 : Array (Option Value)} {oc26 kV26 dc26 pm26 cd26 ct26 : Value} {f27 : Addr} {od27 an27 : Option Addr} {sl27 : Array (Option Value)} {oc27 kV27 dc27 pm27 cd27 ct27 : Value} {f28 : Addr} {od28 an28 : Option Addr} {sl28 : Array (Option Value)} {oc28 kV28 dc28 pm28 cd28 ct28 : Value} {f29 : Addr} {od29 an29 : Option Addr} {sl29 : Array (Option Value)} {oc29 kV29 dc29 pm29 cd29 ct29 : Value} {f30 : Addr} {od30 an30 : Option Addr} {sl30 : Array (Option Value)} {oc30 kV30 dc30 pm30 cd30 ct30 : Value} {f31 : Addr} {od31 an31 : Option Addr} {sl31 : Array (Option Value)} {oc31 kV31 dc31 pm31 cd31 ct31 : Value}
    (znabs : PySem.W.nsIn K mainGlobals "abs" = some none)
    (znall : PySem.W.nsIn K mainGlobals "all" = some none)
    (znbool : PySem.W.nsIn K mainGlobals "bool" = some none)
    (znint : PySem.W.nsIn K mainGlobals "int" = some none)
    (znisinstance : PySem.W.nsIn K mainGlobals "isinstance" = some none)
    (znlen : PySem.W.nsIn K mainGlobals "len" = some none)
    (znlist : PySem.W.nsIn K mainGlobals "list" = some none)
    (znmin : PySem.W.nsIn K mainGlobals "min" = some none)
    (znrange : PySem.W.nsIn K mainGlobals "range" = some none)
    (znstr : PySem.W.nsIn K mainGlobals "str" = some none)
    (zntuple : PySem.W.nsIn K mainGlobals "tuple" = some none)
    (zcLETTERS : PySem.W.nsIn K mainGlobals "LETTERS" = some (some (.str "abcdefghijklmnopqrstuvwxyz" tkLETTERS)))
    (zcMOST_LETTERS : PySem.W.nsIn K mainGlobals "MOST_LETTERS" = some (some (.int 8 tkMOST_LETTERS)))
    (zcMOST_STRANDS : PySem.W.nsIn K mainGlobals "MOST_STRANDS" = some (some (.int 12 tkMOST_STRANDS)))
    (zgBadColours : PySem.W.nsIn K mainGlobals "BadColours" = some (some (.ref CBadColours)))
    (zxBadColours : PySem.W.excIn K CBadColours [.type "ValueError", .type "Exception", .type "BaseException", .type "object"] "ValueError.__new__" = true)
    (zkBadColours : PySem.W.keepIn K (.ref CBadColours) = true)
    (zqBadColours : PySem.W.subIn K (.ref CBadColours) (.type "BaseException") = some true)
    (ztBadColours : PySem.W.typeIn K (.ref CBadColours) = some (.type "type"))
    (zgBadLay : PySem.W.nsIn K mainGlobals "BadLay" = some (some (.ref CBadLay)))
    (zxBadLay : PySem.W.excIn K CBadLay [.type "ValueError", .type "Exception", .type "BaseException", .type "object"] "ValueError.__new__" = true)
    (zkBadLay : PySem.W.keepIn K (.ref CBadLay) = true)
    (zqBadLay : PySem.W.subIn K (.ref CBadLay) (.type "BaseException") = some true)
    (ztBadLay : PySem.W.typeIn K (.ref CBadLay) = some (.type "type"))
    (zgBadSteps : PySem.W.nsIn K mainGlobals "BadSteps" = some (some (.ref CBadSteps)))
    (zxBadSteps : PySem.W.excIn K CBadSteps [.type "ValueError", .type "Exception", .type "BaseException", .type "object"] "ValueError.__new__" = true)
    (zkBadSteps : PySem.W.keepIn K (.ref CBadSteps) = true)
    (zqBadSteps : PySem.W.subIn K (.ref CBadSteps) (.type "BaseException") = some true)
    (ztBadSteps : PySem.W.typeIn K (.ref CBadSteps) = some (.type "type"))
    (ziBadColours : PySem.W.isClsIn K CBadColours = true)
    (zsBadColours_BadColours : PySem.W.subIn K (.ref CBadColours) (.ref CBadColours) = some true)
    (zsBadLay_BadColours : PySem.W.subIn K (.ref CBadLay) (.ref CBadColours) = some false)
    (zsBadSteps_BadColours : PySem.W.subIn K (.ref CBadSteps) (.ref CBadColours) = some false)
    (ziBadLay : PySem.W.isClsIn K CBadLay = true)
    (zsBadColours_BadLay : PySem.W.subIn K (.ref CBadColours) (.ref CBadLay) = some false)
    (zsBadLay_BadLay : PySem.W.subIn K (.ref CBadLay) (.ref CBadLay) = some true)
    (zsBadSteps_BadLay : PySem.W.subIn K (.ref CBadSteps) (.ref CBadLay) = some false)
    (ziBadSteps : PySem.W.isClsIn K CBadSteps = true)
    (zsBadColours_BadSteps : PySem.W.subIn K (.ref CBadColours) (.ref CBadSteps) = some false)
    (zsBadLay_BadSteps : PySem.W.subIn K (.ref CBadLay) (.ref CBadSteps) = some false)
    (zsBadSteps_BadSteps : PySem.W.subIn K (.ref CBadSteps) (.ref CBadSteps) = some true)
    (za0 : PySem.W.nsIn K mainGlobals "divisor" = some (some (.ref f0)))
    (zl0 : K.lookup f0 = some ⟨oc0, od0, .func (PySem.W.fnOf "divisor" "divisor" (defArgs s_divisor) (defBody s_divisor) (defScope s_divisor) .none kV0 dc0 pm0 an0 cd0 ct0), sl0⟩)
    (zd0 : PySem.W.codeIn K cd0 "divisor" = true)
    (ze0 : PySem.W.keepIn K (.ref f0) = true)
    (za1 : PySem.W.nsIn K mainGlobals "quotient" = some (some (.ref f1)))
    (zl1 : K.lookup f1 = some ⟨oc1, od1, .func (PySem.W.fnOf "quotient" "quotient" (defArgs s_quotient) (defBody s_quotient) (defScope s_quotient) .none kV1 dc1 pm1 an1 cd1 ct1), sl1⟩)
    (zd1 : PySem.W.codeIn K cd1 "quotient" = true)
    (ze1 : PySem.W.keepIn K (.ref f1) = true)
    (za2 : PySem.W.nsIn K mainGlobals "times" = some (some (.ref f2)))
    (zl2 : K.lookup f2 = some ⟨oc2, od2, .func (PySem.W.fnOf "times" "times" (defArgs s_times) (defBody s_times) (defScope s_times) .none kV2 dc2 pm2 an2 cd2 ct2), sl2⟩)
    (zd2 : PySem.W.codeIn K cd2 "times" = true)
    (ze2 : PySem.W.keepIn K (.ref f2) = true)
    (za3 : PySem.W.nsIn K mainGlobals "over" = some (some (.ref f3)))
    (zl3 : K.lookup f3 = some ⟨oc3, od3, .func (PySem.W.fnOf "over" "over" (defArgs s_over) (defBody s_over) (defScope s_over) .none kV3 dc3 pm3 an3 cd3 ct3), sl3⟩)
    (zd3 : PySem.W.codeIn K cd3 "over" = true)
    (ze3 : PySem.W.keepIn K (.ref f3) = true)
    (za4 : PySem.W.nsIn K mainGlobals "is_less" = some (some (.ref f4)))
    (zl4 : K.lookup f4 = some ⟨oc4, od4, .func (PySem.W.fnOf "is_less" "is_less" (defArgs s_is_less) (defBody s_is_less) (defScope s_is_less) .none kV4 dc4 pm4 an4 cd4 ct4), sl4⟩)
    (zd4 : PySem.W.codeIn K cd4 "is_less" = true)
    (ze4 : PySem.W.keepIn K (.ref f4) = true)
    (za5 : PySem.W.nsIn K mainGlobals "is_integer" = some (some (.ref f5)))
    (zl5 : K.lookup f5 = some ⟨oc5, od5, .func (PySem.W.fnOf "is_integer" "is_integer" (defArgs s_is_integer) (defBody s_is_integer) (defScope s_is_integer) .none kV5 dc5 pm5 an5 cd5 ct5), sl5⟩)
    (zd5 : PySem.W.codeIn K cd5 "is_integer" = true)
    (ze5 : PySem.W.keepIn K (.ref f5) = true)
    (za6 : PySem.W.nsIn K mainGlobals "is_quotient" = some (some (.ref f6)))
    (zl6 : K.lookup f6 = some ⟨oc6, od6, .func (PySem.W.fnOf "is_quotient" "is_quotient" (defArgs s_is_quotient) (defBody s_is_quotient) (defScope s_is_quotient) .none kV6 dc6 pm6 an6 cd6 ct6), sl6⟩)
    (zd6 : PySem.W.codeIn K cd6 "is_quotient" = true)
    (ze6 : PySem.W.keepIn K (.ref f6) = true)
    (za7 : PySem.W.nsIn K mainGlobals "is_colour" = some (some (.ref f7)))
    (zl7 : K.lookup f7 = some ⟨oc7, od7, .func (PySem.W.fnOf "is_colour" "is_colour" (defArgs s_is_colour) (defBody s_is_colour) (defScope s_is_colour) .none kV7 dc7 pm7 an7 cd7 ct7), sl7⟩)
    (zd7 : PySem.W.codeIn K cd7 "is_colour" = true)
    (ze7 : PySem.W.keepIn K (.ref f7) = true)
    (za8 : PySem.W.nsIn K mainGlobals "is_lay" = some (some (.ref f8)))
    (zl8 : K.lookup f8 = some ⟨oc8, od8, .func (PySem.W.fnOf "is_lay" "is_lay" (defArgs s_is_lay) (defBody s_is_lay) (defScope s_is_lay) .none kV8 dc8 pm8 an8 cd8 ct8), sl8⟩)
    (zd8 : PySem.W.codeIn K cd8 "is_lay" = true)
    (ze8 : PySem.W.keepIn K (.ref f8) = true)
    (za9 : PySem.W.nsIn K mainGlobals "check_colours" = some (some (.ref f9)))
    (zl9 : K.lookup f9 = some ⟨oc9, od9, .func (PySem.W.fnOf "check_colours" "check_colours" (defArgs s_check_colours) (defBody s_check_colours) (defScope s_check_colours) .none kV9 dc9 pm9 an9 cd9 ct9), sl9⟩)
    (zd9 : PySem.W.codeIn K cd9 "check_colours" = true)
    (ze9 : PySem.W.keepIn K (.ref f9) = true)
    (za10 : PySem.W.nsIn K mainGlobals "_turned" = some (some (.ref f10)))
    (zl10 : K.lookup f10 = some ⟨oc10, od10, .func (PySem.W.fnOf "_turned" "_turned" (defArgs s__turned) (defBody s__turned) (defScope s__turned) .none kV10 dc10 pm10 an10 cd10 ct10), sl10⟩)
    (zd10 : PySem.W.codeIn K cd10 "_turned" = true)
    (ze10 : PySem.W.keepIn K (.ref f10) = true)
    (za11 : PySem.W.nsIn K mainGlobals "_least_steps" = some (some (.ref f11)))
    (zl11 : K.lookup f11 = some ⟨oc11, od11, .func (PySem.W.fnOf "_least_steps" "_least_steps" (defArgs s__least_steps) (defBody s__least_steps) (defScope s__least_steps) .none kV11 dc11 pm11 an11 cd11 ct11), sl11⟩)
    (zd11 : PySem.W.codeIn K cd11 "_least_steps" = true)
    (ze11 : PySem.W.keepIn K (.ref f11) = true)
    (za12 : PySem.W.nsIn K mainGlobals "least_steps" = some (some (.ref f12)))
    (zl12 : K.lookup f12 = some ⟨oc12, od12, .func (PySem.W.fnOf "least_steps" "least_steps" (defArgs s_least_steps) (defBody s_least_steps) (defScope s_least_steps) .none kV12 dc12 pm12 an12 cd12 ct12), sl12⟩)
    (zd12 : PySem.W.codeIn K cd12 "least_steps" = true)
    (ze12 : PySem.W.keepIn K (.ref f12) = true)
    (za13 : PySem.W.nsIn K mainGlobals "turned" = some (some (.ref f13)))
    (zl13 : K.lookup f13 = some ⟨oc13, od13, .func (PySem.W.fnOf "turned" "turned" (defArgs s_turned) (defBody s_turned) (defScope s_turned) .none kV13 dc13 pm13 an13 cd13 ct13), sl13⟩)
    (zd13 : PySem.W.codeIn K cd13 "turned" = true)
    (ze13 : PySem.W.keepIn K (.ref f13) = true)
    (za14 : PySem.W.nsIn K mainGlobals "_check_lay" = some (some (.ref f14)))
    (zl14 : K.lookup f14 = some ⟨oc14, od14, .func (PySem.W.fnOf "_check_lay" "_check_lay" (defArgs s__check_lay) (defBody s__check_lay) (defScope s__check_lay) .none kV14 dc14 pm14 an14 cd14 ct14), sl14⟩)
    (zd14 : PySem.W.codeIn K cd14 "_check_lay" = true)
    (ze14 : PySem.W.keepIn K (.ref f14) = true)
    (za15 : PySem.W.nsIn K mainGlobals "_again" = some (some (.ref f15)))
    (zl15 : K.lookup f15 = some ⟨oc15, od15, .func (PySem.W.fnOf "_again" "_again" (defArgs s__again) (defBody s__again) (defScope s__again) .none kV15 dc15 pm15 an15 cd15 ct15), sl15⟩)
    (zd15 : PySem.W.codeIn K cd15 "_again" = true)
    (ze15 : PySem.W.keepIn K (.ref f15) = true)
    (za16 : PySem.W.nsIn K mainGlobals "comes_again" = some (some (.ref f16)))
    (zl16 : K.lookup f16 = some ⟨oc16, od16, .func (PySem.W.fnOf "comes_again" "comes_again" (defArgs s_comes_again) (defBody s_comes_again) (defScope s_comes_again) .none kV16 dc16 pm16 an16 cd16 ct16), sl16⟩)
    (zd16 : PySem.W.codeIn K cd16 "comes_again" = true)
    (ze16 : PySem.W.keepIn K (.ref f16) = true)
    (za17 : PySem.W.nsIn K mainGlobals "both_again" = some (some (.ref f17)))
    (zl17 : K.lookup f17 = some ⟨oc17, od17, .func (PySem.W.fnOf "both_again" "both_again" (defArgs s_both_again) (defBody s_both_again) (defScope s_both_again) .none kV17 dc17 pm17 an17 cd17 ct17), sl17⟩)
    (zd17 : PySem.W.codeIn K cd17 "both_again" = true)
    (ze17 : PySem.W.keepIn K (.ref f17) = true)
    (za18 : PySem.W.nsIn K mainGlobals "_least_turned" = some (some (.ref f18)))
    (zl18 : K.lookup f18 = some ⟨oc18, od18, .func (PySem.W.fnOf "_least_turned" "_least_turned" (defArgs s__least_turned) (defBody s__least_turned) (defScope s__least_turned) .none kV18 dc18 pm18 an18 cd18 ct18), sl18⟩)
    (zd18 : PySem.W.codeIn K cd18 "_least_turned" = true)
    (ze18 : PySem.W.keepIn K (.ref f18) = true)
    (za19 : PySem.W.nsIn K mainGlobals "least_turned" = some (some (.ref f19)))
    (zl19 : K.lookup f19 = some ⟨oc19, od19, .func (PySem.W.fnOf "least_turned" "least_turned" (defArgs s_least_turned) (defBody s_least_turned) (defScope s_least_turned) .none kV19 dc19 pm19 an19 cd19 ct19), sl19⟩)
    (zd19 : PySem.W.codeIn K cd19 "least_turned" = true)
    (ze19 : PySem.W.keepIn K (.ref f19) = true)
    (za20 : PySem.W.nsIn K mainGlobals "same_rope" = some (some (.ref f20)))
    (zl20 : K.lookup f20 = some ⟨oc20, od20, .func (PySem.W.fnOf "same_rope" "same_rope" (defArgs s_same_rope) (defBody s_same_rope) (defScope s_same_rope) .none kV20 dc20 pm20 an20 cd20 ct20), sl20⟩)
    (zd20 : PySem.W.codeIn K cd20 "same_rope" = true)
    (ze20 : PySem.W.keepIn K (.ref f20) = true)
    (za21 : PySem.W.nsIn K mainGlobals "turning" = some (some (.ref f21)))
    (zl21 : K.lookup f21 = some ⟨oc21, od21, .func (PySem.W.fnOf "turning" "turning" (defArgs s_turning) (defBody s_turning) (defScope s_turning) .none kV21 dc21 pm21 an21 cd21 ct21), sl21⟩)
    (zd21 : PySem.W.codeIn K cd21 "turning" = true)
    (ze21 : PySem.W.keepIn K (.ref f21) = true)
    (za22 : PySem.W.nsIn K mainGlobals "_mirrored" = some (some (.ref f22)))
    (zl22 : K.lookup f22 = some ⟨oc22, od22, .func (PySem.W.fnOf "_mirrored" "_mirrored" (defArgs s__mirrored) (defBody s__mirrored) (defScope s__mirrored) .none kV22 dc22 pm22 an22 cd22 ct22), sl22⟩)
    (zd22 : PySem.W.codeIn K cd22 "_mirrored" = true)
    (ze22 : PySem.W.keepIn K (.ref f22) = true)
    (za23 : PySem.W.nsIn K mainGlobals "mirrored" = some (some (.ref f23)))
    (zl23 : K.lookup f23 = some ⟨oc23, od23, .func (PySem.W.fnOf "mirrored" "mirrored" (defArgs s_mirrored) (defBody s_mirrored) (defScope s_mirrored) .none kV23 dc23 pm23 an23 cd23 ct23), sl23⟩)
    (zd23 : PySem.W.codeIn K cd23 "mirrored" = true)
    (ze23 : PySem.W.keepIn K (.ref f23) = true)
    (za24 : PySem.W.nsIn K mainGlobals "is_even_handed" = some (some (.ref f24)))
    (zl24 : K.lookup f24 = some ⟨oc24, od24, .func (PySem.W.fnOf "is_even_handed" "is_even_handed" (defArgs s_is_even_handed) (defBody s_is_even_handed) (defScope s_is_even_handed) .none kV24 dc24 pm24 an24 cd24 ct24), sl24⟩)
    (zd24 : PySem.W.codeIn K cd24 "is_even_handed" = true)
    (ze24 : PySem.W.keepIn K (.ref f24) = true)
    (za25 : PySem.W.nsIn K mainGlobals "_law_draws" = some (some (.ref f25)))
    (zl25 : K.lookup f25 = some ⟨oc25, od25, .func (PySem.W.fnOf "_law_draws" "_law_draws" (defArgs s__law_draws) (defBody s__law_draws) (defScope s__law_draws) .none kV25 dc25 pm25 an25 cd25 ct25), sl25⟩)
    (zd25 : PySem.W.codeIn K cd25 "_law_draws" = true)
    (ze25 : PySem.W.keepIn K (.ref f25) = true)
    (za26 : PySem.W.nsIn K mainGlobals "_law_colours" = some (some (.ref f26)))
    (zl26 : K.lookup f26 = some ⟨oc26, od26, .func (PySem.W.fnOf "_law_colours" "_law_colours" (defArgs s__law_colours) (defBody s__law_colours) (defScope s__law_colours) .none kV26 dc26 pm26 an26 cd26 ct26), sl26⟩)
    (zd26 : PySem.W.codeIn K cd26 "_law_colours" = true)
    (ze26 : PySem.W.keepIn K (.ref f26) = true)
    (za27 : PySem.W.nsIn K mainGlobals "_law_low" = some (some (.ref f27)))
    (zl27 : K.lookup f27 = some ⟨oc27, od27, .func (PySem.W.fnOf "_law_low" "_law_low" (defArgs s__law_low) (defBody s__law_low) (defScope s__law_low) .none kV27 dc27 pm27 an27 cd27 ct27), sl27⟩)
    (zd27 : PySem.W.codeIn K cd27 "_law_low" = true)
    (ze27 : PySem.W.keepIn K (.ref f27) = true)
    (za28 : PySem.W.nsIn K mainGlobals "_law_steps" = some (some (.ref f28)))
    (zl28 : K.lookup f28 = some ⟨oc28, od28, .func (PySem.W.fnOf "_law_steps" "_law_steps" (defArgs s__law_steps) (defBody s__law_steps) (defScope s__law_steps) .none kV28 dc28 pm28 an28 cd28 ct28), sl28⟩)
    (zd28 : PySem.W.codeIn K cd28 "_law_steps" = true)
    (ze28 : PySem.W.keepIn K (.ref f28) = true)
    (za29 : PySem.W.nsIn K mainGlobals "_law_call" = some (some (.ref f29)))
    (zl29 : K.lookup f29 = some ⟨oc29, od29, .func (PySem.W.fnOf "_law_call" "_law_call" (defArgs s__law_call) (defBody s__law_call) (defScope s__law_call) .none kV29 dc29 pm29 an29 cd29 ct29), sl29⟩)
    (zd29 : PySem.W.codeIn K cd29 "_law_call" = true)
    (ze29 : PySem.W.keepIn K (.ref f29) = true)
    (za30 : PySem.W.nsIn K mainGlobals "_law_word" = some (some (.ref f30)))
    (zl30 : K.lookup f30 = some ⟨oc30, od30, .func (PySem.W.fnOf "_law_word" "_law_word" (defArgs s__law_word) (defBody s__law_word) (defScope s__law_word) .none kV30 dc30 pm30 an30 cd30 ct30), sl30⟩)
    (zd30 : PySem.W.codeIn K cd30 "_law_word" = true)
    (ze30 : PySem.W.keepIn K (.ref f30) = true)
    (za31 : PySem.W.nsIn K mainGlobals "law" = some (some (.ref f31)))
    (zl31 : K.lookup f31 = some ⟨oc31, od31, .func (PySem.W.fnOf "law" "law" (defArgs s_law) (defBody s_law) (defScope s_law) .none kV31 dc31 pm31 an31 cd31 ct31), sl31⟩)
    (zd31 : PySem.W.codeIn K cd31 "law" = true)
    (ze31 : PySem.W.keepIn K (.ref f31) = true) :
    ∃ fd : FuncData, (∀ (s : Shared) (v : Value), BindsTo s fd ⟨[v], []⟩ [("script", v)]) ∧ ∀ base : Heap, K.In base → base.Ns mainGlobals mg → FnOk l.prog w K mg base (L2.CX l.prog w) 8 fa fd ["script"] (spL K) := by
  have e := hfa.symm.trans (PySem.W.mg_of X G za31)
  have e2 : fa = f31 := by injection e with e; injection e
  rw [e2]
  let T : Tx K mg := {
    nabs := PySem.W.mg_none_of X G znabs
    nall := PySem.W.mg_none_of X G znall
    nbool := PySem.W.mg_none_of X G znbool
    nint := PySem.W.mg_none_of X G znint
    nisinstance := PySem.W.mg_none_of X G znisinstance
    nlen := PySem.W.mg_none_of X G znlen
    nlist := PySem.W.mg_none_of X G znlist
    nmin := PySem.W.mg_none_of X G znmin
    nrange := PySem.W.mg_none_of X G znrange
    nstr := PySem.W.mg_none_of X G znstr
    ntuple := PySem.W.mg_none_of X G zntuple
    uLETTERS := _
    gLETTERS := PySem.W.mg_of X G zcLETTERS
    rLETTERS := ⟨_, rfl⟩
    dLETTERS := fun _ => .str _
    uMOST_LETTERS := _
    gMOST_LETTERS := PySem.W.mg_of X G zcMOST_LETTERS
    rMOST_LETTERS := ⟨_, rfl⟩
    dMOST_LETTERS := fun _ => .int _
    uMOST_STRANDS := _
    gMOST_STRANDS := PySem.W.mg_of X G zcMOST_STRANDS
    rMOST_STRANDS := ⟨_, rfl⟩
    dMOST_STRANDS := fun _ => .int _
    CBadColours := _
    gBadColours := PySem.W.mg_of X G zgBadColours
    xBadColours := zxBadColours
    kBadColours := zkBadColours
    qBadColours := zqBadColours
    tBadColours := ztBadColours
    CBadLay := _
    gBadLay := PySem.W.mg_of X G zgBadLay
    xBadLay := zxBadLay
    kBadLay := zkBadLay
    qBadLay := zqBadLay
    tBadLay := ztBadLay
    CBadSteps := _
    gBadSteps := PySem.W.mg_of X G zgBadSteps
    xBadSteps := zxBadSteps
    kBadSteps := zkBadSteps
    qBadSteps := zqBadSteps
    tBadSteps := ztBadSteps
    iBadColours := ziBadColours
    sBadColours_BadColours := zsBadColours_BadColours
    sBadLay_BadColours := zsBadLay_BadColours
    sBadSteps_BadColours := zsBadSteps_BadColours
    iBadLay := ziBadLay
    sBadColours_BadLay := zsBadColours_BadLay
    sBadLay_BadLay := zsBadLay_BadLay
    sBadSteps_BadLay := zsBadSteps_BadLay
    iBadSteps := ziBadSteps
    sBadColours_BadSteps := zsBadColours_BadSteps
    sBadLay_BadSteps := zsBadLay_BadSteps
    sBadSteps_BadSteps := zsBadSteps_BadSteps
    a_divisor := f0
    d_divisor := _
    f_divisor := fun_mk (st := s_divisor) zl0 zd0 ze0
    g_divisor := PySem.W.mg_of X G za0
    b_divisor := (fun_mk (st := s_divisor) zl0 zd0 ze0).binds (ps := ["one", "other"]) fun _ _ _ _ _ _ us hl => match us, hl with | [_, _], _ => rfl
    a_quotient := f1
    d_quotient := _
    f_quotient := fun_mk (st := s_quotient) zl1 zd1 ze1
    g_quotient := PySem.W.mg_of X G za1
    b_quotient := (fun_mk (st := s_quotient) zl1 zd1 ze1).binds (ps := ["up", "down"]) fun _ _ _ _ _ _ us hl => match us, hl with | [_, _], _ => rfl
    a_times := f2
    d_times := _
    f_times := fun_mk (st := s_times) zl2 zd2 ze2
    g_times := PySem.W.mg_of X G za2
    b_times := (fun_mk (st := s_times) zl2 zd2 ze2).binds (ps := ["one", "other"]) fun _ _ _ _ _ _ us hl => match us, hl with | [_, _], _ => rfl
    a_over := f3
    d_over := _
    f_over := fun_mk (st := s_over) zl3 zd3 ze3
    g_over := PySem.W.mg_of X G za3
    b_over := (fun_mk (st := s_over) zl3 zd3 ze3).binds (ps := ["one", "other"]) fun _ _ _ _ _ _ us hl => match us, hl with | [_, _], _ => rfl
    a_is_less := f4
    d_is_less := _
    f_is_less := fun_mk (st := s_is_less) zl4 zd4 ze4
    g_is_less := PySem.W.mg_of X G za4
    b_is_less := (fun_mk (st := s_is_less) zl4 zd4 ze4).binds (ps := ["one", "other"]) fun _ _ _ _ _ _ us hl => match us, hl with | [_, _], _ => rfl
    a_is_integer := f5
    d_is_integer := _
    f_is_integer := fun_mk (st := s_is_integer) zl5 zd5 ze5
    g_is_integer := PySem.W.mg_of X G za5
    b_is_integer := (fun_mk (st := s_is_integer) zl5 zd5 ze5).binds (ps := ["value"]) fun _ _ _ _ _ _ us hl => match us, hl with | [_], _ => rfl
    a_is_quotient := f6
    d_is_quotient := _
    f_is_quotient := fun_mk (st := s_is_quotient) zl6 zd6 ze6
    g_is_quotient := PySem.W.mg_of X G za6
    b_is_quotient := (fun_mk (st := s_is_quotient) zl6 zd6 ze6).binds (ps := ["value"]) fun _ _ _ _ _ _ us hl => match us, hl with | [_], _ => rfl
    a_is_colour := f7
    d_is_colour := _
    f_is_colour := fun_mk (st := s_is_colour) zl7 zd7 ze7
    g_is_colour := PySem.W.mg_of X G za7
    b_is_colour := (fun_mk (st := s_is_colour) zl7 zd7 ze7).binds (ps := ["value"]) fun _ _ _ _ _ _ us hl => match us, hl with | [_], _ => rfl
    a_is_lay := f8
    d_is_lay := _
    f_is_lay := fun_mk (st := s_is_lay) zl8 zd8 ze8
    g_is_lay := PySem.W.mg_of X G za8
    b_is_lay := (fun_mk (st := s_is_lay) zl8 zd8 ze8).binds (ps := ["value"]) fun _ _ _ _ _ _ us hl => match us, hl with | [_], _ => rfl
    a_check_colours := f9
    d_check_colours := _
    f_check_colours := fun_mk (st := s_check_colours) zl9 zd9 ze9
    g_check_colours := PySem.W.mg_of X G za9
    b_check_colours := (fun_mk (st := s_check_colours) zl9 zd9 ze9).binds (ps := ["colours"]) fun _ _ _ _ _ _ us hl => match us, hl with | [_], _ => rfl
    a__turned := f10
    d__turned := _
    f__turned := fun_mk (st := s__turned) zl10 zd10 ze10
    g__turned := PySem.W.mg_of X G za10
    b__turned := (fun_mk (st := s__turned) zl10 zd10 ze10).binds (ps := ["colours", "steps"]) fun _ _ _ _ _ _ us hl => match us, hl with | [_, _], _ => rfl
    a__least_steps := f11
    d__least_steps := _
    f__least_steps := fun_mk (st := s__least_steps) zl11 zd11 ze11
    g__least_steps := PySem.W.mg_of X G za11
    b__least_steps := (fun_mk (st := s__least_steps) zl11 zd11 ze11).binds (ps := ["colours"]) fun _ _ _ _ _ _ us hl => match us, hl with | [_], _ => rfl
    a_least_steps := f12
    d_least_steps := _
    f_least_steps := fun_mk (st := s_least_steps) zl12 zd12 ze12
    g_least_steps := PySem.W.mg_of X G za12
    b_least_steps := (fun_mk (st := s_least_steps) zl12 zd12 ze12).binds (ps := ["colours"]) fun _ _ _ _ _ _ us hl => match us, hl with | [_], _ => rfl
    a_turned := f13
    d_turned := _
    f_turned := fun_mk (st := s_turned) zl13 zd13 ze13
    g_turned := PySem.W.mg_of X G za13
    b_turned := (fun_mk (st := s_turned) zl13 zd13 ze13).binds (ps := ["colours", "steps"]) fun _ _ _ _ _ _ us hl => match us, hl with | [_, _], _ => rfl
    a__check_lay := f14
    d__check_lay := _
    f__check_lay := fun_mk (st := s__check_lay) zl14 zd14 ze14
    g__check_lay := PySem.W.mg_of X G za14
    b__check_lay := (fun_mk (st := s__check_lay) zl14 zd14 ze14).binds (ps := ["lay"]) fun _ _ _ _ _ _ us hl => match us, hl with | [_], _ => rfl
    a__again := f15
    d__again := _
    f__again := fun_mk (st := s__again) zl15 zd15 ze15
    g__again := PySem.W.mg_of X G za15
    b__again := (fun_mk (st := s__again) zl15 zd15 ze15).binds (ps := ["colours", "lay"]) fun _ _ _ _ _ _ us hl => match us, hl with | [_, _], _ => rfl
    a_comes_again := f16
    d_comes_again := _
    f_comes_again := fun_mk (st := s_comes_again) zl16 zd16 ze16
    g_comes_again := PySem.W.mg_of X G za16
    b_comes_again := (fun_mk (st := s_comes_again) zl16 zd16 ze16).binds (ps := ["colours", "lay"]) fun _ _ _ _ _ _ us hl => match us, hl with | [_, _], _ => rfl
    a_both_again := f17
    d_both_again := _
    f_both_again := fun_mk (st := s_both_again) zl17 zd17 ze17
    g_both_again := PySem.W.mg_of X G za17
    b_both_again := (fun_mk (st := s_both_again) zl17 zd17 ze17).binds (ps := ["colours", "lay", "others", "other"]) fun _ _ _ _ _ _ us hl => match us, hl with | [_, _, _, _], _ => rfl
    a__least_turned := f18
    d__least_turned := _
    f__least_turned := fun_mk (st := s__least_turned) zl18 zd18 ze18
    g__least_turned := PySem.W.mg_of X G za18
    b__least_turned := (fun_mk (st := s__least_turned) zl18 zd18 ze18).binds (ps := ["colours"]) fun _ _ _ _ _ _ us hl => match us, hl with | [_], _ => rfl
    a_least_turned := f19
    d_least_turned := _
    f_least_turned := fun_mk (st := s_least_turned) zl19 zd19 ze19
    g_least_turned := PySem.W.mg_of X G za19
    b_least_turned := (fun_mk (st := s_least_turned) zl19 zd19 ze19).binds (ps := ["colours"]) fun _ _ _ _ _ _ us hl => match us, hl with | [_], _ => rfl
    a_same_rope := f20
    d_same_rope := _
    f_same_rope := fun_mk (st := s_same_rope) zl20 zd20 ze20
    g_same_rope := PySem.W.mg_of X G za20
    b_same_rope := (fun_mk (st := s_same_rope) zl20 zd20 ze20).binds (ps := ["colours", "other"]) fun _ _ _ _ _ _ us hl => match us, hl with | [_, _], _ => rfl
    a_turning := f21
    d_turning := _
    f_turning := fun_mk (st := s_turning) zl21 zd21 ze21
    g_turning := PySem.W.mg_of X G za21
    b_turning := (fun_mk (st := s_turning) zl21 zd21 ze21).binds (ps := ["colours", "other"]) fun _ _ _ _ _ _ us hl => match us, hl with | [_, _], _ => rfl
    a__mirrored := f22
    d__mirrored := _
    f__mirrored := fun_mk (st := s__mirrored) zl22 zd22 ze22
    g__mirrored := PySem.W.mg_of X G za22
    b__mirrored := (fun_mk (st := s__mirrored) zl22 zd22 ze22).binds (ps := ["colours"]) fun _ _ _ _ _ _ us hl => match us, hl with | [_], _ => rfl
    a_mirrored := f23
    d_mirrored := _
    f_mirrored := fun_mk (st := s_mirrored) zl23 zd23 ze23
    g_mirrored := PySem.W.mg_of X G za23
    b_mirrored := (fun_mk (st := s_mirrored) zl23 zd23 ze23).binds (ps := ["colours"]) fun _ _ _ _ _ _ us hl => match us, hl with | [_], _ => rfl
    a_is_even_handed := f24
    d_is_even_handed := _
    f_is_even_handed := fun_mk (st := s_is_even_handed) zl24 zd24 ze24
    g_is_even_handed := PySem.W.mg_of X G za24
    b_is_even_handed := (fun_mk (st := s_is_even_handed) zl24 zd24 ze24).binds (ps := ["colours"]) fun _ _ _ _ _ _ us hl => match us, hl with | [_], _ => rfl
    a__law_draws := f25
    d__law_draws := _
    f__law_draws := fun_mk (st := s__law_draws) zl25 zd25 ze25
    g__law_draws := PySem.W.mg_of X G za25
    b__law_draws := (fun_mk (st := s__law_draws) zl25 zd25 ze25).binds (ps := ["script", "many"]) fun _ _ _ _ _ _ us hl => match us, hl with | [_, _], _ => rfl
    a__law_colours := f26
    d__law_colours := _
    f__law_colours := fun_mk (st := s__law_colours) zl26 zd26 ze26
    g__law_colours := PySem.W.mg_of X G za26
    b__law_colours := (fun_mk (st := s__law_colours) zl26 zd26 ze26).binds (ps := ["draws", "at", "many", "kinds"]) fun _ _ _ _ _ _ us hl => match us, hl with | [_, _, _, _], _ => rfl
    a__law_low := f27
    d__law_low := _
    f__law_low := fun_mk (st := s__law_low) zl27 zd27 ze27
    g__law_low := PySem.W.mg_of X G za27
    b__law_low := (fun_mk (st := s__law_low) zl27 zd27 ze27).binds (ps := ["up", "down"]) fun _ _ _ _ _ _ us hl => match us, hl with | [_, _], _ => rfl
    a__law_steps := f28
    d__law_steps := _
    f__law_steps := fun_mk (st := s__law_steps) zl28 zd28 ze28
    g__law_steps := PySem.W.mg_of X G za28
    b__law_steps := (fun_mk (st := s__law_steps) zl28 zd28 ze28).binds (ps := ["colours"]) fun _ _ _ _ _ _ us hl => match us, hl with | [_], _ => rfl
    a__law_call := f29
    d__law_call := _
    f__law_call := fun_mk (st := s__law_call) zl29 zd29 ze29
    g__law_call := PySem.W.mg_of X G za29
    b__law_call := (fun_mk (st := s__law_call) zl29 zd29 ze29).binds (ps := ["way", "colours", "lay", "others", "other"]) fun _ _ _ _ _ _ us hl => match us, hl with | [_, _, _, _, _], _ => rfl
    a__law_word := f30
    d__law_word := _
    f__law_word := fun_mk (st := s__law_word) zl30 zd30 ze30
    g__law_word := PySem.W.mg_of X G za30
    b__law_word := (fun_mk (st := s__law_word) zl30 zd30 ze30).binds (ps := ["way", "colours", "lay", "others", "other"]) fun _ _ _ _ _ _ us hl => match us, hl with | [_, _, _, _, _], _ => rfl
    a_law := f31
    d_law := _
    f_law := fun_mk (st := s_law) zl31 zd31 ze31
    g_law := PySem.W.mg_of X G za31
    b_law := (fun_mk (st := s_law) zl31 zd31 ze31).binds (ps := ["script"]) fun _ _ _ _ _ _ us hl => match us, hl with | [_], _ => rfl }
  exact ⟨PySem.W.fnOf "law" "law" (defArgs s_law) (defBody s_law) (defScope s_law) .none kV31 dc31 pm31 an31 cd31 ct31, fun s v => .of_eq rfl, fun base _ _ => law_ok (ok_law T) law_true⟩
end G
open PySem PySem.W PyProof.Rows
set_option maxRecDepth 100000 in
set_option maxHeartbeats 0 in
theorem PySem.Challenge.cw_rigwright_k59_whole_patterns_holds : PySem.Challenge.rw_rigwright_k59_whole_patterns.Holds := by
  w_on; o_law; k_head; (case hw => w_witness2)
  k_fill
  refine PD.walk_law (k := 8) (l := PySem.Challenge.rw_rigwright_k59_whole_patterns) rfl rfl ⟨rfl, by decide, by decide⟩ (fun w h Y => PySem.W.kIn_of Y) ?F
  case F =>
    intro w mg fa h KX GX hmg
    refine' G.all_mk G.law_true KX GX hmg ?znabs ?znall ?znbool ?znint ?znisinstance ?znlen ?znlist ?znmin ?znrange ?znstr ?zntuple ?zcLETTERS ?zcMOST_LETTERS ?zcMOST_STRANDS ?zgBadColours ?zxBadColours ?zkBadColours ?zqBadColours ?ztBadColours ?zgBadLay ?zxBadLay ?zkBadLay ?zqBadLay ?ztBadLay ?zgBadSteps ?zxBadSteps ?zkBadSteps ?zqBadSteps ?ztBadSteps ?ziBadColours ?zsBadColours_BadColours ?zsBadLay_BadColours ?zsBadSteps_BadColours ?ziBadLay ?zsBadColours_BadLay ?zsBadLay_BadLay ?zsBadSteps_BadLay ?ziBadSteps ?zsBadColours_BadSteps ?zsBadLay_BadSteps ?zsBadSteps_BadSteps ?za0 ?zl0 ?zd0 ?ze0 ?za1 ?zl1 ?zd1 ?ze1 ?za2 ?zl2 ?zd2 ?ze2 ?za3 ?zl3 ?zd3 ?ze3 ?za4 ?zl4 ?zd4 ?ze4 ?za5 ?zl5 ?zd5 ?ze5 ?za6 ?zl6 ?zd6 ?ze6 ?za7 ?zl7 ?zd7 ?ze7 ?za8 ?zl8 ?zd8 ?ze8 ?za9 ?zl9 ?zd9 ?ze9 ?za10 ?zl10 ?zd10 ?ze10 ?za11 ?zl11 ?zd11 ?ze11 ?za12 ?zl12 ?zd12 ?ze12 ?za13 ?zl13 ?zd13 ?ze13 ?za14 ?zl14 ?zd14 ?ze14 ?za15 ?zl15 ?zd15 ?ze15 ?za16 ?zl16 ?zd16 ?ze16 ?za17 ?zl17 ?zd17 ?ze17 ?za18 ?zl18 ?zd18 ?ze18 ?za19 ?zl19 ?zd19 ?ze19 ?za20 ?zl20 ?zd20 ?ze20 ?za21 ?zl21 ?zd21 ?ze21 ?za22 ?zl22 ?zd22 ?ze22 ?za23 ?zl23 ?zd23 ?ze23 ?za24 ?zl24 ?zd24 ?ze24 ?za25 ?zl25 ?zd25 ?ze25 ?za26 ?zl26 ?zd26 ?ze26 ?za27 ?zl27 ?zd27 ?ze27 ?za28 ?zl28 ?zd28 ?ze28 ?za29 ?zl29 ?zd29 ?ze29 ?za30 ?zl30 ?zd30 ?ze30 ?za31 ?zl31 ?zd31 ?ze31
    (case znabs => k_is); (case znall => k_is); (case znbool => k_is); (case znint => k_is); (case znisinstance => k_is); (case znlen => k_is); (case znlist => k_is); (case znmin => k_is); (case znrange => k_is); (case znstr => k_is); (case zntuple => k_is); (case zcLETTERS => k_is); (case zcMOST_LETTERS => k_is); (case zcMOST_STRANDS => k_is); (case zgBadColours => k_is); (case zxBadColours => k_exc); (case zkBadColours => k_is); (case zqBadColours => k_is); (case ztBadColours => k_is); (case zgBadLay => k_is); (case zxBadLay => k_exc); (case zkBadLay => k_is); (case zqBadLay => k_is); (case ztBadLay => k_is); (case zgBadSteps => k_is); (case zxBadSteps => k_exc); (case zkBadSteps => k_is); (case zqBadSteps => k_is); (case ztBadSteps => k_is); (case ziBadColours => k_is); (case zsBadColours_BadColours => k_is); (case zsBadLay_BadColours => k_is); (case zsBadSteps_BadColours => k_is); (case ziBadLay => k_is); (case zsBadColours_BadLay => k_is); (case zsBadLay_BadLay => k_is); (case zsBadSteps_BadLay => k_is); (case ziBadSteps => k_is); (case zsBadColours_BadSteps => k_is); (case zsBadLay_BadSteps => k_is); (case zsBadSteps_BadSteps => k_is); (case za0 => k_is); (case zl0 => k_is); (case zd0 => k_is); (case ze0 => k_is); (case za1 => k_is); (case zl1 => k_is); (case zd1 => k_is); (case ze1 => k_is); (case za2 => k_is); (case zl2 => k_is); (case zd2 => k_is); (case ze2 => k_is); (case za3 => k_is); (case zl3 => k_is); (case zd3 => k_is); (case ze3 => k_is); (case za4 => k_is); (case zl4 => k_is); (case zd4 => k_is); (case ze4 => k_is); (case za5 => k_is); (case zl5 => k_is); (case zd5 => k_is); (case ze5 => k_is); (case za6 => k_is); (case zl6 => k_is); (case zd6 => k_is); (case ze6 => k_is); (case za7 => k_is); (case zl7 => k_is); (case zd7 => k_is); (case ze7 => k_is); (case za8 => k_is); (case zl8 => k_is); (case zd8 => k_is); (case ze8 => k_is); (case za9 => k_is); (case zl9 => k_is); (case zd9 => k_is); (case ze9 => k_is); (case za10 => k_is); (case zl10 => k_is); (case zd10 => k_is); (case ze10 => k_is); (case za11 => k_is); (case zl11 => k_is); (case zd11 => k_is); (case ze11 => k_is); (case za12 => k_is); (case zl12 => k_is); (case zd12 => k_is); (case ze12 => k_is); (case za13 => k_is); (case zl13 => k_is); (case zd13 => k_is); (case ze13 => k_is); (case za14 => k_is); (case zl14 => k_is); (case zd14 => k_is); (case ze14 => k_is); (case za15 => k_is); (case zl15 => k_is); (case zd15 => k_is); (case ze15 => k_is); (case za16 => k_is); (case zl16 => k_is); (case zd16 => k_is); (case ze16 => k_is); (case za17 => k_is); (case zl17 => k_is); (case zd17 => k_is); (case ze17 => k_is); (case za18 => k_is); (case zl18 => k_is); (case zd18 => k_is); (case ze18 => k_is); (case za19 => k_is); (case zl19 => k_is); (case zd19 => k_is); (case ze19 => k_is); (case za20 => k_is); (case zl20 => k_is); (case zd20 => k_is); (case ze20 => k_is); (case za21 => k_is); (case zl21 => k_is); (case zd21 => k_is); (case ze21 => k_is); (case za22 => k_is); (case zl22 => k_is); (case zd22 => k_is); (case ze22 => k_is); (case za23 => k_is); (case zl23 => k_is); (case zd23 => k_is); (case ze23 => k_is); (case za24 => k_is); (case zl24 => k_is); (case zd24 => k_is); (case ze24 => k_is); (case za25 => k_is); (case zl25 => k_is); (case zd25 => k_is); (case ze25 => k_is); (case za26 => k_is); (case zl26 => k_is); (case zd26 => k_is); (case ze26 => k_is); (case za27 => k_is); (case zl27 => k_is); (case zd27 => k_is); (case ze27 => k_is); (case za28 => k_is); (case zl28 => k_is); (case zd28 => k_is); (case ze28 => k_is); (case za29 => k_is); (case zl29 => k_is); (case zd29 => k_is); (case ze29 => k_is); (case za30 => k_is); (case zl30 => k_is); (case zd30 => k_is); (case ze30 => k_is); (case za31 => k_is); (case zl31 => k_is); (case zd31 => k_is); (case ze31 => k_is)
