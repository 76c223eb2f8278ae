import PyProof.Rows.All
import HandS.ForExc
import HandS.Dict
import HandS.IsInst
import HandS.Deep
import HandS.Comp
import HandS.Iter
import HandS.Text
import KE.DataCmp
import KE.DatumOrd
import KE.DataFind
import KE.SortData
import HandS.ExcOwn
import HandS.TupAny
import HandS.TupMul
import HandS.Wide
import HandS.Style
import HandS.WordsExc
import HandS.Zip
import KE.DataMinMax
import PyProof.Rows.RowBridgeK
import HandS.Ends
import HandS.TryMany
import HandS.Conv
import HandS.TupSets
import KE.GoesMore
import KE.GoesEnum
import PyProof.AutoSeq1
import HandS.Strs
import PyProof.SetRoads
import HandS.More
import HandS.DictComp
import HandS.ExcIs
import KE.KDictWalk
import KE.KDictSum
import PySem.Challenge.RW_rigwright_k11_whole_flat_plaits
set_option Elab.async false
set_option linter.all false
set_option maxRecDepth 100000
set_option maxHeartbeats 0
namespace PD
open PySem PySem.Spec PyProof.Rows L2
/-! ## results, slots, environments -/
/-- a result: a value, an error of the class so called, or nothing that is promised -/
inductive R (α : Type) where
  | ok (a : α)
  | err (c : String)
  | bad
def R.bind {α β : Type} (r : R α) (f : α → R β) : R β :=
  match r with
  | .ok a => f a
  | .err c => .err c
  | .bad => .bad
@[simp] theorem bind_ok {α β : Type} (a : α) (f : α → R β) : (R.ok a).bind f = f a := rfl
@[simp] theorem bind_err {α β : Type} (c : String) (f : α → R β) : (R.err c : R α).bind f = .err c := rfl
@[simp] theorem bind_bad {α β : Type} (f : α → R β) : (R.bad : R α).bind f = .bad := rfl
/-- a dict: are its keys tuples; its pairs -/
structure Dd where
  t : Bool
  l : List (PyData × PyData)
/-- a local name: unset (or unknown), a datum that stays, a list of one's own, a dict of one's own, a new tuple, a dict that stays -/
inductive Sl where
  | un
  | d (x : PyData)
  | lo (xs : List PyData)
  | dd (m : Dd)
  | tk (xs : List PyData)
  | df (m : Dd)
abbrev Ev := List Sl
/-! ## heaps that grow -/
def Le (F H : Hp) : Prop := ∀ a o, F a = some o → H a = some o
theorem Le.refl (F : Hp) : Le F F := fun _ _ e => e
theorem Le.trans {F G H : Hp} (a : Le F G) (b : Le G H) : Le F H := fun x o e => b x o (a x o e)
theorem Le.upd {H : Hp} {p : Addr} {o : HO} (h : H p = none) : Le H (upd H p o) := fun b x e => by
  rw [upd_ne (ne_of_none e h)]; exact e
/-- F: what stays; H: all that is tracked -/
structure Gr (F H F' H' : Hp) : Prop where
  f : Le F F'
  h : Le H H'
  n : ∀ a, H a ≠ none → F' a = F a
  le : Le F' H'
theorem Gr.refl {F H : Hp} (l : Le F H) : Gr F H F H := ⟨Le.refl F, Le.refl H, fun _ _ => rfl, l⟩
theorem Gr.trans {F H F1 H1 F2 H2 : Hp} (a : Gr F H F1 H1) (b : Gr F1 H1 F2 H2) : Gr F H F2 H2 :=
  ⟨a.f.trans b.f, a.h.trans b.h, fun x hx => (b.n x (fun e => by
    cases q : H x with
    | none => exact hx q
    | some o => rw [a.h x o q] at e; cases e)).trans (a.n x hx), b.le⟩
/-- a new thing that stays -/
theorem Gr.new {F H : Hp} {p : Addr} {o : HO} (l : Le F H) (h : H p = none) : Gr F H (upd F p o) (upd H p o) := by
  have hF : F p = none := by
    cases q : F p with
    | none => rfl
    | some u => rw [l p u q] at h; cases h
  refine ⟨Le.upd hF, Le.upd h, fun a ha => upd_ne (fun e => by rw [e] at ha; exact ha h), fun a u e => ?_⟩
  by_cases ea : a = p
  · subst ea; rw [upd_same] at e ⊢; exact e
  · rw [upd_ne ea] at e ⊢; exact l a u e
/-- a new thing that is tracked alone -/
theorem Gr.own {F H : Hp} {p : Addr} {o : HO} (l : Le F H) (h : H p = none) : Gr F H F (upd H p o) :=
  ⟨Le.refl F, Le.upd h, fun _ _ => rfl, l.trans (Le.upd h)⟩
end PD
namespace L2
open PySem PySem.Spec PyProof.Rows PD
/-! ## data of the heap -/
theorem SqL.le {K : PySem.W.Frag} {F H : Hp} {a : Addr} {xs : List V} (l : Le F H) (h : SqL K F a xs) : SqL K H a xs := by
  rcases h with (h | ⟨o, h⟩) | h
  · exact .inl (.inl (l _ _ h))
  · exact .inl (.inr ⟨o, l _ _ h⟩)
  · exact .inr h
theorem SqT.le {K : PySem.W.Frag} {F H : Hp} {a : Addr} {xs : List V} (l : Le F H) (h : SqT K F a xs) : SqT K H a xs := by
  rcases h with (h | ⟨o, h⟩) | h
  · exact .inl (.inl (l _ _ h))
  · exact .inl (.inr ⟨o, l _ _ h⟩)
  · exact .inr h
mutual
theorem Dp.le {K : PySem.W.Frag} {F H : Hp} (l : Le F H) : ∀ {v : V} {d : PyData}, Dp K F v d → Dp K H v d
  | _, _, .non => .non
  | _, _, .bl b => .bl b
  | _, _, .int i => .int i
  | _, _, .str x => .str x
  | _, _, .lst h hs => .lst (SqL.le l h) (DpAll.le l hs)
  | _, _, .tup h hs => .tup (SqT.le l h) (DpAll.le l hs)
theorem DpAll.le {K : PySem.W.Frag} {F H : Hp} (l : Le F H) : ∀ {vs : List V} {ds : List PyData}, DpAll K F vs ds → DpAll K H vs ds
  | _, _, .nil => .nil
  | _, _, .cons h hs => .cons (Dp.le l h) (DpAll.le l hs)
end
theorem DpAll.length {K : PySem.W.Frag} {H : Hp} : ∀ {vs : List V} {ds : List PyData}, DpAll K H vs ds → vs.length = ds.length
  | _, _, .nil => rfl
  | _, _, .cons _ hs => by rw [List.length_cons, List.length_cons, DpAll.length hs]
theorem DpAll.get {K : PySem.W.Frag} {H : Hp} : ∀ {vs : List V} {ds : List PyData} {i : Nat} {d : PyData}, DpAll K H vs ds → ds[i]? = some d → ∃ v, vs[i]? = some v ∧ Dp K H v d
  | _, _, _, _, .nil, e => by simp at e
  | _, _, 0, _, .cons h _, e => by simp at e; subst e; exact ⟨_, rfl, h⟩
  | _, _, i + 1, d, .cons _ hs, e => by
    obtain ⟨v, h1, h2⟩ := DpAll.get (i := i) (d := d) hs (by simpa using e)
    exact ⟨v, by simpa using h1, h2⟩
theorem DpAll.get' {K : PySem.W.Frag} {H : Hp} {vs : List V} {ds : List PyData} {i : Nat} {v : V} (h : DpAll K H vs ds) (e : vs[i]? = some v) : ∃ d, ds[i]? = some d ∧ Dp K H v d := by
  have hl := h.length
  obtain ⟨hi, _⟩ := List.getElem?_eq_some_iff.mp e
  have hi' : i < ds.length := by omega
  obtain ⟨v', e', q⟩ := h.get (List.getElem?_eq_getElem hi')
  rw [e] at e'; cases e'
  exact ⟨_, List.getElem?_eq_getElem hi', q⟩
theorem DpAll.append {K : PySem.W.Frag} {H : Hp} : ∀ {vs ws : List V} {ds es : List PyData}, DpAll K H vs ds → DpAll K H ws es → DpAll K H (vs ++ ws) (ds ++ es)
  | _, _, _, _, .nil, s => s
  | _, _, _, _, .cons h hs, s => .cons h (DpAll.append hs s)
theorem DpAll.take {K : PySem.W.Frag} {H : Hp} : ∀ {vs : List V} {ds : List PyData} (n : Nat), DpAll K H vs ds → DpAll K H (vs.take n) (ds.take n)
  | _, _, 0, _ => .nil
  | _, _, _ + 1, .nil => .nil
  | _, _, n + 1, .cons h hs => .cons h (DpAll.take n hs)
theorem DpAll.drop {K : PySem.W.Frag} {H : Hp} : ∀ {vs : List V} {ds : List PyData} (n : Nat), DpAll K H vs ds → DpAll K H (vs.drop n) (ds.drop n)
  | _, _, 0, h => h
  | _, _, _ + 1, .nil => .nil
  | _, _, n + 1, .cons _ hs => DpAll.drop n hs
theorem DpAll.rev {K : PySem.W.Frag} {H : Hp} : ∀ {vs : List V} {ds : List PyData}, DpAll K H vs ds → DpAll K H vs.reverse ds.reverse
  | _, _, .nil => .nil
  | _, _, .cons h hs => by
    rw [List.reverse_cons, List.reverse_cons]
    exact DpAll.append (DpAll.rev hs) (.cons h .nil)
theorem DpAll.set {K : PySem.W.Frag} {H : Hp} {v : V} {d : PyData} (h : Dp K H v d) : ∀ {vs : List V} {ds : List PyData} (i : Nat), DpAll K H vs ds → DpAll K H (vs.set i v) (ds.set i d)
  | _, _, _, .nil => .nil
  | _, _, 0, .cons _ hs => .cons h hs
  | _, _, i + 1, .cons q hs => .cons q (DpAll.set h i hs)
theorem DpAll.ints {K : PySem.W.Frag} {H : Hp} : ∀ {vs : List V} {ns : List Int}, DpAll K H vs (ns.map PyData.int) → vs = ns.map V.int
  | _, [], .nil => rfl
  | _, n :: ns, .cons h hs => by
    cases h
    rw [DpAll.ints hs]; rfl
theorem DpAll.bools {K : PySem.W.Frag} {H : Hp} : ∀ {vs : List V} {ns : List Bool}, DpAll K H vs (ns.map PyData.bool) → vs = ns.map V.bl
  | _, [], .nil => rfl
  | _, n :: ns, .cons h hs => by
    cases h
    rw [DpAll.bools hs]; rfl
theorem Dp.new_tup {K : PySem.W.Frag} {F : Hp} {p : Addr} {vs : List V} {ds : List PyData} (h : F p = none) (hs : DpAll K F vs ds) : Dp K (upd F p (.tup vs)) (.ref p) (.tuple ds) :=
  .tup (SqT.of upd_same) (DpAll.le (Le.upd h) hs)
theorem Dp.new_lst {K : PySem.W.Frag} {F : Hp} {p : Addr} {vs : List V} {ds : List PyData} (h : F p = none) (hs : DpAll K F vs ds) : Dp K (upd F p (.lst vs)) (.ref p) (.list ds) :=
  .lst (SqL.of upd_same) (DpAll.le (Le.upd h) hs)
theorem _root_.PD.Le.none {F H : Hp} {p : Addr} (l : Le F H) (h : H p = none) : F p = none := by
  cases q : F p with
  | none => rfl
  | some u => rw [l p u q] at h; cases h
end L2
namespace PD
open PySem PySem.Spec PyProof.Rows L2
abbrev St := List (Option V)
/-! ## the state -/
/-- a key of a dict -/
def kP : Key → PyData
  | .inl i => .int i
  | .inr x => .str x
/-- the pairs of a dict whose keys are tuples of numbers: the key, where its tuple stands, the value -/
abbrev TRow := List Int × Addr × V
def tHash (ks : List Int) : Int := reduceHash (Builtin.Tuple.tupleHashOf (ks.map hashInt))
def tEnt (y : List Int × Addr × Value) : DictEntry := ⟨tHash y.1, .ref y.2.1, y.2.2⟩
abbrev TRel (p : TRow) (q : List Int × Addr × Value) : Prop := p.1 = q.1 ∧ p.2.1 = q.2.1 ∧ RelV p.2.2 q.2.2
def DTx (a : Addr) (xs : List TRow) : HO := .ext fun h => xs.length ≤ sizeLine ∧ (a == sysModules) = false ∧ ∃ ys : List (List Int × Addr × Value), Paired TRel xs ys ∧
  ∃ o es ep, h.get? a = some o ∧ o.ExactDict ∧ o.data = .dict es ep ∧ es.toList = ys.map tEnt ∧ (ys.map (·.1)).Nodup
/-- a dict's thing, told: keys numbers and words, or tuples of numbers -/
def DOk (K : PySem.W.Frag) (F : Hp) (a : Addr) (o : HO) (m : Dd) : Prop :=
  (m.t = false ∧ ∃ ks : List (Key × V), o = .dK ks ∧ Paired (fun p q => q.1 = kP p.1 ∧ Dp K F p.2 q.2) ks m.l) ∨
  (m.t = true ∧ ∃ xs : List TRow, o = DTx a xs ∧ Paired (fun (p : TRow) (q : PyData × PyData) => q.1 = .tuple (p.1.map PyData.int) ∧ SqT K F p.2.1 (p.1.map V.int) ∧ Dp K F p.2.2 q.2) xs m.l)
theorem pairedI {α β : Type} {F G : α → β → Prop} : ∀ {l₁ : List α} {l₂ : List β}, Paired F l₁ l₂ → (∀ a b, F a b → G a b) → Paired G l₁ l₂
  | _, _, .nil, _ => .nil
  | _, _, .cons r t, f => .cons (f _ _ r) (pairedI t f)
theorem DOk.le {K : PySem.W.Frag} {F F' : Hp} {a : Addr} {o : HO} {m : Dd} (h : DOk K F a o m) (l : Le F F') : DOk K F' a o m := by
  rcases h with ⟨t, ks, e, h⟩ | ⟨t, ks, e, h⟩
  · exact .inl ⟨t, ks, e, pairedI h fun a b q => ⟨q.1, q.2.le l⟩⟩
  · exact .inr ⟨t, ks, e, pairedI h fun a b q => ⟨q.1, q.2.1.le l, q.2.2.le l⟩⟩
def SlOk (K : PySem.W.Frag) (F G H : Hp) : Option (Option V) → Sl → Prop
  | _, .un => True
  | some (some v), .d x => Dp K F v x
  | some (some (.ref a)), .lo xs => G a = none ∧ ∃ vs, H a = some (.lst vs) ∧ DpAll K F vs xs
  | some (some (.ref a)), .dd kvs => G a = none ∧ ∃ o, H a = some o ∧ DOk K F a o kvs
  | some (some (.ref a)), .tk xs => ∃ vs, F a = some (.tup vs) ∧ DpAll K F vs xs
  | some (some (.ref a)), .df m => ∃ od o, F a = some (.frz od o) ∧ DOk K F a o m
  | _, _ => False
def Sl.owned : Sl → Bool
  | .lo _ => true
  | .dd _ => true
  | _ => false
structure Rl (K : PySem.W.Frag) (ρ : Ev) (F G : Hp) (σ : St) (H : Hp) : Prop where
  len : ρ.length = σ.length
  fg : Le F G
  gh : Le G H
  sl : ∀ (i : Nat) (x : Sl), ρ[i]? = some x → SlOk K F G H σ[i]? x
  dis : ∀ (i j : Nat) (x y : Sl) (a : Addr), i ≠ j → ρ[i]? = some x → ρ[j]? = some y → x.owned = true → y.owned = true → σ[i]? = some (some (.ref a)) → σ[j]? ≠ some (some (.ref a))
theorem Rl.fh {K : PySem.W.Frag} {ρ : Ev} {F G : Hp} {σ : St} {H : Hp} (r : Rl K ρ F G σ H) : Le F H := r.fg.trans r.gh
/-- what stays of one's own -/
structure GrS (F G F' G' : Hp) : Prop where
  f : Le F F'
  g : Le G G'
  n : ∀ a, G a ≠ none → F' a = F a
theorem GrS.refl (F G : Hp) : GrS F G F G := ⟨Le.refl F, Le.refl G, fun _ _ => rfl⟩
theorem GrS.trans {F G F1 G1 F2 G2 : Hp} (a : GrS F G F1 G1) (b : GrS F1 G1 F2 G2) : GrS F G F2 G2 :=
  ⟨a.f.trans b.f, a.g.trans b.g, fun x hx => (b.n x (fun e => by
    cases q : G x with
    | none => exact hx q
    | some o => rw [a.g x o q] at e; cases e)).trans (a.n x hx)⟩
/-- F's new things put to G -/
def join (G F : Hp) : Hp := fun a => match G a with
  | some o => some o
  | none => F a
theorem SlOk.dd {K : PySem.W.Frag} {F G H F' G' H' : Hp} {o : Option (Option V)} {x : PyData} (h : SlOk K F G H o (.d x)) (lf : Le F F') : SlOk K F' G' H' o (.d x) := by
  cases o with
  | none => exact h.elim
  | some v =>
    cases v with
    | none => exact h.elim
    | some v => exact Dp.le lf h
theorem SlOk.tt {K : PySem.W.Frag} {F G H F' G' H' : Hp} {o : Option (Option V)} {x : List PyData} (h : SlOk K F G H o (.tk x)) (lf : Le F F') : SlOk K F' G' H' o (.tk x) := by
  cases o with
  | none => exact h.elim
  | some v =>
    cases v with
    | none => exact h.elim
    | some v =>
      cases v with
      | ref a =>
        obtain ⟨vs, h1, h2⟩ := h
        exact ⟨vs, lf _ _ h1, h2.le lf⟩
      | _ => exact h.elim
theorem SlOk.ff {K : PySem.W.Frag} {F G H F' G' H' : Hp} {o : Option (Option V)} {x : Dd} (h : SlOk K F G H o (.df x)) (lf : Le F F') : SlOk K F' G' H' o (.df x) := by
  cases o with
  | none => exact h.elim
  | some v =>
    cases v with
    | none => exact h.elim
    | some v =>
      cases v with
      | ref a =>
        obtain ⟨od, u, h1, h2⟩ := h
        exact ⟨od, u, lf _ _ h1, h2.le lf⟩
      | _ => exact h.elim
theorem SlOk.mono {K : PySem.W.Frag} {F G H F' G' H' : Hp} {o : Option (Option V)} {x : Sl} (h : SlOk K F G H o x) (lf : Le F F') (lh : Le H H') (lg : ∀ a, H a ≠ none → G' a = G a) : SlOk K F' G' H' o x := by
  cases x with
  | un => cases o <;> trivial
  | d x =>
    cases o with
    | none => exact h.elim
    | some v =>
      cases v with
      | none => exact h.elim
      | some v =>
        have h : Dp K F v x := h
        show Dp K F' v x
        exact h.le lf
  | lo xs =>
    cases o with
    | none => exact h.elim
    | some v =>
      cases v with
      | none => exact h.elim
      | some v =>
        cases v with
        | ref a =>
          obtain ⟨h1, vs, h2, h3⟩ := h
          exact ⟨(lg a (by rw [h2]; exact fun z => by cases z)).trans h1, vs, lh _ _ h2, h3.le lf⟩
        | _ => exact h.elim
  | dd kvs =>
    cases o with
    | none => exact h.elim
    | some v =>
      cases v with
      | none => exact h.elim
      | some v =>
        cases v with
        | ref a =>
          obtain ⟨h1, u, h2, h3⟩ := h
          exact ⟨(lg a (by rw [h2]; exact fun z => by cases z)).trans h1, u, lh _ _ h2, h3.le lf⟩
        | _ => exact h.elim
  | tk xs => exact h.tt lf
  | df xs => exact h.ff lf
theorem Rl.grow {K : PySem.W.Frag} {ρ : Ev} {F G : Hp} {σ : St} {H F' H' : Hp} (r : Rl K ρ F G σ H) (g : Gr F H F' H') : Rl K ρ F' (join G F') σ H' ∧ GrS F G F' (join G F') := by
  have hn : ∀ a, H a ≠ none → join G F' a = G a := fun a ha => by
    unfold join
    cases q : G a with
    | some o => rfl
    | none =>
      show F' a = none
      rw [g.n a ha]
      exact r.fg.none q
  have hfj : Le F' (join G F') := fun a o e => by
    unfold join
    cases q : G a with
    | some u =>
      show some u = some o
      have q2 := r.gh a u q
      have q3 := g.n a (by rw [q2]; exact fun z => by cases z)
      rw [e] at q3
      have q4 := r.fg a o q3.symm
      rw [q] at q4; exact q4
    | none => exact e
  have hjh : Le (join G F') H' := fun a o e => by
    unfold join at e
    cases q : G a with
    | some u =>
      rw [q] at e
      have e : some u = some o := e
      cases e
      exact g.h a o (r.gh a o q)
    | none =>
      rw [q] at e
      exact g.le a o e
  refine ⟨⟨r.len, hfj, hjh, fun i x e => (r.sl i x e).mono g.f g.h hn, r.dis⟩, ⟨g.f, fun a o e => ?_, fun a ha => ?_⟩⟩
  · unfold join; rw [e]
  · refine g.n a fun z => ha ?_
    cases q : G a with
    | none => rfl
    | some u => rw [r.gh a u q] at z; cases z
theorem Rl.get {K : PySem.W.Frag} {ρ : Ev} {F G : Hp} {σ : St} {H : Hp} {i : Nat} {x : PyData} (r : Rl K ρ F G σ H) (e : ρ[i]? = some (.d x)) : ∃ v, σ[i]? = some (some v) ∧ Dp K F v x := by
  have h := r.sl i _ e
  cases q : σ[i]? with
  | none => rw [q] at h; exact h.elim
  | some v =>
    rw [q] at h
    cases v with
    | none => exact h.elim
    | some v => exact ⟨v, rfl, h⟩
theorem Rl.getL {K : PySem.W.Frag} {ρ : Ev} {F G : Hp} {σ : St} {H : Hp} {i : Nat} {xs : List PyData} (r : Rl K ρ F G σ H) (e : ρ[i]? = some (.lo xs)) : ∃ a vs, σ[i]? = some (some (.ref a)) ∧ G a = none ∧ H a = some (.lst vs) ∧ DpAll K F vs xs := by
  have h := r.sl i _ e
  cases q : σ[i]? with
  | none => rw [q] at h; exact h.elim
  | some v =>
    rw [q] at h
    cases v with
    | none => exact h.elim
    | some v =>
      cases v with
      | ref a =>
        obtain ⟨h1, vs, h2, h3⟩ := h
        exact ⟨a, vs, rfl, h1, h2, h3⟩
      | _ => exact h.elim
theorem Rl.getD {K : PySem.W.Frag} {ρ : Ev} {F G : Hp} {σ : St} {H : Hp} {i : Nat} {kvs : Dd} (r : Rl K ρ F G σ H) (e : ρ[i]? = some (.dd kvs)) : ∃ a o, σ[i]? = some (some (.ref a)) ∧ G a = none ∧ H a = some o ∧ DOk K F a o kvs := by
  have h := r.sl i _ e
  cases q : σ[i]? with
  | none => rw [q] at h; exact h.elim
  | some v =>
    rw [q] at h
    cases v with
    | none => exact h.elim
    | some v =>
      cases v with
      | ref a =>
        obtain ⟨h1, u, h2, h3⟩ := h
        exact ⟨a, u, rfl, h1, h2, h3⟩
      | _ => exact h.elim
theorem Rl.getT {K : PySem.W.Frag} {ρ : Ev} {F G : Hp} {σ : St} {H : Hp} {i : Nat} {xs : List PyData} (r : Rl K ρ F G σ H) (e : ρ[i]? = some (.tk xs)) : ∃ a vs, σ[i]? = some (some (.ref a)) ∧ F a = some (.tup vs) ∧ DpAll K F vs xs := by
  have h := r.sl i _ e
  cases q : σ[i]? with
  | none => rw [q] at h; exact h.elim
  | some v =>
    rw [q] at h
    cases v with
    | none => exact h.elim
    | some v =>
      cases v with
      | ref a =>
        obtain ⟨u, h2, h3⟩ := h
        exact ⟨a, u, rfl, h2, h3⟩
      | _ => exact h.elim
theorem Rl.getF {K : PySem.W.Frag} {ρ : Ev} {F G : Hp} {σ : St} {H : Hp} {i : Nat} {m : Dd} (r : Rl K ρ F G σ H) (e : ρ[i]? = some (.df m)) : ∃ a od o, σ[i]? = some (some (.ref a)) ∧ F a = some (.frz od o) ∧ DOk K F a o m := by
  have h := r.sl i _ e
  cases q : σ[i]? with
  | none => rw [q] at h; exact h.elim
  | some v =>
    rw [q] at h
    cases v with
    | none => exact h.elim
    | some v =>
      cases v with
      | ref a =>
        obtain ⟨od, u, h2, h3⟩ := h
        exact ⟨a, od, u, rfl, h2, h3⟩
      | _ => exact h.elim
theorem set_get {α : Type} {l : List α} {i j : Nat} {x y : α} (e : (l.set i x)[j]? = some y) : (i = j ∧ y = x) ∨ (i ≠ j ∧ l[j]? = some y) := by
  by_cases h : i = j
  · subst h
    by_cases hi : i < l.length
    · rw [List.getElem?_set_self hi] at e; cases e; exact .inl ⟨rfl, rfl⟩
    · rw [List.getElem?_eq_none (by simpa using hi)] at e; cases e
  · rw [List.getElem?_set_ne h] at e; exact .inr ⟨h, e⟩
/-- a datum is put to a slot -/
theorem Rl.set {K : PySem.W.Frag} {ρ : Ev} {F G : Hp} {σ : St} {H : Hp} {v : V} {x : PyData} (r : Rl K ρ F G σ H) (i : Nat) (h : Dp K F v x) : Rl K (ρ.set i (.d x)) F G (σ.set i (some v)) H := by
  refine ⟨by rw [List.length_set, List.length_set]; exact r.len, r.fg, r.gh, fun j y e => ?_, fun j k y z a hjk e1 e2 o1 o2 q => ?_⟩
  · rcases set_get e with ⟨rfl, rfl⟩ | ⟨ne, e⟩
    · have hi : i < σ.length := by
        rw [← r.len]
        obtain ⟨q, _⟩ := List.getElem?_eq_some_iff.mp e
        simpa using q
      rw [List.getElem?_set_self hi]
      exact h
    · rw [List.getElem?_set_ne ne]
      exact r.sl j y e
  · rcases set_get e1 with ⟨rfl, rfl⟩ | ⟨ne, e1⟩
    · cases o1
    · rcases set_get e2 with ⟨rfl, rfl⟩ | ⟨ne2, e2⟩
      · cases o2
      · rw [List.getElem?_set_ne ne2]
        rw [List.getElem?_set_ne ne] at q
        exact r.dis j k y z a hjk e1 e2 o1 o2 q
/-- a new tuple is put to a slot -/
theorem Rl.setT {K : PySem.W.Frag} {ρ : Ev} {F G : Hp} {σ : St} {H : Hp} {a : Addr} {vs : List V} {xs : List PyData} (r : Rl K ρ F G σ H) (i : Nat) (h1 : F a = some (.tup vs)) (h2 : DpAll K F vs xs) : Rl K (ρ.set i (.tk xs)) F G (σ.set i (some (.ref a))) H := by
  refine ⟨by rw [List.length_set, List.length_set]; exact r.len, r.fg, r.gh, fun j y e => ?_, fun j k y z a' hjk e1 e2 o1 o2 q => ?_⟩
  · rcases set_get e with ⟨rfl, rfl⟩ | ⟨ne, e⟩
    · have hi : i < σ.length := by
        rw [← r.len]
        obtain ⟨q, _⟩ := List.getElem?_eq_some_iff.mp e
        simpa using q
      rw [List.getElem?_set_self hi]
      exact ⟨vs, h1, h2⟩
    · rw [List.getElem?_set_ne ne]
      exact r.sl j y e
  · rcases set_get e1 with ⟨rfl, rfl⟩ | ⟨ne, e1⟩
    · cases o1
    · rcases set_get e2 with ⟨rfl, rfl⟩ | ⟨ne2, e2⟩
      · cases o2
      · rw [List.getElem?_set_ne ne2]
        rw [List.getElem?_set_ne ne] at q
        exact r.dis j k y z a' hjk e1 e2 o1 o2 q
/-- a dict that stays is put to a slot -/
theorem Rl.setF {K : PySem.W.Frag} {ρ : Ev} {F G : Hp} {σ : St} {H : Hp} {a : Addr} {od : Obj} {u : HO} {m : Dd} (r : Rl K ρ F G σ H) (i : Nat) (h1 : F a = some (.frz od u)) (h2 : DOk K F a u m) : Rl K (ρ.set i (.df m)) F G (σ.set i (some (.ref a))) H := by
  refine ⟨by rw [List.length_set, List.length_set]; exact r.len, r.fg, r.gh, fun j y e => ?_, fun j k y z a' hjk e1 e2 o1 o2 q => ?_⟩
  · rcases set_get e with ⟨rfl, rfl⟩ | ⟨ne, e⟩
    · have hi : i < σ.length := by
        rw [← r.len]
        obtain ⟨q, _⟩ := List.getElem?_eq_some_iff.mp e
        simpa using q
      rw [List.getElem?_set_self hi]
      exact ⟨od, u, h1, h2⟩
    · rw [List.getElem?_set_ne ne]
      exact r.sl j y e
  · rcases set_get e1 with ⟨rfl, rfl⟩ | ⟨ne, e1⟩
    · cases o1
    · rcases set_get e2 with ⟨rfl, rfl⟩ | ⟨ne2, e2⟩
      · cases o2
      · rw [List.getElem?_set_ne ne2]
        rw [List.getElem?_set_ne ne] at q
        exact r.dis j k y z a' hjk e1 e2 o1 o2 q
/-- a slot is forgotten -/
theorem Rl.unset {K : PySem.W.Frag} {ρ : Ev} {F G : Hp} {σ : St} {H : Hp} (r : Rl K ρ F G σ H) (i : Nat) (v : Option V) : Rl K (ρ.set i .un) F G (σ.set i v) H := by
  refine ⟨by rw [List.length_set, List.length_set]; exact r.len, r.fg, r.gh, fun j y e => ?_, fun j k y z a hjk e1 e2 o1 o2 q => ?_⟩
  · rcases set_get e with ⟨rfl, rfl⟩ | ⟨ne, e⟩
    · unfold SlOk; cases (σ.set i v)[i]? <;> trivial
    · rw [List.getElem?_set_ne ne]
      exact r.sl j y e
  · rcases set_get e1 with ⟨rfl, rfl⟩ | ⟨ne, e1⟩
    · cases o1
    · rcases set_get e2 with ⟨rfl, rfl⟩ | ⟨ne2, e2⟩
      · cases o2
      · rw [List.getElem?_set_ne ne2]
        rw [List.getElem?_set_ne ne] at q
        exact r.dis j k y z a hjk e1 e2 o1 o2 q
/-- a new list of one's own is put to a slot -/
theorem Rl.setL {K : PySem.W.Frag} {ρ : Ev} {F G : Hp} {σ : St} {H H' : Hp} {p : Addr} {vs : List V} {xs : List PyData} (r : Rl K ρ F G σ H) (i : Nat) (l : Le H H') (hp : H p = none) (hp' : H' p = some (.lst vs)) (h : DpAll K F vs xs) : Rl K (ρ.set i (.lo xs)) F G (σ.set i (some (.ref p))) H' := by
  have ne_p : ∀ (j : Nat) (y : Sl) (a : Addr), ρ[j]? = some y → y.owned = true → σ[j]? = some (some (.ref a)) → a ≠ p := fun j y a e o q z => by
    cases y with
    | lo ys =>
      obtain ⟨a', us, q1, q2, q3, q4⟩ := r.getL e
      rw [q] at q1; cases q1
      rw [z, hp] at q3; cases q3
    | dd ys =>
      obtain ⟨a', us, q1, q2, q3, q4⟩ := r.getD e
      rw [q] at q1; cases q1
      rw [z, hp] at q3; cases q3
    | un => cases o
    | d _ => cases o
    | tk _ => cases o
    | df _ => cases o
  refine ⟨by rw [List.length_set, List.length_set]; exact r.len, r.fg, r.gh.trans l, fun j y e => ?_, fun j k y z a hjk e1 e2 o1 o2 q => ?_⟩
  · rcases set_get e with ⟨rfl, rfl⟩ | ⟨ne, e⟩
    · have hi : i < σ.length := by
        rw [← r.len]
        obtain ⟨q, _⟩ := List.getElem?_eq_some_iff.mp e
        simpa using q
      rw [List.getElem?_set_self hi]
      exact ⟨r.gh.none hp, vs, hp', h⟩
    · rw [List.getElem?_set_ne ne]
      exact (r.sl j y e).mono (Le.refl F) l fun _ _ => rfl
  · rcases set_get e1 with ⟨rfl, rfl⟩ | ⟨ne, e1⟩
    · have hi : i < σ.length := by
        rw [← r.len]
        obtain ⟨q, _⟩ := List.getElem?_eq_some_iff.mp (show (ρ.set i (.lo xs))[i]? = _ from by assumption)
        simpa using q
      rw [List.getElem?_set_self hi] at q
      cases q
      rcases set_get e2 with ⟨rfl, rfl⟩ | ⟨ne2, e2⟩
      · exact absurd rfl hjk
      · rw [List.getElem?_set_ne ne2]
        exact fun q2 => ne_p k z p e2 o2 q2 rfl
    · rw [List.getElem?_set_ne ne] at q
      rcases set_get e2 with ⟨rfl, rfl⟩ | ⟨ne2, e2⟩
      · have na := ne_p j y a e1 o1 q
        intro q2
        by_cases hi : i < σ.length
        · rw [List.getElem?_set_self hi] at q2
          cases q2
          exact na rfl
        · rw [List.getElem?_eq_none (by simpa using hi)] at q2; cases q2
      · rw [List.getElem?_set_ne ne2]
        exact r.dis j k y z a hjk e1 e2 o1 o2 q
/-- one's own list is written -/
theorem Rl.write {K : PySem.W.Frag} {ρ : Ev} {F G : Hp} {σ : St} {H : Hp} {i : Nat} {xs ys : List PyData} {a : Addr} {vs : List V} (r : Rl K ρ F G σ H) (e : ρ[i]? = some (.lo xs)) (ea : σ[i]? = some (some (.ref a))) (h : DpAll K F vs ys) : Rl K (ρ.set i (.lo ys)) F G σ (upd H a (.lst vs)) := by
  obtain ⟨a', us, q1, q2, q3, q4⟩ := r.getL e
  rw [ea] at q1; cases q1
  refine ⟨by rw [List.length_set]; exact r.len, r.fg, fun b o eb => ?_, fun j y ej => ?_, fun j k y z b hjk e1 e2 o1 o2 q => ?_⟩
  · rw [upd_ne (ne_of_none eb q2)]
    exact r.gh b o eb
  · rcases set_get ej with ⟨rfl, rfl⟩ | ⟨ne, ej⟩
    · rw [ea]
      exact ⟨q2, vs, upd_same, h⟩
    · have hj := r.sl j y ej
      cases y with
      | un => unfold SlOk; cases σ[j]? <;> trivial
      | d x => exact hj.dd (Le.refl F)
      | tk x => exact hj.tt (Le.refl F)
      | df x => exact hj.ff (Le.refl F)
      | lo zs =>
        obtain ⟨b, us', p1, p2, p3, p4⟩ := r.getL ej
        rw [p1]
        refine ⟨p2, us', ?_, p4⟩
        rw [upd_ne ?_]
        · exact p3
        · intro z
          subst z
          exact r.dis i j _ _ b ne e ej rfl rfl ea p1
      | dd zs =>
        obtain ⟨b, us', p1, p2, p3, p4⟩ := r.getD ej
        rw [p1]
        refine ⟨p2, us', ?_, p4⟩
        rw [upd_ne ?_]
        · exact p3
        · intro z
          subst z
          exact r.dis i j _ _ b ne e ej rfl rfl ea p1
  · rcases set_get e1 with ⟨rfl, rfl⟩ | ⟨ne, e1⟩
    · rcases set_get e2 with ⟨rfl, rfl⟩ | ⟨ne2, e2⟩
      · exact absurd rfl hjk
      · exact r.dis i k _ z b hjk e e2 rfl o2 q
    · rcases set_get e2 with ⟨rfl, rfl⟩ | ⟨ne2, e2⟩
      · exact r.dis j i y _ b hjk e1 e o1 rfl q
      · exact r.dis j k y z b hjk e1 e2 o1 o2 q
/-- a new dict of one's own is put to a slot -/
theorem Rl.setDd {K : PySem.W.Frag} {ρ : Ev} {F G : Hp} {σ : St} {H H' : Hp} {p : Addr} {u : HO} {kvs : Dd} (r : Rl K ρ F G σ H) (i : Nat) (l : Le H H') (hp : H p = none) (hp' : H' p = some u) (h : DOk K F p u kvs) : Rl K (ρ.set i (.dd kvs)) F G (σ.set i (some (.ref p))) H' := by
  have ne_p : ∀ (j : Nat) (y : Sl) (a : Addr), ρ[j]? = some y → y.owned = true → σ[j]? = some (some (.ref a)) → a ≠ p := fun j y a e o q z => by
    cases y with
    | lo ys =>
      obtain ⟨a', us, q1, q2, q3, q4⟩ := r.getL e
      rw [q] at q1; cases q1
      rw [z, hp] at q3; cases q3
    | dd ys =>
      obtain ⟨a', us, q1, q2, q3, q4⟩ := r.getD e
      rw [q] at q1; cases q1
      rw [z, hp] at q3; cases q3
    | un => cases o
    | d _ => cases o
    | tk _ => cases o
    | df _ => cases o
  refine ⟨by rw [List.length_set, List.length_set]; exact r.len, r.fg, r.gh.trans l, fun j y e => ?_, fun j k y z a hjk e1 e2 o1 o2 q => ?_⟩
  · rcases set_get e with ⟨rfl, rfl⟩ | ⟨ne, e⟩
    · have hi : i < σ.length := by
        rw [← r.len]
        obtain ⟨q, _⟩ := List.getElem?_eq_some_iff.mp e
        simpa using q
      rw [List.getElem?_set_self hi]
      exact ⟨r.gh.none hp, u, hp', h⟩
    · rw [List.getElem?_set_ne ne]
      exact (r.sl j y e).mono (Le.refl F) l fun _ _ => rfl
  · rcases set_get e1 with ⟨rfl, rfl⟩ | ⟨ne, e1⟩
    · have hi : i < σ.length := by
        rw [← r.len]
        obtain ⟨q, _⟩ := List.getElem?_eq_some_iff.mp (show (ρ.set i (.dd kvs))[i]? = _ from by assumption)
        simpa using q
      rw [List.getElem?_set_self hi] at q
      cases q
      rcases set_get e2 with ⟨rfl, rfl⟩ | ⟨ne2, e2⟩
      · exact absurd rfl hjk
      · rw [List.getElem?_set_ne ne2]
        exact fun q2 => ne_p k z p e2 o2 q2 rfl
    · rw [List.getElem?_set_ne ne] at q
      rcases set_get e2 with ⟨rfl, rfl⟩ | ⟨ne2, e2⟩
      · have na := ne_p j y a e1 o1 q
        intro q2
        by_cases hi : i < σ.length
        · rw [List.getElem?_set_self hi] at q2
          cases q2
          exact na rfl
        · rw [List.getElem?_eq_none (by simpa using hi)] at q2; cases q2
      · rw [List.getElem?_set_ne ne2]
        exact r.dis j k y z a hjk e1 e2 o1 o2 q
/-- one's own dict is written -/
theorem Rl.writeD {K : PySem.W.Frag} {ρ : Ev} {F G : Hp} {σ : St} {H : Hp} {i : Nat} {xs ys : Dd} {a : Addr} {u : HO} (r : Rl K ρ F G σ H) (e : ρ[i]? = some (.dd xs)) (ea : σ[i]? = some (some (.ref a))) (h : DOk K F a u ys) : Rl K (ρ.set i (.dd ys)) F G σ (upd H a u) := by
  obtain ⟨a', us, q1, q2, q3, q4⟩ := r.getD e
  rw [ea] at q1; cases q1
  refine ⟨by rw [List.length_set]; exact r.len, r.fg, fun b o eb => ?_, fun j y ej => ?_, fun j k y z b hjk e1 e2 o1 o2 q => ?_⟩
  · rw [upd_ne (ne_of_none eb q2)]
    exact r.gh b o eb
  · rcases set_get ej with ⟨rfl, rfl⟩ | ⟨ne, ej⟩
    · rw [ea]
      exact ⟨q2, u, upd_same, h⟩
    · have hj := r.sl j y ej
      cases y with
      | un => unfold SlOk; cases σ[j]? <;> trivial
      | d x => exact hj.dd (Le.refl F)
      | tk x => exact hj.tt (Le.refl F)
      | df x => exact hj.ff (Le.refl F)
      | lo zs =>
        obtain ⟨b, us', p1, p2, p3, p4⟩ := r.getL ej
        rw [p1]
        refine ⟨p2, us', ?_, p4⟩
        rw [upd_ne ?_]
        · exact p3
        · intro z
          subst z
          exact r.dis i j _ _ b ne e ej rfl rfl ea p1
      | dd zs =>
        obtain ⟨b, us', p1, p2, p3, p4⟩ := r.getD ej
        rw [p1]
        refine ⟨p2, us', ?_, p4⟩
        rw [upd_ne ?_]
        · exact p3
        · intro z
          subst z
          exact r.dis i j _ _ b ne e ej rfl rfl ea p1
  · rcases set_get e1 with ⟨rfl, rfl⟩ | ⟨ne, e1⟩
    · rcases set_get e2 with ⟨rfl, rfl⟩ | ⟨ne2, e2⟩
      · exact absurd rfl hjk
      · exact r.dis i k _ z b hjk e e2 rfl o2 q
    · rcases set_get e2 with ⟨rfl, rfl⟩ | ⟨ne2, e2⟩
      · exact r.dis j i y _ b hjk e1 e o1 rfl q
      · exact r.dis j k y z b hjk e1 e2 o1 o2 q
/-- one's own list is given away: from now on it stays as it is -/
theorem Rl.frz {K : PySem.W.Frag} {ρ : Ev} {F G : Hp} {σ : St} {H : Hp} {i : Nat} {xs : List PyData} (r : Rl K ρ F G σ H) (e : ρ[i]? = some (.lo xs)) : ∃ F' G', Rl K (ρ.set i (.d (.list xs))) F' G' σ H ∧ GrS F G F' G' := by
  obtain ⟨a, vs, q1, q2, q3, q4⟩ := r.getL e
  have fa := r.fg.none q2
  refine ⟨upd F a (.lst vs), upd G a (.lst vs), ⟨by rw [List.length_set]; exact r.len, fun b o eb => ?_, fun b o eb => ?_, fun j y ej => ?_, fun j k y z b hjk e1 e2 o1 o2 q => ?_⟩, ⟨Le.upd fa, Le.upd q2, fun b hb => upd_ne fun z => hb (by rw [z]; exact q2)⟩⟩
  · by_cases hb : b = a
    · subst hb; rw [upd_same] at eb ⊢; exact eb
    · rw [upd_ne hb] at eb ⊢; exact r.fg b o eb
  · by_cases hb : b = a
    · subst hb; rw [upd_same] at eb; cases eb; exact q3
    · rw [upd_ne hb] at eb; exact r.gh b o eb
  · rcases set_get ej with ⟨rfl, rfl⟩ | ⟨ne, ej⟩
    · rw [q1]
      exact Dp.new_lst fa q4
    · have hj := r.sl j y ej
      cases y with
      | un => unfold SlOk; cases σ[j]? <;> trivial
      | d x => exact hj.dd (Le.upd fa)
      | tk x => exact hj.tt (Le.upd fa)
      | df x => exact hj.ff (Le.upd fa)
      | lo zs =>
        obtain ⟨b, us', p1, p2, p3, p4⟩ := r.getL ej
        rw [p1]
        refine ⟨?_, us', p3, p4.le (Le.upd fa)⟩
        rw [upd_ne ?_]
        · exact p2
        · intro z
          subst z
          exact r.dis i j _ _ b ne e ej rfl rfl q1 p1
      | dd zs =>
        obtain ⟨b, us', p1, p2, p3, p4⟩ := r.getD ej
        rw [p1]
        refine ⟨?_, us', p3, p4.le (Le.upd fa)⟩
        rw [upd_ne ?_]
        · exact p2
        · intro z
          subst z
          exact r.dis i j _ _ b ne e ej rfl rfl q1 p1
  · rcases set_get e1 with ⟨rfl, rfl⟩ | ⟨ne, e1⟩
    · cases o1
    · rcases set_get e2 with ⟨rfl, rfl⟩ | ⟨ne2, e2⟩
      · cases o2
      · exact r.dis j k y z b hjk e1 e2 o1 o2 q
/-- one's own dict is locked: from now on it stays as it is -/
theorem Rl.frzD {K : PySem.W.Frag} {ρ : Ev} {F G : Hp} {σ : St} {H : Hp} {i : Nat} {m : Dd} {a : Addr} {od : Obj} {u : HO} (r : Rl K ρ F G σ H) (e : ρ[i]? = some (.dd m)) (q1 : σ[i]? = some (some (.ref a))) (hu : H a = some u) : Rl K (ρ.set i (.df m)) (upd F a (.frz od u)) (upd G a (.frz od u)) σ (upd H a (.frz od u)) ∧ GrS F G (upd F a (.frz od u)) (upd G a (.frz od u)) := by
  obtain ⟨a', u', q1', q2, q3, q4⟩ := r.getD e
  rw [q1] at q1'
  cases q1'
  rw [hu] at q3
  cases q3
  have fa := r.fg.none q2
  refine ⟨⟨by rw [List.length_set]; exact r.len, fun b o eb => ?_, fun b o eb => ?_, fun j y ej => ?_, fun j k y z b hjk e1 e2 o1 o2 q => ?_⟩, ⟨Le.upd fa, Le.upd q2, fun b hb => upd_ne fun z => hb (by rw [z]; exact q2)⟩⟩
  · by_cases hb : b = a
    · subst hb; rw [upd_same] at eb ⊢; exact eb
    · rw [upd_ne hb] at eb ⊢; exact r.fg b o eb
  · by_cases hb : b = a
    · subst hb; rw [upd_same] at eb ⊢; exact eb
    · rw [upd_ne hb] at eb ⊢; exact r.gh b o eb
  · rcases set_get ej with ⟨rfl, rfl⟩ | ⟨ne, ej⟩
    · rw [q1]
      exact ⟨od, u, upd_same, q4.le (Le.upd fa)⟩
    · have hj := r.sl j y ej
      cases y with
      | un => unfold SlOk; cases σ[j]? <;> trivial
      | d x => exact hj.dd (Le.upd fa)
      | tk x => exact hj.tt (Le.upd fa)
      | df x => exact hj.ff (Le.upd fa)
      | lo zs =>
        obtain ⟨b, us', p1, p2, p3, p4⟩ := r.getL ej
        rw [p1]
        have nb : b ≠ a := fun z => by
          subst z
          exact r.dis i j _ _ b ne e ej rfl rfl q1 p1
        exact ⟨by rw [upd_ne nb]; exact p2, us', by rw [upd_ne nb]; exact p3, p4.le (Le.upd fa)⟩
      | dd zs =>
        obtain ⟨b, us', p1, p2, p3, p4⟩ := r.getD ej
        rw [p1]
        have nb : b ≠ a := fun z => by
          subst z
          exact r.dis i j _ _ b ne e ej rfl rfl q1 p1
        exact ⟨by rw [upd_ne nb]; exact p2, us', by rw [upd_ne nb]; exact p3, p4.le (Le.upd fa)⟩
  · rcases set_get e1 with ⟨rfl, rfl⟩ | ⟨ne, e1⟩
    · cases o1
    · rcases set_get e2 with ⟨rfl, rfl⟩ | ⟨ne2, e2⟩
      · cases o2
      · exact r.dis j k y z b hjk e1 e2 o1 o2 q
end PD
namespace PD
open PySem PySem.Spec PyProof.Rows L2
/-! ## what is wanted of a result -/
abbrev EW := String → St → Hp → Prop
/-- how a value of the machine tells a value of ours: over the heap at the start, what stays, all -/
abbrev PR (β α : Type) := Hp → Hp → Hp → β → α → Prop
def Po {β α : Type} (We : EW) (P : PR β α) (F H : Hp) (σ : St) (r : R α) (Q : β → Hp → Prop) : Prop :=
  match r with
  | .ok a => ∀ b F' H', Gr F H F' H' → P H F' H' b a → Q b H'
  | .err c => ∀ H', Le H H' → We c σ H'
  | .bad => False
def tM {β α : Type} (K : PySem.W.Frag) (We : EW) (P : PR β α) (m : Ev → R α) : St → Hp → (β → Hp → Prop) → Prop :=
  fun σ H Q => ∃ ρ F G, Rl K ρ F G σ H ∧ Po We P F H σ (m ρ) Q
/-- P may start later -/
class Anti {β α : Type} (P : PR β α) : Prop where
  anti : ∀ H H1 F' H' b a, Le H H1 → P H1 F' H' b a → P H F' H' b a
def pD (K : PySem.W.Frag) : PR V PyData := fun _ F _ v d => Dp K F v d
def pB (K : PySem.W.Frag) : PR V PyData := fun _ F H v d => Dp K F v d ∨ ∃ a vs ds, v = V.ref a ∧ d = .list ds ∧ H a = some (.lst vs) ∧ DpAll K F vs ds
def pF (K : PySem.W.Frag) : PR V PyData := fun H0 F H v d => ∃ a vs ds, v = V.ref a ∧ d = .list ds ∧ H0 a = none ∧ F a = none ∧ H a = some (.lst vs) ∧ DpAll K F vs ds
def pT : PR Bool Bool := fun _ _ _ a b => a = b
def pA (K : PySem.W.Frag) : PR (List V) (List PyData) := fun _ F _ vs ds => DpAll K F vs ds
def pAB (K : PySem.W.Frag) : PR (List V) (List PyData) := fun H0 F H vs ds => Paired (fun v d => pB K H0 F H v d) vs ds
instance {K} : Anti (pD K) := ⟨fun _ _ _ _ _ _ _ h => h⟩
instance {K} : Anti (pB K) := ⟨fun _ _ _ _ _ _ _ h => h⟩
instance : Anti pT := ⟨fun _ _ _ _ _ _ _ h => h⟩
instance {K} : Anti (pA K) := ⟨fun _ _ _ _ _ _ _ h => h⟩
instance {K} : Anti (pF K) := ⟨fun _ _ _ _ _ _ l ⟨a, vs, ds, e1, e2, n, r⟩ => ⟨a, vs, ds, e1, e2, l.none n, r⟩⟩
theorem Paired.impP {α β : Type} {F G : α → β → Prop} : ∀ {l₁ : List α} {l₂ : List β}, Paired F l₁ l₂ → (∀ a b, F a b → G a b) → Paired G l₁ l₂
  | _, _, .nil, _ => .nil
  | _, _, .cons r t, f => .cons (f _ _ r) (Paired.impP t f)
instance {K} : Anti (pAB K) := ⟨fun _ _ _ _ _ _ l h => Paired.impP h fun _ _ q => q⟩
theorem Po.step {β α : Type} {We : EW} {P : PR β α} [Anti P] {F H F1 H1 : Hp} {σ : St} {r : R α} {Q : β → Hp → Prop} (g : Gr F H F1 H1) (h : Po We P F H σ r Q) : Po We P F1 H1 σ r Q := by
  cases r with
  | ok a => exact fun b F' H' g' p => h b F' H' (g.trans g') (Anti.anti _ _ _ _ _ _ g.h p)
  | err c => exact fun H' l => h H' (g.h.trans l)
  | bad => exact h
/-- the first of two -/
theorem Po.bind {β α γ δ : Type} {We : EW} {P : PR β α} {P2 : PR δ γ} [Anti P2] {F H : Hp} {σ : St} {r : R α} {f : α → R γ} {Q : δ → Hp → Prop} {Q1 : β → Hp → Prop} (h : Po We P2 F H σ (r.bind f) Q)
    (k : ∀ a b F1 H1, Gr F H F1 H1 → P H F1 H1 b a → Po We P2 F1 H1 σ (f a) Q → Q1 b H1) : Po We P F H σ r Q1 := by
  cases r with
  | ok a => exact fun b F1 H1 g p => k a b F1 H1 g p (Po.step g h)
  | err c => exact h
  | bad => exact h
theorem Po.imp {β δ α : Type} {We : EW} {P : PR β α} {P2 : PR δ α} {F H : Hp} {σ : St} {r : R α} {Q : δ → Hp → Prop} {Q1 : β → Hp → Prop} (h : Po We P2 F H σ r Q)
    (k : ∀ a b F1 H1, Gr F H F1 H1 → P H F1 H1 b a → (∀ b' F2 H2, Gr F1 H1 F2 H2 → P2 H F2 H2 b' a → Q b' H2) → Q1 b H1) : Po We P F H σ r Q1 := by
  cases r with
  | ok a => exact fun b F1 H1 g p => k a b F1 H1 g p fun b' F2 H2 g2 q => h b' F2 H2 (g.trans g2) q
  | err c => exact h
  | bad => exact h
/-! ## judgements -/
abbrev XE (X : Cx) (We : EW) (e : Expr) (m : Ev → R PyData) : Prop := PE X e (tM X.K We (pD X.K) m)
abbrev XB (X : Cx) (We : EW) (e : Expr) (m : Ev → R PyData) : Prop := PE X e (tM X.K We (pB X.K) m)
abbrev XF (X : Cx) (We : EW) (e : Expr) (m : Ev → R PyData) : Prop := PE X e (tM X.K We (pF X.K) m)
abbrev XT (X : Cx) (We : EW) (e : Expr) (m : Ev → R Bool) : Prop := PT X e (tM X.K We pT m)
abbrev XW (X : Cx) (We : EW) (e : Expr) (m : Ev → R Bool) : Prop := PW X e (tM X.K We pT m)
abbrev XA (X : Cx) (We : EW) (es : List Expr) (m : Ev → R (List PyData)) : Prop := PA X es (tM X.K We (pA X.K) m)
abbrev XAB (X : Cx) (We : EW) (es : List Expr) (m : Ev → R (List PyData)) : Prop := PA X es (tM X.K We (pAB X.K) m)
section
variable {X : Cx} {We : EW} {e a b c : Expr} {es : List Expr} {pos : Pos}
theorem pe_imp {t u : TE} (h : PE X e t) (k : ∀ σ H Q, u σ H Q → t σ H Q) : PE X e u := ⟨fun pins s σ H Q I q => h.run pins s σ H Q I (k σ H Q q)⟩
theorem pt_imp {t u : TT} (h : PT X e t) (k : ∀ σ H Q, u σ H Q → t σ H Q) : PT X e u := ⟨fun pins s σ H Q I q => h.run pins s σ H Q I (k σ H Q q)⟩
theorem pw_imp {t u : TT} (h : PW X e t) (k : ∀ σ H Q, u σ H Q → t σ H Q) : PW X e u := ⟨fun w pins s σ H Q I q => h.run w pins s σ H Q I (k σ H Q q)⟩
theorem pa_imp {t u : TA} (h : PA X es t) (k : ∀ σ H Q, u σ H Q → t σ H Q) : PA X es u := ⟨fun p pins s σ H Q I q => h.run p pins s σ H Q I (k σ H Q q)⟩
theorem tM_imp {β δ α : Type} {K : PySem.W.Frag} {P : PR β α} {P2 : PR δ α} {m : Ev → R α} {σ : St} {H : Hp} {Q : δ → Hp → Prop} {Q1 : β → Hp → Prop} (h : tM K We P2 m σ H Q)
    (k : ∀ a b F0 F1 H1, Le F0 H → Gr F0 H F1 H1 → P H F1 H1 b a → (∀ b' F2 H2, Gr F1 H1 F2 H2 → P2 H F2 H2 b' a → Q b' H2) → Q1 b H1) : tM K We P m σ H Q1 := by
  obtain ⟨ρ, F, G, r, h⟩ := h
  exact ⟨ρ, F, G, r, h.imp fun a b F1 H1 g p q => k a b F F1 H1 r.fh g p q⟩
theorem tM_bind {β α γ δ : Type} {K : PySem.W.Frag} {P : PR β α} {P2 : PR δ γ} [Anti P2] {m : Ev → R α} {f : α → Ev → R γ} {σ : St} {H : Hp} {Q : δ → Hp → Prop} {Q1 : β → Hp → Prop} (h : tM K We P2 (fun ρ => (m ρ).bind fun a => f a ρ) σ H Q)
    (k : ∀ a b F0 F1 H1, Gr F0 H F1 H1 → P H F1 H1 b a → tM K We P2 (f a) σ H1 Q → (∀ c, (∃ ρ, f a ρ = .ok c ∧ True) → True) → Q1 b H1) : tM K We P m σ H Q1 := by
  obtain ⟨ρ, F, G, r, h⟩ := h
  refine ⟨ρ, F, G, r, Po.bind (P := P) h fun a b F1 H1 g p q => k a b F F1 H1 g p ?_ fun _ _ => trivial⟩
  exact ⟨ρ, F1, _, (r.grow g).1, q⟩
/-! ### from one kind to another -/
theorem xeB {m : Ev → R PyData} (h : XE X We e m) : XB X We e m := pe_imp h fun σ H Q q => tM_imp q fun a b F0 F1 H1 l g p k => k b F1 H1 (Gr.refl g.le) (.inl p)
theorem xfB {m : Ev → R PyData} (h : XF X We e m) : XB X We e m := pe_imp h fun σ H Q q => tM_imp q fun a b F0 F1 H1 l g p k => by
  obtain ⟨x, vs, ds, e1, e2, n0, n1, h1, h2⟩ := p
  exact k b F1 H1 (Gr.refl g.le) (.inr ⟨x, vs, ds, e1, e2, h1, h2⟩)
/-- what is new may stay -/
theorem Gr.keep {F H F' H' : Hp} {p : Addr} {o : HO} (g : Gr F H F' H') (h0 : H p = none) (h1 : F' p = none) (h2 : H' p = some o) : Gr F H (upd F' p o) H' :=
  ⟨g.f.trans (Le.upd h1), g.h, fun a ha => by rw [upd_ne (fun z => ha (by rw [z]; exact h0))]; exact g.n a ha, fun a u ea => by
    by_cases hb : a = p
    · subst hb; rw [upd_same] at ea; cases ea; exact h2
    · rw [upd_ne hb] at ea; exact g.le a u ea⟩
theorem xfE {m : Ev → R PyData} (h : XF X We e m) : XE X We e m := pe_imp h fun σ H Q q => by
  obtain ⟨ρ, F, G, r, q⟩ := q
  refine ⟨ρ, F, G, r, ?_⟩
  cases hm : m ρ with
  | ok d =>
    rw [hm] at q
    intro v F1 H1 g p
    obtain ⟨x, vs, ds, rfl, rfl, n0, n1, h1, h2⟩ := p
    exact q _ _ _ (g.keep n0 n1 h1) (Dp.new_lst n1 h2)
  | err c => rw [hm] at q; exact q
  | bad => rw [hm] at q; exact q
theorem pB.dp {K : PySem.W.Frag} {H0 F H : Hp} {v : V} {d : PyData} (l : Le F H) (h : pB K H0 F H v d) : Dp K H v d := by
  rcases h with h | ⟨a, vs, ds, rfl, rfl, h1, h2⟩
  · exact h.le l
  · exact .lst (SqL.of h1) (h2.le l)
theorem pB.grow {K : PySem.W.Frag} {H0 F H F' H' : Hp} {v : V} {d : PyData} (g : Gr F H F' H') (h : pB K H0 F H v d) : pB K H0 F' H' v d := by
  rcases h with h | ⟨a, vs, ds, e1, e2, h1, h2⟩
  · exact .inl (h.le g.f)
  · exact .inr ⟨a, vs, ds, e1, e2, g.h _ _ h1, h2.le g.f⟩
theorem pB.list {K : PySem.W.Frag} {H0 F H : Hp} {v : V} {ds : List PyData} (l : Le F H) (h : pB K H0 F H v (.list ds)) : ∃ a vs, v = V.ref a ∧ SqL K H a vs ∧ DpAll K F vs ds := by
  rcases h with h | ⟨a, vs, ds', e1, e2, h1, h2⟩
  · cases h with
    | lst h1 h2 => exact ⟨_, _, rfl, h1.le l, h2⟩
  · cases e2
    exact ⟨a, vs, e1, SqL.of h1, h2⟩
theorem pB.tuple {K : PySem.W.Frag} {H0 F H : Hp} {v : V} {ds : List PyData} (l : Le F H) (h : pB K H0 F H v (.tuple ds)) : ∃ a vs, v = V.ref a ∧ SqT K H a vs ∧ DpAll K F vs ds := by
  rcases h with h | ⟨a, vs, ds', e1, e2, h1, h2⟩
  · cases h with
    | tup h1 h2 => exact ⟨_, _, rfl, h1.le l, h2⟩
  · cases e2
theorem pB.int {K : PySem.W.Frag} {H0 F H : Hp} {v : V} {i : Int} (h : pB K H0 F H v (.int i)) : v = .int i := by
  rcases h with h | ⟨a, vs, ds', e1, e2, h1, h2⟩
  · cases h; rfl
  · cases e2
theorem pB.str {K : PySem.W.Frag} {H0 F H : Hp} {v : V} {i : Str} (h : pB K H0 F H v (.str i)) : v = .str i := by
  rcases h with h | ⟨a, vs, ds', e1, e2, h1, h2⟩
  · cases h; rfl
  · cases e2
theorem pB.bool {K : PySem.W.Frag} {H0 F H : Hp} {v : V} {i : Bool} (h : pB K H0 F H v (.bool i)) : v = .bl i := by
  rcases h with h | ⟨a, vs, ds', e1, e2, h1, h2⟩
  · cases h; rfl
  · cases e2
theorem pB.none {K : PySem.W.Frag} {H0 F H : Hp} {v : V} (h : pB K H0 F H v .none) : v = .non := by
  rcases h with h | ⟨a, vs, ds', e1, e2, h1, h2⟩
  · cases h; rfl
  · cases e2
/-! ### names and constants -/
def vE (i : Nat) (ρ : Ev) : R PyData := match ρ[i]? with
  | some (.d x) => .ok x
  | some (.tk xs) => .ok (.tuple xs)
  | _ => .bad
def vB (i : Nat) (ρ : Ev) : R PyData := match ρ[i]? with
  | some (.d x) => .ok x
  | some (.lo xs) => .ok (.list xs)
  | some (.tk xs) => .ok (.tuple xs)
  | _ => .bad
def cE (d : PyData) (_ : Ev) : R PyData := .ok d
theorem xe_var {i : Nat} {x : Str} (hN : X.N[i]? = some x) (hv : Vis X.env.scope x) (hd : (x == ("__debug__" : Str)) = false) (hcd : (x == ("__classdict__" : Str)) = false) : XE X We (.Name x pos) (vE i) := by
  refine pe_imp (pe_var hN hv hd hcd) fun σ H Q q => ?_
  obtain ⟨ρ, F, G, r, q⟩ := q
  unfold vE at q
  split at q
  · rename_i d e
    obtain ⟨v, ev, h⟩ := r.get e
    exact ⟨v, ev, q _ _ _ (Gr.refl r.fh) h⟩
  · rename_i xs e
    obtain ⟨a, vs, h1, h2, h3⟩ := r.getT e
    exact ⟨_, h1, q _ _ _ (Gr.refl r.fh) (.tup (SqT.of h2) h3)⟩
  · exact q.elim
theorem xb_var {i : Nat} {x : Str} (hN : X.N[i]? = some x) (hv : Vis X.env.scope x) (hd : (x == ("__debug__" : Str)) = false) (hcd : (x == ("__classdict__" : Str)) = false) : XB X We (.Name x pos) (vB i) := by
  refine pe_imp (pe_var hN hv hd hcd) fun σ H Q q => ?_
  obtain ⟨ρ, F, G, r, q⟩ := q
  unfold vB at q
  split at q
  · rename_i d e
    obtain ⟨v, ev, h⟩ := r.get e
    exact ⟨v, ev, q _ _ _ (Gr.refl r.fh) (.inl h)⟩
  · rename_i xs e
    obtain ⟨a, vs, h1, h2, h3, h4⟩ := r.getL e
    exact ⟨_, h1, q _ _ _ (Gr.refl r.fh) (.inr ⟨a, vs, xs, rfl, rfl, h3, h4⟩)⟩
  · rename_i xs e
    obtain ⟨a, vs, h1, h2, h3⟩ := r.getT e
    exact ⟨_, h1, q _ _ _ (Gr.refl r.fh) (.inl (.tup (SqT.of h2) h3))⟩
  · exact q.elim
theorem xe_c {v : V} {d : PyData} (h : PE X e (tC v)) (hd : ∀ F, Dp X.K F v d) : XE X We e (cE d) := by
  refine pe_imp h fun σ H Q q => ?_
  obtain ⟨ρ, F, G, r, q⟩ := q
  exact q v F H (Gr.refl r.fh) (hd F)
theorem xe_int {i j} : XE X We (.Constant (.int i) j pos) (cE (.int i)) := xe_c pe_int fun _ => .int i
theorem xe_bool {i j} : XE X We (.Constant (.bool i) j pos) (cE (.bool i)) := xe_c pe_bl fun _ => .bl i
theorem xe_none {j} : XE X We (.Constant .none j pos) (cE .none) := xe_c pe_non fun _ => .non
theorem xe_str {i j} : XE X We (.Constant (.str i) j pos) (cE (.str i)) := xe_c pe_str fun _ => .str i
/-- a constant of the module -/
theorem xe_glob {x : Str} {v : V} {u : Value} {d : PyData} (hg : Gl X x) (hm : X.mg x = some u) (r : RelV v u) (hd : ∀ F, Dp X.K F v d) (hdb : (x == ("__debug__" : Str)) = false) : XE X We (.Name x pos) (cE d) := xe_c (pe_glob hg hm r hdb) hd
/-! ### operators -/
def op2 (f : PyData → PyData → R PyData) (ma mb : Ev → R PyData) (ρ : Ev) : R PyData := (ma ρ).bind fun x => (mb ρ).bind fun y => f x y
def op1 (f : PyData → R PyData) (ma : Ev → R PyData) (ρ : Ev) : R PyData := (ma ρ).bind f
/-- two values come to a result -/
def rO (K : PySem.W.Frag) (f : PyData → PyData → R PyData) : R2 := fun x y H Q => ∃ F d e c, Le F H ∧ pB K H F H x d ∧ pB K H F H y e ∧ f d e = .ok c ∧ ∀ v F' H', Gr F H F' H' → Dp K F' v c → Q v H'
def rO1 (K : PySem.W.Frag) (f : PyData → R PyData) : V → Hp → VK → Prop := fun x H Q => ∃ F d c, Le F H ∧ pB K H F H x d ∧ f d = .ok c ∧ ∀ v F' H', Gr F H F' H' → Dp K F' v c → Q v H'
/-- f never tells an error -/
def Pure2 (f : PyData → PyData → R PyData) : Prop := ∀ d e c, f d e ≠ .err c
abbrev Pure1' {α : Type} (f : PyData → R α) : Prop := ∀ d c, f d ≠ .err c
def Pure1 (f : PyData → R PyData) : Prop := ∀ d c, f d ≠ .err c
theorem tO2 {f : PyData → PyData → R PyData} {ma mb : Ev → R PyData} (pf : Pure2 f) {σ : St} {H : Hp} {Q : VK} (h : tM X.K We (pD X.K) (op2 f ma mb) σ H Q) :
    tM X.K We (pB X.K) ma σ H fun x H1 => tM X.K We (pB X.K) mb σ H1 fun y H2 => rO X.K f x y H2 Q := by
  obtain ⟨ρ, F, G, r, h⟩ := h
  refine ⟨ρ, F, G, r, Po.bind (P := pB X.K) h fun d x F1 H1 g1 p1 q1 => ?_⟩
  refine ⟨ρ, F1, _, (r.grow g1).1, Po.bind (P := pB X.K) q1 fun e y F2 H2 g2 p2 q2 => ?_⟩
  cases hf : f d e with
  | ok c =>
    rw [hf] at q2
    exact ⟨F2, d, e, c, g2.le, p1.grow g2, p2, hf, fun v F' H' g p => q2 v F' H' g p⟩
  | err c => exact absurd hf (pf d e c)
  | bad => rw [hf] at q2; exact q2.elim
theorem tO1 {f : PyData → R PyData} {ma : Ev → R PyData} (pf : Pure1 f) {σ : St} {H : Hp} {Q : VK} (h : tM X.K We (pD X.K) (op1 f ma) σ H Q) :
    tM X.K We (pB X.K) ma σ H fun x H1 => rO1 X.K f x H1 Q := by
  obtain ⟨ρ, F, G, r, h⟩ := h
  refine ⟨ρ, F, G, r, Po.bind (P := pB X.K) h fun d x F1 H1 g1 p1 q1 => ?_⟩
  cases hf : f d with
  | ok c =>
    rw [hf] at q1
    exact ⟨F1, d, c, g1.le, p1, hf, fun v F' H' g p => q1 v F' H' g p⟩
  | err c => exact absurd hf (pf d c)
  | bad => rw [hf] at q1; exact q1.elim
theorem xe_op {op : Operator} {f : PyData → PyData → R PyData} {ma mb : Ev → R PyData} (pf : Pure2 f) (ho : OpR X (binaryOp op) (rO X.K f)) (ha : XB X We a ma) (hb : XB X We b mb) : XE X We (.BinOp a op b pos) (op2 f ma mb) :=
  pe_imp (pe_op ho ha hb) fun _ _ _ h => tO2 pf h
theorem xe_un {op : UnaryOp} {f : PyData → R PyData} {ma : Ev → R PyData} (pf : Pure1 f) (ho : UnR X (unaryOp op) (rO1 X.K f)) (ha : XB X We a ma) : XE X We (.UnaryOp op a pos) (op1 f ma) :=
  pe_imp (pe_un ho ha) fun _ _ _ h => tO1 pf h
theorem xe_cmp {op : CmpOp} {f : PyData → PyData → R PyData} {ma mb : Ev → R PyData} (pf : Pure2 f) (ho : OpR X (compareOp op) (rO X.K f)) (h1 : behindInMarks op b = false) (ha : XB X We a ma) (hb : XB X We b mb) : XE X We (.Compare a [op] [b] pos) (op2 f ma mb) :=
  pe_imp (pe_cmpR ho ha hb h1) fun _ _ _ h => tO2 pf h
end
end PD
namespace PD
open PySem PySem.Spec PyProof.Rows L2
/-! ## operators on data -/
abbrev SZ : Nat := 16777216
def BIG : Nat := 2 ^ 1000
theorem sz_eq : sizeLine = SZ := by rw [sizeLine_eq]
def addD : PyData → PyData → R PyData
  | .int i, .int j => .ok (.int (i + j))
  | .tuple xs, .tuple ys => if xs.length + ys.length ≤ SZ then .ok (.tuple (xs ++ ys)) else .bad
  | .list xs, .list ys => if xs.length + ys.length ≤ SZ then .ok (.list (xs ++ ys)) else .bad
  | .str x, .str y => if x.length + y.length ≤ SZ then .ok (.str (x ++ y)) else .bad
  | _, _ => .bad
def subD : PyData → PyData → R PyData
  | .int i, .int j => .ok (.int (i - j))
  | _, _ => .bad
def mulD : PyData → PyData → R PyData
  | .int i, .int j => if i.natAbs < 2 ^ 64 ∨ j.natAbs < 2 ^ 64 ∨ (i.natAbs < BIG ∧ j.natAbs < BIG) then .ok (.int (i * j)) else .bad
  | .tuple xs, .int k => if k.natAbs < 4611686018427387904 ∧ k ≤ 1000 ∧ xs.length ≤ 1000 then .ok (.tuple (List.replicate k.toNat xs).flatten) else .bad
  | _, _ => .bad
def fdivD : PyData → PyData → R PyData
  | .int i, .int j => if 0 < j ∧ (j.natAbs < 1073741824 ∨ j.natAbs < BIG) then .ok (.int (i / j)) else .bad
  | _, _ => .bad
def modD : PyData → PyData → R PyData
  | .int i, .int j => if 0 < j then .ok (.int (i % j)) else .bad
  | _, _ => .bad
def powD : PyData → PyData → R PyData
  | .int i, .int j => if 0 ≤ j ∧ j ≤ 1000 ∧ i.natAbs < 2 ^ 64 then .ok (.int (i ^ j.toNat)) else .bad
  | _, _ => .bad
def negD : PyData → R PyData
  | .int i => .ok (.int (-i))
  | _ => .bad
/-- Python's == of two data -/
def eqB (d e : PyData) : Bool := PyData.eqv d e
/-- no dicts, and not deep -/
def shp (d : PyData) : Bool := d.plain && decide (d.depth ≤ 60)
theorem shp_un {d : PyData} (h : shp d = true) : d.plain = true ∧ d.depth ≤ 60 := by
  unfold shp at h
  simpa using h
def eqD (d e : PyData) : R PyData := if shp d = true ∧ shp e = true then .ok (.bool (PyData.eqv d e)) else .bad
def neD (d e : PyData) : R PyData := if shp d = true ∧ shp e = true then .ok (.bool (!PyData.eqv d e)) else .bad
def cmpOk (d e : PyData) : Bool := PySem.W.alike d e && (match d with | .none => false | _ => true) && decide (d.depth ≤ 64)
def ltD : PyData → PyData → R PyData
  | .int i, .int j => .ok (.bool (decide (i < j)))
  | d, e => if cmpOk d e = true then .ok (.bool (PySem.W.dataLt d e)) else .bad
def gtD : PyData → PyData → R PyData
  | .int i, .int j => .ok (.bool (decide (j < i)))
  | d, e => if cmpOk d e = true then .ok (.bool (PySem.W.dataLt e d)) else .bad
def leD : PyData → PyData → R PyData
  | .int i, .int j => .ok (.bool (decide (i ≤ j)))
  | d, e => if cmpOk d e = true then .ok (.bool (!PySem.W.dataLt e d)) else .bad
def geD : PyData → PyData → R PyData
  | .int i, .int j => .ok (.bool (decide (j ≤ i)))
  | d, e => if cmpOk d e = true then .ok (.bool (!PySem.W.dataLt d e)) else .bad
def isN : PyData → Bool
  | .none => true
  | _ => false
def isNoneD : PyData → PyData → R PyData
  | d, .none => .ok (.bool (isN d))
  | _, _ => .bad
def notNoneD : PyData → PyData → R PyData
  | d, .none => .ok (.bool (!isN d))
  | _, _ => .bad
def inD : PyData → PyData → R PyData
  | d, .list ds => if shp d = true ∧ shp (.list ds) = true then .ok (.bool (ds.any fun z => PyData.eqv z d)) else .bad
  | d, .tuple ds => if shp d = true ∧ shp (.tuple ds) = true then .ok (.bool (ds.any fun z => PyData.eqv z d)) else .bad
  | .str x, .str y => .ok (.bool (!(Builtin.Str.occurrences y x 0 y.length 1).isEmpty))
  | _, _ => .bad
def notInD : PyData → PyData → R PyData
  | d, .list ds => if shp d = true ∧ shp (.list ds) = true then .ok (.bool (!ds.any fun z => PyData.eqv z d)) else .bad
  | d, .tuple ds => if shp d = true ∧ shp (.tuple ds) = true then .ok (.bool (!ds.any fun z => PyData.eqv z d)) else .bad
  | .str x, .str y => .ok (.bool (!(!(Builtin.Str.occurrences y x 0 y.length 1).isEmpty)))
  | _, _ => .bad
def ixD : PyData → PyData → R PyData
  | .list xs, .int i => match atI xs i with | some v => .ok v | none => .bad
  | .tuple xs, .int i => match atI xs i with | some v => .ok v | none => .bad
  | .str z, .int i => if z.length ≤ SZ then match atI z.cps.toList i with | some c => .ok (.str ⟨#[c]⟩) | none => .bad else .bad
  | _, _ => .bad
section
open AutoSeq1 (wpAny_loadPart')
/-! ## t * 1, () * n, t * 0 -/
theorem mul_same (l : Addr) (items : Array Value) (n : Nat) (dd : Option Addr) (sl : Array (Option Value)) (x : Int) (u : Tok) (c0 : (decide (x < -(2 ^ 63)) || decide (x ≥ 2 ^ 63)) = false) (c1 : (items.isEmpty || x == 1) = true) :
    Meets (Builtin.«tuple.__mul__» ⟨[.ref l, .int x u], []⟩) (fun _ R s => s.heap.get? l = some { cls := .type "tuple", dict := dd, data := .seq items n, slots := sl } ∧ R (.ok (.ret (Value.ref l))) s) :=
  .of_wp fun prog w A R s h => by
    obtain ⟨hp, g, d, tk, os⟩ := s
    obtain ⟨hl, h⟩ := h
    have f1 := AutoSeq1.idx_int
    wp_walk using wpAny_loadPart' hl
    repeat (first
      | (refine wpAny_ite_false (decide_eq_false (by rw [c0]; exact Bool.false_ne_true)) ?_; wp_walk using wpAny_loadPart' hl)
      | (refine wpAny_ite_true (decide_eq_true c1) ?_; wp_walk using wpAny_loadPart' hl))
    exact ⟨_, rfl, h⟩
theorem mul_none (l : Addr) (items : Array Value) (n : Nat) (dd : Option Addr) (sl : Array (Option Value)) (x : Int) (u : Tok) (c0 : (decide (x < -(2 ^ 63)) || decide (x ≥ 2 ^ 63)) = false) (c1 : (items.isEmpty || x == 1) = false) (c2 : (decide (x ≤ 0) || items.isEmpty) = true) :
    Meets (Builtin.«tuple.__mul__» ⟨[.ref l, .int x u], []⟩) (fun _ R s => s.heap.get? l = some { cls := .type "tuple", dict := dd, data := .seq items n, slots := sl } ∧
      R (.ok (.ret (Value.ref s.heap.objs.size))) { s with heap := s.heap.push { cls := Value.type "tuple", data := Data.seq #[] }, toks := s.toks }) :=
  .of_wp fun prog w A R s h => by
    obtain ⟨hp, g, d, tk, os⟩ := s
    obtain ⟨hl, h⟩ := h
    have f1 := AutoSeq1.idx_int
    wp_walk using wpAny_loadPart' hl
    repeat (first
      | (refine wpAny_ite_false (decide_eq_false (by rw [c0]; exact Bool.false_ne_true)) ?_; wp_walk using wpAny_loadPart' hl)
      | (refine wpAny_ite_false (decide_eq_false (by rw [c1]; exact Bool.false_ne_true)) ?_; wp_walk using wpAny_loadPart' hl)
      | (refine wpAny_ite_true (decide_eq_true c2) ?_; wp_walk using wpAny_loadPart' hl))
    exact ⟨_, rfl, h⟩
end
/-! ## they are what the machine does -/
theorem pure2_of {f : PyData → PyData → R PyData} (h : ∀ d e, (∃ c, f d e = .ok c) ∨ f d e = .bad) : Pure2 f := fun d e c z => by
  rcases h d e with ⟨x, h⟩ | h <;> rw [h] at z <;> cases z
theorem pure1_of {f : PyData → R PyData} (h : ∀ d, (∃ c, f d = .ok c) ∨ f d = .bad) : Pure1 f := fun d c z => by
  rcases h d with ⟨x, h⟩ | h <;> rw [h] at z <;> cases z
theorem addD_p : Pure2 addD := fun d e c h => by unfold addD at h; split at h <;> first | cases h | (split at h <;> cases h)
theorem subD_p : Pure2 subD := fun d e c h => by unfold subD at h; split at h <;> first | cases h | (split at h <;> cases h)
theorem mulD_p : Pure2 mulD := fun d e c h => by unfold mulD at h; split at h <;> first | cases h | (split at h <;> cases h)
theorem fdivD_p : Pure2 fdivD := fun d e c h => by unfold fdivD at h; split at h <;> first | cases h | (split at h <;> cases h)
theorem modD_p : Pure2 modD := fun d e c h => by unfold modD at h; split at h <;> first | cases h | (split at h <;> cases h)
theorem powD_p : Pure2 powD := fun d e c h => by unfold powD at h; split at h <;> first | cases h | (split at h <;> cases h)
theorem negD_p : Pure1 negD := fun d c h => by unfold negD at h; split at h <;> first | cases h | (split at h <;> cases h)
theorem eqD_p : Pure2 eqD := fun d e c h => by unfold eqD at h; split at h <;> cases h
theorem neD_p : Pure2 neD := fun d e c h => by unfold neD at h; split at h <;> cases h
theorem ltD_p : Pure2 ltD := fun d e c h => by unfold ltD at h; split at h <;> first | cases h | (split at h <;> cases h)
theorem gtD_p : Pure2 gtD := fun d e c h => by unfold gtD at h; split at h <;> first | cases h | (split at h <;> cases h)
theorem leD_p : Pure2 leD := fun d e c h => by unfold leD at h; split at h <;> first | cases h | (split at h <;> cases h)
theorem geD_p : Pure2 geD := fun d e c h => by unfold geD at h; split at h <;> first | cases h | (split at h <;> cases h)
theorem isNoneD_p : Pure2 isNoneD := fun d e c h => by unfold isNoneD at h; split at h <;> cases h
theorem notNoneD_p : Pure2 notNoneD := fun d e c h => by unfold notNoneD at h; split at h <;> cases h
theorem inD_p : Pure2 inD := fun d e c h => by unfold inD at h; split at h <;> first | cases h | (split at h <;> cases h)
theorem notInD_p : Pure2 notInD := fun d e c h => by unfold notInD at h; split at h <;> first | cases h | (split at h <;> cases h)
theorem ixD_p : Pure2 ixD := fun d e c h => by
  unfold ixD at h
  split at h
  · split at h <;> cases h
  · split at h <;> cases h
  · split at h
    · split at h <;> cases h
    · cases h
  · cases h
section
variable {X : Cx}
theorem dpAll_nil_iff {K : PySem.W.Frag} {H : Hp} {vs : List V} {ds : List PyData} (h : DpAll K H vs ds) : vs = [] ↔ ds = [] := by
  have := h.length
  constructor <;> intro e <;> rw [e] at this
  · exact List.eq_nil_of_length_eq_zero this.symm
  · exact List.eq_nil_of_length_eq_zero this
theorem op_catX : OpR X (binaryOp .Add) (fun x y H Q => ∃ l b xs zs, x = .ref l ∧ y = .ref b ∧ SqL X.K H l xs ∧ SqL X.K H b zs ∧ xs.length + zs.length ≤ sizeLine ∧ ∀ p, H p = none → Q (.ref p) (upd H p (.lst (xs ++ zs)))) := by
  intro pins s σ H x y v u Q I rx ry h
  obtain ⟨l, b, xs, zs, rfl, rfl, hH, hB, hz, q⟩ := h
  cases rx
  cases ry
  obtain ⟨its, r, pl, hl⟩ := I.list hH
  obtain ⟨its2, r2, pl2, hl2⟩ := I.list hB
  obtain ⟨⟨cls, dd, data, sl⟩, n, ho, hc, hn, hd⟩ := id pl
  obtain ⟨⟨cls2, dd2, data2, sl2⟩, n2, ho2, hc2, hn2, hd2⟩ := id pl2
  simp only at hc hd hc2 hd2
  subst hc hd hc2 hd2
  have e : its.toArray ++ its2.toArray = (its ++ its2).toArray := by simp
  have n1 := r.length
  have n2' := r2.length
  refine concat_meets ⟨_, ho, rfl⟩ ⟨_, ho2, rfl⟩ noFill_list_add seq_list_add PySem.F.slot_list_add PySem.F.entry_list_add (PySem.F.args_list_add_2 _ _) (list_addW l b its.toArray its2.toArray n n2 dd dd2 sl sl2 (by rw [List.size_toArray, List.size_toArray]; omega)) ⟨ho, ho2, ?_⟩
  rw [e]
  exact ⟨.ref _, _, I.lnew (t' := s.toks) (r.append r2) (by rw [List.length_append]; omega), rfl, q _ I.fresh⟩
theorem opx_add : OpR X (binaryOp .Add) (rO X.K addD) := by
  intro pins s σ H x y v u Q I rx ry h
  obtain ⟨F, d, e, c, l, pd, pe, hf, q⟩ := h
  unfold addD at hf
  split at hf
  · cases hf
    have e1 := pd.int; have e2 := pe.int; subst e1 e2
    exact op_add pins s σ H _ _ v u Q I rx ry ⟨_, _, rfl, rfl, q _ F H (Gr.refl l) (.int _)⟩
  · rename_i xs ys
    split at hf
    · rename_i hz
      cases hf
      obtain ⟨a, vs, rfl, ha, hvs⟩ := pd.tuple l
      obtain ⟨b, ws, rfl, hb, hws⟩ := pe.tuple l
      have n1 := hvs.length
      have n2 := hws.length
      have sq := sz_eq
      refine op_catA pins s σ H _ _ v u Q I rx ry ⟨a, b, vs, ws, rfl, rfl, ha, hb, by rw [sq]; omega, fun z => ?_, fun z z2 => ?_, fun z z2 p np => ?_⟩
      · have : xs = [] := (dpAll_nil_iff hvs).mp z
        subst this
        exact q _ F H (Gr.refl l) (by
          rcases pe with pe | ⟨a', us, ds', e1, e2, _⟩
          · exact pe
          · cases e2)
      · have : ys = [] := (dpAll_nil_iff hws).mp z2
        subst this
        rw [List.append_nil] at q
        exact q _ F H (Gr.refl l) (by
          rcases pd with pd | ⟨a', us, ds', e1, e2, _⟩
          · exact pd
          · cases e2)
      · exact q _ _ _ (Gr.new l np) (Dp.new_tup (l.none np) (hvs.append hws))
    · cases hf
  · rename_i xs ys
    split at hf
    · rename_i hz
      cases hf
      obtain ⟨a, vs, rfl, ha, hvs⟩ := pd.list l
      obtain ⟨b, ws, rfl, hb, hws⟩ := pe.list l
      have n1 := hvs.length
      have n2 := hws.length
      have sq := sz_eq
      refine op_catX pins s σ H _ _ v u Q I rx ry ⟨a, b, vs, ws, rfl, rfl, ha, hb, by rw [sq]; omega, fun p np => ?_⟩
      exact q _ _ _ (Gr.new l np) (Dp.new_lst (l.none np) (hvs.append hws))
    · cases hf
  · split at hf
    · cases hf
      have e1 := pd.str; have e2 := pe.str; subst e1 e2
      exact op_add_str pins s σ H _ _ v u Q I rx ry ⟨_, _, rfl, rfl, by rw [sz_eq]; assumption, q _ F H (Gr.refl l) (.str _)⟩
    · cases hf
  · cases hf
theorem opx_sub : OpR X (binaryOp .Sub) (rO X.K subD) := by
  intro pins s σ H x y v u Q I rx ry h
  obtain ⟨F, d, e, c, l, pd, pe, hf, q⟩ := h
  unfold subD at hf
  split at hf
  · cases hf
    have e1 := pd.int; have e2 := pe.int; subst e1 e2
    exact op_sub pins s σ H _ _ v u Q I rx ry ⟨_, _, rfl, rfl, q _ F H (Gr.refl l) (.int _)⟩
  · cases hf
theorem big_log {n : Nat} (h : n < BIG) : n.log2 < 1000 := by
  unfold BIG at h
  by_cases h0 : n = 0
  · subst h0; decide
  · exact (Nat.log2_lt h0).mpr h
theorem opx_mulI {pins : List (Addr × Obj)} {s : Shared} {σ : St} {H : Hp} {i j : Int} {v u : Value} {Q : VK} (I : Inv X pins σ H s) (rx : RelV (.int i) v) (ry : RelV (.int j) u)
    (h : i.natAbs < 2 ^ 64 ∨ j.natAbs < 2 ^ 64 ∨ (i.natAbs < BIG ∧ j.natAbs < BIG)) (q : Q (.int (i * j)) H) : wpAny (model X.prog X.w) X.A (binaryOp .Mult v u) (EP X pins σ Q) X.xe s := by
  rcases h with h | h | ⟨h1, h2⟩
  · exact op_mul pins s σ H _ _ v u Q I rx ry ⟨_, _, rfl, rfl, .inl ⟨by omega, by omega⟩, q⟩
  · exact op_mul pins s σ H _ _ v u Q I rx ry ⟨_, _, rfl, rfl, .inr ⟨by omega, by omega⟩, q⟩
  · have a1 := big_log h1
    have a2 := big_log h2
    exact op_mulW pins s σ H _ _ v u Q I rx ry ⟨_, _, rfl, rfl, (by show i.natAbs.log2 + j.natAbs.log2 < 1000000; omega), q⟩
/-- a tuple, any times -/
theorem op_mulT {pins : List (Addr × Obj)} {s : Shared} {σ : St} {H : Hp} {l : Addr} {k : Int} {xs : List V} {v u : Value} {Q : VK} (I : Inv X pins σ H s) (rx : RelV (.ref l) v) (ry : RelV (.int k) u) (hT : SqT X.K H l xs) (h0 : k.natAbs < 4611686018427387904) (h1 : k ≤ 1000) (hz : xs.length ≤ 1000)
    (q0 : (xs = [] ∨ k = 1) → Q (.ref l) H) (q1 : ∀ p, H p = none → Q (.ref p) (upd H p (.tup (List.replicate k.toNat xs).flatten))) : wpAny (model X.prog X.w) X.A (binaryOp .Mult v u) (EP X pins σ Q) X.xe s := by
  by_cases hsame : xs = [] ∨ k = 1
  · cases rx
    obtain ⟨t, rfl⟩ := ry
    obtain ⟨its, r, ⟨⟨cls, dd, data, sl⟩, ho, hc, n, hd⟩, hs⟩ := I.tuple hT
    simp only at hc hd
    subst hc; subst hd
    have hle : its.length = xs.length := r.length.symm
    have c0 : (decide (k < -(2 ^ 63)) || decide (k ≥ 2 ^ 63)) = false := by
      rw [decide_eq_false (by omega), decide_eq_false (by omega)] <;> rfl
    have c1 : (its.toArray.isEmpty || k == 1) = true := by
      rcases hsame with e | e
      · rw [e] at hle
        rw [List.eq_nil_of_length_eq_zero hle]
        rfl
      · rw [e]
        simp
    exact wpAny_binaryOp_repeat_ref (T := "tuple") (U := "int") (by decide) ⟨_, ho, rfl⟩ (fun s' => typeIs_int s' k t) noFill_tuple_mul F.fills_int_mul F.slot_int_rmul repeat_tuple F.slot_int_index.lookup
      (call_meets F.slot_int_rmul (typeIs_int s k t) F.entry_int_rmul (F.args_int_rmul_2 _ _) (int_rmul_tuple k t l its.toArray n dd sl)
        ⟨ho, rfl, ⟨_, ho, rfl⟩, call_meets F.slot_tuple_mul ⟨_, ho, rfl⟩ F.entry_tuple_mul (F.args_tuple_mul_2 _ _) (mul_same l its.toArray n dd sl k t c0 c1) ⟨ho, ⟨.ref l, H, I, rfl, q0 hsame⟩⟩⟩)
  · by_cases h2 : 2 ≤ k
    · exact op_repT pins s σ H _ _ v u Q I rx ry ⟨l, k, xs, rfl, rfl, hT, fun e => hsame (.inl e), h2, h1, hz, q1⟩
    · have h3 : k ≤ 0 := by
        have : k ≠ 1 := fun e => hsame (.inr e)
        omega
      cases rx
      obtain ⟨t, rfl⟩ := ry
      obtain ⟨its, r, ⟨⟨cls, dd, data, sl⟩, ho, hc, n, hd⟩, hs⟩ := I.tuple hT
      simp only at hc hd
      subst hc; subst hd
      have hle : its.length = xs.length := r.length.symm
      have c0 : (decide (k < -(2 ^ 63)) || decide (k ≥ 2 ^ 63)) = false := by
        rw [decide_eq_false (by omega), decide_eq_false (by omega)] <;> rfl
      have c1 : (its.toArray.isEmpty || k == 1) = false := by
        have a1 : its.toArray.isEmpty = false := by
          cases its with
          | nil => exact absurd (.inl (List.eq_nil_of_length_eq_zero hle.symm)) hsame
          | cons a b => rfl
        rw [a1, Bool.false_or]
        exact beq_eq_false_iff_ne.mpr (by omega)
      have c2 : (decide (k ≤ 0) || its.toArray.isEmpty) = true := by rw [decide_eq_true h3]; rfl
      have e0 : (List.replicate k.toNat xs).flatten = [] := by rw [show k.toNat = 0 by omega]; rfl
      rw [e0] at q1
      refine wpAny_binaryOp_repeat_ref (T := "tuple") (U := "int") (by decide) ⟨_, ho, rfl⟩ (fun s' => typeIs_int s' k t) noFill_tuple_mul F.fills_int_mul F.slot_int_rmul repeat_tuple F.slot_int_index.lookup
        (call_meets F.slot_int_rmul (typeIs_int s k t) F.entry_int_rmul (F.args_int_rmul_2 _ _) (int_rmul_tuple k t l its.toArray n dd sl)
          ⟨ho, rfl, ⟨_, ho, rfl⟩, call_meets F.slot_tuple_mul ⟨_, ho, rfl⟩ F.entry_tuple_mul (F.args_tuple_mul_2 _ _) (mul_none l its.toArray n dd sl k t c0 c1 c2) ⟨ho, ?_⟩⟩)
      exact ⟨.ref s.heap.objs.size, _, I.laid (t' := s.toks) (o := .tup []) (fun b ob q => Heap.get?_push_of_some _ q) (Nat.le_refl _) ⟨Nat.zero_le _, [], .nil, IsTup.new _ _⟩, rfl, q1 _ (I.hok.fresh (Nat.le_refl _))⟩
theorem opx_mul : OpR X (binaryOp .Mult) (rO X.K mulD) := by
  intro pins s σ H x y v u Q I rx ry h
  obtain ⟨F, d, e, c, l, pd, pe, hf, q⟩ := h
  unfold mulD at hf
  split at hf
  · split at hf
    · rename_i hz
      cases hf
      have e1 := pd.int; have e2 := pe.int; subst e1 e2
      exact opx_mulI I rx ry hz (q _ F H (Gr.refl l) (.int _))
    · cases hf
  · split at hf
    · rename_i xs k hz
      cases hf
      have e2 := pe.int; subst e2
      obtain ⟨a, vs, rfl, ha, hvs⟩ := pd.tuple l
      have n1 := hvs.length
      obtain ⟨z1, z2, z3⟩ := hz
      refine op_mulT I rx ry ha z1 z2 (by omega) (fun e => ?_) fun p np => ?_
      · have e2 : (List.replicate k.toNat xs).flatten = xs := by
          rcases e with e | e
          · rw [(dpAll_nil_iff hvs).mp e]
            induction k.toNat with
            | zero => rfl
            | succ n ih => rw [List.replicate_succ, List.flatten_cons, ih]; rfl
          · rw [e]
            simp
        rw [e2] at q
        exact q _ F H (Gr.refl l) (by
          rcases pd with pd | ⟨a', us, ds', e1, e3, _⟩
          · exact pd
          · cases e3)
      · refine q _ _ _ (Gr.new l np) (Dp.new_tup (l.none np) ?_)
        clear z1 z2
        induction k.toNat with
        | zero => exact .nil
        | succ n ih =>
          rw [List.replicate_succ, List.replicate_succ, List.flatten_cons, List.flatten_cons]
          exact hvs.append ih
    · cases hf
  · cases hf
theorem opx_fdiv : OpR X (binaryOp .FloorDiv) (rO X.K fdivD) := by
  intro pins s σ H x y v u Q I rx ry h
  obtain ⟨F, d, e, c, l, pd, pe, hf, q⟩ := h
  unfold fdivD at hf
  split at hf
  · split at hf
    · rename_i hz
      cases hf
      have e1 := pd.int; have e2 := pe.int; subst e1 e2
      obtain ⟨h1, h2 | h2⟩ := hz
      · exact op_fdiv pins s σ H _ _ v u Q I rx ry ⟨_, _, rfl, rfl, ⟨h1, by omega⟩, q _ F H (Gr.refl l) (.int _)⟩
      · have a1 := big_log h2
        exact op_fdivW pins s σ H _ _ v u Q I rx ry ⟨_, _, rfl, rfl, ⟨h1, by omega⟩, q _ F H (Gr.refl l) (.int _)⟩
    · cases hf
  · cases hf
theorem opx_mod : OpR X (binaryOp .Mod) (rO X.K modD) := by
  intro pins s σ H x y v u Q I rx ry h
  obtain ⟨F, d, e, c, l, pd, pe, hf, q⟩ := h
  unfold modD at hf
  split at hf
  · split at hf
    · rename_i hz
      cases hf
      have e1 := pd.int; have e2 := pe.int; subst e1 e2
      exact op_mod pins s σ H _ _ v u Q I rx ry ⟨_, _, rfl, rfl, hz, q _ F H (Gr.refl l) (.int _)⟩
    · cases hf
  · cases hf
theorem opx_pow : OpR X (binaryOp .Pow) (rO X.K powD) := by
  intro pins s σ H x y v u Q I rx ry h
  obtain ⟨F, d, e, c, l, pd, pe, hf, q⟩ := h
  unfold powD at hf
  split at hf
  · split at hf
    · rename_i hz
      cases hf
      have e1 := pd.int; have e2 := pe.int; subst e1 e2
      exact op_pow pins s σ H _ _ v u Q I rx ry ⟨_, _, rfl, rfl, ⟨hz.1, by omega, hz.2.2⟩, q _ F H (Gr.refl l) (.int _)⟩
    · cases hf
  · cases hf
theorem unx_neg : UnR X (unaryOp .USub) (rO1 X.K negD) := by
  intro pins s σ H x v Q I rx h
  obtain ⟨F, d, c, l, pd, hf, q⟩ := h
  unfold negD at hf
  split at hf
  · cases hf
    have e1 := pd.int; subst e1
    exact un_neg pins s σ H _ v Q I rx ⟨_, rfl, q _ F H (Gr.refl l) (.int _)⟩
  · cases hf
theorem opx_eq (hu : X.A.units + 64 < cLine) : OpR X (compareOp .Eq) (rO X.K eqD) := by
  intro pins s σ H x y v u Q I rx ry h
  obtain ⟨F, d, e, c, l, pd, pe, hf, q⟩ := h
  unfold eqD at hf
  split at hf
  · rename_i hz
    cases hf
    obtain ⟨as, r1⟩ := Dp.reads I d x v (pd.dp l) rx
    obtain ⟨bs, r2⟩ := Dp.reads I e y u (pe.dp l) ry
    exact SeqAt.eq_plain r1 r2 (shp_un hz.1).1 (shp_un hz.2).1 (by have := (shp_un hz.1).2; have := Nat.min_le_left d.depth e.depth; omega) ⟨.bl _, H, I, rfl, q _ F H (Gr.refl l) (.bl _)⟩
  · cases hf
theorem opx_ne (hu : X.A.units + 64 < cLine) : OpR X (compareOp .NotEq) (rO X.K neD) := by
  intro pins s σ H x y v u Q I rx ry h
  obtain ⟨F, d, e, c, l, pd, pe, hf, q⟩ := h
  unfold neD at hf
  split at hf
  · rename_i hz
    cases hf
    obtain ⟨as, r1⟩ := Dp.reads I d x v (pd.dp l) rx
    obtain ⟨bs, r2⟩ := Dp.reads I e y u (pe.dp l) ry
    exact SeqAt.ne_plain r1 r2 (shp_un hz.1).1 (shp_un hz.2).1 (by have := (shp_un hz.1).2; have := Nat.min_le_left d.depth e.depth; omega) ⟨.bl _, H, I, rfl, q _ F H (Gr.refl l) (.bl _)⟩
  · cases hf
theorem cmpOk_un {d e : PyData} (h : cmpOk d e = true) : PySem.W.alike d e = true ∧ d ≠ .none ∧ d.depth ≤ 64 := by
  unfold cmpOk at h
  simp only [Bool.and_eq_true, decide_eq_true_eq] at h
  obtain ⟨⟨h1, h2⟩, h3⟩ := h
  refine ⟨h1, fun z => ?_, h3⟩
  subst z
  cases h2
theorem opx_lt (hu : X.A.units + 64 < cLine) : OpR X (compareOp .Lt) (rO X.K ltD) := by
  intro pins s σ H x y v u Q I rx ry h
  obtain ⟨F, d, e, c, l, pd, pe, hf, q⟩ := h
  unfold ltD at hf
  split at hf
  · cases hf
    have e1 := pd.int; have e2 := pe.int; subst e1 e2
    exact op_lt pins s σ H _ _ v u Q I rx ry ⟨_, _, rfl, rfl, q _ F H (Gr.refl l) (.bl _)⟩
  · split at hf
    · rename_i hz
      cases hf
      obtain ⟨z1, z2, z3⟩ := cmpOk_un hz
      obtain ⟨as, r1⟩ := Dp.reads I d x v (pd.dp l) rx
      obtain ⟨bs, r2⟩ := Dp.reads I e y u (pe.dp l) ry
      exact PySem.W.lt_data r1 r2 z1 z2 (by have := Nat.min_le_left d.depth e.depth; omega) ⟨.bl _, H, I, rfl, q _ F H (Gr.refl l) (.bl _)⟩
    · cases hf
theorem opx_gt (hu : X.A.units + 64 < cLine) : OpR X (compareOp .Gt) (rO X.K gtD) := by
  intro pins s σ H x y v u Q I rx ry h
  obtain ⟨F, d, e, c, l, pd, pe, hf, q⟩ := h
  unfold gtD at hf
  split at hf
  · cases hf
    have e1 := pd.int; have e2 := pe.int; subst e1 e2
    exact op_gt pins s σ H _ _ v u Q I rx ry ⟨_, _, rfl, rfl, q _ F H (Gr.refl l) (.bl _)⟩
  · split at hf
    · rename_i hz
      cases hf
      obtain ⟨z1, z2, z3⟩ := cmpOk_un hz
      obtain ⟨as, r1⟩ := Dp.reads I d x v (pd.dp l) rx
      obtain ⟨bs, r2⟩ := Dp.reads I e y u (pe.dp l) ry
      exact PySem.W.gt_data r1 r2 z1 z2 (by have := Nat.min_le_left d.depth e.depth; omega) ⟨.bl _, H, I, rfl, q _ F H (Gr.refl l) (.bl _)⟩
    · cases hf
theorem opx_le (hu : X.A.units + 64 < cLine) : OpR X (compareOp .LtE) (rO X.K leD) := by
  intro pins s σ H x y v u Q I rx ry h
  obtain ⟨F, d, e, c, l, pd, pe, hf, q⟩ := h
  unfold leD at hf
  split at hf
  · cases hf
    have e1 := pd.int; have e2 := pe.int; subst e1 e2
    exact op_le pins s σ H _ _ v u Q I rx ry ⟨_, _, rfl, rfl, q _ F H (Gr.refl l) (.bl _)⟩
  · split at hf
    · rename_i hz
      cases hf
      obtain ⟨z1, z2, z3⟩ := cmpOk_un hz
      obtain ⟨as, r1⟩ := Dp.reads I d x v (pd.dp l) rx
      obtain ⟨bs, r2⟩ := Dp.reads I e y u (pe.dp l) ry
      exact PySem.W.le_data r1 r2 z1 z2 (by have := Nat.min_le_left d.depth e.depth; omega) ⟨.bl _, H, I, rfl, q _ F H (Gr.refl l) (.bl _)⟩
    · cases hf
theorem opx_ge (hu : X.A.units + 64 < cLine) : OpR X (compareOp .GtE) (rO X.K geD) := by
  intro pins s σ H x y v u Q I rx ry h
  obtain ⟨F, d, e, c, l, pd, pe, hf, q⟩ := h
  unfold geD at hf
  split at hf
  · cases hf
    have e1 := pd.int; have e2 := pe.int; subst e1 e2
    exact op_ge pins s σ H _ _ v u Q I rx ry ⟨_, _, rfl, rfl, q _ F H (Gr.refl l) (.bl _)⟩
  · split at hf
    · rename_i hz
      cases hf
      obtain ⟨z1, z2, z3⟩ := cmpOk_un hz
      obtain ⟨as, r1⟩ := Dp.reads I d x v (pd.dp l) rx
      obtain ⟨bs, r2⟩ := Dp.reads I e y u (pe.dp l) ry
      exact PySem.W.ge_data r1 r2 z1 z2 (by have := Nat.min_le_left d.depth e.depth; omega) ⟨.bl _, H, I, rfl, q _ F H (Gr.refl l) (.bl _)⟩
    · cases hf
theorem pB.non_iff {K : PySem.W.Frag} {H0 F H : Hp} {v : V} {d : PyData} (h : pB K H0 F H v d) : decide (v = .non) = isN d := by
  rcases h with h | ⟨a, vs, ds, rfl, rfl, _⟩
  · cases h <;> simp [isN]
  · simp [isN]
theorem opx_is : OpR X (compareOp .Is) (rO X.K isNoneD) := by
  intro pins s σ H x y v u Q I rx ry h
  obtain ⟨F, d, e, c, l, pd, pe, hf, q⟩ := h
  unfold isNoneD at hf
  split at hf
  · cases hf
    have e2 := pe.none; subst e2
    refine op_isN pins s σ H _ _ v u Q I rx ry ⟨rfl, ?_⟩
    rw [pd.non_iff]
    exact q _ F H (Gr.refl l) (.bl _)
  · cases hf
theorem opx_isnot : OpR X (compareOp .IsNot) (rO X.K notNoneD) := by
  intro pins s σ H x y v u Q I rx ry h
  obtain ⟨F, d, e, c, l, pd, pe, hf, q⟩ := h
  unfold notNoneD at hf
  split at hf
  · cases hf
    have e2 := pe.none; subst e2
    refine op_notN pins s σ H _ _ v u Q I rx ry ⟨rfl, ?_⟩
    rw [pd.non_iff]
    exact q _ F H (Gr.refl l) (.bl _)
  · cases hf
theorem room_shp {A : Around} {n : Nat} {d : PyData} (h : shp d = true) (hu : A.units + 65 < cLine) : A.units + 1 + min n d.depth < cLine := by
  have := (shp_un h).2
  have := Nat.min_le_right n d.depth
  omega
theorem opx_in (hu : X.A.units + 65 < cLine) : OpR X (compareOp .In) (rO X.K inD) := by
  intro pins s σ H x y v u Q I rx ry h
  obtain ⟨F, d, e, c, l, pd, pe, hf, q⟩ := h
  unfold inD at hf
  split at hf
  · split at hf
    · rename_i ds hz
      cases hf
      obtain ⟨as, r1⟩ := Dp.reads I _ x v (pd.dp l) rx
      obtain ⟨bs, r2⟩ := Dp.reads I (.list ds) y u (pe.dp l) ry
      exact SeqAt.in_list_data r2 r1 (by have := (shp_un hz.2).1; simpa only [PyData.plain] using this) (shp_un hz.1).1 (room_shp hz.1 hu) ⟨.bl _, H, I, rfl, q _ F H (Gr.refl l) (.bl _)⟩
    · cases hf
  · split at hf
    · rename_i ds hz
      cases hf
      obtain ⟨as, r1⟩ := Dp.reads I _ x v (pd.dp l) rx
      obtain ⟨bs, r2⟩ := Dp.reads I (.tuple ds) y u (pe.dp l) ry
      exact SeqAt.in_tuple_data r2 r1 (by have := (shp_un hz.2).1; simpa only [PyData.plain] using this) (shp_un hz.1).1 (room_shp hz.1 hu) ⟨.bl _, H, I, rfl, q _ F H (Gr.refl l) (.bl _)⟩
    · cases hf
  · cases hf
    have e1 := pd.str; have e2 := pe.str; subst e1 e2
    exact op_in_str pins s σ H _ _ v u Q I rx ry ⟨_, _, rfl, rfl, q _ F H (Gr.refl l) (.bl _)⟩
  · cases hf
theorem opx_notin (hu : X.A.units + 65 < cLine) : OpR X (compareOp .NotIn) (rO X.K notInD) := by
  intro pins s σ H x y v u Q I rx ry h
  obtain ⟨F, d, e, c, l, pd, pe, hf, q⟩ := h
  unfold notInD at hf
  split at hf
  · split at hf
    · rename_i ds hz
      cases hf
      obtain ⟨as, r1⟩ := Dp.reads I _ x v (pd.dp l) rx
      obtain ⟨bs, r2⟩ := Dp.reads I (.list ds) y u (pe.dp l) ry
      exact SeqAt.notIn_list_data r2 r1 (by have := (shp_un hz.2).1; simpa only [PyData.plain] using this) (shp_un hz.1).1 (room_shp hz.1 hu) ⟨.bl _, H, I, rfl, q _ F H (Gr.refl l) (.bl _)⟩
    · cases hf
  · split at hf
    · rename_i ds hz
      cases hf
      obtain ⟨as, r1⟩ := Dp.reads I _ x v (pd.dp l) rx
      obtain ⟨bs, r2⟩ := Dp.reads I (.tuple ds) y u (pe.dp l) ry
      exact SeqAt.notIn_tuple_data r2 r1 (by have := (shp_un hz.2).1; simpa only [PyData.plain] using this) (shp_un hz.1).1 (room_shp hz.1 hu) ⟨.bl _, H, I, rfl, q _ F H (Gr.refl l) (.bl _)⟩
    · cases hf
  · cases hf
    have e1 := pd.str; have e2 := pe.str; subst e1 e2
    exact op_notin_str pins s σ H _ _ v u Q I rx ry ⟨_, _, rfl, rfl, q _ F H (Gr.refl l) (.bl _)⟩
  · cases hf
theorem atI_dp {K : PySem.W.Frag} {F : Hp} {vs : List V} {ds : List PyData} {i : Int} {c : PyData} (h : DpAll K F vs ds) (e : atI ds i = some c) : ∃ v, atI vs i = some v ∧ Dp K F v c := by
  unfold atI at e ⊢
  rw [h.length]
  cases q : ixN ds.length i with
  | none => rw [q] at e; cases e
  | some j =>
    rw [q] at e
    exact h.get e
theorem opx_ix : IxR X (rO X.K ixD) := by
  intro value slice pins s σ H x y v u Q I rx ry h hs
  obtain ⟨F, d, e, c, l, pd, pe, hf, q⟩ := h
  unfold ixD at hf
  split at hf
  · split at hf
    · rename_i he
      cases hf
      have e2 := pe.int; subst e2
      obtain ⟨a, vs, rfl, ha, hvs⟩ := pd.list l
      obtain ⟨w, hw, hd⟩ := atI_dp hvs he
      exact ix_list value slice pins s σ H _ _ v u Q I rx ry ⟨a, vs, _, w, rfl, rfl, ha, hw, q _ F H (Gr.refl l) hd⟩ hs
    · cases hf
  · split at hf
    · rename_i he
      cases hf
      have e2 := pe.int; subst e2
      obtain ⟨a, vs, rfl, ha, hvs⟩ := pd.tuple l
      obtain ⟨w, hw, hd⟩ := atI_dp hvs he
      exact ix_tup value slice pins s σ H _ _ v u Q I rx ry ⟨a, vs, _, w, rfl, rfl, ha, hw, q _ F H (Gr.refl l) hd⟩ hs
    · cases hf
  · split at hf
    · split at hf
      · rename_i he
        cases hf
        have e1 := pd.str; have e2 := pe.int; subst e1 e2
        exact ix_str value slice pins s σ H _ _ v u Q I rx ry ⟨_, _, _, rfl, rfl, by rw [sz_eq]; assumption, he, q _ F H (Gr.refl l) (.str _)⟩ hs
      · cases hf
    · cases hf
  · cases hf
end
end PD
namespace PD
open PySem PySem.Spec PyProof.Rows L2
section
variable {X : Cx} {We : EW} {e a b c : Expr} {es rest : List Expr} {pos : Pos}
/-! ## tests -/
def boolD : PyData → R Bool
  | .bool b => .ok b
  | _ => .bad
def tvE (m : Ev → R PyData) (ρ : Ev) : R Bool := (m ρ).bind boolD
theorem boolD_ok {d : PyData} {b : Bool} (h : boolD d = .ok b) : d = .bool b := by
  unfold boolD at h
  split at h
  · cases h; rfl
  · cases h
theorem boolD_p (d : PyData) (c : String) : boolD d ≠ .err c := fun h => by
  unfold boolD at h
  split at h <;> cases h
/-- a value that is a bool, read as a test -/
theorem tv_test {m : Ev → R PyData} {σ : St} {H : Hp} {Q : Bool → Hp → Prop} (h : tM X.K We pT (tvE m) σ H Q) : tM X.K We (pD X.K) m σ H fun x H1 => ∃ k, x = .bl k ∧ Q k H1 := by
  obtain ⟨ρ, F, G, r, h⟩ := h
  refine ⟨ρ, F, G, r, Po.bind (P := pD X.K) h fun d x F1 H1 g1 p1 q1 => ?_⟩
  cases hb : boolD d with
  | ok b =>
    rw [hb] at q1
    have e := boolD_ok hb
    subst e
    cases p1
    exact ⟨b, rfl, q1 b F1 H1 (Gr.refl g1.le) rfl⟩
  | err c => exact absurd hb (boolD_p d c)
  | bad => rw [hb] at q1; exact q1.elim
theorem xt_val {m : Ev → R PyData} (h : XE X We e m) (he : ∀ whole, isTrue e X.env whole = (do let v ← whole; standAt e.pos; holding [v] (truthy v))) : XT X We e (tvE m) :=
  pt_imp (pt_val h he) fun σ H Q q => tv_test q
theorem xt_cmp {op : CmpOp} {f : PyData → PyData → R PyData} {ma mb : Ev → R PyData} (pf : Pure2 f) (ho : OpR X (compareOp op) (rO X.K f)) (h1 : behindInMarks op b = false) (ha : XB X We a ma) (hb : XB X We b mb) : XT X We (.Compare a [op] [b] pos) (tvE (op2 f ma mb)) :=
  pt_imp (pt_cmpR ho ha hb h1) fun σ H Q q => tO2 pf (tv_test q)
def chainE (f g : PyData → PyData → R PyData) (ma mb mc : Ev → R PyData) (ρ : Ev) : R PyData :=
  (ma ρ).bind fun x => (mb ρ).bind fun y => (f x y).bind fun k => (boolD k).bind fun t => if t = true then (mc ρ).bind fun z => g y z else .ok (.bool false)
theorem chain_red {f g : PyData → PyData → R PyData} {ma mb mc : Ev → R PyData} (pf : Pure2 f) (pg : Pure2 g) {σ : St} {H : Hp} {Q : VK} (q : tM X.K We (pD X.K) (chainE f g ma mb mc) σ H Q) :
    tChain (rO X.K f) (rO X.K g) (tM X.K We (pB X.K) ma) (tM X.K We (pB X.K) mb) (tM X.K We (pB X.K) mc) σ H Q := by
  obtain ⟨ρ, F, G, r, q⟩ := q
  refine ⟨ρ, F, G, r, Po.bind (P := pB X.K) q fun d x F1 H1 g1 p1 q1 => ?_⟩
  refine ⟨ρ, F1, _, (r.grow g1).1, Po.bind (P := pB X.K) q1 fun e y F2 H2 g2 p2 q2 => ?_⟩
  have r2 := (((r.grow g1).1).grow g2).1
  cases hf : f d e with
  | err c => exact absurd hf (pf d e c)
  | bad => rw [hf] at q2; exact q2.elim
  | ok k =>
    rw [hf] at q2
    refine ⟨F2, d, e, k, g2.le, p1.grow g2, p2, hf, fun v F' H' g' pv => ?_⟩
    have q3 : Po We (pD X.K) F2 H2 σ ((boolD k).bind fun t => if t = true then (mc ρ).bind fun z => g e z else .ok (.bool false)) Q := q2
    cases hb : boolD k with
    | err c => exact absurd hb (boolD_p k c)
    | bad => rw [hb] at q3; exact q3.elim
    | ok t =>
      have ek := boolD_ok hb
      subst ek
      cases pv
      refine ⟨t, rfl, ?_⟩
      rw [hb] at q3
      have q4 : Po We (pD X.K) F' H' σ (if t = true then (mc ρ).bind fun z => g e z else .ok (.bool false)) Q := Po.step g' q3
      cases t with
      | false => exact q4 (.bl false) F' H' (Gr.refl g'.le) (.bl false)
      | true =>
        refine ⟨ρ, F', _, (r2.grow g').1, Po.bind (P := pB X.K) q4 fun z w F3 H3 g3 p3 q5 => ?_⟩
        cases hg : g e z with
        | err c => exact absurd hg (pg e z c)
        | bad => rw [hg] at q5; exact q5.elim
        | ok u =>
          rw [hg] at q5
          exact ⟨F3, e, z, u, g3.le, (p2.grow g').grow g3, p3, hg, fun v F'' H'' gg pp => q5 v F'' H'' gg pp⟩
theorem xe_chain {op op' : CmpOp} {f g : PyData → PyData → R PyData} {ma mb mc : Ev → R PyData} (pf : Pure2 f) (pg : Pure2 g) (ho : OpR X (compareOp op) (rO X.K f)) (ho' : OpR X (compareOp op') (rO X.K g))
    (ha : XB X We a ma) (hb : XB X We b mb) (hc : XB X We c mc) (hm : lastMarks [op, op'] [b, c] = false) : XE X We (.Compare a [op, op'] [b, c] pos) (chainE f g ma mb mc) :=
  pe_imp (pe_chain ho ho' ha hb hc hm) fun σ H Q q => chain_red pf pg q
theorem xt_chain {op op' : CmpOp} {f g : PyData → PyData → R PyData} {ma mb mc : Ev → R PyData} (pf : Pure2 f) (pg : Pure2 g) (ho : OpR X (compareOp op) (rO X.K f)) (ho' : OpR X (compareOp op') (rO X.K g))
    (ha : XB X We a ma) (hb : XB X We b mb) (hc : XB X We c mc) (hm : lastMarks [op, op'] [b, c] = false) : XT X We (.Compare a [op, op'] [b, c] pos) (tvE (chainE f g ma mb mc)) :=
  pt_imp (pt_chain ho ho' ha hb hc hm) fun σ H Q q => chain_red pf pg (tv_test q)
def andT (ma mb : Ev → R Bool) (ρ : Ev) : R Bool := (ma ρ).bind fun t => if t = true then mb ρ else .ok false
def orT (ma mb : Ev → R Bool) (ρ : Ev) : R Bool := (ma ρ).bind fun t => if t = true then .ok true else mb ρ
def notT (ma : Ev → R Bool) (ρ : Ev) : R Bool := (ma ρ).bind fun t => .ok (!t)
theorem xw_and1 {ma : Ev → R Bool} (ha : XT X We a ma) : XW X We (.BoolOp .And [a] pos) ma := pw_and1 ha
theorem xw_or1 {ma : Ev → R Bool} (ha : XT X We a ma) : XW X We (.BoolOp .Or [a] pos) ma := pw_or1 ha
theorem xw_and {ma mb : Ev → R Bool} (ha : XT X We a ma) (hb : XW X We (.BoolOp .And (b :: rest) pos) mb) : XW X We (.BoolOp .And (a :: b :: rest) pos) (andT ma mb) := by
  refine pw_imp (pw_and ha hb) fun σ H Q q => ?_
  obtain ⟨ρ, F, G, r, q⟩ := q
  refine ⟨ρ, F, G, r, Po.bind (P := pT) q fun k _ F1 H1 g1 p1 q1 => ?_⟩
  cases p1
  cases k with
  | true => exact ⟨ρ, F1, _, (r.grow g1).1, q1⟩
  | false => exact q1 false F1 H1 (Gr.refl g1.le) rfl
theorem xw_or {ma mb : Ev → R Bool} (ha : XT X We a ma) (hb : XW X We (.BoolOp .Or (b :: rest) pos) mb) : XW X We (.BoolOp .Or (a :: b :: rest) pos) (orT ma mb) := by
  refine pw_imp (pw_or ha hb) fun σ H Q q => ?_
  obtain ⟨ρ, F, G, r, q⟩ := q
  refine ⟨ρ, F, G, r, Po.bind (P := pT) q fun k _ F1 H1 g1 p1 q1 => ?_⟩
  cases p1
  cases k with
  | true => exact q1 true F1 H1 (Gr.refl g1.le) rfl
  | false => exact ⟨ρ, F1, _, (r.grow g1).1, q1⟩
theorem xt_w {m : Ev → R Bool} (h : XW X We e m) : XT X We e m := h.pt
theorem xt_not {ma : Ev → R Bool} (ha : XT X We a ma) : XT X We (.UnaryOp .Not a pos) (notT ma) := by
  refine pt_imp (pt_not ha) fun σ H Q q => ?_
  obtain ⟨ρ, F, G, r, q⟩ := q
  refine ⟨ρ, F, G, r, Po.bind (P := pT) q fun k _ F1 H1 g1 p1 q1 => ?_⟩
  cases p1
  exact q1 (!k) F1 H1 (Gr.refl g1.le) rfl
/-! as values -/
def andE (ma mb : Ev → R PyData) (ρ : Ev) : R PyData := (ma ρ).bind fun d => (boolD d).bind fun t => if t = true then mb ρ else .ok (.bool false)
def orE (ma mb : Ev → R PyData) (ρ : Ev) : R PyData := (ma ρ).bind fun d => (boolD d).bind fun t => if t = true then .ok (.bool true) else mb ρ
def notE (ma : Ev → R PyData) (ρ : Ev) : R PyData := (ma ρ).bind fun d => (boolD d).bind fun t => .ok (.bool (!t))
theorem Po.bool {α δ : Type} {P2 : PR δ α} {F H : Hp} {σ : St} {d : PyData} {f : Bool → R α} {Q : δ → Hp → Prop} {v : V} (h : Po We P2 F H σ ((boolD d).bind f) Q) (p : Dp X.K F v d) : ∃ t, v = .bl t ∧ Po We P2 F H σ (f t) Q := by
  cases hb : boolD d with
  | err c => exact absurd hb (boolD_p d c)
  | bad => rw [hb] at h; exact h.elim
  | ok t =>
    have ek := boolD_ok hb
    subst ek
    cases p
    rw [hb] at h
    exact ⟨t, rfl, h⟩
theorem xe_one {op} {m : Ev → R PyData} (h : XE X We a m) : XE X We (.BoolOp op [a] pos) m := pe_one h
theorem xe_and {ma mb : Ev → R PyData} (ha : XE X We a ma) (hb : XE X We (.BoolOp .And (b :: rest) pos) mb) : XE X We (.BoolOp .And (a :: b :: rest) pos) (andE ma mb) := by
  refine pe_imp (pe_and ha hb) fun σ H Q q => ?_
  obtain ⟨ρ, F, G, r, q⟩ := q
  refine ⟨ρ, F, G, r, Po.bind (P := pD X.K) q fun d x F1 H1 g1 p1 q1 => ?_⟩
  obtain ⟨t, rfl, q2⟩ := Po.bool q1 p1
  refine ⟨t, rfl, ?_⟩
  cases t with
  | true => exact ⟨ρ, F1, _, (r.grow g1).1, q2⟩
  | false => exact q2 (.bl false) F1 H1 (Gr.refl g1.le) (.bl false)
theorem xe_or {ma mb : Ev → R PyData} (ha : XE X We a ma) (hb : XE X We (.BoolOp .Or (b :: rest) pos) mb) : XE X We (.BoolOp .Or (a :: b :: rest) pos) (orE ma mb) := by
  refine pe_imp (pe_or ha hb) fun σ H Q q => ?_
  obtain ⟨ρ, F, G, r, q⟩ := q
  refine ⟨ρ, F, G, r, Po.bind (P := pD X.K) q fun d x F1 H1 g1 p1 q1 => ?_⟩
  obtain ⟨t, rfl, q2⟩ := Po.bool q1 p1
  refine ⟨t, rfl, ?_⟩
  cases t with
  | true => exact q2 (.bl true) F1 H1 (Gr.refl g1.le) (.bl true)
  | false => exact ⟨ρ, F1, _, (r.grow g1).1, q2⟩
theorem xe_not {ma : Ev → R PyData} (ha : XE X We a ma) : XE X We (.UnaryOp .Not a pos) (notE ma) := by
  refine pe_imp (pe_not ha) fun σ H Q q => ?_
  obtain ⟨ρ, F, G, r, q⟩ := q
  refine ⟨ρ, F, G, r, Po.bind (P := pD X.K) q fun d x F1 H1 g1 p1 q1 => ?_⟩
  obtain ⟨t, rfl, q2⟩ := Po.bool q1 p1
  exact ⟨t, rfl, q2 (.bl (!t)) F1 H1 (Gr.refl g1.le) (.bl (!t))⟩
def ifE (mc : Ev → R Bool) (ma mb : Ev → R PyData) (ρ : Ev) : R PyData := (mc ρ).bind fun t => if t = true then ma ρ else mb ρ
theorem x_if {P : PR V PyData} [Anti P] {mc : Ev → R Bool} {ma mb : Ev → R PyData} (hc : XT X We c mc) (ha : PE X a (tM X.K We P ma)) (hb : PE X b (tM X.K We P mb)) : PE X (.IfExp c a b pos) (tM X.K We P (ifE mc ma mb)) := by
  refine pe_imp (pe_ifExp hc ha hb) fun σ H Q q => ?_
  obtain ⟨ρ, F, G, r, q⟩ := q
  refine ⟨ρ, F, G, r, Po.bind (P := pT) q fun k _ F1 H1 g1 p1 q1 => ?_⟩
  cases p1
  cases k with
  | true => exact ⟨ρ, F1, _, (r.grow g1).1, q1⟩
  | false => exact ⟨ρ, F1, _, (r.grow g1).1, q1⟩
theorem xe_if {mc : Ev → R Bool} {ma mb : Ev → R PyData} (hc : XT X We c mc) (ha : XE X We a ma) (hb : XE X We b mb) : XE X We (.IfExp c a b pos) (ifE mc ma mb) := x_if hc ha hb
/-! ## arguments, displays -/
def nilA (_ : Ev) : R (List PyData) := .ok []
def consA (ma : Ev → R PyData) (mr : Ev → R (List PyData)) (ρ : Ev) : R (List PyData) := (ma ρ).bind fun d => (mr ρ).bind fun ds => .ok (d :: ds)
theorem xa_nil : XA X We [] nilA := pa_imp pa_nil fun σ H Q q => by
  obtain ⟨ρ, F, G, r, q⟩ := q
  exact q [] F H (Gr.refl r.fh) .nil
theorem xa_cons {ma : Ev → R PyData} {mr : Ev → R (List PyData)} (ha : XE X We e ma) (hr : XA X We es mr) (hs : starEach (e :: es) X.env = (false, eval e X.env) :: starEach es X.env) : XA X We (e :: es) (consA ma mr) := by
  refine pa_imp (pa_cons ha hr hs) fun σ H Q q => ?_
  obtain ⟨ρ, F, G, r, q⟩ := q
  refine ⟨ρ, F, G, r, Po.bind (P := pD X.K) q fun d x F1 H1 g1 p1 q1 => ?_⟩
  refine ⟨ρ, F1, _, (r.grow g1).1, Po.bind (P := pA X.K) q1 fun ds xs F2 H2 g2 p2 q2 => ?_⟩
  exact q2 (x :: xs) F2 H2 (Gr.refl g2.le) (.cons (p1.le g2.f) p2)
theorem xab_nil : XAB X We [] nilA := pa_imp pa_nil fun σ H Q q => by
  obtain ⟨ρ, F, G, r, q⟩ := q
  exact q [] F H (Gr.refl r.fh) .nil
theorem xab_cons {ma : Ev → R PyData} {mr : Ev → R (List PyData)} (ha : XB X We e ma) (hr : XAB X We es mr) (hs : starEach (e :: es) X.env = (false, eval e X.env) :: starEach es X.env) : XAB X We (e :: es) (consA ma mr) := by
  refine pa_imp (pa_cons ha hr hs) fun σ H Q q => ?_
  obtain ⟨ρ, F, G, r, q⟩ := q
  refine ⟨ρ, F, G, r, Po.bind (P := pB X.K) q fun d x F1 H1 g1 p1 q1 => ?_⟩
  refine ⟨ρ, F1, _, (r.grow g1).1, Po.bind (P := pAB X.K) q1 fun ds xs F2 H2 g2 p2 q2 => ?_⟩
  exact q2 (x :: xs) F2 H2 (Gr.refl g2.le) (.cons (p1.grow g2) p2)
def tupE (m : Ev → R (List PyData)) (ρ : Ev) : R PyData := (m ρ).bind fun ds => if ds.length ≤ SZ then .ok (.tuple ds) else .bad
def lstE (m : Ev → R (List PyData)) (ρ : Ev) : R PyData := (m ρ).bind fun ds => if ds.length ≤ SZ then .ok (.list ds) else .bad
theorem xe_tup {x1} {m : Ev → R (List PyData)} (h : XA X We es m) : XE X We (.Tuple es x1 pos) (tupE m) := by
  refine pe_imp (pe_tup h) fun σ H Q q => ?_
  obtain ⟨ρ, F, G, r, q⟩ := q
  refine ⟨ρ, F, G, r, Po.bind (P := pA X.K) q fun ds xs F1 H1 g1 p1 q1 => ?_⟩
  split at q1
  · have hl := DpAll.length p1
    have sq := sz_eq
    refine ⟨by rw [sq]; omega, fun p np => ?_⟩
    exact q1 _ _ _ (Gr.new g1.le np) (Dp.new_tup (g1.le.none np) p1)
  · exact q1.elim
theorem xf_lst {m : Ev → R (List PyData)} (h : XA X We es m) : XF X We (.List es pos) (lstE m) := by
  refine pe_imp (pe_lst h) fun σ H Q q => ?_
  obtain ⟨ρ, F, G, r, q⟩ := q
  refine ⟨ρ, F, G, r, Po.bind (P := pA X.K) q fun ds xs F1 H1 g1 p1 q1 => ?_⟩
  split at q1
  · have hl := DpAll.length p1
    have sq := sz_eq
    refine ⟨by rw [sq]; omega, fun p np => ?_⟩
    exact q1 _ _ _ (Gr.own g1.le np) ⟨p, xs, ds, rfl, rfl, np, g1.le.none np, upd_same, p1⟩
  · exact q1.elim
/-! ## items, slices -/
theorem xe_ix {ma mb : Ev → R PyData} (ha : XB X We a ma) (hb : XB X We b mb) (hs : PlainIx b) : XE X We (.Subscript a b pos) (op2 ixD ma mb) :=
  pe_imp (pe_ix opx_ix ha hb hs) fun σ H Q q => tO2 ixD_p q
def cutL {α : Type} (xs : List α) (lo hi : Option Int) : List α := (xs.drop (HT.sIx xs.length 0 lo)).take (HT.sIx xs.length xs.length hi - HT.sIx xs.length 0 lo)
def slD (lo hi : Option Int) : PyData → R PyData
  | .list xs => .ok (.list (cutL xs lo hi))
  | .tuple xs => .ok (.tuple (cutL xs lo hi))
  | .str z => if z.length ≤ SZ then .ok (.str (cutS z lo hi)) else .bad
  | _ => .bad
/-- a slice's part -/
def pNo (_ : Ev) : R (Option Int) := .ok none
def intD : PyData → R (Option Int)
  | .int i => .ok (some i)
  | _ => .bad
def pAt (m : Ev → R PyData) (ρ : Ev) : R (Option Int) := (m ρ).bind intD
def pO : PR (Option Int) (Option Int) := fun _ _ _ a b => a = b
instance : Anti pO := ⟨fun _ _ _ _ _ _ _ h => h⟩
abbrev XO (X : Cx) (We : EW) (e : Option Expr) (m : Ev → R (Option Int)) : Prop := PO X e (tM X.K We pO m)
theorem po_imp {e : Option Expr} {t u : TO} (h : PO X e t) (k : ∀ σ H Q, u σ H Q → t σ H Q) : PO X e u := ⟨fun pins s σ H Q I q => h.run pins s σ H Q I (k σ H Q q)⟩
theorem xo_no : XO X We none pNo := po_imp po_none fun σ H Q q => by
  obtain ⟨ρ, F, G, r, q⟩ := q
  exact q none F H (Gr.refl r.fh) rfl
theorem xo_at {m : Ev → R PyData} (h : XB X We e m) : XO X We (some e) (pAt m) := po_imp (po_some h) fun σ H Q q => by
  obtain ⟨ρ, F, G, r, q⟩ := q
  refine ⟨ρ, F, G, r, Po.bind (P := pB X.K) q fun d x F1 H1 g1 p1 q1 => ?_⟩
  unfold intD at q1
  split at q1
  · have e := p1.int
    subst e
    exact ⟨_, rfl, q1 _ F1 H1 (Gr.refl g1.le) rfl⟩
  · exact q1.elim
def slE (ma : Ev → R PyData) (ml mh : Ev → R (Option Int)) (ρ : Ev) : R PyData := (ma ρ).bind fun x => (ml ρ).bind fun lo => (mh ρ).bind fun hi => slD lo hi x
theorem cutV_dp {K : PySem.W.Frag} {F : Hp} {vs : List V} {ds : List PyData} (h : DpAll K F vs ds) (lo hi : Option Int) : DpAll K F (cutV vs lo hi) (cutL ds lo hi) := by
  unfold cutV cutL
  rw [h.length]
  exact (h.drop _).take _
def rSlD (K : PySem.W.Frag) : V → Option Int → Option Int → Hp → VK → Prop := fun x lo hi H Q => ∃ F d c, Le F H ∧ pB K H F H x d ∧ slD lo hi d = .ok c ∧ ∀ v F' H', Gr F H F' H' → Dp K F' v c → Q v H'
theorem slx : SlR X (rSlD X.K) := by
  intro pins s σ H x v vl vu lo hi sl Q I rx hs pl pu h
  obtain ⟨F, d, c, l, pd, hf, q⟩ := h
  unfold slD at hf
  split at hf
  · cases hf
    obtain ⟨a, vs, rfl, ha, hvs⟩ := pd.list l
    exact sl_list pins s σ H _ v vl vu lo hi sl Q I rx hs pl pu ⟨a, vs, rfl, ha, fun p np => q _ _ _ (Gr.new l np) (Dp.new_lst (l.none np) (cutV_dp hvs lo hi))⟩
  · cases hf
    obtain ⟨a, vs, rfl, ha, hvs⟩ := pd.tuple l
    refine sl_tupA pins s σ H _ v vl vu lo hi sl Q I rx hs pl pu ⟨a, vs, rfl, ha, fun z => ?_, fun z p np => q _ _ _ (Gr.new l np) (Dp.new_tup (l.none np) (cutV_dp hvs lo hi))⟩
    rename_i xs
    have e : cutL xs lo hi = xs := by
      unfold cutL
      rw [hvs.length] at z
      rw [z.1, z.2, List.drop_zero, Nat.sub_zero, List.take_length]
    rw [e] at q
    exact q _ F H (Gr.refl l) (by
      rcases pd with pd | ⟨a', us, ds', e1, e2, _⟩
      · exact pd
      · cases e2)
  · split at hf
    · cases hf
      have e1 := pd.str; subst e1
      exact sl_str pins s σ H _ v vl vu lo hi sl Q I rx hs pl pu ⟨_, rfl, by rw [sz_eq]; assumption, q _ F H (Gr.refl l) (.str _)⟩
    · cases hf
  · cases hf
theorem slD_p (lo hi : Option Int) (d : PyData) (c : String) : slD lo hi d ≠ .err c := fun h => by
  unfold slD at h
  split at h
  · cases h
  · cases h
  · split at h <;> cases h
  · cases h
theorem xe_sl {lo hi : Option Expr} {p2 : Pos} {ma : Ev → R PyData} {ml mh : Ev → R (Option Int)} (ha : XB X We a ma) (hl : XO X We lo ml) (hh : XO X We hi mh) : XE X We (.Subscript a (.Slice lo hi none p2) pos) (slE ma ml mh) := by
  refine pe_imp (pe_slice slx ha hl hh) fun σ H Q q => ?_
  obtain ⟨ρ, F, G, r, q⟩ := q
  refine ⟨ρ, F, G, r, Po.bind (P := pB X.K) q fun d x F1 H1 g1 p1 q1 => ?_⟩
  have r1 := (r.grow g1).1
  refine ⟨ρ, F1, _, r1, Po.bind (P := pO) q1 fun lo _ F2 H2 g2 p2 q2 => ?_⟩
  have r2 := (r1.grow g2).1
  refine ⟨ρ, F2, _, r2, Po.bind (P := pO) q2 fun hi _ F3 H3 g3 p3 q3 => ?_⟩
  cases p2
  cases p3
  cases hf : slD lo hi d with
  | err c => exact absurd hf (slD_p lo hi d c)
  | bad => rw [hf] at q3; exact q3.elim
  | ok c =>
    rw [hf] at q3
    exact ⟨F3, d, c, g3.le, (p1.grow g2).grow g3, hf, fun v F' H' g p => q3 v F' H' g p⟩
/-- a list's slice: a new list -/
theorem xf_sl {lo hi : Option Expr} {p2 : Pos} {ma : Ev → R PyData} {ml mh : Ev → R (Option Int)} (ha : XB X We a ma) (hl : XO X We lo ml) (hh : XO X We hi mh) : XF X We (.Subscript a (.Slice lo hi none p2) pos)
    (fun ρ => (ma ρ).bind fun x => (ml ρ).bind fun lo => (mh ρ).bind fun hi => match x with | .list xs => .ok (.list (cutL xs lo hi)) | _ => .bad) := by
  refine pe_imp (pe_slice sl_list ha hl hh) fun σ H Q q => ?_
  obtain ⟨ρ, F, G, r, q⟩ := q
  refine ⟨ρ, F, G, r, Po.bind (P := pB X.K) q fun d x F1 H1 g1 p1 q1 => ?_⟩
  have r1 := (r.grow g1).1
  refine ⟨ρ, F1, _, r1, Po.bind (P := pO) q1 fun lo _ F2 H2 g2 p2 q2 => ?_⟩
  have r2 := (r1.grow g2).1
  refine ⟨ρ, F2, _, r2, Po.bind (P := pO) q2 fun hi _ F3 H3 g3 p3 q3 => ?_⟩
  cases p2
  cases p3
  split at q3
  · obtain ⟨a, vs, rfl, ha, hvs⟩ := ((p1.grow g2).grow g3).list g3.le
    exact ⟨a, vs, rfl, ha, fun p np => q3 _ _ _ (Gr.own g3.le np) ⟨p, _, _, rfl, rfl, np, g3.le.none np, upd_same, cutV_dp hvs lo hi⟩⟩
  · exact q3.elim
theorem xf_revL {k : Nat} {p1 p2 p3 : Pos} {ma : Ev → R PyData} (ha : XB X We a ma) : XF X We (.Subscript a (.Slice none none (some (.UnaryOp .USub (.Constant (.int 1) k p1) p2)) p3) pos)
    (fun ρ => (ma ρ).bind fun x => match x with | .list xs => .ok (.list xs.reverse) | _ => .bad) := by
  refine pe_imp (pe_revL ha) fun σ H Q q => ?_
  obtain ⟨ρ, F, G, r, q⟩ := q
  refine ⟨ρ, F, G, r, Po.bind (P := pB X.K) q fun d x F1 H1 g1 p1 q1 => ?_⟩
  split at q1
  · obtain ⟨a, vs, rfl, ha, hvs⟩ := p1.list g1.le
    exact ⟨a, vs, rfl, ha, fun p np => q1 _ _ _ (Gr.own g1.le np) ⟨p, _, _, rfl, rfl, np, g1.le.none np, upd_same, hvs.rev⟩⟩
  · exact q1.elim
end
end PD
namespace PD
open PySem PySem.Spec PyProof.Rows L2
/-! ## statements -/
inductive Out where
  | nx (ρ : Ev)
  | rt (d : PyData)
  | rd (m : Dd)
  | bk (ρ : Ev)
  | ct (ρ : Ev)
abbrev SM := Ev → R Out
def PoS (K : PySem.W.Frag) (We : EW) (F G : Hp) (r : R Out) (D : Ends) : Prop :=
  match r with
  | .ok (.nx ρ) => ∀ σ' F' G' H', Rl K ρ F' G' σ' H' → GrS F G F' G' → D.nx σ' H'
  | .ok (.bk ρ) => ∀ σ' F' G' H', Rl K ρ F' G' σ' H' → GrS F G F' G' → D.bk σ' H'
  | .ok (.ct ρ) => ∀ σ' F' G' H', Rl K ρ F' G' σ' H' → GrS F G F' G' → D.ct σ' H'
  | .ok (.rt d) => ∀ v F' G' H', GrS F G F' G' → Le F' G' → Le G' H' → Dp K F' v d → D.rt v H'
  | .ok (.rd m) => ∀ a od o F' G' H', GrS F G F' G' → Le F' G' → Le G' H' → F' a = some (.frz od o) → DOk K F' a o m → D.rt (.ref a) H'
  | .err c => ∀ σ' G' H', Le G G' → Le G' H' → We c σ' H'
  | .bad => False
theorem PoS.step {K : PySem.W.Frag} {We : EW} {F G F1 G1 : Hp} {r : R Out} {D : Ends} (g : GrS F G F1 G1) (h : PoS K We F G r D) : PoS K We F1 G1 r D := by
  cases r with
  | ok o =>
    cases o with
    | nx ρ => exact fun σ' F' G' H' r g' => h σ' F' G' H' r (g.trans g')
    | bk ρ => exact fun σ' F' G' H' r g' => h σ' F' G' H' r (g.trans g')
    | ct ρ => exact fun σ' F' G' H' r g' => h σ' F' G' H' r (g.trans g')
    | rt d => exact fun v F' G' H' g' a b c => h v F' G' H' (g.trans g') a b c
    | rd kvs => exact fun a od o F' G' H' g' b c d e => h a od o F' G' H' (g.trans g') b c d e
  | err c => exact fun σ' G' H' a b => h σ' G' H' (g.g.trans a) b
  | bad => exact h
def tS (K : PySem.W.Frag) (We : EW) (m : SM) : TS := fun D σ H => ∃ ρ F G, Rl K ρ F G σ H ∧ PoS K We F G (m ρ) D
abbrev XS (X : Cx) (We : EW) (st : Stmt) (m : SM) : Prop := PS X st (tS X.K We m)
abbrev XSs (X : Cx) (We : EW) (st : List Stmt) (m : SM) : Prop := PSs X st (tS X.K We m)
theorem ps_imp {X : Cx} {st : Stmt} {t u : TS} (h : PS X st t) (k : ∀ D σ H, u D σ H → t D σ H) : PS X st u := ⟨fun pins s σ H D I q => h.run pins s σ H D I (k D σ H q)⟩
theorem pss_imp {X : Cx} {st : List Stmt} {t u : TS} (h : PSs X st t) (k : ∀ D σ H, u D σ H → t D σ H) : PSs X st u := ⟨fun pins s σ H D I q => h.run pins s σ H D I (k D σ H q)⟩
/-- an expression within a statement -/
theorem PoS.expr {β α : Type} {P : PR β α} {K : PySem.W.Frag} {We : EW} {ρ : Ev} {F G : Hp} {σ : St} {H : Hp} {r : R α} {f : α → R Out} {D : Ends} {Q : β → Hp → Prop} (rl : Rl K ρ F G σ H) (h : PoS K We F G (r.bind f) D)
    (k : ∀ a b F1 G1 H1, Rl K ρ F1 G1 σ H1 → Gr F H F1 H1 → P H F1 H1 b a → PoS K We F1 G1 (f a) D → Q b H1) : Po We P F H σ r Q := by
  cases r with
  | ok a => exact fun b F1 H1 g p => k a b F1 _ H1 (rl.grow g).1 g p (PoS.step (rl.grow g).2 h)
  | err c => exact fun H' l => h σ G H' (Le.refl G) (rl.gh.trans l)
  | bad => exact h
section
variable {X : Cx} {We : EW} {e a b c : Expr} {st : Stmt} {ss ss' : List Stmt} {pos : Pos}
def nxS : SM := fun ρ => .ok (.nx ρ)
def seqS (a b : SM) : SM := fun ρ => match a ρ with
  | .ok (.nx ρ') => b ρ'
  | r => r
theorem xss_nil : XSs X We [] nxS := pss_imp pss_nil fun D σ H q => by
  obtain ⟨ρ, F, G, r, q⟩ := q
  exact q σ F G H r (GrS.refl F G)
theorem PoS.seq {K : PySem.W.Frag} {F G : Hp} {ra : R Out} {mb : SM} {D : Ends} (q : PoS K We F G (match ra with | .ok (.nx ρ') => mb ρ' | r => r) D) : PoS K We F G ra { D with nx := tS K We mb D } := by
  cases ra with
  | ok o =>
    cases o with
    | nx ρ => exact fun σ' F' G' H' r g => ⟨ρ, F', G', r, PoS.step g q⟩
    | bk ρ => exact q
    | ct ρ => exact q
    | rt d => exact q
    | rd d => exact q
  | err c => exact q
  | bad => exact q
theorem xss_cons {ma mb : SM} (h1 : XS X We st ma) (h2 : XSs X We ss mb) : XSs X We (st :: ss) (seqS ma mb) := pss_imp (pss_cons h1 h2) fun D σ H q => by
  obtain ⟨ρ, F, G, r, q⟩ := q
  exact ⟨ρ, F, G, r, PoS.seq q⟩
theorem xss_one {ma : SM} (h1 : XS X We st ma) : XSs X We [st] ma := pss_one h1
def retS (m : Ev → R PyData) : SM := fun ρ => (m ρ).bind fun d => .ok (.rt d)
theorem xs_ret {m : Ev → R PyData} (h : XE X We e m) : XS X We (.Return (some e) pos) (retS m) := ps_imp (ps_ret h) fun D σ H q => by
  obtain ⟨ρ, F, G, r, q⟩ := q
  exact ⟨ρ, F, G, r, PoS.expr (P := pD X.K) r q fun d v F1 G1 H1 r1 g1 p1 q1 => q1 v F1 G1 H1 (GrS.refl F1 G1) r1.fg r1.gh p1⟩
def retNS : SM := fun _ => .ok (.rt .none)
theorem xs_retN : XS X We (.Return none pos) retNS := ps_imp ps_retN fun D σ H q => by
  obtain ⟨ρ, F, G, r, q⟩ := q
  exact q .non F G H (GrS.refl F G) r.fg r.gh .non
theorem xs_pass : XS X We (.Pass pos) nxS := ps_imp ps_pass fun D σ H q => by
  obtain ⟨ρ, F, G, r, q⟩ := q
  exact q σ F G H r (GrS.refl F G)
def bkS : SM := fun ρ => .ok (.bk ρ)
def ctS : SM := fun ρ => .ok (.ct ρ)
theorem xs_break : XS X We (.Break pos) bkS := ps_imp ps_break fun D σ H q => by
  obtain ⟨ρ, F, G, r, q⟩ := q
  exact q σ F G H r (GrS.refl F G)
theorem xs_continue : XS X We (.Continue pos) ctS := ps_imp ps_continue fun D σ H q => by
  obtain ⟨ρ, F, G, r, q⟩ := q
  exact q σ F G H r (GrS.refl F G)
def ifS (mc : Ev → R Bool) (ma mb : SM) : SM := fun ρ => (mc ρ).bind fun t => if t = true then ma ρ else mb ρ
theorem xs_if {mc : Ev → R Bool} {ma mb : SM} (hc : XT X We c mc) (ha : XSs X We ss ma) (hb : XSs X We ss' mb) : XS X We (.If c ss ss' pos) (ifS mc ma mb) := ps_imp (ps_if hc ha hb) fun D σ H q => by
  obtain ⟨ρ, F, G, r, q⟩ := q
  refine ⟨ρ, F, G, r, PoS.expr (P := pT) r q fun k _ F1 G1 H1 r1 g1 p1 q1 => ?_⟩
  cases p1
  cases k with
  | true => exact ⟨ρ, F1, G1, r1, q1⟩
  | false => exact ⟨ρ, F1, G1, r1, q1⟩
def setS (i : Nat) (m : Ev → R PyData) : SM := fun ρ => (m ρ).bind fun d => .ok (.nx (ρ.set i (.d d)))
theorem xs_set {i : Nat} {x : Str} {m : Ev → R PyData} {pos' : Pos} (hN : X.N.Nodup) (hi : X.N[i]? = some x) (hx : Loc X.env.scope x) (he : XE X We e m) (hs : swapsWith e (some (.Name x pos')) pos.line X.env = pure false)
    (hf : X.fn x = true ∨ X.env.scope.names.lookup x = some .local) : XS X We (.Assign [.Name x pos'] e pos) (setS i m) := ps_imp (ps_set hN hi hx he hs hf) fun D σ H q => by
  obtain ⟨ρ, F, G, r, q⟩ := q
  exact ⟨ρ, F, G, r, PoS.expr (P := pD X.K) r q fun d v F1 G1 H1 r1 g1 p1 q1 => q1 _ F1 G1 H1 (r1.set i p1) (GrS.refl F1 G1)⟩
def oListD : PyData → R (List PyData)
  | .list xs => .ok xs
  | _ => .bad
def setLS (i : Nat) (m : Ev → R PyData) : SM := fun ρ => (m ρ).bind fun d => (oListD d).bind fun xs => .ok (.nx (ρ.set i (.lo xs)))
theorem setL_red {i : Nat} {m : Ev → R PyData} {D : Ends} {σ : St} {H : Hp} (q : tS X.K We (setLS i m) D σ H) : tM X.K We (pF X.K) m σ H fun v H1 => D.nx (σ.set i (some v)) H1 := by
  obtain ⟨ρ, F, G, r, q⟩ := q
  cases hm : m ρ with
  | ok d =>
    refine ⟨ρ, F, G, r, ?_⟩
    rw [hm]
    intro v F1 H1 g p
    obtain ⟨a, vs, ds, rfl, rfl, n0, n1, h1, h2⟩ := p
    have q1 : PoS X.K We F G (setLS i m ρ) D := q
    unfold setLS at q1
    rw [hm] at q1
    -- the state ahead, what is new beside it
    have r1 : Rl X.K ρ F1 (join G F1) σ (fun b => if b = a then none else H1 b) := by
      have g' : Gr F H F1 (fun b => if b = a then none else H1 b) := ⟨g.f, fun b o eb => by
          have : b ≠ a := ne_of_none eb n0
          show (if b = a then none else H1 b) = some o
          rw [if_neg this]
          exact g.h b o eb, g.n, fun b o eb => by
          have : b ≠ a := ne_of_none eb n1
          show (if b = a then none else H1 b) = some o
          rw [if_neg this]
          exact g.le b o eb⟩
      exact (r.grow g').1
    have r2 := Rl.setL (p := a) (vs := vs) (xs := ds) (H' := H1) r1 i (fun b o eb => by
        have eb : (if b = a then none else H1 b) = some o := eb
        by_cases hb : b = a
        · rw [if_pos hb] at eb; cases eb
        · rw [if_neg hb] at eb; exact eb) (by show (if a = a then none else H1 a) = none; rw [if_pos rfl]) h1 h2
    refine q1 _ F1 (join G F1) H1 r2 ?_
    exact (r.grow (H' := fun b => if b = a then none else H1 b) ⟨g.f, fun b o eb => by
          have : b ≠ a := ne_of_none eb n0
          show (if b = a then none else H1 b) = some o
          rw [if_neg this]
          exact g.h b o eb, g.n, fun b o eb => by
          have : b ≠ a := ne_of_none eb n1
          show (if b = a then none else H1 b) = some o
          rw [if_neg this]
          exact g.le b o eb⟩).2
  | err c =>
    refine ⟨ρ, F, G, r, ?_⟩
    rw [hm]
    have q1 : PoS X.K We F G (setLS i m ρ) D := q
    unfold setLS at q1
    rw [hm] at q1
    exact fun H' l => q1 σ G H' (Le.refl G) (r.gh.trans l)
  | bad =>
    have q1 : PoS X.K We F G (setLS i m ρ) D := q
    unfold setLS at q1
    rw [hm] at q1
    exact q1.elim
theorem xs_setL {i : Nat} {x : Str} {m : Ev → R PyData} {pos' : Pos} (hN : X.N.Nodup) (hi : X.N[i]? = some x) (hx : Loc X.env.scope x) (he : XF X We e m) (hs : swapsWith e (some (.Name x pos')) pos.line X.env = pure false)
    (hf : X.fn x = true ∨ X.env.scope.names.lookup x = some .local) : XS X We (.Assign [.Name x pos'] e pos) (setLS i m) := ps_imp (ps_set hN hi hx he hs hf) fun D σ H q => setL_red q
/-- one's own list is given away (no statement of the text) -/
def frzS (i : Nat) : SM := fun ρ => match ρ[i]? with
  | some (.lo xs) => .ok (.nx (ρ.set i (.d (.list xs))))
  | some (.d _) => .ok (.nx ρ)
  | _ => .bad
theorem xss_frz (i : Nat) {m : SM} (h : XSs X We ss m) : XSs X We ss (seqS (frzS i) m) := pss_imp h fun D σ H q => by
  obtain ⟨ρ, F, G, r, q⟩ := q
  unfold seqS frzS at q
  cases e : ρ[i]? with
  | none => rw [e] at q; exact q.elim
  | some x =>
    rw [e] at q
    cases x with
    | un => exact q.elim
    | d y => exact ⟨ρ, F, G, r, q⟩
    | dd y => exact q.elim
    | tk y => exact q.elim
    | df y => exact q.elim
    | lo xs =>
      obtain ⟨F', G', r', g⟩ := r.frz e
      exact ⟨_, F', G', r', PoS.step g q⟩
def dropS (m : Ev → R PyData) : SM := fun ρ => (m ρ).bind fun _ => .ok (.nx ρ)
theorem xs_expr {m : Ev → R PyData} (he : XE X We e m) (hs : swapsWith e none pos.line X.env = pure false) : XS X We (.Expr e pos) (dropS m) := ps_imp (ps_expr he hs) fun D σ H q => by
  obtain ⟨ρ, F, G, r, q⟩ := q
  exact ⟨ρ, F, G, r, PoS.expr (P := pD X.K) r q fun d v F1 G1 H1 r1 g1 p1 q1 => q1 _ F1 G1 H1 r1 (GrS.refl F1 G1)⟩
/-! ## targets -/
/-- only these slots are stored to -/
def Ch (ts : List Nat) (σ σ' : St) : Prop := σ'.length = σ.length ∧ ∀ i, i ∉ ts → σ'[i]? = σ[i]?
theorem Ch.refl (ts : List Nat) (σ : St) : Ch ts σ σ := ⟨rfl, fun _ _ => rfl⟩
theorem Ch.app {ts us : List Nat} {σ σ1 σ2 : St} (a : Ch ts σ σ1) (b : Ch us σ1 σ2) : Ch (ts ++ us) σ σ2 :=
  ⟨b.1.trans a.1, fun i hi => (b.2 i fun z => hi (List.mem_append_right _ z)).trans (a.2 i fun z => hi (List.mem_append_left _ z))⟩
def tG (K : PySem.W.Frag) (ts : List Nat) (mg : PyData → Ev → R Ev) : TG := fun v σ H Q => ∃ ρ F G d, Rl K ρ F G σ H ∧ Dp K F v d ∧ match mg d ρ with
  | .ok ρ' => ∀ σ', Rl K ρ' F G σ' H → Ch ts σ σ' → Q σ' H
  | _ => False
abbrev XG (X : Cx) (tg : Expr) (ts : List Nat) (mg : PyData → Ev → R Ev) : Prop := PG X tg (tG X.K ts mg)
theorem pg_imp {tg : Expr} {t u : TG} (h : PG X tg t) (k : ∀ v σ H Q, u v σ H Q → t v σ H Q) : PG X tg u := ⟨fun pins s σ H v uu Q I r q => h.run pins s σ H v uu Q I r (k v σ H Q q)⟩
def gN (i : Nat) : PyData → Ev → R Ev := fun d ρ => .ok (ρ.set i (.d d))
theorem xg_name {i : Nat} {x : Str} (hN : X.N.Nodup) (hi : X.N[i]? = some x) (hx : Loc X.env.scope x) (hf : X.fn x = true ∨ X.env.scope.names.lookup x = some .local) : XG X (.Name x pos) [i] (gN i) :=
  pg_imp (pg_name hN hi hx hf) fun v σ H Q q => by
    obtain ⟨ρ, F, G, d, r, p, q⟩ := q
    refine q _ (r.set i p) ⟨List.length_set, fun j hj => ?_⟩
    exact List.getElem?_set_ne fun z => hj (by rw [z]; exact List.mem_singleton.mpr rfl)
/-- several targets -/
def tGs (K : PySem.W.Frag) (ts : List Nat) (mg : List PyData → Ev → R Ev) : TGs := fun vs σ H Q => ∃ ρ F G ds, Rl K ρ F G σ H ∧ DpAll K F vs ds ∧ match mg ds ρ with
  | .ok ρ' => ∀ σ', Rl K ρ' F G σ' H → Ch ts σ σ' → Q σ' H
  | _ => False
abbrev XGs (X : Cx) (es : List Expr) (ts : List Nat) (mg : List PyData → Ev → R Ev) : Prop := PGs X es (tGs X.K ts mg)
theorem pgs_imp {ts : List Expr} {t u : TGs} (h : PGs X ts t) (k : ∀ v σ H Q, u v σ H Q → t v σ H Q) : PGs X ts u := ⟨fun pins s σ H v uu Q I r q => h.run pins s σ H v uu Q I r (k v σ H Q q)⟩
def gsNil : List PyData → Ev → R Ev := fun ds ρ => match ds with
  | [] => .ok ρ
  | _ => .bad
def gsCons (g : PyData → Ev → R Ev) (gs : List PyData → Ev → R Ev) : List PyData → Ev → R Ev := fun ds ρ => match ds with
  | d :: r => (g d ρ).bind fun ρ' => gs r ρ'
  | [] => .bad
theorem xgs_nil : XGs X [] [] gsNil := pgs_imp pgs_nil fun v σ H Q q => by
  obtain ⟨ρ, F, G, ds, r, p, q⟩ := q
  cases p with
  | nil => exact ⟨rfl, q σ r (Ch.refl _ σ)⟩
  | cons _ _ => exact q.elim
theorem xgs_cons {tg : Expr} {es : List Expr} {ts us : List Nat} {g : PyData → Ev → R Ev} {gs : List PyData → Ev → R Ev} (h1 : XG X tg ts g) (h2 : XGs X es us gs) (hs : (assignEach (tg :: es) X.env).map (·.2) = assign tg X.env :: (assignEach es X.env).map (·.2)) : XGs X (tg :: es) (ts ++ us) (gsCons g gs) := pgs_imp (pgs_cons h1 h2 hs) fun v σ H Q q => by
  obtain ⟨ρ, F, G, ds, r, p, q⟩ := q
  cases p with
  | nil => exact q.elim
  | cons p1 p2 =>
    rename_i v vs d ds
    refine ⟨v, vs, rfl, ρ, F, G, d, r, p1, ?_⟩
    have q : match (g d ρ).bind fun ρ' => gs ds ρ' with | .ok ρ' => ∀ σ', Rl X.K ρ' F G σ' H → Ch (ts ++ us) σ σ' → Q σ' H | _ => False := q
    cases hg : g d ρ with
    | ok ρ' =>
      rw [hg] at q
      have q : match gs ds ρ' with | .ok ρ' => ∀ σ', Rl X.K ρ' F G σ' H → Ch (ts ++ us) σ σ' → Q σ' H | _ => False := q
      refine fun σ' r' c' => ⟨ρ', F, G, ds, r', p2, ?_⟩
      cases hs : gs ds ρ' with
      | ok ρ2 =>
        rw [hs] at q
        exact fun σ2 r2 c2 => q σ2 r2 (c'.app c2)
      | err c => rw [hs] at q; exact q.elim
      | bad => rw [hs] at q; exact q.elim
    | err c => rw [hg] at q; exact q.elim
    | bad => rw [hg] at q; exact q.elim
def gT (n : Nat) (gs : List PyData → Ev → R Ev) : PyData → Ev → R Ev := fun d ρ => match d with
  | .tuple ds => if ds.length = n then gs ds ρ else .bad
  | _ => .bad
theorem xg_tup {es : List Expr} {k n : Nat} {ts : List Nat} {gs : List PyData → Ev → R Ev} (hc : X.calm = true) (h : XGs X es ts gs) (hn : (assignEach es X.env).length = n) (hst : (assignEach es X.env).findIdx? (·.1) = none) : XG X (.Tuple es k pos) ts (gT n gs) := pg_imp (pg_tup hc h hn hst) fun v σ H Q q => by
  obtain ⟨ρ, F, G, d, r, p, q⟩ := q
  cases p with
  | tup h1 h2 =>
    rename_i a xs ds
    unfold gT at q
    by_cases hl : ds.length = n
    · simp only [hl, if_true] at q
      exact ⟨_, _, rfl, h1.le r.fh, by rw [h2.length]; exact hl, ρ, F, G, ds, r, h2, q⟩
    · simp only [hl, if_false] at q
  | _ => exact q.elim
/-- target = e -/
def asgS (m : Ev → R PyData) (g : PyData → Ev → R Ev) : SM := fun ρ => (m ρ).bind fun d => (g d ρ).bind fun ρ' => .ok (.nx ρ')
/-- a target's storing never tells an error -/
def PureG (g : PyData → Ev → R Ev) : Prop := ∀ d ρ c, g d ρ ≠ .err c
def PureGs (g : List PyData → Ev → R Ev) : Prop := ∀ d ρ c, g d ρ ≠ .err c
theorem PoS.tg {K : PySem.W.Frag} {v : V} {d : PyData} {ρ : Ev} {F G : Hp} {σ : St} {H : Hp} {ts : List Nat} {g : PyData → Ev → R Ev} {f : Ev → R Out} {D : Ends} {Q : St → Hp → Prop} (r : Rl K ρ F G σ H) (p : Dp K F v d) (ge : PureG g)
    (q : PoS K We F G ((g d ρ).bind f) D) (k : ∀ ρ' σ', Rl K ρ' F G σ' H → PoS K We F G (f ρ') D → Q σ' H) : tG K ts g v σ H Q := by
  refine ⟨ρ, F, G, d, r, p, ?_⟩
  cases hg : g d ρ with
  | ok ρ' =>
    rw [hg] at q
    exact fun σ' r' _ => k ρ' σ' r' q
  | err c => exact absurd hg (ge d ρ c)
  | bad => rw [hg] at q; exact q.elim
theorem gN_p {i : Nat} : PureG (gN i) := fun d ρ c h => by cases h
theorem gsNil_p : PureGs gsNil := fun d ρ c h => by
  unfold gsNil at h
  split at h <;> cases h
theorem gsCons_p {g : PyData → Ev → R Ev} {gs : List PyData → Ev → R Ev} (h1 : PureG g) (h2 : PureGs gs) : PureGs (gsCons g gs) := fun d ρ c h => by
  unfold gsCons at h
  split at h
  · rename_i x r
    cases hg : g x ρ with
    | ok ρ' => rw [hg] at h; exact h2 _ _ _ h
    | err c => exact h1 _ _ _ hg
    | bad => rw [hg] at h; cases h
  · cases h
theorem gT_p {n : Nat} {gs : List PyData → Ev → R Ev} (h2 : PureGs gs) : PureG (gT n gs) := fun d ρ c h => by
  unfold gT at h
  split at h
  · split at h
    · exact h2 _ _ _ h
    · cases h
  · cases h
theorem xs_asg {tg : Expr} {m : Ev → R PyData} {ts : List Nat} {g : PyData → Ev → R Ev} (he : XE X We e m) (hg : XG X tg ts g) (ge : PureG g) (hs : swapsWithSole [tg] e pos.line X.env = pure false) (hw : swappedStores [tg] e X.env = pure none)
    (h1 : (assignEach [tg] X.env).map (·.2) = [assign tg X.env]) : XS X We (.Assign [tg] e pos) (asgS m g) := ps_imp (ps_asg he hg hs hw h1) fun D σ H q => by
  obtain ⟨ρ, F, G, r, q⟩ := q
  exact ⟨ρ, F, G, r, PoS.expr (P := pD X.K) r q fun d v F1 G1 H1 r1 g1 p1 q1 => PoS.tg r1 p1 ge q1 fun ρ' σ' r' q' => q' σ' F1 G1 H1 r' (GrS.refl F1 G1)⟩
/-! ## loops -/
/-- what an iterator yields -/
def ItOk (K : PySem.W.Frag) (F : Hp) (J : It) (xs : List PyData) : Prop :=
  ∀ F' H, Le F F' → Le F' H → (∀ (i : Nat) (d : PyData), xs[i]? = some d → J.go i H ∧ ∀ x H', J.yld i H x H' → ∃ F'', Gr F' H F'' H' ∧ Dp K F'' x d) ∧ J.stop xs.length H
theorem ItOk.le {K : PySem.W.Frag} {F F1 : Hp} {J : It} {xs : List PyData} (h : ItOk K F J xs) (l : Le F F1) : ItOk K F1 J xs := fun F' H a b => h F' H (l.trans a) b
def pI (K : PySem.W.Frag) : PR It (List PyData) := fun _ F _ J xs => ItOk K F J xs
instance {K} : Anti (pI K) := ⟨fun _ _ _ _ _ _ _ h => h⟩
abbrev XI (X : Cx) (We : EW) (tg iter : Expr) (m : Ev → R (List PyData)) : Prop := PI X tg iter (tM X.K We (pI X.K) m)
def forM (b : PyData → SM) : List PyData → SM
  | [], ρ => .ok (.nx ρ)
  | x :: xs, ρ => match b x ρ with
    | .ok (.nx ρ') => forM b xs ρ'
    | .ok (.ct ρ') => forM b xs ρ'
    | .ok (.bk ρ') => .ok (.nx ρ')
    | r => r
def forS (mi : Ev → R (List PyData)) (g : PyData → Ev → R Ev) (b : SM) : SM := fun ρ => (mi ρ).bind fun xs => forM (fun x ρ => (g x ρ).bind b) xs ρ
theorem xs_for {tg iter : Expr} {mi : Ev → R (List PyData)} {ts : List Nat} {g : PyData → Ev → R Ev} {mb : SM} (hp : PassesOwn (model X.prog X.w) X.A X.env X.xe) (hc : X.calm = true) (hi : XI X We tg iter mi) (hg : XG X tg ts g) (ge : PureG g) (hb : XSs X We ss mb)
    (hs : ∀ x, foldedSetIterable iter X.env x = pure x) : XS X We (.For tg iter ss [] pos) (forS mi g mb) := ps_imp (ps_for hp hc hi hg hb hs) fun D σ H q => by
  obtain ⟨ρ, F, G, r, q⟩ := q
  refine ⟨ρ, F, G, r, PoS.expr (P := pI X.K) r q fun xs J F1 G1 H1 r1 g1 p1 q1 => ?_⟩
  refine ⟨fun i m σ H => m = xs.length - i ∧ i ≤ xs.length ∧ ∃ ρ F' G', Rl X.K ρ F' G' σ H ∧ ItOk X.K F' J xs ∧ PoS X.K We F' G' (forM (fun x ρ => (g x ρ).bind mb) (xs.drop i) ρ) D, ⟨_, rfl, Nat.zero_le _, ρ, F1, G1, r1, p1, q1⟩, ?_⟩
  rintro i m σ H ⟨rfl, hi, ρ, F', G', r', p', q'⟩
  obtain ⟨h1, h2⟩ := p' F' H (Le.refl F') r'.fh
  by_cases hlt : i < xs.length
  · refine .inr ⟨(h1 i _ (List.getElem?_eq_getElem hlt)).1, fun σ H => ∃ ρ F' G', Rl X.K ρ F' G' σ H ∧ ItOk X.K F' J xs ∧ PoS X.K We F' G' (forM (fun x ρ => (g x ρ).bind mb) (xs.drop (i + 1)) ρ) D, fun σ' H' hN => ⟨_, by omega, rfl, hlt, hN⟩, fun x H' hy => ?_⟩
    obtain ⟨F2, g2, p2⟩ := (h1 i _ (List.getElem?_eq_getElem hlt)).2 x H' hy
    have r2 := (r'.grow g2).1
    have s2 := (r'.grow g2).2
    rw [List.drop_eq_getElem_cons hlt] at q'
    have q2 := PoS.step s2 q'
    unfold forM at q2
    have pi2 : ItOk X.K F2 J xs := p'.le g2.f
    have q3 : PoS X.K We F2 (join G' F2) ((g xs[i] ρ).bind mb) { D with nx := fun σ H => ∃ ρ F' G', Rl X.K ρ F' G' σ H ∧ ItOk X.K F' J xs ∧ PoS X.K We F' G' (forM (fun x ρ => (g x ρ).bind mb) (xs.drop (i + 1)) ρ) D, ct := fun σ H => ∃ ρ F' G', Rl X.K ρ F' G' σ H ∧ ItOk X.K F' J xs ∧ PoS X.K We F' G' (forM (fun x ρ => (g x ρ).bind mb) (xs.drop (i + 1)) ρ) D, bk := D.nx } := by
      generalize (g xs[i] ρ).bind mb = out at q2
      cases out with
      | ok o =>
        cases o with
        | nx ρ' => exact fun σ' F3 G3 H3 r3 s3 => ⟨ρ', F3, G3, r3, pi2.le s3.f, PoS.step s3 q2⟩
        | ct ρ' => exact fun σ' F3 G3 H3 r3 s3 => ⟨ρ', F3, G3, r3, pi2.le s3.f, PoS.step s3 q2⟩
        | bk ρ' => exact q2
        | rt d => exact q2
        | rd d => exact q2
      | err c => exact q2
      | bad => exact q2
    exact PoS.tg r2 p2 ge q3 fun ρ' σ' r3 q4 => ⟨ρ', F2, _, r3, q4⟩
  · have e : i = xs.length := by omega
    subst e
    refine .inl ⟨h2, ?_⟩
    rw [List.drop_length] at q'
    exact q' σ F' G' H r' (GrS.refl F' G')
/-- while -/
def whileM (c : Ev → R Bool) (b : SM) : Nat → SM
  | 0, _ => .bad
  | n + 1, ρ => (c ρ).bind fun t => if t = true then (match b ρ with
      | .ok (.nx ρ') => whileM c b n ρ'
      | .ok (.ct ρ') => whileM c b n ρ'
      | .ok (.bk ρ') => .ok (.nx ρ')
      | r => r) else .ok (.nx ρ)
theorem xs_while (n : Nat) {mc : Ev → R Bool} {mb : SM} (hp : PassesOwn (model X.prog X.w) X.A X.env X.xe) (hc : XT X We c mc) (hb : XSs X We ss mb) : XS X We (.While c ss [] pos) (whileM mc mb n) := ps_imp (ps_while hp hc hb) fun D σ H q => by
  obtain ⟨ρ, F, G, r, q⟩ := q
  refine ⟨fun m σ H => ∃ ρ F' G', Rl X.K ρ F' G' σ H ∧ PoS X.K We F' G' (whileM mc mb m ρ) D, ⟨n, ρ, F, G, r, q⟩, ?_⟩
  rintro m σ H ⟨ρ, F', G', r', q'⟩
  cases m with
  | zero => exact q'.elim
  | succ m =>
    unfold whileM at q'
    refine ⟨ρ, F', G', r', PoS.expr (P := pT) r' q' fun k _ F1 G1 H1 r1 g1 p1 q1 => ?_⟩
    cases p1
    cases k with
    | false => exact q1 σ F1 G1 H1 r1 (GrS.refl F1 G1)
    | true =>
      refine ⟨fun σ H => ∃ ρ F' G', Rl X.K ρ F' G' σ H ∧ PoS X.K We F' G' (whileM mc mb m ρ) D, fun σ' H' hN => ⟨m, Nat.lt_succ_self m, hN⟩, ?_⟩
      refine ⟨ρ, F1, G1, r1, ?_⟩
      have q2 : PoS X.K We F1 G1 (match mb ρ with
        | .ok (.nx ρ') => whileM mc mb m ρ'
        | .ok (.ct ρ') => whileM mc mb m ρ'
        | .ok (.bk ρ') => .ok (.nx ρ')
        | r => r) D := q1
      generalize mb ρ = out at q2
      cases out with
      | ok o =>
        cases o with
        | nx ρ' => exact fun σ' F3 G3 H3 r3 s3 => ⟨ρ', F3, G3, r3, PoS.step s3 q2⟩
        | ct ρ' => exact fun σ' F3 G3 H3 r3 s3 => ⟨ρ', F3, G3, r3, PoS.step s3 q2⟩
        | bk ρ' => exact q2
        | rt d => exact q2
        | rd d => exact q2
      | err c => exact q2
      | bad => exact q2
end
end PD
namespace PD
open PySem PySem.Spec PyProof.Rows L2
/-! ## defs -/
/-- the errors that are wished for, as the layer below tells them -/
def WW (mg : Str → Option Value) (We : EW) : WX := fun cls d σ H => ∃ (c : String) (C : Addr), cls = .ref C ∧ d = none ∧ mg c = some (.ref C) ∧ We c σ H
abbrev Tk (X : Cx) (We : EW) : Prop := Takes X (WW X.mg We)
/-- nothing is let out -/
def We0 : EW := fun _ _ _ => False
theorem tk0 {X : Cx} : Tk X We0 := takes0.imp fun c d σ H h => by
  obtain ⟨_, _, _, _, _, z⟩ := h
  exact z
def spP (mg : Str → Option Value) (K : PySem.W.Frag) (n : Nat) (m : List PyData → R PyData) : Sp := fun vs H Q E => ∃ F ds, Le F H ∧ DpAll K F vs ds ∧ ds.length = n ∧ match m ds with
  | .ok d => ∀ v F' H', Gr F H F' H' → Dp K F' v d → Q v H'
  | .err c => ∀ H' C, Le H H' → mg (c : Str) = some (.ref C) → E (.ref C) none H'
  | .bad => False
abbrev FnP (P : Program) (w : World) (K : PySem.W.Frag) (mg : Str → Option Value) (base : Heap) (k : Nat) (f : Addr) (fd : FuncData) (ps : List Str) (m : List PyData → R PyData) : Prop :=
  FnOk P w K mg base (L2.CX P w) k f fd ps (spP mg K ps.length m)
/-- what a body is worth -/
def runB (n : Nat) (b : SM) (ds : List PyData) : R PyData := match b (ds.map Sl.d ++ List.replicate (n - ds.length) Sl.un) with
  | .ok (.nx _) => .ok .none
  | .ok (.rt d) => .ok d
  | .ok _ => .bad
  | .err c => .err c
  | .bad => .bad
theorem Rl.start {K : PySem.W.Frag} {F H : Hp} {vs : List V} {ds : List PyData} {N : List Str} (l : Le F H) (h : DpAll K F vs ds) : Rl K (ds.map Sl.d ++ List.replicate (N.length - ds.length) Sl.un) F H (L2.start N vs) H := by
  have hl := h.length
  refine ⟨?_, l, Le.refl H, fun i x e => ?_, fun i j x y a hij e1 e2 o1 o2 q => ?_⟩
  · unfold L2.start
    rw [List.length_append, List.length_append, List.length_map, List.length_map, List.length_replicate, List.length_replicate, hl]
  · unfold L2.start
    by_cases hi : i < ds.length
    · rw [List.getElem?_append_left (by rw [List.length_map]; exact hi), List.getElem?_map, List.getElem?_eq_getElem hi] at e
      cases e
      obtain ⟨v, ev, p⟩ := h.get (List.getElem?_eq_getElem hi)
      rw [List.getElem?_append_left (by rw [List.length_map]; omega), List.getElem?_map, ev]
      exact p
    · rw [List.getElem?_append_right (by rw [List.length_map]; omega)] at e
      have := List.mem_of_getElem? e
      rw [List.mem_replicate] at this
      rw [this.2]
      unfold SlOk
      cases (List.map some vs ++ List.replicate (N.length - vs.length) none)[i]? <;> trivial
  · have own : ∀ (i : Nat) (x : Sl), (ds.map Sl.d ++ List.replicate (N.length - ds.length) Sl.un)[i]? = some x → x.owned = false := fun i x e => by
      have hm := List.mem_of_getElem? e
      rcases List.mem_append.mp hm with hm | hm
      · obtain ⟨d, _, rfl⟩ := List.mem_map.mp hm
        rfl
      · rw [List.mem_replicate] at hm
        rw [hm.2]
        rfl
    rw [own i x e1] at o1
    cases o1
/-- THE RULE for a def: its body's meaning -/
theorem fnP_of {P : Program} {w : World} {K : PySem.W.Frag} {mg : Str → Option Value} {base : Heap} {x qual : Str} {st : Stmt} {f : Addr} {fd : FuncData} {N ps : List Str} {k : Nat} {b : SM} (Fn : Fun K x qual st f fd) (S : FnScope N ps (defScope st))
    (hb : ∀ (cdv : Value) (A : Around) (outer : List Env) (s : Shared) (H : Hp) (E : XK) (We : EW), Room k (cxOf (L2.CX P w) P w K mg base N qual (defScope st) f cdv A outer s H E).A → Tk (cxOf (L2.CX P w) P w K mg base N qual (defScope st) f cdv A outer s H E) We →
      PassesOwn (model P w) (cxOf (L2.CX P w) P w K mg base N qual (defScope st) f cdv A outer s H E).A (cxOf (L2.CX P w) P w K mg base N qual (defScope st) f cdv A outer s H E).env (cxOf (L2.CX P w) P w K mg base N qual (defScope st) f cdv A outer s H E).xe →
      XSs (cxOf (L2.CX P w) P w K mg base N qual (defScope st) f cdv A outer s H E) We (defBody st) b) : FnP P w K mg base (k + 1) f fd ps (runB N.length b) := by
  refine Fn.okX S (fun vs H Q E h => ?_) fun cdv A outer s H vs Q E hr h => ?_
  · obtain ⟨F, ds, l, hd, hl, _⟩ := h
    rw [hd.length, hl]
  · obtain ⟨F, ds, l, hd, hl, h⟩ := h
    refine ⟨_, hb cdv A outer s H E (fun c _ H' => ∀ C, mg (c : Str) = some (.ref C) → E (.ref C) none H') hr ((takes_of rfl rfl rfl rfl).imp fun cls d σ H' z => ?_) (passes_of rfl), _, F, H, Rl.start l hd, ?_⟩
    · obtain ⟨c, C, rfl, rfl, hm, z⟩ := z
      exact z C hm
    · unfold runB at h
      revert h
      generalize b (ds.map Sl.d ++ List.replicate (N.length - ds.length) Sl.un) = r
      intro h
      cases r with
      | ok o =>
        cases o with
        | nx ρ => exact fun σ' F' G' H' r g => h .non F' H' ⟨g.f, g.g.trans r.gh, g.n, r.fh⟩ .non
        | bk ρ => exact h.elim
        | ct ρ => exact h.elim
        | rd d => exact h.elim
        | rt d => exact fun v F' G' H' g fg gh p => h v F' H' ⟨g.f, g.g.trans gh, g.n, fg.trans gh⟩ p
      | err c => exact fun σ' G' H' a b C hm => h H' C (a.trans b) hm
      | bad => exact h
section
variable {X : Cx} {We : EW} {e a b c : Expr} {es : List Expr} {st : Stmt} {ss : List Stmt} {pos p : Pos} {x : Str}
def callE (n : Nat) (m : List PyData → R PyData) (ma : Ev → R (List PyData)) (ρ : Ev) : R PyData := (ma ρ).bind fun ds => if ds.length = n then m ds else .bad
theorem xe_call {k : Nat} {f : Addr} {fd : FuncData} {ps : List Str} {m : List PyData → R PyData} {ma : Ev → R (List PyData)} (F : FnP X.prog X.w X.K X.mg X.base k f fd ps m) (hr : Room k X.A) (hg : Gl X x) (hm : X.mg x = some (.ref f)) (hk : PySem.W.keepIn X.K (.ref f) = true) (hb : Binds X.K fd ps [])
    (tk : Tk X We) (ha : XA X We (e :: es) ma) (hdb : (x == ("__debug__" : Str)) = false) (he : starEach (e :: es) X.env = (false, eval e X.env) :: starEach es X.env) (hpl : (backTo pos (starEach es X.env)).any (·.1) = false) :
    XE X We (.Call (.Name x p) (e :: es) [] pos) (callE ps.length m ma) := by
  refine pe_imp (pe_callS F hr hg hm hk hb (fun σ => passAt tk σ) ha hdb he hpl) fun σ H Q q => ?_
  obtain ⟨ρ, F0, G, r, q⟩ := q
  refine ⟨ρ, F0, G, r, Po.bind (P := pA X.K) q fun ds vs F1 H1 g1 p1 q1 => ?_⟩
  split at q1
  · rename_i hl
    refine ⟨F1, ds, g1.le, p1, hl, ?_⟩
    cases hmd : m ds with
    | ok d => rw [hmd] at q1; exact fun v F' H' g p => q1 v F' H' g p
    | err c => rw [hmd] at q1; exact fun H' C l hC => ⟨c, C, rfl, rfl, hC, q1 H' l⟩
    | bad => rw [hmd] at q1; exact q1
  · exact q1.elim
/-! ## raise -/
def errS (c : String) : SM := fun _ => .err c
theorem xs_raise {c : String} {m : Str} {j : Nat} {p2 : Pos} {C : Addr} {bmB : List Value} {B newId initId : String} (hc : X.calm = true) (tk : Tk X We) (F : ExcBaseFacts B newId initId bmB) (q : PySem.W.excIn X.K C bmB newId = true) (gC : X.mg (c : Str) = some (.ref C)) (kC : PySem.W.keepIn X.K (.ref C) = true) (r : Raises X (.ref C)) (hg : Gl X (c : Str))
    {spos : Pos} (hdb : ((c : Str) == ("__debug__" : Str)) = false) : XS X We (.Raise (some (.Call (.Name (c : Str) p) [.Constant (.str m) j p2] [] pos)) none spos) (errS c) := ps_imp (ps_raise hc tk (pmk_own F q gC kC r hg hdb)) fun D σ H q => by
  obtain ⟨ρ, F, G, r, q⟩ := q
  exact ⟨c, C, rfl, rfl, gC, q σ G H (Le.refl G) r.gh⟩
/-! ## what is walked -/
def iterD : PyData → R (List PyData)
  | .list xs => .ok xs
  | .tuple xs => .ok xs
  | .str z => .ok (z.cps.toList.map fun c => .str ⟨#[c]⟩)
  | _ => .bad
theorem iterD_p : Pure1' iterD := fun d c h => by unfold iterD at h; split at h <;> cases h
def itE (m : Ev → R PyData) (ρ : Ev) : R (List PyData) := (m ρ).bind iterD
theorem itl_ok {K : PySem.W.Frag} {F : Hp} {a : Addr} {vs : List V} {ds : List PyData} (h : SqL K F a vs) (hd : DpAll K F vs ds) : ItOk K F (Itl K a) ds := fun F' H l1 l2 => by
  have h' := h.le (l1.trans l2)
  refine ⟨fun i d e => ?_, ⟨vs, h', by rw [hd.length]; exact Nat.le_refl _⟩⟩
  obtain ⟨v, ev, p⟩ := hd.get e
  refine ⟨⟨vs, v, h', ev⟩, fun x H' hy => ?_⟩
  obtain ⟨rfl, hy⟩ := hy
  have e2 := hy vs h'
  rw [ev] at e2
  cases e2
  exact ⟨F', Gr.refl l2, p.le l1⟩
theorem itt_ok {K : PySem.W.Frag} {F : Hp} {a : Addr} {vs : List V} {ds : List PyData} (h : SqT K F a vs) (hd : DpAll K F vs ds) : ItOk K F (Itt K a) ds := fun F' H l1 l2 => by
  have h' := h.le (l1.trans l2)
  refine ⟨fun i d e => ?_, ⟨vs, h', by rw [hd.length]; exact Nat.le_refl _⟩⟩
  obtain ⟨v, ev, p⟩ := hd.get e
  refine ⟨⟨vs, v, h', ev⟩, fun x H' hy => ?_⟩
  obtain ⟨rfl, hy⟩ := hy
  have e2 := hy vs h'
  rw [ev] at e2
  cases e2
  exact ⟨F', Gr.refl l2, p.le l1⟩
theorem its_ok {K : PySem.W.Frag} {F : Hp} {z : Str} : ItOk K F (Its z) (z.cps.toList.map fun c => .str ⟨#[c]⟩) := fun F' H l1 l2 => by
  refine ⟨fun i d e => ?_, ?_⟩
  · rw [List.getElem?_map] at e
    cases q : z.cps.toList[i]? with
    | none => rw [q] at e; cases e
    | some c =>
      rw [q] at e
      cases e
      have q' : z.cps[i]? = some c := by simpa using q
      refine ⟨?_, fun x H' hy => ?_⟩
      · show i < z.cps.size
        obtain ⟨h, _⟩ := Array.getElem?_eq_some_iff.mp q'
        exact h
      · obtain ⟨rfl, c', e1, rfl⟩ := hy
        rw [q'] at e1
        cases e1
        exact ⟨F', Gr.refl l2, .str _⟩
  · show z.cps.size ≤ _
    simp
/-- a list, a tuple or a text, walked -/
theorem xi_any {tg : Expr} {m : Ev → R PyData} (ha : XE X We e m) : XI X We tg e (itE m) := by
  refine ⟨fun pins s σ H R I h => ?_⟩
  have h' : tM X.K We (pD X.K) m σ H fun v H1 => ∃ F1 d ds, Le F1 H1 ∧ Dp X.K F1 v d ∧ iterD d = .ok ds ∧ ∀ J, ItOk X.K F1 J ds → R J H1 := by
    obtain ⟨ρ, F, G, r, h⟩ := h
    refine ⟨ρ, F, G, r, Po.bind (P := pD X.K) h fun d v F1 H1 g1 p1 q1 => ?_⟩
    cases hi : iterD d with
    | err c => exact absurd hi (iterD_p d c)
    | bad => rw [hi] at q1; exact q1.elim
    | ok ds =>
      rw [hi] at q1
      exact ⟨F1, d, ds, g1.le, p1, hi, fun J hJ => q1 J F1 H1 (Gr.refl g1.le) hJ⟩
  refine thn (ha.run pins s σ H _ I h') fun u s1 ⟨v, H1, I1, r1, F1, d, ds, l, p, hi, q⟩ => ?_
  unfold iterD at hi
  split at hi
  · cases hi
    cases p with
    | lst h1 h2 =>
      rename_i a vs
      cases r1
      obtain ⟨its, rv, pl, hz⟩ := I1.list (h1.le l)
      refine wpAny_pyIter_list pl.isList ?_
      exact pi_one (tk := s1.toks) I1 _ (turn_list a _) ⟨_, Heap.get?_push_size _ rfl, rfl, rfl⟩ (q _ (itl_ok h1 h2))
  · cases hi
    cases p with
    | tup h1 h2 =>
      rename_i a vs
      cases r1
      obtain ⟨its, rv, pl, hz⟩ := I1.tuple (h1.le l)
      refine wpAny_pyIter_tuple (show s1.heap.IsTuple a its.toArray from pl) ?_
      exact pi_one (tk := s1.toks) I1 _ (turn_tuple a _) ⟨_, Heap.get?_push_size _ rfl, rfl, rfl⟩ (q _ (itt_ok h1 h2))
  · cases hi
    cases p
    rename_i z
    obtain ⟨t, rfl⟩ := r1
    cases ha : z.cps.all (· < 128)
    · exact wpAny_pyIter_wide ha (pi_one (tk := s1.toks) I1 _ (turn_str _ z t "str_iterator" (.inr rfl)) ⟨_, Heap.get?_push_size _ rfl, rfl, rfl⟩ (q _ its_ok))
    · exact wpAny_pyIter_ascii ha (pi_one (tk := s1.toks) I1 _ (turn_str _ z t "str_ascii_iterator" (.inl rfl)) ⟨_, Heap.get?_push_size _ rfl, rfl, rfl⟩ (q _ its_ok))
  · cases hi
/-- lo, lo + c, .. : n of them -/
def rangeL (lo c : Int) : Nat → List PyData
  | 0 => []
  | n + 1 => .int lo :: rangeL (lo + c) c n
theorem rangeL_length (lo c : Int) (n : Nat) : (rangeL lo c n).length = n := by
  induction n generalizing lo with
  | zero => rfl
  | succ n ih => unfold rangeL; rw [List.length_cons, ih]
theorem rangeL_get (c : Int) : ∀ (n : Nat) (lo : Int) (i : Nat), i < n → (rangeL lo c n)[i]? = some (.int (lo + (i : Nat) * c))
  | n + 1, lo, 0, _ => by
    unfold rangeL
    have e : lo + ((0 : Nat) : Int) * c = lo := by simp
    rw [e]
    rfl
  | n + 1, lo, i + 1, h => by
    unfold rangeL
    rw [List.getElem?_cons_succ, rangeL_get c n (lo + c) i (by omega)]
    have e : lo + c + (i : Int) * c = lo + ((i + 1 : Nat) : Int) * c := by
      have : ((i + 1 : Nat) : Int) = (i : Int) + 1 := by omega
      rw [this, Int.add_mul]
      omega
    rw [e]
def smallI (i : Int) : Prop := i.natAbs < 4611686018427387904
theorem smallI_un {i : Int} (h : smallI i) : -(2 ^ 62) ≤ i ∧ i < 2 ^ 62 := by unfold smallI at h; omega
instance (i : Int) : Decidable (smallI i) := by unfold smallI; infer_instance
def range1D : List PyData → R (List PyData)
  | [.int j] => if smallI j then .ok (rangeL 0 1 j.toNat) else .bad
  | _ => .bad
def range2D : List PyData → R (List PyData)
  | [.int i, .int j] => if smallI i ∧ smallI j then .ok (rangeL i 1 (j - i).toNat) else .bad
  | _ => .bad
/-- range with a step of -1 (or another one, told) -/
def range3D : List PyData → R (List PyData)
  | [.int i, .int j, .int c] => if c = -1 then (if smallI i ∧ smallI j then .ok (rangeL i (-1) (i - j).toNat) else .bad)
      else if c ≠ 0 ∧ c.natAbs < 1073741824 ∧ Builtin.Range.small i j c = true ∧ 0 ≤ Builtin.Range.rangeSize i j c then .ok (rangeL i c (Builtin.Range.rangeSize i j c).toNat) else .bad
  | _ => .bad
def argI (f : List PyData → R (List PyData)) (ma : Ev → R (List PyData)) (ρ : Ev) : R (List PyData) := (ma ρ).bind f
theorem itr_ok {K : PySem.W.Frag} {F : Hp} (lo : Int) (n : Nat) : ItOk K F (Itr lo n) (rangeL lo 1 n) := fun F' H l1 l2 => by
  refine ⟨fun i d e => ?_, by show n ≤ _; rw [rangeL_length]; exact Nat.le_refl _⟩
  have hi : i < n := by
    obtain ⟨h, _⟩ := List.getElem?_eq_some_iff.mp e
    rwa [rangeL_length] at h
  rw [rangeL_get 1 n lo i hi, Int.mul_one] at e
  cases e
  exact ⟨hi, fun x H' hy => by
    obtain ⟨rfl, rfl⟩ := hy
    exact ⟨F', Gr.refl l2, .int _⟩⟩
theorem itc_ok {K : PySem.W.Frag} {F : Hp} (lo c : Int) (n : Nat) : ItOk K F (Itc lo c n) (rangeL lo c n) := fun F' H l1 l2 => by
  refine ⟨fun i d e => ?_, by show n ≤ _; rw [rangeL_length]; exact Nat.le_refl _⟩
  have hi : i < n := by
    obtain ⟨h, _⟩ := List.getElem?_eq_some_iff.mp e
    rwa [rangeL_length] at h
  rw [rangeL_get c n lo i hi] at e
  cases e
  exact ⟨hi, fun x H' hy => by
    obtain ⟨rfl, rfl⟩ := hy
    exact ⟨F', Gr.refl l2, .int _⟩⟩
theorem pi_imp {tg iter : Expr} {t u : TI} (h : PI X tg iter t) (k : ∀ σ H R, u σ H R → t σ H R) : PI X tg iter u := ⟨fun pins s σ H R I q => h.run pins s σ H R I (k σ H R q)⟩
theorem DpAll.cons_inv {K : PySem.W.Frag} {F : Hp} {vs : List V} {d : PyData} {ds : List PyData} (h : DpAll K F vs (d :: ds)) : ∃ v ws, vs = v :: ws ∧ Dp K F v d ∧ DpAll K F ws ds := by
  cases h with
  | cons a b => exact ⟨_, _, rfl, a, b⟩
theorem DpAll.nil_inv {K : PySem.W.Frag} {F : Hp} {vs : List V} (h : DpAll K F vs []) : vs = [] := by
  cases h; rfl
theorem Dp.int_inv {K : PySem.W.Frag} {F : Hp} {v : V} {i : Int} (h : Dp K F v (.int i)) : v = .int i := by cases h; rfl
theorem xi_range1 {tg : Expr} {ma : Ev → R (List PyData)} (hg : Gl X "range") (hm : X.mg "range" = none) (ha : XA X We [a] ma) (hs : starEach [a] X.env = [(false, eval a X.env)]) : XI X We tg (.Call (.Name "range" p) [a] [] pos) (argI range1D ma) :=
  pi_imp (pi_range1 hg hm ha hs) fun σ H R q => by
    obtain ⟨ρ, F, G, r, q⟩ := q
    refine ⟨ρ, F, G, r, Po.bind (P := pA X.K) q fun ds vs F1 H1 g1 p1 q1 => ?_⟩
    unfold range1D at q1
    split at q1
    · rename_i j
      split at q1
      · rename_i hj
        obtain ⟨v, ws, rfl, a1, b1⟩ := DpAll.cons_inv p1
        cases DpAll.nil_inv b1
        cases Dp.int_inv a1
        exact ⟨j, rfl, (smallI_un hj).1, (smallI_un hj).2, q1 _ F1 H1 (Gr.refl g1.le) (itr_ok 0 _)⟩
      · exact q1.elim
    · exact q1.elim
theorem xi_range2 {tg : Expr} {ma : Ev → R (List PyData)} (hg : Gl X "range") (hm : X.mg "range" = none) (ha : XA X We [a, b] ma) (hs : starEach [a, b] X.env = [(false, eval a X.env), (false, eval b X.env)]) (hs2 : starEach [b] X.env = [(false, eval b X.env)]) : XI X We tg (.Call (.Name "range" p) [a, b] [] pos) (argI range2D ma) :=
  pi_imp (pi_range2 hg hm ha hs hs2) fun σ H R q => by
    obtain ⟨ρ, F, G, r, q⟩ := q
    refine ⟨ρ, F, G, r, Po.bind (P := pA X.K) q fun ds vs F1 H1 g1 p1 q1 => ?_⟩
    unfold range2D at q1
    split at q1
    · rename_i i j
      split at q1
      · rename_i hj
        obtain ⟨v, ws, rfl, a1, b1⟩ := DpAll.cons_inv p1
        obtain ⟨v2, ws2, rfl, a2, b2⟩ := DpAll.cons_inv b1
        cases DpAll.nil_inv b2
        cases Dp.int_inv a1
        cases Dp.int_inv a2
        exact ⟨i, j, rfl, ⟨(smallI_un hj.1).1, (smallI_un hj.1).2, (smallI_un hj.2).1, (smallI_un hj.2).2⟩, q1 _ F1 H1 (Gr.refl g1.le) (itr_ok i _)⟩
      · exact q1.elim
    · exact q1.elim
theorem xi_range3 {tg : Expr} {ma : Ev → R (List PyData)} (hg : Gl X "range") (hm : X.mg "range" = none) (ha : XA X We [a, b, c] ma) (hs : starEach [a, b, c] X.env = (false, eval a X.env) :: starEach [b, c] X.env) (hpl : (backTo pos (starEach [b, c] X.env)).any (·.1) = false) : XI X We tg (.Call (.Name "range" p) [a, b, c] [] pos) (argI range3D ma) :=
  pi_imp (pi_range3 hg hm ha hs hpl) fun σ H R q => by
    obtain ⟨ρ, F, G, r, q⟩ := q
    refine ⟨ρ, F, G, r, Po.bind (P := pA X.K) q fun ds vs F1 H1 g1 p1 q1 => ?_⟩
    unfold range3D at q1
    split at q1
    · rename_i i j k
      obtain ⟨v, ws, rfl, a1, b1⟩ := DpAll.cons_inv p1
      obtain ⟨v2, ws2, rfl, a2, b2⟩ := DpAll.cons_inv b1
      obtain ⟨v3, ws3, rfl, a3, b3⟩ := DpAll.cons_inv b2
      cases DpAll.nil_inv b3
      cases Dp.int_inv a1
      cases Dp.int_inv a2
      cases Dp.int_inv a3
      split at q1
      · rename_i hk
        subst hk
        split at q1
        · rename_i hj
          exact ⟨i, j, -1, _, rfl, RgC.neg (smallI_un hj.1).1 (smallI_un hj.1).2 (smallI_un hj.2).1 (smallI_un hj.2).2, q1 _ F1 H1 (Gr.refl g1.le) (itc_ok i (-1) _)⟩
        · exact q1.elim
      · split at q1
        · rename_i hj
          have e : Builtin.Range.rangeSize i j k = (((Builtin.Range.rangeSize i j k).toNat : Nat) : Int) := (Int.toNat_of_nonneg hj.2.2.2).symm
          exact ⟨i, j, k, _, rfl, ⟨hj.1, hj.2.1, hj.2.2.1, e⟩, q1 _ F1 H1 (Gr.refl g1.le) (itc_ok i k _)⟩
        · exact q1.elim
    · exact q1.elim
end
end PD
namespace PD
open PySem PySem.Spec PyProof.Rows L2
/-! ## comprehensions -/
def wipeE (ρ : Ev) : List Nat → Ev
  | [] => ρ
  | v :: vs => (wipeE ρ vs).set v .un
theorem Rl.wipe {K : PySem.W.Frag} {ρ : Ev} {F G : Hp} {σ : St} {H : Hp} (r : Rl K ρ F G σ H) : ∀ vs : List Nat, Rl K (wipeE ρ vs) F G (L2.wipe σ vs) H
  | [] => r
  | v :: vs => (r.wipe vs).unset v none
theorem Rl.low {K : PySem.W.Frag} {ρ : Ev} {F G : Hp} {σ : St} {H : Hp} (r : Rl K ρ F G σ H) : Rl K ρ F F σ H := by
  refine ⟨r.len, Le.refl F, r.fh, fun i x e => ?_, r.dis⟩
  have h := r.sl i x e
  cases x with
  | un => unfold SlOk; cases σ[i]? <;> trivial
  | d x => exact h.dd (Le.refl F)
  | lo xs =>
    obtain ⟨a, vs, q1, q2, q3, q4⟩ := r.getL e
    rw [q1]
    exact ⟨r.fg.none q2, vs, q3, q4⟩
  | tk x => exact h.tt (Le.refl F)
  | df x => exact h.ff (Le.refl F)
  | dd xs =>
    obtain ⟨a, vs, q1, q2, q3, q4⟩ := r.getD e
    rw [q1]
    exact ⟨r.fg.none q2, vs, q3, q4⟩
theorem Rl.up {K : PySem.W.Frag} {ρ : Ev} {F G : Hp} {σ : St} {H H' : Hp} (r : Rl K ρ F G σ H) (l : Le H H') : Rl K ρ F G σ H' :=
  ⟨r.len, r.fg, r.gh.trans l, fun i x e => (r.sl i x e).mono (Le.refl F) l fun _ _ => rfl, r.dis⟩
/-- the heap without one thing -/
def minus (H : Hp) (D : Addr) : Hp := fun b => if b = D then none else H b
theorem minus_le {H : Hp} {D : Addr} : Le (minus H D) H := fun b o e => by
  have e : (if b = D then none else H b) = some o := e
  by_cases hb : b = D
  · rw [if_pos hb] at e; cases e
  · rw [if_neg hb] at e; exact e
theorem minus_at {H : Hp} {D : Addr} : minus H D D = none := if_pos rfl
theorem minus_ne {H : Hp} {D b : Addr} (h : b ≠ D) : minus H D b = H b := if_neg h
theorem le_minus {F H : Hp} {D : Addr} (l : Le F H) (h : F D = none) : Le F (minus H D) := fun b o e => by
  rw [minus_ne (ne_of_none e h)]
  exact l b o e
theorem minus_upd {H : Hp} {D : Addr} {o : HO} : minus (upd H D o) D = minus H D := by
  funext b
  by_cases hb : b = D
  · rw [hb, minus_at, minus_at]
  · rw [minus_ne hb, minus_ne hb, upd_ne hb]
theorem Gr.minus {F H F' H' : Hp} {D : Addr} (g : Gr F H F' H') (hF : F D = none) (hH : H D ≠ none) : Gr F (PD.minus H D) F' (PD.minus H' D) := by
  have hF' : F' D = none := (g.n D hH).trans hF
  refine ⟨g.f, fun b o e => ?_, fun b hb => g.n b fun z => hb ?_, le_minus g.le hF'⟩
  · have e2 := minus_le b o e
    have hb : b ≠ D := fun z => by rw [z, minus_at] at e; cases e
    rw [minus_ne hb]
    exact g.h b o e2
  · cases q : PD.minus H D b with
    | none => rfl
    | some o => rw [minus_le b o q] at z; cases z
/-- the items that are made, one after the other -/
def lcM (g : PyData → Ev → R Ev) (t : Ev → R Bool) (e : Ev → R PyData) (ρ : Ev) : List PyData → R (List PyData)
  | [] => .ok []
  | x :: xs => (g x ρ).bind fun ρ' => (t ρ').bind fun b => if b = true then (e ρ').bind fun y => (lcM g t e ρ xs).bind fun ys => .ok (y :: ys) else lcM g t e ρ xs
def noErr {α : Type} : R α → R α
  | .err _ => .bad
  | r => r
def lcE (mi : Ev → R (List PyData)) (vs : List Nat) (g : PyData → Ev → R Ev) (t : Ev → R Bool) (e : Ev → R PyData) (ρ : Ev) : R PyData :=
  (mi ρ).bind fun xs => if xs.length ≤ SZ then (noErr (lcM g t e (wipeE ρ vs) xs)).bind fun ys => .ok (.list ys) else .bad
abbrev XTs (X : Cx) (We : EW) (ifs : List Expr) (m : Ev → R Bool) : Prop := PTs X ifs (tM X.K We pT m)
def yesT (_ : Ev) : R Bool := .ok true
theorem xts_nil {X : Cx} {We : EW} : XTs X We [] yesT := ⟨fun pins s σ H Q I h => pts_nil.run pins s σ H Q I (by
  obtain ⟨ρ, F, G, r, q⟩ := h
  exact q true F H (Gr.refl r.fh) rfl)⟩
theorem xts_one {X : Cx} {We : EW} {c : Expr} {m : Ev → R Bool} (h : XT X We c m) : XTs X We [c] m := pts_one h
theorem wipe_ch {σ σ' : St} {ts vs : List Nat} (h : Ch ts σ σ') (hs : ∀ i ∈ ts, i ∈ vs) : L2.wipe σ' vs = L2.wipe σ vs := by
  apply List.ext_getElem?
  intro i
  by_cases hi : i ∈ vs
  · have none_at : ∀ (τ : St) (vs : List Nat), i ∈ vs → τ.length = σ.length → (L2.wipe τ vs)[i]? = if i < σ.length then some none else none := fun τ vs => by
      induction vs with
      | nil => intro z; cases z
      | cons v vs ih =>
        intro hm hl
        unfold L2.wipe
        by_cases hv : v = i
        · subst hv
          by_cases hlt : v < σ.length
          · rw [List.getElem?_set_self (by rw [wipe_length, hl]; exact hlt), if_pos hlt]
          · rw [List.getElem?_eq_none (by rw [List.length_set, wipe_length, hl]; omega), if_neg hlt]
        · rw [List.getElem?_set_ne hv]
          exact ih ((List.mem_cons.mp hm).resolve_left fun z => hv z.symm) hl
    rw [none_at σ' vs hi h.1, none_at σ vs hi rfl]
  · rw [wipe_out hi, wipe_out hi]
    exact h.2 i fun z => hi (hs i z)
theorem wipe_wipe {σ : St} {vs : List Nat} : L2.wipe (L2.wipe σ vs) vs = L2.wipe σ vs := by
  refine wipe_ch (ts := vs) ⟨wipe_length σ vs, fun i hi => wipe_out hi⟩ fun _ h => h
section
variable {X : Cx} {We : EW}
theorem lc_red {mi : Ev → R (List PyData)} {vs ts : List Nat} {g : PyData → Ev → R Ev} {t : Ev → R Bool} {e : Ev → R PyData} (hts : ∀ i ∈ ts, i ∈ vs) {σ : St} {H : Hp} {Q : VK} (q : tM X.K We (pF X.K) (lcE mi vs g t e) σ H Q) :
    tLc (tM X.K We (pI X.K) mi) (tG X.K ts g) (tM X.K We0 pT t) (tM X.K We0 (pD X.K) e) vs σ H Q := by
  obtain ⟨ρ, F, G, r, q⟩ := q
  refine ⟨ρ, F, G, r, Po.bind (P := pI X.K) q fun xs J F1 H1 g1 p1 q1 => ?_⟩
  intro D hD
  split at q1
  rotate_left
  · exact q1.elim
  rename_i hz
  have r1 := (r.grow g1).1.low
  have hF1D : F1 D = none := g1.le.none hD
  cases hl : lcM g t e (wipeE ρ vs) xs with
  | err c => rw [hl] at q1; exact q1.elim
  | bad => rw [hl] at q1; exact q1.elim
  | ok ys =>
    rw [hl] at q1
    have q2 : ∀ b F' H', Gr F1 H1 F' H' → pF X.K H1 F' H' b (.list ys) → Q b H' := q1
    -- the invariant
    let Inv' : Nat → Hp → Prop := fun i H2 => ∃ F' accV accD rest, Rl X.K (wipeE ρ vs) F' F' (L2.wipe σ vs) (minus H2 D) ∧ ItOk X.K F' J xs ∧ Gr F1 H1 F' (minus H2 D) ∧ H2 D = some (.lst accV) ∧ DpAll X.K F' accV accD ∧ accD.length ≤ i ∧
      lcM g t e (wipeE ρ vs) (xs.drop i) = .ok rest ∧ accD ++ rest = ys
    refine ⟨fun i m H2 => m = xs.length - i ∧ i ≤ xs.length ∧ Inv' i H2, ⟨_, rfl, Nat.zero_le _, F1, [], [], ys, ?_, p1, ?_, upd_same, .nil, Nat.le_refl _, hl, rfl⟩, ?_⟩
    · rw [minus_upd]
      have hm : minus H1 D = H1 := by
        funext b
        by_cases hb : b = D
        · rw [hb, minus_at, hD]
        · rw [minus_ne hb]
      rw [hm]
      exact r1.wipe vs
    · rw [minus_upd]
      have hm : minus H1 D = H1 := by
        funext b
        by_cases hb : b = D
        · rw [hb, minus_at, hD]
        · rw [minus_ne hb]
      rw [hm]
      exact Gr.refl g1.le
    · rintro i m H2 ⟨rfl, hi, F', accV, accD, rest, r', p', g', hD', hacc, hal, hrest, hys⟩
      have lF : Le F' H2 := r'.fh.trans minus_le
      have fD : F' D = none := r'.fh.none minus_at
      obtain ⟨h1, h2⟩ := p' F' H2 (Le.refl F') lF
      by_cases hlt : i < xs.length
      · refine .inr ⟨(h1 i _ (List.getElem?_eq_getElem hlt)).1, Inv' (i + 1), fun H3 hN => ⟨_, by omega, rfl, hlt, hN⟩, fun x H3 hy => ?_⟩
        obtain ⟨F3, g3, p3⟩ := (h1 i _ (List.getElem?_eq_getElem hlt)).2 x H3 hy
        have nD : H2 D ≠ none := by rw [hD']; exact fun z => by cases z
        have gm3 := g3.minus fD nD
        have r3 := (r'.grow gm3).1.low
        have fD3 : F3 D = none := (g3.n D nD).trans fD
        have hD3 : H3 D = some (.lst accV) := g3.h _ _ hD'
        rw [List.drop_eq_getElem_cons hlt] at hrest
        unfold lcM at hrest
        cases hg : g xs[i] (wipeE ρ vs) with
        | err c => rw [hg] at hrest; cases hrest
        | bad => rw [hg] at hrest; cases hrest
        | ok ρ' =>
          rw [hg] at hrest
          refine ⟨wipeE ρ vs, F3, F3, xs[i], r3.up minus_le, p3, ?_⟩
          rw [hg]
          intro σ2 r4 c4
          refine ⟨(wipe_ch c4 hts).trans wipe_wipe, ρ', F3, F3, r4, ?_⟩
          have hrest : ((t ρ').bind fun b => if b = true then (e ρ').bind fun y => (lcM g t e (wipeE ρ vs) (xs.drop (i + 1))).bind fun ys => .ok (y :: ys) else lcM g t e (wipeE ρ vs) (xs.drop (i + 1))) = R.ok rest := hrest
          cases ht : t ρ' with
          | err c => rw [ht] at hrest; cases hrest
          | bad => rw [ht] at hrest; cases hrest
          | ok b =>
            rw [ht] at hrest
            intro b' F4 H4 g4 eb
            cases eb
            have nD3 : H3 D ≠ none := by rw [hD3]; exact fun z => by cases z
            have gm4 := g4.minus fD3 nD3
            have hD4 : H4 D = some (.lst accV) := g4.h _ _ hD3
            cases b with
            | false =>
              have hrest : lcM g t e (wipeE ρ vs) (xs.drop (i + 1)) = .ok rest := hrest
              rw [if_neg Bool.false_ne_true]
              exact ⟨F4, accV, accD, rest, (r3.grow gm4).1.low, (p'.le g3.f).le g4.f, (g'.trans gm3).trans gm4, hD4, (hacc.le g3.f).le g4.f, Nat.le_succ_of_le hal, hrest, hys⟩
            | true =>
              rw [if_pos rfl]
              have hrest : ((e ρ').bind fun y => (lcM g t e (wipeE ρ vs) (xs.drop (i + 1))).bind fun ys => .ok (y :: ys)) = R.ok rest := hrest
              cases he : e ρ' with
              | err c => rw [he] at hrest; cases hrest
              | bad => rw [he] at hrest; cases hrest
              | ok y =>
                rw [he] at hrest
                have hrest : ((lcM g t e (wipeE ρ vs) (xs.drop (i + 1))).bind fun ys => .ok (y :: ys)) = R.ok rest := hrest
                cases hr : lcM g t e (wipeE ρ vs) (xs.drop (i + 1)) with
                | err c => rw [hr] at hrest; cases hrest
                | bad => rw [hr] at hrest; cases hrest
                | ok rest' =>
                  rw [hr] at hrest
                  cases hrest
                  refine ⟨ρ', F4, _, (r4.grow g4).1, ?_⟩
                  rw [he]
                  intro v F5 H5 g5 p5
                  have nD4 : H4 D ≠ none := by rw [hD4]; exact fun z => by cases z
                  have fD4 : F4 D = none := (g4.n D nD3).trans fD3
                  have gm5 := g5.minus fD4 nD4
                  have hl' := DpAll.length hacc
                  have sq := sz_eq
                  refine ⟨accV, g5.h _ _ hD4, by rw [sq]; omega, F5, accV ++ [v], accD ++ [y], rest', ?_, ((p'.le g3.f).le g4.f).le g5.f, ?_, upd_same, (((hacc.le g3.f).le g4.f).le g5.f).append (.cons p5 .nil), by rw [List.length_append, List.length_singleton]; omega, hr, by rw [List.append_assoc]; exact hys⟩
                  · rw [minus_upd]
                    exact ((r3.grow gm4).1.low.grow gm5).1.low
                  · rw [minus_upd]
                    exact ((g'.trans gm3).trans gm4).trans gm5
      · have ei : i = xs.length := by omega
        subst ei
        refine .inl ⟨h2, ?_⟩
        rw [List.drop_length] at hrest
        cases hrest
        rw [List.append_nil] at hys
        subst hys
        have gg : Gr F1 H1 F' H2 := ⟨g'.f, g'.h.trans minus_le, g'.n, lF⟩
        exact q2 _ F' H2 gg ⟨D, accV, _, rfl, rfl, hD, fD, hD', hacc⟩
theorem xf_lc {elt tg iter : Expr} {ifs : List Expr} {scope : Scope} {own : List (Str × Nat)} {pos : Pos} {mi : Ev → R (List PyData)} {ts : List Nat} {g : PyData → Ev → R Ev} {t : Ev → R Bool} {e : Ev → R PyData} (hc : X.calm = true) (hN : X.N.Nodup) (hi : XI X We tg iter mi) (ok : BlkOk X.N X.env.scope scope own) (hts : ∀ i ∈ ts, i ∈ own.map (·.2))
    (hg : ∀ (s : Shared) (H : Hp) (C : Addr) (cl : List (Str × Addr)) (fp : List Addr), XG (X.blk s H scope (compEnvC scope cl C X.env) fp) tg ts g) (ht : ∀ (s : Shared) (H : Hp) (C : Addr) (cl : List (Str × Addr)) (fp : List Addr), XTs (X.blk s H scope (compEnvC scope cl C X.env) fp) We0 ifs t)
    (he : ∀ (s : Shared) (H : Hp) (C : Addr) (cl : List (Str × Addr)) (fp : List Addr), XE (X.blk s H scope (compEnvC scope cl C X.env) fp) We0 elt e) (hs : ∀ x, foldedSetIterable iter X.env x = pure x) :
    XF X We (.ListComp elt [⟨tg, iter, ifs, 0⟩] scope pos) (lcE mi (own.map (·.2)) g t e) :=
  pe_imp (pe_lc hc hN hi ok hg ht he hs) fun σ H Q q => lc_red hts q
/-- name = [..] on one line: the list stays -/
theorem xs_setLc {i : Nat} {y : Str} {py : Pos} {elt tg iter : Expr} {ifs : List Expr} {scope : Scope} {own : List (Str × Nat)} {pos spos : Pos} {mi : Ev → R (List PyData)} {ts : List Nat} {g : PyData → Ev → R Ev} {t : Ev → R Bool} {e : Ev → R PyData} (hc : X.calm = true) (hN : X.N.Nodup) (hy : X.N[i]? = some y) (hyl : X.env.scope.names.lookup y = some .local)
    (hsw : swapsWith (.ListComp elt [⟨tg, iter, ifs, 0⟩] scope pos) (some (.Name y py)) spos.line X.env = pure true) (hi : XI X We tg iter mi) (ok : BlkOk X.N X.env.scope scope own) (hts : ∀ i ∈ ts, i ∈ own.map (·.2))
    (hg : ∀ (s : Shared) (H : Hp) (C : Addr) (cl : List (Str × Addr)) (fp : List Addr), XG (X.blk s H scope (compEnvC scope cl C X.env) fp) tg ts g) (ht : ∀ (s : Shared) (H : Hp) (C : Addr) (cl : List (Str × Addr)) (fp : List Addr), XTs (X.blk s H scope (compEnvC scope cl C X.env) fp) We0 ifs t)
    (he : ∀ (s : Shared) (H : Hp) (C : Addr) (cl : List (Str × Addr)) (fp : List Addr), XE (X.blk s H scope (compEnvC scope cl C X.env) fp) We0 elt e) (hs : ∀ x, foldedSetIterable iter X.env x = pure x) :
    XS X We (.Assign [.Name y py] (.ListComp elt [⟨tg, iter, ifs, 0⟩] scope pos) spos) (setS i (lcE mi (own.map (·.2)) g t e)) :=
  ps_imp (ps_setLc hc hN hy hyl hsw hi ok hg ht he hs) fun D σ H q => by
    obtain ⟨ρ, F, G, r, q⟩ := q
    refine lc_red (X := X) (We := We) (mi := mi) (g := g) (t := t) (e := e) hts ⟨ρ, F, G, r, ?_⟩
    have q' : Po We (pD X.K) F H σ (lcE mi (own.map (·.2)) g t e ρ) fun x H1 => gName i x σ H1 D.nx := PoS.expr (P := pD X.K) r q fun d v F1 G1 H1 r1 g1 p1 q1 => q1 _ F1 G1 H1 (r1.set i p1) (GrS.refl F1 G1)
    cases hm : lcE mi (own.map (·.2)) g t e ρ with
    | ok d =>
      rw [hm] at q'
      intro v F1 H1 g1 p
      obtain ⟨x, vs, ds, rfl, rfl, n0, n1, h1, h2⟩ := p
      exact q' _ _ _ (g1.keep n0 n1 h1) (Dp.new_lst n1 h2)
    | err c => rw [hm] at q'; exact q'
    | bad => rw [hm] at q'; exact q'
/-- name = [..] on one line: the list is one's own -/
theorem xs_setLcL {i : Nat} {y : Str} {py : Pos} {elt tg iter : Expr} {ifs : List Expr} {scope : Scope} {own : List (Str × Nat)} {pos spos : Pos} {mi : Ev → R (List PyData)} {ts : List Nat} {g : PyData → Ev → R Ev} {t : Ev → R Bool} {e : Ev → R PyData} (hc : X.calm = true) (hN : X.N.Nodup) (hy : X.N[i]? = some y) (hyl : X.env.scope.names.lookup y = some .local)
    (hsw : swapsWith (.ListComp elt [⟨tg, iter, ifs, 0⟩] scope pos) (some (.Name y py)) spos.line X.env = pure true) (hi : XI X We tg iter mi) (ok : BlkOk X.N X.env.scope scope own) (hts : ∀ i ∈ ts, i ∈ own.map (·.2))
    (hg : ∀ (s : Shared) (H : Hp) (C : Addr) (cl : List (Str × Addr)) (fp : List Addr), XG (X.blk s H scope (compEnvC scope cl C X.env) fp) tg ts g) (ht : ∀ (s : Shared) (H : Hp) (C : Addr) (cl : List (Str × Addr)) (fp : List Addr), XTs (X.blk s H scope (compEnvC scope cl C X.env) fp) We0 ifs t)
    (he : ∀ (s : Shared) (H : Hp) (C : Addr) (cl : List (Str × Addr)) (fp : List Addr), XE (X.blk s H scope (compEnvC scope cl C X.env) fp) We0 elt e) (hs : ∀ x, foldedSetIterable iter X.env x = pure x) :
    XS X We (.Assign [.Name y py] (.ListComp elt [⟨tg, iter, ifs, 0⟩] scope pos) spos) (setLS i (lcE mi (own.map (·.2)) g t e)) :=
  ps_imp (ps_setLc hc hN hy hyl hsw hi ok hg ht he hs) fun D σ H q => lc_red (X := X) (We := We) (mi := mi) (g := g) (t := t) (e := e) hts (setL_red q)
end
end PD
namespace PD
open PySem PySem.Spec PyProof.Rows L2
/-! ## built-ins -/
abbrev PureL (f : List PyData → R PyData) : Prop := ∀ ds c, f ds ≠ .err c
def rC (K : PySem.W.Frag) (f : List PyData → R PyData) : List V → Hp → VK → Prop := fun xs H Q => ∃ F ds c, Le F H ∧ Paired (fun v d => pB K H F H v d) xs ds ∧ f ds = .ok c ∧ ∀ v F' H', Gr F H F' H' → Dp K F' v c → Q v H'
/-- .. where a new list of one's own comes back -/
def rCF (K : PySem.W.Frag) (f : List PyData → R PyData) : List V → Hp → VK → Prop := fun xs H Q => ∃ F ds c, Le F H ∧ Paired (fun v d => pB K H F H v d) xs ds ∧ f ds = .ok c ∧ ∀ v F' H', Gr F H F' H' → pF K H F' H' v c → Q v H'
def callB (f : List PyData → R PyData) (ma : Ev → R (List PyData)) (ρ : Ev) : R PyData := (ma ρ).bind f
section
variable {X : Cx} {We : EW} {e a b c : Expr} {es : List Expr} {pos p : Pos} {x : Str} {id T : String}
theorem callB_red {f : List PyData → R PyData} {ma : Ev → R (List PyData)} (pf : PureL f) {σ : St} {H : Hp} {Q : VK} (q : tM X.K We (pD X.K) (callB f ma) σ H Q) : tCB (rC X.K f) (tM X.K We (pAB X.K) ma) σ H Q := by
  obtain ⟨ρ, F, G, r, q⟩ := q
  refine ⟨ρ, F, G, r, Po.bind (P := pAB X.K) q fun ds vs F1 H1 g1 p1 q1 => ?_⟩
  cases hf : f ds with
  | err c => exact absurd hf (pf ds c)
  | bad => rw [hf] at q1; exact q1.elim
  | ok c => rw [hf] at q1; exact ⟨F1, ds, c, g1.le, p1, hf, fun v F' H' g p => q1 v F' H' g p⟩
theorem callF_red {f : List PyData → R PyData} {ma : Ev → R (List PyData)} (pf : PureL f) {σ : St} {H : Hp} {Q : VK} (q : tM X.K We (pF X.K) (callB f ma) σ H Q) : tCB (rCF X.K f) (tM X.K We (pAB X.K) ma) σ H Q := by
  obtain ⟨ρ, F, G, r, q⟩ := q
  refine ⟨ρ, F, G, r, Po.bind (P := pAB X.K) q fun ds vs F1 H1 g1 p1 q1 => ?_⟩
  cases hf : f ds with
  | err c => exact absurd hf (pf ds c)
  | bad => rw [hf] at q1; exact q1.elim
  | ok c => rw [hf] at q1; exact ⟨F1, ds, c, g1.le, p1, hf, fun v F' H' g p => q1 v F' H' g p⟩
theorem xe_callB {f : List PyData → R PyData} {ma : Ev → R (List PyData)} (pf : PureL f) (hc : CallR X (.builtin id) (rC X.K f)) (hg : Gl X x) (hm : X.mg x = none) (hv : bootBuiltins x = some (.builtin id)) (ha : XAB X We (e :: es) ma) (hn : x ≠ "__name__") (hdb : (x == ("__debug__" : Str)) = false)
    (he : starEach (e :: es) X.env = (false, eval e X.env) :: starEach es X.env) (hpl : (backTo pos (starEach es X.env)).any (·.1) = false) : XE X We (.Call (.Name x p) (e :: es) [] pos) (callB f ma) :=
  pe_imp (pe_callB hc hg hm hv ha hn hdb he hpl) fun σ H Q q => callB_red pf q
theorem xe_callTy {f : List PyData → R PyData} {ma : Ev → R (List PyData)} (pf : PureL f) (hc : CallR X (.type T) (rC X.K f)) (hg : Gl X x) (hm : X.mg x = none) (hv : bootBuiltins x = some (.type T)) (ha : XAB X We (e :: es) ma) (hn : x ≠ "__name__") (hdb : (x == ("__debug__" : Str)) = false)
    (he : starEach (e :: es) X.env = (false, eval e X.env) :: starEach es X.env) (hpl : (backTo pos (starEach es X.env)).any (·.1) = false) : XE X We (.Call (.Name x p) (e :: es) [] pos) (callB f ma) :=
  pe_imp (pe_callTy hc hg hm hv ha hn hdb he hpl) fun σ H Q q => callB_red pf q
theorem xf_callB {f : List PyData → R PyData} {ma : Ev → R (List PyData)} (pf : PureL f) (hc : CallR X (.builtin id) (rCF X.K f)) (hg : Gl X x) (hm : X.mg x = none) (hv : bootBuiltins x = some (.builtin id)) (ha : XAB X We (e :: es) ma) (hn : x ≠ "__name__") (hdb : (x == ("__debug__" : Str)) = false)
    (he : starEach (e :: es) X.env = (false, eval e X.env) :: starEach es X.env) (hpl : (backTo pos (starEach es X.env)).any (·.1) = false) : XF X We (.Call (.Name x p) (e :: es) [] pos) (callB f ma) :=
  pe_imp (pe_callB hc hg hm hv ha hn hdb he hpl) fun σ H Q q => callF_red pf q
theorem xf_callTy {f : List PyData → R PyData} {ma : Ev → R (List PyData)} (pf : PureL f) (hc : CallR X (.type T) (rCF X.K f)) (hg : Gl X x) (hm : X.mg x = none) (hv : bootBuiltins x = some (.type T)) (ha : XAB X We (e :: es) ma) (hn : x ≠ "__name__") (hdb : (x == ("__debug__" : Str)) = false)
    (he : starEach (e :: es) X.env = (false, eval e X.env) :: starEach es X.env) (hpl : (backTo pos (starEach es X.env)).any (·.1) = false) : XF X We (.Call (.Name x p) (e :: es) [] pos) (callB f ma) :=
  pe_imp (pe_callTy hc hg hm hv ha hn hdb he hpl) fun σ H Q q => callF_red pf q
theorem pair1 {P : V → PyData → Prop} {xs : List V} {d : PyData} (h : Paired P xs [d]) : ∃ v, xs = [v] ∧ P v d := by
  cases h with
  | cons a b => cases b; exact ⟨_, rfl, a⟩
theorem pair2 {P : V → PyData → Prop} {xs : List V} {d e : PyData} (h : Paired P xs [d, e]) : ∃ v w, xs = [v, w] ∧ P v d ∧ P w e := by
  cases h with
  | cons a b =>
    cases b with
    | cons a2 b2 => cases b2; exact ⟨_, _, rfl, a, a2⟩
/-! ### len, abs, int, min and max of two -/
def lenD : List PyData → R PyData
  | [.list xs] => .ok (.int xs.length)
  | [.tuple xs] => .ok (.int xs.length)
  | [.str z] => if z.length ≤ SZ then .ok (.int z.length) else .bad
  | _ => .bad
theorem lenD_p : PureL lenD := fun d c h => by unfold lenD at h; split at h <;> first | cases h | (split at h <;> cases h)
theorem cb_len : CallR X (.builtin "len") (rC X.K lenD) := by
  intro pins s σ H xs us Q I r h
  obtain ⟨F, ds, c, l, pd, hf, q⟩ := h
  unfold lenD at hf
  split at hf
  · cases hf
    obtain ⟨v, rfl, p⟩ := pair1 pd
    obtain ⟨a, vs, rfl, ha, hvs⟩ := p.list l
    refine call_len_seq pins s σ H _ us Q I r ⟨a, vs, rfl, .inl ha, ?_⟩
    rw [hvs.length]
    exact q _ F H (Gr.refl l) (.int _)
  · cases hf
    obtain ⟨v, rfl, p⟩ := pair1 pd
    obtain ⟨a, vs, rfl, ha, hvs⟩ := p.tuple l
    refine call_len_seq pins s σ H _ us Q I r ⟨a, vs, rfl, .inr ha, ?_⟩
    rw [hvs.length]
    exact q _ F H (Gr.refl l) (.int _)
  · split at hf
    · cases hf
      obtain ⟨v, rfl, p⟩ := pair1 pd
      have e := p.str; subst e
      exact call_len_str pins s σ H _ us Q I r ⟨_, rfl, by rw [sz_eq]; assumption, q _ F H (Gr.refl l) (.int _)⟩
    · cases hf
  · cases hf
def absD : List PyData → R PyData
  | [.int i] => .ok (.int i.natAbs)
  | _ => .bad
theorem absD_p : PureL absD := fun d c h => by unfold absD at h; split at h <;> cases h
theorem cb_abs : CallR X (.builtin "abs") (rC X.K absD) := by
  intro pins s σ H xs us Q I r h
  obtain ⟨F, ds, c, l, pd, hf, q⟩ := h
  unfold absD at hf
  split at hf
  · cases hf
    obtain ⟨v, rfl, p⟩ := pair1 pd
    have e := p.int; subst e
    rename_i i
    refine call_abs pins s σ H _ us Q I r ⟨i, rfl, ?_⟩
    have e : (if i < 0 then -i else i) = (i.natAbs : Int) := by split <;> omega
    rw [e]
    exact q _ F H (Gr.refl l) (.int _)
  · cases hf
def int1D : List PyData → R PyData
  | [.int i] => .ok (.int i)
  | [.bool b] => .ok (.int (if b then 1 else 0))
  | _ => .bad
theorem int1D_p : PureL int1D := fun d c h => by unfold int1D at h; split at h <;> cases h
theorem cb_int : CallR X (.type "int") (rC X.K int1D) := by
  intro pins s σ H xs us Q I r h
  obtain ⟨F, ds, c, l, pd, hf, q⟩ := h
  unfold int1D at hf
  split at hf
  · cases hf
    obtain ⟨v, rfl, p⟩ := pair1 pd
    have e := p.int; subst e
    exact call_int1 pins s σ H _ us Q I r (.inl ⟨_, rfl, q _ F H (Gr.refl l) (.int _)⟩)
  · cases hf
    obtain ⟨v, rfl, p⟩ := pair1 pd
    have e := p.bool; subst e
    exact call_int1 pins s σ H _ us Q I r (.inr ⟨_, rfl, q _ F H (Gr.refl l) (.int _)⟩)
  · cases hf
/-! ### sums, all, any -/
def intsOf : List PyData → Option (List Int)
  | [] => some []
  | .int i :: r => (intsOf r).map (i :: ·)
  | _ :: _ => none
def boolsOf : List PyData → Option (List Bool)
  | [] => some []
  | .bool i :: r => (boolsOf r).map (i :: ·)
  | _ :: _ => none
theorem intsOf_eq : ∀ {ds : List PyData} {ns : List Int}, intsOf ds = some ns → ds = ns.map PyData.int
  | [], ns, h => by unfold intsOf at h; cases h; rfl
  | d :: r, ns, h => by
    cases d with
    | int i =>
      unfold intsOf at h
      cases hr : intsOf r with
      | none => rw [hr] at h; cases h
      | some ms => rw [hr] at h; cases h; rw [intsOf_eq hr]; rfl
    | _ => unfold intsOf at h; cases h
theorem boolsOf_eq : ∀ {ds : List PyData} {ns : List Bool}, boolsOf ds = some ns → ds = ns.map PyData.bool
  | [], ns, h => by unfold boolsOf at h; cases h; rfl
  | d :: r, ns, h => by
    cases d with
    | bool i =>
      unfold boolsOf at h
      cases hr : boolsOf r with
      | none => rw [hr] at h; cases h
      | some ms => rw [hr] at h; cases h; rw [boolsOf_eq hr]; rfl
    | _ => unfold boolsOf at h; cases h
@[simp] theorem intsOf_map : ∀ ns : List Int, intsOf (ns.map PyData.int) = some ns
  | [] => rfl
  | n :: ns => by rw [List.map_cons]; unfold intsOf; rw [intsOf_map ns]; rfl
@[simp] theorem boolsOf_map : ∀ ns : List Bool, boolsOf (ns.map PyData.bool) = some ns
  | [] => rfl
  | n :: ns => by rw [List.map_cons]; unfold boolsOf; rw [boolsOf_map ns]; rfl
def sumD : List PyData → R PyData
  | [.list ds] => match intsOf ds with | some ns => .ok (.int ns.sum) | none => .bad
  | _ => .bad
def allD : List PyData → R PyData
  | [.list ds] => match boolsOf ds with | some ns => .ok (.bool (ns.all _root_.id)) | none => .bad
  | _ => .bad
def anyD : List PyData → R PyData
  | [.list ds] => match boolsOf ds with | some ns => .ok (.bool (ns.any _root_.id)) | none => .bad
  | _ => .bad
theorem sumD_p : PureL sumD := fun d c h => by unfold sumD at h; split at h <;> first | cases h | (split at h <;> cases h)
theorem allD_p : PureL allD := fun d c h => by unfold allD at h; split at h <;> first | cases h | (split at h <;> cases h)
theorem anyD_p : PureL anyD := fun d c h => by unfold anyD at h; split at h <;> first | cases h | (split at h <;> cases h)
theorem cb_sum (hc : X.calm = true) : CallR X (.builtin "sum") (rC X.K sumD) := by
  intro pins s σ H xs us Q I r h
  obtain ⟨F, ds, c, l, pd, hf, q⟩ := h
  unfold sumD at hf
  split at hf
  · split at hf
    · rename_i ns hns
      cases hf
      obtain ⟨v, rfl, p⟩ := pair1 pd
      obtain ⟨a, vs, rfl, ha, hvs⟩ := p.list l
      rw [intsOf_eq hns] at hvs
      rw [hvs.ints] at ha
      exact cr_sum hc pins s σ H _ us Q I r ⟨a, ns, rfl, ha, q _ F H (Gr.refl l) (.int _)⟩
    · cases hf
  · cases hf
theorem cb_all (hc : X.calm = true) : CallR X (.builtin "all") (rC X.K allD) := by
  intro pins s σ H xs us Q I r h
  obtain ⟨F, ds, c, l, pd, hf, q⟩ := h
  unfold allD at hf
  split at hf
  · split at hf
    · rename_i ns hns
      cases hf
      obtain ⟨v, rfl, p⟩ := pair1 pd
      obtain ⟨a, vs, rfl, ha, hvs⟩ := p.list l
      rw [boolsOf_eq hns] at hvs
      rw [hvs.bools] at ha
      exact cr_all hc pins s σ H _ us Q I r ⟨a, ns, rfl, ha, q _ F H (Gr.refl l) (.bl _)⟩
    · cases hf
  · cases hf
theorem cb_any (hc : X.calm = true) : CallR X (.builtin "any") (rC X.K anyD) := by
  intro pins s σ H xs us Q I r h
  obtain ⟨F, ds, c, l, pd, hf, q⟩ := h
  unfold anyD at hf
  split at hf
  · split at hf
    · rename_i ns hns
      cases hf
      obtain ⟨v, rfl, p⟩ := pair1 pd
      obtain ⟨a, vs, rfl, ha, hvs⟩ := p.list l
      rw [boolsOf_eq hns] at hvs
      rw [hvs.bools] at ha
      exact cr_any hc pins s σ H _ us Q I r ⟨a, ns, rfl, ha, q _ F H (Gr.refl l) (.bl _)⟩
    · cases hf
  · cases hf
/-! ### list(x), tuple(x) -/
def list1D : List PyData → R PyData
  | [.list xs] => .ok (.list xs)
  | [.tuple xs] => .ok (.list xs)
  | _ => .bad
def tuple1D : List PyData → R PyData
  | [.list xs] => .ok (.tuple xs)
  | [.tuple xs] => .ok (.tuple xs)
  | _ => .bad
theorem list1D_p : PureL list1D := fun d c h => by unfold list1D at h; split at h <;> cases h
theorem tuple1D_p : PureL tuple1D := fun d c h => by unfold tuple1D at h; split at h <;> cases h
theorem cb_list : CallR X (.type "list") (rCF X.K list1D) := by
  intro pins s σ H xs us Q I r h
  obtain ⟨F, ds, c, l, pd, hf, q⟩ := h
  unfold list1D at hf
  split at hf
  · cases hf
    obtain ⟨v, rfl, p⟩ := pair1 pd
    obtain ⟨a, vs, rfl, ha, hvs⟩ := p.list l
    exact call_list_of pins s σ H _ us Q I r ⟨a, vs, rfl, .inl ha, fun p np => q _ _ _ (Gr.own l np) ⟨p, vs, _, rfl, rfl, np, l.none np, upd_same, hvs⟩⟩
  · cases hf
    obtain ⟨v, rfl, p⟩ := pair1 pd
    obtain ⟨a, vs, rfl, ha, hvs⟩ := p.tuple l
    exact call_list_of pins s σ H _ us Q I r ⟨a, vs, rfl, .inr ha, fun p np => q _ _ _ (Gr.own l np) ⟨p, vs, _, rfl, rfl, np, l.none np, upd_same, hvs⟩⟩
  · cases hf
theorem cb_tuple : CallR X (.type "tuple") (rC X.K tuple1D) := by
  intro pins s σ H xs us Q I r h
  obtain ⟨F, ds, c, l, pd, hf, q⟩ := h
  unfold tuple1D at hf
  split at hf
  · cases hf
    obtain ⟨v, rfl, p⟩ := pair1 pd
    obtain ⟨a, vs, rfl, ha, hvs⟩ := p.list l
    exact call_tuple_of pins s σ H _ us Q I r ⟨a, vs, rfl, .inl ⟨ha, fun p np => q _ _ _ (Gr.new l np) (Dp.new_tup (l.none np) hvs)⟩⟩
  · cases hf
    obtain ⟨v, rfl, p⟩ := pair1 pd
    obtain ⟨a, vs, rfl, ha, hvs⟩ := p.tuple l
    refine call_tuple_of pins s σ H _ us Q I r ⟨a, vs, rfl, .inr ⟨ha, q _ F H (Gr.refl l) ?_⟩⟩
    rcases p with p | ⟨a', us', ds', e1, e2, _⟩
    · exact p
    · cases e2
  · cases hf
/-! ### isinstance -/
def tyName : PyData → String
  | .none => "NoneType"
  | .bool _ => "bool"
  | .int _ => "int"
  | .str _ => "str"
  | .list _ => "list"
  | .tuple _ => "tuple"
  | .dict _ => "dict"
inductive Ty where
  | int | bool | str | tuple | list | dict
def Ty.name : Ty → String
  | .int => "int"
  | .bool => "bool"
  | .str => "str"
  | .tuple => "tuple"
  | .list => "list"
  | .dict => "dict"
def isiB : Ty → PyData → Bool
  | .int, .int _ => true
  | .int, .bool _ => true
  | .bool, .bool _ => true
  | .str, .str _ => true
  | .tuple, .tuple _ => true
  | .list, .list _ => true
  | .dict, .dict _ => true
  | _, _ => false
theorem kit_isi (t : Ty) (d : PyData) : kitB (tyName d) t.name = some (isiB t d) := by
  cases t <;> cases d <;> simp only [tyName, Ty.name, isiB] <;> decide +kernel
def isiD (t : Ty) (d : PyData) : R PyData := .ok (.bool (isiB t d))
theorem tyx_of {K : PySem.W.Frag} {H : Hp} {v : V} {d : PyData} (h : Dp K H v d) : TyX K H v (.type (tyName d)) := by
  cases h with
  | non => exact .base .non
  | bl b => exact .base (.bl b)
  | int i => exact .base (.int i)
  | str x => exact .base (.str x)
  | lst h1 h2 =>
    rcases h1 with (h | ⟨o, h⟩) | ⟨o, its, n, h, hc, _⟩
    · exact .base (.lst h)
    · exact .base (.frz h)
    · exact .kList h hc
  | tup h1 h2 =>
    rcases h1 with (h | ⟨o, h⟩) | ⟨o, its, n, h, hc, _⟩
    · exact .base (.tup h)
    · exact .fTuple h
    · exact .kTuple h hc
theorem xe_isi (t : Ty) {y : Str} {p2 : Pos} {ma : Ev → R PyData} (hg : Gl X "isinstance") (hm : X.mg "isinstance" = none) (hg2 : Gl X y) (hm2 : X.mg y = none) (hv2 : bootBuiltins y = some (.type t.name)) (ha : XB X We e ma) (hn : y ≠ "__name__") (hd : (y == ("__debug__" : Str)) = false)
    (hs1 : starEach [e, .Name y p2] X.env = (false, eval e X.env) :: starEach [.Name y p2] X.env) (hs2 : starEach [.Name y p2] X.env = (false, eval (.Name y p2) X.env) :: starEach [] X.env) (hpl : (backTo pos (starEach [.Name y p2] X.env)).any (·.1) = false) :
    XE X We (.Call (.Name "isinstance" p) [e, .Name y p2] [] pos) (op1 (isiD t) ma) := by
  refine pe_imp (pe_callB call_isi hg hm (by decide +kernel) (pa_cons ha (pa_cons (pe_bltn (v := .ty t.name) hg2 hm2 hv2 rfl hn hd) pa_nil hs2) hs1) (by decide) (by decide) hs1 hpl) fun σ H Q q => ?_
  obtain ⟨ρ, F, G, r, q⟩ := q
  refine ⟨ρ, F, G, r, Po.bind (P := pB X.K) q fun d x F1 H1 g1 p1 q1 => ?_⟩
  exact ⟨x, .ty t.name, .type (tyName d), .type t.name, isiB t d, rfl, .ty t.name, tyx_of (p1.dp g1.le), kit_ty (kit_isi t d), q1 (.bl _) F1 H1 (Gr.refl g1.le) (.bl _)⟩
/-! ### min, max -/
def alikeOk (xs : List PyData) : Bool := xs.all (fun x => xs.all (fun y => PySem.W.alike x y) && !isN x) && decide (PyData.depthAll xs ≤ 60)
theorem alikeOk_un {xs : List PyData} (h : alikeOk xs = true) : PySem.W.AlikeAll xs ∧ PyData.depthAll xs ≤ 60 := by
  unfold alikeOk at h
  simp only [Bool.and_eq_true, List.all_eq_true, decide_eq_true_eq, Bool.not_eq_true'] at h
  refine ⟨⟨fun x hx y hy => (h.1 x hx).1 y hy, fun x hx z => ?_⟩, h.2⟩
  have := (h.1 x hx).2
  rw [z] at this
  cases this
def minD : List PyData → R PyData
  | [.int i, .int j] => .ok (.int (min i j))
  | [.list (x :: xs)] => if alikeOk (x :: xs) = true then .ok (PySem.W.minD x xs) else .bad
  | [.tuple (x :: xs)] => if alikeOk (x :: xs) = true then .ok (PySem.W.minD x xs) else .bad
  | _ => .bad
def maxD : List PyData → R PyData
  | [.int i, .int j] => .ok (.int (max i j))
  | [.list (x :: xs)] => if alikeOk (x :: xs) = true then .ok (PySem.W.maxD x xs) else .bad
  | [.tuple (x :: xs)] => if alikeOk (x :: xs) = true then .ok (PySem.W.maxD x xs) else .bad
  | _ => .bad
theorem minD_p : PureL minD := fun d c h => by unfold minD at h; split at h <;> first | cases h | (split at h <;> cases h)
theorem maxD_p : PureL maxD := fun d c h => by unfold maxD at h; split at h <;> first | cases h | (split at h <;> cases h)
/-- an item of the machine's list, found by what it reads as -/
theorem pick {pins : List (Addr × Obj)} {s s' : Shared} {σ : St} {H F : Hp} {vs : List V} {its : List Value} {ds : List PyData} {i : Nat} {v : Value} {d : PyData} {bs : List Addr} {Q : VK} (I : Inv X pins σ H s) (l : Le F H) (rv : Vals vs its) (hd : DpAll X.K F vs ds) (hv : its[i]? = some v) (rd : Reads s'.heap v d bs)
    (hk : ∀ b o, s.heap.get? b = some o → s'.heap.get? b = some o) (q : ∀ w, Dp X.K F w d → Q w H) (ht : ∃ h' tk, s' = { s with heap := h', toks := tk }) : EP X pins σ Q v s' := by
  obtain ⟨h', tk, rfl⟩ := ht
  have hlen := rv.length
  obtain ⟨hi, _⟩ := List.getElem?_eq_some_iff.mp hv
  have hi2 : i < vs.length := by omega
  obtain ⟨u, eu, ru⟩ := rv.get (List.getElem?_eq_getElem hi2)
  rw [hv] at eu
  cases eu
  obtain ⟨d', ed, pd⟩ := hd.get' (List.getElem?_eq_getElem hi2)
  obtain ⟨as, r1⟩ := Dp.reads I d' vs[i] v (pd.le l) ru
  have r2 : Reads h' v d' as := PySem.W.reads_keeps hk r1
  have e := (PySem.Reads.unique r2 d bs rd).1
  subst e
  exact ⟨vs[i], H, I.kept (h' := h') (t' := tk) hk, ru, q _ pd⟩
theorem cb_min (hc : X.calm = true) (hu : X.A.units + 64 < cLine) : CallR X (.builtin "min") (rC X.K minD) := by
  intro pins s σ H xs us Q I r h
  obtain ⟨F, ds, c, l, pd, hf, q⟩ := h
  unfold minD at hf
  split at hf
  · cases hf
    obtain ⟨v, w, rfl, p, p2⟩ := pair2 pd
    have e := p.int; have e2 := p2.int; subst e e2
    rename_i i j
    refine call_min2 hc pins s σ H _ us Q I r ⟨i, j, rfl, ?_⟩
    have e : (if j < i then j else i) = min i j := by split <;> omega
    rw [e]
    exact q _ F H (Gr.refl l) (.int _)
  · split at hf
    · rename_i x xs hz
      cases hf
      obtain ⟨v, rfl, p⟩ := pair1 pd
      obtain ⟨z1, z2⟩ := alikeOk_un hz
      obtain ⟨a, vs, rfl, ha, hvs⟩ := p.list l
      obtain ⟨its, rv, pl, hL⟩ := I.list ha
      rw [Vals.ref1 r]
      obtain ⟨as, rd⟩ := Dp.readsAll I (x :: xs) vs its (hvs.le l) rv
      refine PySem.W.min_list_data (I.ok.hd hc) pl.isList (by simpa using rd) z1 (by omega) fun i v h' tk bs hv rm hk => ?_
      exact pick I l rv hvs (by simpa using hv) rm hk (fun w pw => q w F H (Gr.refl l) pw) ⟨h', tk, rfl⟩
    · cases hf
  · split at hf
    · rename_i x xs hz
      cases hf
      obtain ⟨v, rfl, p⟩ := pair1 pd
      obtain ⟨z1, z2⟩ := alikeOk_un hz
      obtain ⟨a, vs, rfl, ha, hvs⟩ := p.tuple l
      obtain ⟨its, rv, pl, hL⟩ := I.tuple ha
      rw [Vals.ref1 r]
      obtain ⟨as, rd⟩ := Dp.readsAll I (x :: xs) vs its (hvs.le l) rv
      refine PySem.W.min_tuple_data (I.ok.hd hc) (show s.heap.IsTuple a its.toArray from pl) (by simpa using rd) z1 (by omega) fun i v h' tk bs hv rm hk => ?_
      exact pick I l rv hvs (by simpa using hv) rm hk (fun w pw => q w F H (Gr.refl l) pw) ⟨h', tk, rfl⟩
    · cases hf
  · cases hf
theorem cb_max (hc : X.calm = true) (hu : X.A.units + 64 < cLine) : CallR X (.builtin "max") (rC X.K maxD) := by
  intro pins s σ H xs us Q I r h
  obtain ⟨F, ds, c, l, pd, hf, q⟩ := h
  unfold maxD at hf
  split at hf
  · cases hf
    obtain ⟨v, w, rfl, p, p2⟩ := pair2 pd
    have e := p.int; have e2 := p2.int; subst e e2
    rename_i i j
    refine call_max2 hc pins s σ H _ us Q I r ⟨i, j, rfl, ?_⟩
    have e : (if j > i then j else i) = max i j := by split <;> omega
    rw [e]
    exact q _ F H (Gr.refl l) (.int _)
  · split at hf
    · rename_i x xs hz
      cases hf
      obtain ⟨v, rfl, p⟩ := pair1 pd
      obtain ⟨z1, z2⟩ := alikeOk_un hz
      obtain ⟨a, vs, rfl, ha, hvs⟩ := p.list l
      obtain ⟨its, rv, pl, hL⟩ := I.list ha
      rw [Vals.ref1 r]
      obtain ⟨as, rd⟩ := Dp.readsAll I (x :: xs) vs its (hvs.le l) rv
      refine PySem.W.max_list_data (I.ok.hd hc) pl.isList (by simpa using rd) z1 (by omega) fun i v h' tk bs hv rm hk => ?_
      exact pick I l rv hvs (by simpa using hv) rm hk (fun w pw => q w F H (Gr.refl l) pw) ⟨h', tk, rfl⟩
    · cases hf
  · split at hf
    · rename_i x xs hz
      cases hf
      obtain ⟨v, rfl, p⟩ := pair1 pd
      obtain ⟨z1, z2⟩ := alikeOk_un hz
      obtain ⟨a, vs, rfl, ha, hvs⟩ := p.tuple l
      obtain ⟨its, rv, pl, hL⟩ := I.tuple ha
      rw [Vals.ref1 r]
      obtain ⟨as, rd⟩ := Dp.readsAll I (x :: xs) vs its (hvs.le l) rv
      refine PySem.W.max_tuple_data (I.ok.hd hc) (show s.heap.IsTuple a its.toArray from pl) (by simpa using rd) z1 (by omega) fun i v h' tk bs hv rm hk => ?_
      exact pick I l rv hvs (by simpa using hv) rm hk (fun w pw => q w F H (Gr.refl l) pw) ⟨h', tk, rfl⟩
    · cases hf
  · cases hf
/-! ### sorted, of a tuple -/
section
open PySem.W PySem.Calls
variable {prog : Program} {w : World} {A : Around} {E : Value → Shared → Prop} {s : Shared} {β : Type} {us : List Value} {bs : List β} {enc : β → PyData} {R : Value → β → Prop}
theorem collect_tup {t : Addr} {Q : List Value → Shared → Prop} (hl : IsTup s.heap t us.toArray) (hsz : us.length ≤ sizeLine)
    (h : Q us { s with heap := (s.heap.push (seqObj "list" #[] 0)).update s.heap.objs.size (Obj.mapSeq (· ++ us.toArray)) }) : wpAny (model prog w) A (collect (.ref t)) Q E s := by
  obtain ⟨ob, ho, hcl, nn, hda⟩ := id hl
  unfold collect
  refine wpAny_bind (wpAny_runValue (codeAny_builtin entry_proto_collect' ?_))
  show wpAny _ _ (do again (.builtin "list.__iadd__" ⟨[← newList [], .ref t], []⟩)) _ _ s
  refine wpAny_bind (wpAny_newList (wpAny_pure ⟨Code.quiet_builtin _ (by decide +kernel), codeAny_builtin entry_list_iadd' ?_⟩))
  show wpAny _ _ (Builtin.List.listExtendWith (.ref s.heap.objs.size) (.ref t) (.ref s.heap.objs.size)) _ _ { s with heap := s.heap.push (seqObj "list" #[] 0) }
  unfold Builtin.List.listExtendWith
  have hob : (s.heap.push (seqObj "list" #[] 0)).get? t = some ob := Heap.get?_push_of_some _ ho
  refine wpAny_bind (wpAny_typeOf (T := "tuple") ⟨ob, hob, hcl⟩ ?_)
  have htt : (Value.type "tuple" == Value.type "tuple") = true := by rfl
  rw [if_pos (by rw [htt]; simp)]
  have h0 : (s.heap.push (seqObj "list" #[] 0)).get? s.heap.objs.size = some (seqObj "list" #[] 0) := Heap.get?_push_size _ rfl
  refine wpAny_bind (listItems_at hob hda (wpAny_bind (listItems_at (xs := #[]) (n := 0) h0 rfl ?_)))
  rw [if_neg (by simp)]
  refine wpAny_bind (listUpdate_at (xs := #[]) (n := 0) h0 rfl ?_ (Nat.zero_le _) (by show (#[] ++ us.toArray).size ≤ sizeLine + 1; simp only [Array.size_append, List.size_toArray, List.length_nil]; omega))
  refine wpAny_pure ?_
  show wpAny (model prog w) A (do
      let oo ← load s.heap.objs.size
      match oo.data with
      | .seq xs _ => pure xs.toList
      | _ => unsupported "internal:collect") Q E { s with heap := (s.heap.push (seqObj "list" #[] 0)).update s.heap.objs.size (Obj.mapSeq (· ++ us.toArray)) }
  refine wpAny_bind (wpAny_load (get?_update_seq h0 _) ?_)
  have e2 : ((#[] : Array Value) ++ us.toArray).toList = us := by simp
  show wpAny _ _ (pure ((#[] : Array Value) ++ us.toArray).toList) Q E _
  rw [e2]
  exact wpAny_pure h
theorem sorted_tup {t : Addr} {Q : Value → Shared → Prop} (ht : IsTup s.heap t us.toArray) (e : EachIs R us bs) (er : EachIs (fun v b => ∃ as, Reads s.heap v (enc b) as) us bs) (hal : AllAlike (bs.map enc)) (hk : Sortable (bs.map enc)) (hL : bs.length ≤ sizeLine)
    (hu : ∀ b, b ∈ bs → A.units + 2 + (enc b).depth < cLine)
    (h : ∀ (h' : Heap) (d : Addr) (out : List Value), (∀ b o, s.heap.get? b = some o → h'.get? b = some o) → s.heap.objs.size ≤ d → (∃ n, h'.get? d = some (seqObj "list" out.toArray n)) → EachIs R out (bs.mergeSort (dataLe false enc)) → Q (.ref d) { s with heap := h' }) :
    wpAny (model prog w) A (call (.builtin "sorted") [.ref t]) Q E s := by
  obtain ⟨o, ho, hc, n, hd⟩ := id ht
  have hz : us.length ≤ sizeLine := by rw [e.length]; exact hL
  refine call_function_entry kind_sorted plain_sorted entry_sorted (args_sorted1 _) ?_
  unfold Builtin.«sorted»
  refine wpAny_bind (m := checkCount "sorted" 1 1 _) (wpAny_pure ?_)
  refine wpAny_bind (collect_tup ht hz ?_)
  generalize e1 : (s.heap.push (seqObj "list" #[] 0)).update s.heap.objs.size (Obj.mapSeq (· ++ us.toArray)) = h1
  have hle : s.heap.objs.size ≤ h1.objs.size := by
    rw [← e1, Heap.size_update, size_push']
    exact Nat.le_succ _
  have k1 : ∀ b ob, s.heap.get? b = some ob → h1.get? b = some ob := fun b ob q => by
    rw [← e1, Heap.get?_update_ne _ _ _ _ (Nat.ne_of_lt (Heap.lt_size q))]
    exact Heap.get?_push_of_some _ q
  refine wpAny_bind (wpAny_newList ?_ hz)
  have hat : (h1.push (seqObj "list" us.toArray 0)).get? h1.objs.size = some (seqObj "list" us.toArray 0) := Heap.get?_push_size _ rfl
  have old : ∀ b ob, s.heap.get? b = some ob → b ≠ h1.objs.size ∧ (h1.push (seqObj "list" us.toArray 0)).get? b = some ob := fun b ob q =>
    ⟨Nat.ne_of_lt (Nat.lt_of_lt_of_le (Heap.lt_size q) hle), Heap.get?_push_of_some _ (k1 b ob q)⟩
  have er' : EachIs (fun v b => ∃ as, Reads (sortingHeap (h1.push (seqObj "list" us.toArray 0)) h1.objs.size us) v (enc b) as) us bs :=
    er.mono fun _ _ ⟨as, r⟩ => ⟨as, PyProof.Rows.Reads.keeps (fun b ob q => sortingHeap_old (old b ob q).1 (old b ob q).2) r⟩
  show wpAny _ _ _ _ _ { s with heap := h1.push (seqObj "list" us.toArray 0) }
  refine wpAny_bind (wpAny_holding (wpAny_call_entry slot_list_sort ⟨_, hat, rfl⟩ entry_list_sort (list_sort_vals (s := { s with heap := h1.push (seqObj "list" us.toArray 0) }) (κ := dataKind (sortingHeap (h1.push (seqObj "list" us.toArray 0)) h1.objs.size us) (bs.map enc)) hat
    (SortsAt.data (s := { s with heap := sortingHeap (h1.push (seqObj "list" us.toArray 0)) h1.objs.size us }) (each_map (R := fun v d => ∃ as, Reads (sortingHeap (h1.push (seqObj "list" us.toArray 0)) h1.objs.size us) v d as) enc er') hal hk (bound_map hu)) hz ⟨_, rfl, ?_⟩) (args_list_sort _)))
  refine wpAny_pure ⟨_, rfl, ?_⟩
  refine h _ _ _ (fun b ob q => ?_) hle (sortedHeap_at (n := 0) hat) (sortVals_data false e er' hal)
  rw [sortedHeap_old (old b ob q).1 (Heap.lt_size (old b ob q).2)]
  exact (old b ob q).2
end
/-! ### sorted -/
def sortOk (xs : List PyData) : Bool := xs.all (fun x => xs.all (fun y => PySem.W.alike x y)) && (xs.all (fun x => match x with | .tuple (_ :: _) => true | _ => false) || xs.all (fun x => match x with | .tuple _ => false | .none => false | _ => true)) && decide (xs.length ≤ SZ ∧ PyData.depthAll xs ≤ 60)
theorem mem_depth {x : PyData} : ∀ {xs : List PyData}, x ∈ xs → x.depth ≤ PyData.depthAll xs
  | y :: ys, h => by
    unfold PyData.depthAll
    rcases List.mem_cons.mp h with rfl | h
    · exact Nat.le_max_left _ _
    · exact Nat.le_trans (mem_depth h) (Nat.le_max_right _ _)
theorem sortOk_un {xs : List PyData} (h : sortOk xs = true) : PySem.W.AllAlike xs ∧ PySem.W.Sortable xs ∧ xs.length ≤ SZ ∧ ∀ x ∈ xs, x.depth ≤ 60 := by
  unfold sortOk at h
  simp only [Bool.and_eq_true, List.all_eq_true, decide_eq_true_eq, Bool.or_eq_true] at h
  obtain ⟨⟨h1, h2⟩, h3, h4⟩ := h
  refine ⟨fun x hx y hy => h1 x hx y hy, ?_, h3, fun x hx => Nat.le_trans (mem_depth hx) h4⟩
  rcases h2 with h2 | h2
  · refine .inl fun d hd => ?_
    have := h2 d hd
    split at this
    · exact ⟨_, _, rfl⟩
    · cases this
  · refine .inr fun d hd => ?_
    have := h2 d hd
    split at this
    · cases this
    · cases this
    · rename_i n1 n2
      exact ⟨fun z => n2 z, fun ys z => n1 ys z⟩
def dLe (a b : PyData) : Bool := !PySem.W.dataLt b a
def sortedD : List PyData → R PyData
  | [.list xs] => if sortOk xs = true then .ok (.list (xs.mergeSort dLe)) else .bad
  | [.tuple xs] => if sortOk xs = true then .ok (.list (xs.mergeSort dLe)) else .bad
  | _ => .bad
theorem sortedD_p : PureL sortedD := fun d c h => by unfold sortedD at h; split at h <;> first | cases h | (split at h <;> cases h)
theorem each_zip {K : PySem.W.Frag} {F : Hp} : ∀ {vs : List V} {ds : List PyData} {its : List Value}, DpAll K F vs ds → Vals vs its → PySem.W.EachIs (fun v (b : V × PyData) => RelV b.1 v ∧ Dp K F b.1 b.2) its (vs.zip ds)
  | _, _, _, .nil, .nil => .nil
  | _, _, _, .cons p ps, .cons r rs => .cons ⟨r, p⟩ (each_zip ps rs)
theorem each_un {K : PySem.W.Frag} {F : Hp} : ∀ {bs : List (V × PyData)} {its : List Value}, PySem.W.EachIs (fun v (b : V × PyData) => RelV b.1 v ∧ Dp K F b.1 b.2) its bs → DpAll K F (bs.map (·.1)) (bs.map (·.2)) ∧ Vals (bs.map (·.1)) its
  | _, _, .nil => ⟨.nil, .nil⟩
  | _, _, .cons h t => ⟨.cons h.2 (each_un t).1, .cons h.1 (each_un t).2⟩
theorem cb_sorted (hu : X.A.units + 65 < cLine) : CallR X (.builtin "sorted") (rCF X.K sortedD) := by
  intro pins s σ H xs us Q I r h
  obtain ⟨F, ds, c, l, pd, hf, q⟩ := h
  unfold sortedD at hf
  split at hf
  · split at hf
    · rename_i xs hz
      cases hf
      obtain ⟨v, rfl, p⟩ := pair1 pd
      obtain ⟨z1, z2, z3, z4⟩ := sortOk_un hz
      obtain ⟨a, vs, rfl, ha, hvs⟩ := p.list l
      obtain ⟨its, rv, pl, hL⟩ := I.list ha
      rw [Vals.ref1 r]
      have hl := hvs.length
      have hm : (vs.zip xs).map (·.2) = xs := by
        rw [List.map_snd_zip (by omega)]
      have hm1 : (vs.zip xs).map (·.1) = vs := by
        rw [List.map_fst_zip (by omega)]
      have sq := sz_eq
      refine PySem.W.sorted_data (enc := fun b : V × PyData => b.2) pl.isList (each_zip hvs rv) ((each_zip hvs rv).mono fun v b ⟨r, p⟩ => Dp.reads I b.2 b.1 v (p.le l) r) (by rw [hm]; exact z1) (by rw [hm]; exact z2) (by rw [List.length_zip, sq]; omega) (fun b hb => ?_) fun out hout hE => ?_
      · have hb2 : b.2 ∈ xs := by rw [← hm]; exact List.mem_map_of_mem hb
        have := z4 _ hb2
        omega
      · obtain ⟨e1, e2⟩ := each_un hE
        have em : ((vs.zip xs).mergeSort (PySem.W.dataLe false fun b : V × PyData => b.2)).map (·.2) = xs.mergeSort dLe := by
          have := List.map_mergeSort (f := fun b : V × PyData => b.2) (r := PySem.W.dataLe false fun b : V × PyData => b.2) (s := dLe) (l := vs.zip xs) (fun a _ b _ => rfl)
          rw [this, hm]
        rw [em] at e1
        have hlen : (((vs.zip xs).mergeSort (PySem.W.dataLe false fun b : V × PyData => b.2)).map (·.1)).length ≤ sizeLine := by
          rw [List.length_map, List.length_mergeSort, List.length_zip, sq]
          omega
        obtain ⟨ep, he'⟩ := PyProof.Rows.sortedAll_at s.heap its out.toArray
        have np : H (s.heap.objs.size + 1) = none := I.hok.fresh (Nat.le_succ _)
        exact ⟨.ref _, upd H (s.heap.objs.size + 1) (.lst (((vs.zip xs).mergeSort (PySem.W.dataLe false fun b : V × PyData => b.2)).map (·.1))), I.laid (t' := s.toks) (fun _ _ => PyProof.Rows.sortedAll_old) (Nat.le_succ _) ⟨hlen, out, ep, e2, he'⟩, rfl,
          q _ _ _ (Gr.own l np) ⟨_, _, _, rfl, rfl, np, l.none np, upd_same, e1⟩⟩
    · cases hf
  · split at hf
    · rename_i xs hz
      cases hf
      obtain ⟨v, rfl, p⟩ := pair1 pd
      obtain ⟨z1, z2, z3, z4⟩ := sortOk_un hz
      obtain ⟨a, vs, rfl, ha, hvs⟩ := p.tuple l
      obtain ⟨its, rv, pl, hL⟩ := I.tuple ha
      rw [Vals.ref1 r]
      have hl := hvs.length
      have hm : (vs.zip xs).map (·.2) = xs := by
        rw [List.map_snd_zip (by omega)]
      have sq := sz_eq
      refine sorted_tup (enc := fun b : V × PyData => b.2) pl (each_zip hvs rv) ((each_zip hvs rv).mono fun v b ⟨r, p⟩ => Dp.reads I b.2 b.1 v (p.le l) r) (by rw [hm]; exact z1) (by rw [hm]; exact z2) (by rw [List.length_zip, sq]; omega) (fun b hb => ?_) fun h' d out kp hd hat hE => ?_
      · have hb2 : b.2 ∈ xs := by rw [← hm]; exact List.mem_map_of_mem hb
        have := z4 _ hb2
        omega
      · obtain ⟨e1, e2⟩ := each_un hE
        have em : ((vs.zip xs).mergeSort (PySem.W.dataLe false fun b : V × PyData => b.2)).map (·.2) = xs.mergeSort dLe := by
          have := List.map_mergeSort (f := fun b : V × PyData => b.2) (r := PySem.W.dataLe false fun b : V × PyData => b.2) (s := dLe) (l := vs.zip xs) (fun a _ b _ => rfl)
          rw [this, hm]
        rw [em] at e1
        have hlen : (((vs.zip xs).mergeSort (PySem.W.dataLe false fun b : V × PyData => b.2)).map (·.1)).length ≤ sizeLine := by
          rw [List.length_map, List.length_mergeSort, List.length_zip, sq]
          omega
        obtain ⟨ep, he'⟩ := hat
        have np : H d = none := I.hok.fresh hd
        exact ⟨.ref _, upd H d (.lst (((vs.zip xs).mergeSort (PySem.W.dataLe false fun b : V × PyData => b.2)).map (·.1))), I.laid (t' := s.toks) kp hd ⟨hlen, out, ep, e2, he'⟩, rfl,
          q _ _ _ (Gr.own l np) ⟨_, _, _, rfl, rfl, np, l.none np, upd_same, e1⟩⟩
    · cases hf
  · cases hf
end
end PD
namespace PD
open PySem PySem.Spec PyProof.Rows L2
section
variable {X : Cx} {We : EW} {e a b c : Expr} {es : List Expr} {pos p apos cpos : Pos} {x : Str}
/-! ## one's own lists, changed -/
def getLo (ρ : Ev) (i : Nat) : R (List PyData) := match ρ[i]? with
  | some (.lo xs) => .ok xs
  | _ => .bad
theorem getLo_ok {ρ : Ev} {i : Nat} {xs : List PyData} (h : getLo ρ i = .ok xs) : ρ[i]? = some (.lo xs) := by
  unfold getLo at h
  split at h
  · cases h; assumption
  · cases h
def appS (i : Nat) (m : Ev → R PyData) : SM := fun ρ => (getLo ρ i).bind fun xs => (m ρ).bind fun d => if xs.length < SZ then .ok (.nx (ρ.set i (.lo (xs ++ [d])))) else .bad
theorem PoS.own {K : PySem.W.Frag} {ρ : Ev} {F G : Hp} {σ : St} {H : Hp} {i : Nat} {f : List PyData → R Out} {D : Ends} (r : Rl K ρ F G σ H) (q : PoS K We F G ((getLo ρ i).bind f) D) :
    ∃ xs a vs, ρ[i]? = some (.lo xs) ∧ σ[i]? = some (some (.ref a)) ∧ G a = none ∧ H a = some (.lst vs) ∧ DpAll K F vs xs ∧ PoS K We F G (f xs) D := by
  cases hg : getLo ρ i with
  | err c =>
    unfold getLo at hg
    split at hg <;> cases hg
  | bad => rw [hg] at q; exact q.elim
  | ok xs =>
    rw [hg] at q
    obtain ⟨a, vs, h1, h2, h3, h4⟩ := r.getL (getLo_ok hg)
    exact ⟨xs, a, vs, getLo_ok hg, h1, h2, h3, h4, q⟩
theorem xs_append {i : Nat} {ma : Ev → R PyData} (hN : X.N[i]? = some x) (hv : Vis X.env.scope x) (ha : XE X We e ma) (hd : (x == ("__debug__" : Str)) = false) (hcd : (x == ("__classdict__" : Str)) = false)
    (hbase : attributeBase (.Name x p) "append" X.env (eval (.Name x p) X.env) = eval (.Name x p) X.env)
    (hfew : ((backTo cpos (starEach (e :: []) X.env)).all (fun x => !x.1) && (backToKw cpos (keywordEach [] X.env)).all (fun x => x.1.isSome)
      && decide ((e :: ([] : List Expr)).length + ([] : List Keyword).length + (if ([] : List Keyword).isEmpty then 0 else 1) < 30)) = true)
    (hline : (apos.endLine == cpos.line) = true) (hs : starEach (e :: []) X.env = (false, eval e X.env) :: starEach [] X.env) (hplain : (backTo cpos (starEach [] X.env)).any (·.1) = false)
    (hsw : swapsWith (.Call (.Attribute (.Name x p) "append" apos) [e] [] cpos) none pos.line X.env = pure false) : XS X We (.Expr (.Call (.Attribute (.Name x p) "append" apos) [e] [] cpos) pos) (appS i ma) :=
  ps_imp (ps_expr (pe_bm PySem.F.plainAttrs_list PySem.F.slot_list_append PySem.F.type_list_append mt_append (pe_var hN hv hd hcd) (pa_cons ha pa_nil hs) hbase hfew hline hs hplain) hsw) fun D σ H q => by
    obtain ⟨ρ, F, G, r, q⟩ := q
    obtain ⟨xs, a, vs, e1, e2, e3, e4, e5, q⟩ := PoS.own r q
    refine ⟨.ref a, e2, .inl ⟨rfl, vs, SqL.of e4⟩, ρ, F, G, r, PoS.expr (P := pD X.K) r q fun d v F1 G1 H1 r1 g1 p1 q1 => ?_⟩
    split at q1
    · rename_i hz
      have hl := DpAll.length e5
      have sq := sz_eq
      refine ⟨a, vs, v, rfl, rfl, g1.h _ _ e4, by rw [sq]; omega, ?_⟩
      exact q1 _ F1 G1 _ (r1.write e1 e2 ((e5.le g1.f).append (.cons p1 .nil))) (GrS.refl F1 G1)
    · exact q1.elim
def extS (i : Nat) (m : Ev → R PyData) : SM := fun ρ => (getLo ρ i).bind fun xs => (m ρ).bind fun d => (oListD d).bind fun ys => if xs.length + ys.length ≤ SZ then .ok (.nx (ρ.set i (.lo (xs ++ ys)))) else .bad
theorem xs_extend {i : Nat} {ma : Ev → R PyData} (hN : X.N[i]? = some x) (hv : Vis X.env.scope x) (ha : XF X We e ma) (hd : (x == ("__debug__" : Str)) = false) (hcd : (x == ("__classdict__" : Str)) = false)
    (hbase : attributeBase (.Name x p) "extend" X.env (eval (.Name x p) X.env) = eval (.Name x p) X.env)
    (hfew : ((backTo cpos (starEach (e :: []) X.env)).all (fun x => !x.1) && (backToKw cpos (keywordEach [] X.env)).all (fun x => x.1.isSome)
      && decide ((e :: ([] : List Expr)).length + ([] : List Keyword).length + (if ([] : List Keyword).isEmpty then 0 else 1) < 30)) = true)
    (hline : (apos.endLine == cpos.line) = true) (hs : starEach (e :: []) X.env = (false, eval e X.env) :: starEach [] X.env) (hplain : (backTo cpos (starEach [] X.env)).any (·.1) = false)
    (hsw : swapsWith (.Call (.Attribute (.Name x p) "extend" apos) [e] [] cpos) none pos.line X.env = pure false) : XS X We (.Expr (.Call (.Attribute (.Name x p) "extend" apos) [e] [] cpos) pos) (extS i ma) :=
  ps_imp (ps_expr (pe_bm PySem.F.plainAttrs_list PySem.F.slot_list_extend PySem.F.type_list_extend mt_extend (pe_var hN hv hd hcd) (pa_cons ha pa_nil hs) hbase hfew hline hs hplain) hsw) fun D σ H q => by
    obtain ⟨ρ, F, G, r, q⟩ := q
    obtain ⟨xs, a, vs, e1, e2, e3, e4, e5, q⟩ := PoS.own r q
    refine ⟨.ref a, e2, .inl ⟨rfl, vs, SqL.of e4⟩, ρ, F, G, r, PoS.expr (P := pF X.K) r q fun d v F1 G1 H1 r1 g1 p1 q1 => ?_⟩
    obtain ⟨b, ws, ds, rfl, rfl, n0, n1, h1, h2⟩ := p1
    have q1 : PoS X.K We F1 G1 (if xs.length + ds.length ≤ SZ then .ok (.nx (ρ.set i (.lo (xs ++ ds)))) else .bad) D := q1
    split at q1
    · rename_i hz
      have hl := DpAll.length e5
      have hl2 := DpAll.length h2
      have sq := sz_eq
      refine ⟨a, b, vs, ws, rfl, rfl, g1.h _ _ e4, h1, by rw [sq]; omega, ?_⟩
      exact q1 _ F1 G1 _ (r1.write e1 e2 ((e5.le g1.f).append h2)) (GrS.refl F1 G1)
    · exact q1.elim
def popS (i : Nat) : SM := fun ρ => (getLo ρ i).bind fun xs => match xs with
  | [] => .bad
  | _ :: _ => .ok (.nx (ρ.set i (.lo xs.dropLast)))
theorem DpAll.dropLast {K : PySem.W.Frag} {F : Hp} {vs : List V} {ds : List PyData} (h : DpAll K F vs ds) : DpAll K F vs.dropLast ds.dropLast := by
  rw [List.dropLast_eq_take, List.dropLast_eq_take, h.length]
  exact h.take _
theorem xs_pop {i : Nat} (hN : X.N[i]? = some x) (hv : Vis X.env.scope x) (hd : (x == ("__debug__" : Str)) = false) (hcd : (x == ("__classdict__" : Str)) = false)
    (hbase : attributeBase (.Name x p) "pop" X.env (eval (.Name x p) X.env) = eval (.Name x p) X.env) (hline : (apos.endLine == cpos.line) = true)
    (hsw : swapsWith (.Call (.Attribute (.Name x p) "pop" apos) [] [] cpos) none pos.line X.env = pure false) : XS X We (.Expr (.Call (.Attribute (.Name x p) "pop" apos) [] [] cpos) pos) (popS i) :=
  ps_imp (ps_expr (pe_bm0 PySem.F.plainAttrs_list PySem.F.slot_list_pop PySem.F.type_list_pop mt_pop (pe_var hN hv hd hcd) hbase hline) hsw) fun D σ H q => by
    obtain ⟨ρ, F, G, r, q⟩ := q
    obtain ⟨xs, a, vs, e1, e2, e3, e4, e5, q⟩ := PoS.own r q
    have hl := DpAll.length e5
    cases xs with
    | nil => exact q.elim
    | cons y ys =>
      have hi : vs.length - 1 < vs.length := by rw [hl, List.length_cons]; omega
      refine ⟨.ref a, e2, .inl ⟨rfl, vs, SqL.of e4⟩, a, vs, vs[vs.length - 1], rfl, rfl, e4, List.getElem?_eq_getElem hi, ?_⟩
      exact q _ F G _ (r.write e1 e2 (DpAll.dropLast e5)) (GrS.refl F G)
/-- xs[k] = v -/
def setIS (i : Nat) (mk mv : Ev → R PyData) : SM := fun ρ => (mv ρ).bind fun v => (getLo ρ i).bind fun xs => (mk ρ).bind fun k => match k with
  | .int k => match ixN xs.length k with
    | some j => .ok (.nx (ρ.set i (.lo (xs.set j v))))
    | none => .bad
  | _ => .bad
theorem xs_setI {i : Nat} {k : Expr} {mk mv : Ev → R PyData} {pos' : Pos} (hN : X.N[i]? = some x) (hv : Vis X.env.scope x) (hk : XB X We k mk) (he : XE X We e mv) (hd : (x == ("__debug__" : Str)) = false) (hcd : (x == ("__classdict__" : Str)) = false)
    (hs : swapsWithSole [.Subscript (.Name x p) k pos'] e pos.line X.env = pure false) (hw : swappedStores [.Subscript (.Name x p) k pos'] e X.env = pure none)
    (h1 : (assignEach [.Subscript (.Name x p) k pos'] X.env).map (·.2) = [assign (.Subscript (.Name x p) k pos') X.env])
    (hps : PG X (.Subscript (.Name x p) k pos') (gSub (tVar i) (tM X.K We (pB X.K) mk) rSetL)) : XS X We (.Assign [.Subscript (.Name x p) k pos'] e pos) (setIS i mk mv) :=
  ps_imp (ps_asg he hps hs hw h1) fun D σ H q => by
    obtain ⟨ρ, F, G, r, q⟩ := q
    refine ⟨ρ, F, G, r, PoS.expr (P := pD X.K) r q fun d v F1 G1 H1 r1 g1 p1 q1 => ?_⟩
    obtain ⟨xs, a, vs, e1, e2, e3, e4, e5, q2⟩ := PoS.own r1 q1
    refine ⟨.ref a, e2, ρ, F1, G1, r1, PoS.expr (P := pB X.K) r1 q2 fun kd kv F2 G2 H2 r2 g2 p2 q3 => ?_⟩
    split at q3
    · rename_i kk
      have e := p2.int
      subst e
      split at q3
      · rename_i j hj
        have hl := DpAll.length e5
        exact ⟨a, vs, kk, j, rfl, rfl, g2.h _ _ e4, by rw [hl]; exact hj, q3 _ F2 G2 _ (r2.write e1 e2 ((p1.le g2.f) |> fun p => DpAll.set p j (e5.le g2.f))) (GrS.refl F2 G2)⟩
      · exact q3.elim
    · exact q3.elim
/-! ## x op= e, a, b = e1, e2 -/
def augS (i : Nat) (f : PyData → PyData → R PyData) (m : Ev → R PyData) : SM := fun ρ => (vE i ρ).bind fun x => (m ρ).bind fun y => (f x y).bind fun z => .ok (.nx (ρ.set i (.d z)))
def addI : PyData → PyData → R PyData
  | .int i, .int j => .ok (.int (i + j))
  | _, _ => .bad
def subI : PyData → PyData → R PyData
  | .int i, .int j => .ok (.int (i - j))
  | _, _ => .bad
def mulI : PyData → PyData → R PyData
  | .int i, .int j => if i.natAbs < 2 ^ 64 ∨ j.natAbs < 2 ^ 64 then .ok (.int (i * j)) else .bad
  | _, _ => .bad
theorem ip_addI : PIp X .Add (rO X.K addI) := by
  intro pins s σ H x y v u Q I rx ry h
  obtain ⟨F, d, e, c, l, pd, pe, hf, q⟩ := h
  unfold addI at hf
  split at hf
  · cases hf
    have e1 := pd.int; have e2 := pe.int; subst e1 e2
    exact ip_add pins s σ H _ _ v u Q I rx ry ⟨_, _, rfl, rfl, q _ F H (Gr.refl l) (.int _)⟩
  · cases hf
theorem ip_subI : PIp X .Sub (rO X.K subI) := by
  intro pins s σ H x y v u Q I rx ry h
  obtain ⟨F, d, e, c, l, pd, pe, hf, q⟩ := h
  unfold subI at hf
  split at hf
  · cases hf
    have e1 := pd.int; have e2 := pe.int; subst e1 e2
    exact ip_sub pins s σ H _ _ v u Q I rx ry ⟨_, _, rfl, rfl, q _ F H (Gr.refl l) (.int _)⟩
  · cases hf
theorem ip_mulI : PIp X .Mult (rO X.K mulI) := by
  intro pins s σ H x y v u Q I rx ry h
  obtain ⟨F, d, e, c, l, pd, pe, hf, q⟩ := h
  unfold mulI at hf
  split at hf
  · split at hf
    · rename_i hz
      cases hf
      have e1 := pd.int; have e2 := pe.int; subst e1 e2
      refine iop_mul pins s σ H _ _ v u Q I rx ry ⟨_, _, rfl, rfl, ?_, q _ F H (Gr.refl l) (.int _)⟩
      rcases hz with h | h
      · exact .inl ⟨by omega, by omega⟩
      · exact .inr ⟨by omega, by omega⟩
    · cases hf
  · cases hf
theorem addI_p : Pure2 addI := fun d e c h => by unfold addI at h; split at h <;> cases h
theorem subI_p : Pure2 subI := fun d e c h => by unfold subI at h; split at h <;> cases h
theorem mulI_p : Pure2 mulI := fun d e c h => by unfold mulI at h; split at h <;> first | cases h | (split at h <;> cases h)
theorem Rl.getV {K : PySem.W.Frag} {ρ : Ev} {F G : Hp} {σ : St} {H : Hp} {i : Nat} {d : PyData} (r : Rl K ρ F G σ H) (h : vE i ρ = .ok d) : ∃ v, σ[i]? = some (some v) ∧ Dp K F v d := by
  unfold vE at h
  split at h
  · rename_i y e
    cases h
    exact r.get e
  · rename_i xs e
    cases h
    obtain ⟨a, vs, h1, h2, h3⟩ := r.getT e
    exact ⟨_, h1, .tup (SqT.of h2) h3⟩
  · cases h
theorem xs_aug {i : Nat} {op : Operator} {f : PyData → PyData → R PyData} {m : Ev → R PyData} {pos' : Pos} (pf : Pure2 f) (ho : PIp X op (rO X.K f)) (hN : X.N.Nodup) (hi : X.N[i]? = some x) (hx : Loc X.env.scope x) (he : XE X We e m)
    (hf : X.fn x = true ∨ X.env.scope.names.lookup x = some .local) : XS X We (.AugAssign (.Name x pos') op e pos) (augS i f m) :=
  ps_imp (ps_aug hN hi hx he ho hf) fun D σ H q => by
    obtain ⟨ρ, F, G, r, q⟩ := q
    have q : PoS X.K We F G ((vE i ρ).bind fun x => (m ρ).bind fun y => (f x y).bind fun z => .ok (.nx (ρ.set i (.d z)))) D := q
    cases hv : vE i ρ with
    | err c =>
      unfold vE at hv
      split at hv <;> cases hv
    | bad => rw [hv] at q; exact q.elim
    | ok xd =>
      rw [hv] at q
      obtain ⟨xv, ev, px⟩ := r.getV hv
      refine ⟨xv, ev, ρ, F, G, r, PoS.expr (P := pD X.K) r q fun yd yv F1 G1 H1 r1 g1 p1 q1 => ?_⟩
      cases hf : f xd yd with
      | err c => exact absurd hf (pf _ _ c)
      | bad => rw [hf] at q1; exact q1.elim
      | ok zd =>
        rw [hf] at q1
        exact ⟨F1, xd, yd, zd, r1.fh, .inl (px.le g1.f), .inl p1, hf, fun v F' H' g p => PoS.step (r1.grow g).2 q1 _ F' _ H' ((r1.grow g).1.set i p) (GrS.refl _ _)⟩
def parS (i j : Nat) (m : Ev → R (List PyData)) : SM := fun ρ => (m ρ).bind fun ds => match ds with
  | [a, b] => .ok (.nx ((ρ.set i (.d a)).set j (.d b)))
  | _ => .bad
theorem xs_par {i j : Nat} {y : Str} {m : Ev → R (List PyData)} {px py pt : Pos} {kt k2 : Nat} {pt2 : Pos} (hc : X.calm = true) (hN : X.N.Nodup) (hi : X.N[i]? = some x) (hj : X.N[j]? = some y) (hij : i ≠ j)
    (hps : PS X (.Assign [.Tuple [.Name x px, .Name y py] kt pt] (.Tuple [a, b] k2 pt2) pos) (tPar i j (tM X.K We (pA X.K) m))) : XS X We (.Assign [.Tuple [.Name x px, .Name y py] kt pt] (.Tuple [a, b] k2 pt2) pos) (parS i j m) :=
  ps_imp hps fun D σ H q => by
    obtain ⟨ρ, F, G, r, q⟩ := q
    refine ⟨ρ, F, G, r, PoS.expr (P := pA X.K) r q fun ds vs F1 G1 H1 r1 g1 p1 q1 => ?_⟩
    split at q1
    · obtain ⟨v, ws, rfl, a1, b1⟩ := DpAll.cons_inv p1
      obtain ⟨v2, ws2, rfl, a2, b2⟩ := DpAll.cons_inv b1
      cases DpAll.nil_inv b2
      exact ⟨v, v2, rfl, q1 _ F1 G1 H1 ((r1.set i a1).set j a2) (GrS.refl F1 G1)⟩
    · exact q1.elim
/-! ## x in a list, found: xs.index(y) -/
def rIxP (K : PySem.W.Frag) : V → List V → Hp → VK → Prop := fun x xs H Q => ∃ (a : Addr) (y : V) (d : PyData) (ds : List PyData) (j : Nat) (z : PyData), x = V.ref a ∧ xs = [y] ∧ Dp K H (V.ref a) (.list ds) ∧ Dp K H y d ∧
  shp (.list ds) = true ∧ shp d = true ∧ ds[j]? = some z ∧ PyData.eqv z d = true ∧ (∀ (m : Nat) (z' : PyData), m < j → ds[m]? = some z' → PyData.eqv z' d = false) ∧ Q (.int (j : Nat)) H
theorem mt_ixP (hu : X.A.units + 65 < cLine) : MtR X "list.index" (rIxP X.K) := by
  intro pins s σ H x xs v us Q I rx rxs h
  obtain ⟨a, y, d, ds, j, z, rfl, rfl, hl, hy, sl, sd, hz, hzj, hno, q⟩ := h
  cases rx
  cases rxs with
  | cons ry rt =>
    rename_i uy ut
    cases rt
    obtain ⟨bs, rb⟩ := Dp.reads I d y uy hy ry
    have pl : PyData.plainAll ds = true := by have := (shp_un sl).1; simpa only [PyData.plain] using this
    cases hl with
    | lst hs ha =>
      obtain ⟨its, rv, ⟨⟨cls, dd, data, sls⟩, n, ho, hc, hdn, hdt⟩, hlen⟩ := I.list hs
      simp only at hc hdt
      subst hc; subst hdt
      obtain ⟨as, ra⟩ := Dp.readsAll I ds _ its ha rv
      have hn : its.length = ds.length := SeqAt.ReadsAll.length ds its as ra
      have em : its.map (SeqAt.readOf s.heap) = ds := SeqAt.readsAll_map_plain ds its as pl ra
      have hvl := rv.length
      have hsl := sizeLine_eq
      obtain ⟨jl, _⟩ := List.getElem?_eq_some_iff.mp hz
      have jl2 : j < its.length := by omega
      have jl3 : j < its.toArray.size := by simpa using jl2
      have got : ∀ (m : Nat) (hm : m < its.toArray.size) (z' : PyData), ds[m]? = some z' → SeqAt.readOf s.heap its.toArray[m] = z' := fun m hm z' hz' => by
        have hm2 : m < its.length := by simpa using hm
        rw [← em, List.getElem?_map, List.getElem?_eq_getElem hm2] at hz'
        have e1 : SeqAt.readOf s.heap its[m] = z' := Option.some.inj hz'
        simpa using e1
      refine call_meets PySem.F.slot_list_index ⟨_, ho, rfl⟩ PySem.F.entry_list_index (PySem.F.args_list_index_2 _ _)
        (SeqAt.list_indexAt a its.toArray n dd sls uy (fun u => PyData.eqv (SeqAt.readOf s.heap u) d) j jl3 (by omega) ?_ ?_) ⟨ho, SeqAt.items_plain (vs := its.toArray) (show ReadsAll s.heap its.toArray.toList ds as from ra) rb pl (shp_un sd).1 (room_shp sd hu), ?_⟩
      · show PyData.eqv (SeqAt.readOf s.heap its.toArray[j]) d = true
        rw [got j jl3 z hz]
        exact hzj
      · intro m hm hmj
        have hmd : m < ds.length := by omega
        show PyData.eqv (SeqAt.readOf s.heap its.toArray[m]) d = false
        rw [got m hm _ (List.getElem?_eq_getElem hmd)]
        exact hno m _ hmj (List.getElem?_eq_getElem hmd)
      · exact ⟨.int (j : Nat), H, I.tok _, ⟨_, rfl⟩, q⟩
def indexD (ds : List PyData) (yd : PyData) : R PyData :=
  if shp (.list ds) = true ∧ shp yd = true then (match ds.findIdx? fun z => PyData.eqv z yd with | some j => .ok (.int j) | none => .bad) else .bad
def idxE (ma mb : Ev → R PyData) (ρ : Ev) : R PyData := (ma ρ).bind fun x => (oListD x).bind fun ds => (mb ρ).bind fun y => indexD ds y
theorem xe_index {ma mb : Ev → R PyData} (hu : X.A.units + 65 < cLine) (ha : XB X We a ma) (hb : XB X We b mb)
    (hbase : attributeBase a "index" X.env (eval a X.env) = eval a X.env)
    (hfew : ((backTo cpos (starEach (b :: []) X.env)).all (fun x => !x.1) && (backToKw cpos (keywordEach [] X.env)).all (fun x => x.1.isSome)
      && decide ((b :: ([] : List Expr)).length + ([] : List Keyword).length + (if ([] : List Keyword).isEmpty then 0 else 1) < 30)) = true)
    (hline : (apos.endLine == cpos.line) = true) (hs : starEach (b :: []) X.env = (false, eval b X.env) :: starEach [] X.env) (hplain : (backTo cpos (starEach [] X.env)).any (·.1) = false) :
    XE X We (.Call (.Attribute a "index" apos) [b] [] cpos) (idxE ma mb) :=
  pe_imp (pe_bm PySem.F.plainAttrs_list PySem.F.slot_list_index PySem.F.type_list_index (mt_ixP hu) ha (pa_cons hb pa_nil hs) hbase hfew hline hs hplain) fun σ H Q q => by
    obtain ⟨ρ, F, G, r, h⟩ := q
    refine ⟨ρ, F, G, r, Po.bind (P := pB X.K) h fun d x F1 H1 g1 p1 q1 => ?_⟩
    cases d with
    | list ds =>
      obtain ⟨av, vs, rfl, hav, hvs⟩ := p1.list g1.le
      refine ⟨.inl ⟨rfl, vs, hav⟩, ρ, F1, _, (r.grow g1).1, Po.bind (P := pB X.K) q1 fun e y F2 H2 g2 p2 q2 => ?_⟩
      unfold indexD at q2
      split at q2
      · rename_i hz
        split at q2
        · rename_i j hj
          obtain ⟨h1, h2, h3⟩ := List.findIdx?_eq_some_iff_getElem.mp hj
          refine ⟨av, y, e, ds, j, ds[j], rfl, rfl, (p1.grow g2).dp g2.le, p2.dp g2.le, hz.1, hz.2, List.getElem?_eq_getElem h1, h2, fun m z' hm hz' => ?_, q2 _ F2 H2 (Gr.refl g2.le) (.int _)⟩
          obtain ⟨hm2, rfl⟩ := List.getElem?_eq_some_iff.mp hz'
          have := h3 m hm
          simpa using this
        · exact q2.elim
      · exact q2.elim
    | _ => exact q1.elim
end
/-! ## the law's own end -/
def spL (K : PySem.W.Frag) : Sp := fun vs H Q _ => ∃ (a : Addr) (ns : List Int), vs = [.ref a] ∧ SqL K H a (ns.map V.int) ∧ ns.length ≤ 63 ∧ ∀ H', Q (.bl true) H'
theorem dpAll_ints {K : PySem.W.Frag} {F : Hp} : ∀ ns : List Int, DpAll K F (ns.map V.int) (ns.map PyData.int)
  | [] => .nil
  | n :: ns => .cons (.int n) (dpAll_ints ns)
theorem law_ok {P : Program} {w : World} {K : PySem.W.Frag} {mg : Str → Option Value} {base : Heap} {k : Nat} {f : Addr} {fd : FuncData} {x : Str} {m : List PyData → R PyData} (F : FnP P w K mg base k f fd [x] m)
    (h : ∀ ns : List Int, ns.length ≤ 63 → m [.list (ns.map .int)] = .ok (.bool true)) : FnOk P w K mg base (L2.CX P w) k f fd [x] (spL K) :=
  F.imp fun vs H Q E q => by
    obtain ⟨a, ns, rfl, hs, hl, q⟩ := q
    refine ⟨H, [.list (ns.map .int)], Le.refl H, .cons (.lst hs (dpAll_ints ns)) .nil, rfl, ?_⟩
    rw [h ns hl]
    intro v F' H' g p
    cases p
    exact q H'
theorem cx_never {P : Program} {w : World} {H : Hp} {s : Shared} {e : Value} {s' : Shared} (h : L2.CX P w [] H s (fun _ _ _ => False) e s') : False := by
  obtain ⟨_, _, _, _, _, _, _, _, _, _, _, _, z⟩ := h
  exact z
theorem walk_law {l : PySem.W.OpenLaw} {q : Program} {loose : List Str} {XP : (Str → Option Value) → Heap → Prop} {YP : World → Heap → Prop} {d : DefRec} {K : Params → PySem.W.Frag} {k : Nat} (hn : l.most = some 63) (hdf : d.params.defaults = []) (hr : Room k callerA)
    (hY : ∀ (w : World) (h : Heap), YP w h → (K w.params).In h)
    (F : ∀ (w : World) (mg : Str → Option Value) (fa : Addr) (h : Heap), (K w.params).In h → h.Ns mainGlobals mg → mg d.name = some (.ref fa) →
      ∃ fd : FuncData, (∀ (s : Shared) (u : Value), BindsTo s fd ⟨[u], []⟩ [("script", u)]) ∧ ∀ base : Heap, (K w.params).In base → base.Ns mainGlobals mg → FnOk l.prog w (K w.params) mg base (L2.CX l.prog w) k fa fd ["script"] (spL (K w.params))) :
    PySem.W.WalkO q loose XP YP l.row.toRowW d [] (fun f vs => PySem.call f vs) :=
  L2.walk_of (n := 63) (k := k) (x := "script") (CX := fun w => L2.CX l.prog w) (sp := fun w => spL (K w.params)) hn (by decide) hdf hr hY F (fun _ _ a ns hl _ hS => ⟨a, ns, rfl, hS, hl, fun _ => rfl⟩) fun _ _ _ _ _ z => cx_never z
end PD
namespace PD
open PySem PySem.Spec PyProof.Rows L2
/-! ## x[::-1] -/
section
variable {prog : Program} {w : World} {A : Around} {E : Value → Shared → Prop} {s : Shared}
theorem adj_back (n : Nat) : Builtin.Slice.sliceAdjust none none (-1) (n : Int) = ((n : Int) - 1, -1) := by
  unfold Builtin.Slice.sliceAdjust
  rfl
theorem places_back (n : Nat) : Builtin.Slice.slicePlaces ((n : Int) - 1) (-1) (-1) = n := by
  unfold Builtin.Slice.slicePlaces
  have h1 : ¬ ((-1 : Int) > 0) := by omega
  have e1 : (- -1 : Int) = 1 := by omega
  simp only [h1, if_false, e1, Int.ediv_one]
  split <;> omega
theorem pick_back (xs : Array Value) : ((List.range xs.size).filterMap fun (m : Nat) => xs[(((xs.size : Int) - 1) + (m : Int) * (-1)).toNat]?).toArray = xs.toList.reverse.toArray := by
  have e : (List.range xs.size).filterMap (fun (m : Nat) => xs[(((xs.size : Int) - 1) + (m : Int) * (-1)).toNat]?) = ((List.range xs.size).map fun k => xs.size - 1 - k).filterMap (xs[·]?) := by
    rw [List.filterMap_map]
    have aux : ∀ (l : List Nat) (f g : Nat → Option Value), (∀ m ∈ l, f m = g m) → l.filterMap f = l.filterMap g := fun l f g h => by
      induction l with
      | nil => rfl
      | cons y ys ih => rw [List.filterMap_cons, List.filterMap_cons, h y (by simp), ih fun m hm => h m (by simp [hm])]
    refine aux _ _ _ fun m hm => ?_
    have := List.mem_range.mp hm
    have e2 : (((xs.size : Int) - 1) + (m : Int) * (-1)).toNat = xs.size - 1 - m := by omega
    rw [e2]
    rfl
  rw [e, PySem.W.krv_range, List.filterMap_reverse, PySem.W.krv_all]
theorem applied_back {sl : Addr} {vl vu vs : Value} {n : Nat} {Q : Int × Int × Nat → Shared → Prop} (hs : s.heap.IsSliceOf sl vl vu vs) (pl : IsPart vl none) (pu : IsPart vu none) (ps : IsPart vs (some (-1)))
    (h : Q ((n : Int) - 1, -1, n) s) : wpAny (model prog w) A (Builtin.Slice.sliceApplied (.ref sl) (pure (n : Int))) Q E s := by
  obtain ⟨os, hos, hcs, hds⟩ := id hs
  unfold Builtin.Slice.sliceApplied Builtin.Slice.sliceFields
  refine wpAny_bind (wpAny_bind (wpAny_field hos hds (x := vl) rfl (wpAny_bind (wpAny_field hos hds (x := vu) rfl (wpAny_bind (wpAny_field hos hds (x := vs) rfl (wpAny_pure ?_)))))))
  refine wpAny_bind (HT.slicePart_ ps ?_)
  show wpAny _ _ (if ((-1 : Int) == 0) = true then _ else _) _ _ s
  rw [if_neg (by decide)]
  refine wpAny_bind (HT.slicePart_ pl (wpAny_bind (HT.slicePart_ pu (wpAny_bind (wpAny_pure ?_)))))
  show wpAny _ _ (match Builtin.Slice.sliceAdjust none none (-1) (n : Int) with | (lo, hi) => pure (lo, (-1 : Int), Builtin.Slice.slicePlaces lo hi (-1))) _ _ s
  rw [adj_back n]
  show wpAny _ _ (pure ((n : Int) - 1, (-1 : Int), Builtin.Slice.slicePlaces ((n : Int) - 1) (-1) (-1))) _ _ s
  rw [places_back]
  exact wpAny_pure h
theorem tup_back {t sl : Addr} {items : Array Value} {vl vu vs : Value} {Q : Value → Shared → Prop} (ht : IsTup s.heap t items) (hs : s.heap.IsSliceOf sl vl vu vs) (pl : IsPart vl none) (pu : IsPart vu none) (ps : IsPart vs (some (-1)))
    (h : Q (.ref s.heap.objs.size) { s with heap := s.heap.push { cls := .type "tuple", data := .seq items.toList.reverse.toArray } })
    (hsz : items.size ≤ sizeLine) : wpAny (model prog w) A (getItem (.ref t) (.ref sl)) Q E s := by
  have hok : sizeOk (.seq items.toList.reverse.toArray) := by
    show items.toList.reverse.toArray.size ≤ sizeLine
    simp only [List.size_toArray, List.length_reverse, Array.length_toList]
    exact hsz
  obtain ⟨os, hos, hcs, hds⟩ := id hs
  have hT : s.TypeIs (.ref sl) "slice" := ⟨os, hos, hcs⟩
  unfold getItem
  refine wpAny_holding ?_
  first | refine wpAny_bind (wpAny_pure ?_) | skip
  refine wpAny_bind (wpAny_sequenceKey (ht.typeIs) (by decide) ?_)
  refine wpAny_bind (wpAny_callSpecial?_slot (name := Str.ofString "__getitem__") ht.typeIs slot_tuple_getitem (wpAny_call_entry slot_tuple_getitem ht.typeIs entry_tuple_getitem ?_ (args_tuple_getitem _ _)))
  show wpAny _ _ (Builtin.Tuple.tupleItemsOf (.ref t) >>= _) _ _ s
  refine wpAny_bind (tupleItemsOf_ ht (wpAny_bind (wpAny_typeOf hT ?_)))
  rw [if_pos (by decide)]
  refine wpAny_bind (applied_back hs pl pu ps ?_)
  have hno : ¬ ((((items.size : Int) - 1) == 0 && (-1 : Int) == 1 && items.size == items.size) = true) := by simp
  show wpAny _ _ (if ((((items.size : Int) - 1) == 0 && (-1 : Int) == 1 && items.size == items.size)) = true then _ else _) _ _ s
  rw [if_neg hno, pick_back]
  first
    | exact wpAny_bind (m := Builtin.Tuple.tupleExact _) (wpAny_newObj_type (wpAny_pure ⟨_, rfl, wpAny_pure h⟩) hok)
    | exact wpAny_bind (m := Builtin.Tuple.tupleExact _) (wpAny_newObj_type (wpAny_bind (wpAny_pure (wpAny_pure ⟨_, rfl, wpAny_pure h⟩))) hok)
    | exact wpAny_bind (wpAny_bind (m := Builtin.Tuple.tupleExact _) (wpAny_newObj_type (wpAny_pure (wpAny_pure ⟨_, rfl, wpAny_pure h⟩)) hok))
    | exact wpAny_bind (wpAny_bind (m := Builtin.Tuple.tupleExact _) (wpAny_newObj_type (wpAny_pure ⟨_, rfl, wpAny_pure h⟩) hok))
end
section
variable {X : Cx} {We : EW} {e a b c : Expr} {es : List Expr} {pos p apos cpos : Pos} {x : Str}
def revD : PyData → R PyData
  | .list xs => .ok (.list xs.reverse)
  | .tuple xs => .ok (.tuple xs.reverse)
  | _ => .bad
def tRevD (K : PySem.W.Frag) (te : TE) : TE := fun σ H Q => te σ H fun x H1 => ∃ F d c, Le F H1 ∧ pB K H1 F H1 x d ∧ revD d = .ok c ∧ ∀ v F' H', Gr F H1 F' H' → Dp K F' v c → Q v H'
theorem pe_revD {te : TE} {k : Nat} {p1 p2 p3 : Pos} (he : PE X e te) : PE X (.Subscript e (.Slice none none (some (.UnaryOp .USub (.Constant (.int 1) k p1) p2)) p3) pos) (tRevD X.K te) := by
  refine ⟨fun pins s σ H Q I h => Subscript_ (thn (he.run pins s σ H _ I h) fun v s1 ⟨x, H1, I1, r1, q1⟩ => ?_)⟩
  obtain ⟨F, d, c, l, pd, hf, q⟩ := q1
  have hst : PO X (some (.UnaryOp .USub (.Constant (.int 1) k p1) p2)) (tPart (tUn (rU fun i => .int (-i)) (tC (.int 1)))) := po_some (pe_un un_neg pe_int)
  refine wpAny_Slice (thn (po_none.run pins s1 σ H1 (fun o H2 => o = none ∧ H2 = H1) I1 ⟨rfl, rfl⟩) fun vl s2 ⟨lo, H2, I2, pl, el, e2⟩ => ?_)
  subst el; subst e2
  refine thn (po_none.run pins s2 σ H2 (fun o H3 => o = none ∧ H3 = H2) I2 ⟨rfl, rfl⟩) fun vu s3 ⟨u, H3, I3, pu, eu, e3⟩ => ?_
  subst eu; subst e3
  refine thn (hst.run pins s3 σ H3 (fun o H4 => o = some (-1) ∧ H4 = H3) I3 ⟨1, rfl, -1, rfl, rfl, rfl⟩) fun vs s4 ⟨o, H4, I4, ps, eo, e4⟩ => ?_
  subst eo; subst e4
  have I5 : Inv X pins σ H4 { s4 with heap := s4.heap.push { cls := .type "slice", data := .fields #[vl, vu, vs] } } := I4.kept (t' := s4.toks) fun b ob q => Heap.get?_push_of_some _ q
  unfold revD at hf
  split at hf
  · cases hf
    obtain ⟨a, xs, rfl, hx, hvs⟩ := pd.list l
    cases r1
    obtain ⟨its, r, ht, hz⟩ := I5.list hx
    have hlen := r.length
    show wpAny (model X.prog X.w) X.A (subscriptTail e (.Slice none none (some (.UnaryOp .USub (.Constant (.int 1) k p1) p2)) p3) (.ref a) (.ref s4.heap.objs.size)) (EP X pins σ Q) X.xe _
    refine tail_any (ops := [.ref a, .ref s4.heap.objs.size]) (ht.isList.typeIs) PySem.slot_list_getitem.lookup ?_ (by with_unfolding_all rfl)
    refine wpAny_getItem_list_slice (ht.isList) (Heap.IsSliceOf.new _ vl vu vs) pl pu ps (by decide) ?_ (by rw [List.size_toArray]; omega)
    rw [PySem.W.krv_pick]
    have np : H4 ({ s4 with heap := s4.heap.push { cls := .type "slice", data := .fields #[vl, vu, vs] } } : Shared).heap.objs.size = none := I5.hok.fresh (Nat.le_refl _)
    exact ⟨.ref _, _, I5.laid (t' := s4.toks) (o := .lst xs.reverse) (fun b ob q => Heap.get?_push_of_some _ q) (Nat.le_refl _) ⟨by rw [List.length_reverse]; exact hz, _, 0, r.reverse, Heap.get?_push_size _ rfl⟩, rfl, q _ _ _ (Gr.new l np) (Dp.new_lst (l.none np) hvs.rev)⟩
  · cases hf
    obtain ⟨a, xs, rfl, hx, hvs⟩ := pd.tuple l
    cases r1
    obtain ⟨its, r, ht, hz⟩ := I5.tuple hx
    have hlen := r.length
    show wpAny (model X.prog X.w) X.A (subscriptTail e (.Slice none none (some (.UnaryOp .USub (.Constant (.int 1) k p1) p2)) p3) (.ref a) (.ref s4.heap.objs.size)) (EP X pins σ Q) X.xe _
    refine tail_any (ops := [.ref a, .ref s4.heap.objs.size]) (ht.typeIs) slot_tuple_getitem.lookup ?_ (by with_unfolding_all rfl)
    refine tup_back ht (Heap.IsSliceOf.new _ vl vu vs) pl pu ps ?_ (by rw [List.size_toArray]; omega)
    have np : H4 ({ s4 with heap := s4.heap.push { cls := .type "slice", data := .fields #[vl, vu, vs] } } : Shared).heap.objs.size = none := I5.hok.fresh (Nat.le_refl _)
    refine ⟨.ref _, _, I5.laid (t' := s4.toks) (o := .tup xs.reverse) (fun b ob q => Heap.get?_push_of_some _ q) (Nat.le_refl _) ⟨by rw [List.length_reverse]; exact hz, _, r.reverse, ⟨_, Heap.get?_push_size _ rfl, rfl, 0, rfl⟩⟩, rfl, q _ _ _ (Gr.new l np) (Dp.new_tup (l.none np) hvs.rev)⟩
  · cases hf
theorem xe_rev {k : Nat} {p1 p2 p3 : Pos} {ma : Ev → R PyData} (ha : XB X We a ma) : XE X We (.Subscript a (.Slice none none (some (.UnaryOp .USub (.Constant (.int 1) k p1) p2)) p3) pos) (op1 revD ma) := by
  refine pe_imp (pe_revD ha) fun σ H Q q => ?_
  obtain ⟨ρ, F, G, r, q⟩ := q
  refine ⟨ρ, F, G, r, Po.bind (P := pB X.K) q fun d x F1 H1 g1 p1 q1 => ?_⟩
  cases hf : revD d with
  | err c =>
    unfold revD at hf
    split at hf <;> cases hf
  | bad => rw [hf] at q1; exact q1.elim
  | ok c => rw [hf] at q1; exact ⟨F1, d, c, g1.le, p1, hf, fun v F' H' g p => q1 v F' H' g p⟩
theorem look_rel {env : Env} {x : Str} : ∀ {names : List (Str × NameKind)}, (names.lookup x = some .cell ∨ names.lookup x = some .free) →
    ((names.map fun (n, k) => if (k == NameKind.free && env.scope.kind == .function && env.kindOf n == some .cell) then (n, NameKind.cell) else (n, k)).lookup x = some .cell ∨
      (names.map fun (n, k) => if (k == NameKind.free && env.scope.kind == .function && env.kindOf n == some .cell) then (n, NameKind.cell) else (n, k)).lookup x = some .free)
  | [], h => by simp at h
  | (n, k) :: r, h => by
    have ih := @look_rel env x r
    rw [List.map_cons]
    by_cases hc : (k == NameKind.free && env.scope.kind == .function && env.kindOf n == some .cell) = true
    · simp only [if_pos hc, List.lookup_cons] at h ⊢
      cases hx : x == n with
      | true => exact .inl rfl
      | false => rw [hx] at h; exact ih h
    · simp only [if_neg hc, List.lookup_cons] at h ⊢
      cases hx : x == n with
      | true => rw [hx] at h; exact h
      | false => rw [hx] at h; exact ih h
/-- a block within a block -/
theorem blkOk_in {s : Shared} {H : Hp} {sc scope : Scope} {C : Addr} {cl : List (Str × Addr)} {fp : List Addr} {env : Env} {N : List Str} {own : List (Str × Nat)} (hN : X.N = N) (h : blkC N sc scope own = true) :
    BlkOk (X.blk s H sc (compEnvC sc cl C env) fp).N (X.blk s H sc (compEnvC sc cl C env) fp).env.scope scope own := by
  have h2 := blkOk_by h
  rw [← hN] at h2
  exact ⟨h2.kind, h2.uniq, h2.ix, fun y hy e => look_rel (h2.free y hy e), h2.own⟩
theorem hu65_of {k : Nat} {A : Around} (hr : Room k A) : A.units + 65 < cLine := by have := hr.un; omega
end
end PD
namespace PD
open PySem PySem.Spec PyProof.Rows L2
/-! ## reading the meanings -/
section
variable {ρ ρ' : Ev} {a b c d e : PyData} {i j k : Int} {xs ys zs : List PyData}
def thenS (r : R Out) (q : SM) : R Out := match r with
  | .ok (.nx ρ') => q ρ'
  | r => r
@[simp] theorem thenS_nx (q : SM) : thenS (.ok (.nx ρ)) q = q ρ := (rfl)
@[simp] theorem thenS_rt (q : SM) : thenS (.ok (.rt a)) q = .ok (.rt a) := (rfl)
@[simp] theorem thenS_bk (q : SM) : thenS (.ok (.bk ρ)) q = .ok (.bk ρ) := (rfl)
@[simp] theorem thenS_ct (q : SM) : thenS (.ok (.ct ρ)) q = .ok (.ct ρ) := (rfl)
@[simp] theorem thenS_err (c : String) (q : SM) : thenS (.err c) q = .err c := (rfl)
@[simp] theorem thenS_bad (q : SM) : thenS .bad q = .bad := (rfl)
@[simp] theorem seqS_ap (p q : SM) : seqS p q ρ = thenS (p ρ) q := (rfl)
def iteR {α : Type} (c : R Bool) (p q : Ev → R α) (ρ : Ev) : R α := c.bind fun t => if t = true then p ρ else q ρ
@[simp] theorem iteR_t {α : Type} (p q : Ev → R α) : iteR (.ok true) p q ρ = p ρ := (rfl)
@[simp] theorem iteR_f {α : Type} (p q : Ev → R α) : iteR (.ok false) p q ρ = q ρ := (rfl)
@[simp] theorem iteR_err {α : Type} (c : String) (p q : Ev → R α) : iteR (.err c) p q ρ = .err c := (rfl)
def kT (t : Bool) (_ : Ev) : R Bool := .ok t
@[simp] theorem kT_ap (t : Bool) : kT t ρ = .ok t := (rfl)
/-- a loop over what is walked -/
def forG (g : PyData → Ev → R Ev) (b : SM) (xs : List PyData) (ρ : Ev) : R Out := forM (fun x ρ => (g x ρ).bind b) xs ρ
@[simp] theorem bkS_ap : bkS ρ = .ok (.bk ρ) := (rfl)
@[simp] theorem ctS_ap : ctS ρ = .ok (.ct ρ) := (rfl)
@[simp] theorem nxS_ap : nxS ρ = .ok (.nx ρ) := (rfl)
@[simp] theorem retS_ap (m : Ev → R PyData) : retS m ρ = (m ρ).bind fun d => .ok (.rt d) := (rfl)
@[simp] theorem retNS_ap : retNS ρ = .ok (.rt .none) := (rfl)
@[simp] theorem errS_ap (c : String) : errS c ρ = .err c := (rfl)
@[simp] theorem dropS_ap (m : Ev → R PyData) : dropS m ρ = (m ρ).bind fun _ => .ok (.nx ρ) := (rfl)
@[simp] theorem setS_ap (n : Nat) (m : Ev → R PyData) : setS n m ρ = (m ρ).bind fun d => .ok (.nx (ρ.set n (.d d))) := (rfl)
@[simp] theorem setLS_ap (n : Nat) (m : Ev → R PyData) : setLS n m ρ = (m ρ).bind fun d => (oListD d).bind fun xs => .ok (.nx (ρ.set n (.lo xs))) := (rfl)
@[simp] theorem asgS_ap (m : Ev → R PyData) (g : PyData → Ev → R Ev) : asgS m g ρ = (m ρ).bind fun d => (g d ρ).bind fun ρ' => .ok (.nx ρ') := (rfl)
@[simp] theorem ifS_ap (mc : Ev → R Bool) (p q : SM) : ifS mc p q ρ = iteR (mc ρ) p q ρ := (rfl)
@[simp] theorem oListD_ap : oListD (.list xs) = .ok xs := (rfl)
def ofS : Option Sl → R PyData
  | some (.d x) => .ok x
  | some (.tk xs) => .ok (.tuple xs)
  | _ => .bad
@[simp] theorem ofS_d : ofS (some (.d a)) = .ok a := (rfl)
@[simp] theorem ofS_tk : ofS (some (.tk xs)) = .ok (.tuple xs) := (rfl)
@[simp] theorem ofS_un : ofS (some .un) = .bad := (rfl)
def ofB : Option Sl → R PyData
  | some (.d x) => .ok x
  | some (.lo xs) => .ok (.list xs)
  | some (.tk xs) => .ok (.tuple xs)
  | _ => .bad
@[simp] theorem ofB_tk : ofB (some (.tk xs)) = .ok (.tuple xs) := (rfl)
@[simp] theorem ofB_d : ofB (some (.d a)) = .ok a := (rfl)
@[simp] theorem ofB_lo : ofB (some (.lo xs)) = .ok (.list xs) := (rfl)
def ofL : Option Sl → R (List PyData)
  | some (.lo xs) => .ok xs
  | _ => .bad
@[simp] theorem ofL_lo : ofL (some (.lo xs)) = .ok xs := (rfl)
def ofF (ρ : Ev) (n : Nat) : Option Sl → R Out
  | some (.lo xs) => .ok (.nx (ρ.set n (.d (.list xs))))
  | some (.d _) => .ok (.nx ρ)
  | _ => .bad
@[simp] theorem ofF_lo {n : Nat} : ofF ρ n (some (.lo xs)) = .ok (.nx (ρ.set n (.d (.list xs)))) := (rfl)
@[simp] theorem ofF_d {n : Nat} : ofF ρ n (some (.d a)) = .ok (.nx ρ) := (rfl)
@[simp] theorem frzS_ap (n : Nat) : frzS n ρ = ofF ρ n ρ[n]? := by
  unfold frzS ofF
  cases ρ[n]? with
  | none => rfl
  | some x => cases x <;> rfl
@[simp] theorem vE_ap (n : Nat) : vE n ρ = ofS ρ[n]? := by
  unfold vE ofS
  cases ρ[n]? with
  | none => rfl
  | some x => cases x <;> rfl
@[simp] theorem vB_ap (n : Nat) : vB n ρ = ofB ρ[n]? := by
  unfold vB ofB
  cases ρ[n]? with
  | none => rfl
  | some x => cases x <;> rfl
@[simp] theorem getLo_ap (n : Nat) : getLo ρ n = ofL ρ[n]? := by
  unfold getLo ofL
  cases ρ[n]? with
  | none => rfl
  | some x => cases x <;> rfl
def outR : R Out → R PyData
  | .ok (.nx _) => .ok .none
  | .ok (.rt d) => .ok d
  | .ok _ => .bad
  | .err c => .err c
  | .bad => .bad
@[simp] theorem outR_nx : outR (.ok (.nx ρ)) = .ok .none := (rfl)
@[simp] theorem outR_rt : outR (.ok (.rt a)) = .ok a := (rfl)
@[simp] theorem outR_err (c : String) : outR (.err c) = .err c := (rfl)
@[simp] theorem outR_bad : outR .bad = .bad := (rfl)
theorem runB_ap (n : Nat) (b : SM) : runB n b xs = outR (b (xs.map Sl.d ++ List.replicate (n - xs.length) Sl.un)) := by
  unfold runB outR
  rfl
@[simp] theorem cE_ap : cE a ρ = .ok a := (rfl)
@[simp] theorem op2_ap (f : PyData → PyData → R PyData) (p q : Ev → R PyData) : op2 f p q ρ = (p ρ).bind fun x => (q ρ).bind fun y => f x y := (rfl)
@[simp] theorem op1_ap (f : PyData → R PyData) (p : Ev → R PyData) : op1 f p ρ = (p ρ).bind f := (rfl)
@[simp] theorem tvE_ap (p : Ev → R PyData) : tvE p ρ = (p ρ).bind boolD := (rfl)
@[simp] theorem boolD_ap (t : Bool) : boolD (.bool t) = .ok t := (rfl)
@[simp] theorem andT_ap (p q : Ev → R Bool) : andT p q ρ = iteR (p ρ) q (kT false) ρ := (rfl)
@[simp] theorem orT_ap (p q : Ev → R Bool) : orT p q ρ = iteR (p ρ) (kT true) q ρ := (rfl)
@[simp] theorem notT_ap (p : Ev → R Bool) : notT p ρ = (p ρ).bind fun t => .ok (!t) := (rfl)
@[simp] theorem andE_ap (p q : Ev → R PyData) : andE p q ρ = iteR ((p ρ).bind boolD) q (cE (.bool false)) ρ := by
  unfold andE iteR
  cases p ρ <;> rfl
@[simp] theorem orE_ap (p q : Ev → R PyData) : orE p q ρ = iteR ((p ρ).bind boolD) (cE (.bool true)) q ρ := by
  unfold orE iteR
  cases p ρ <;> rfl
@[simp] theorem notE_ap (p : Ev → R PyData) : notE p ρ = (p ρ).bind fun d => (boolD d).bind fun t => .ok (.bool (!t)) := (rfl)
@[simp] theorem ifE_ap (mc : Ev → R Bool) (p q : Ev → R PyData) : ifE mc p q ρ = iteR (mc ρ) p q ρ := (rfl)
@[simp] theorem nilA_ap : nilA ρ = .ok [] := (rfl)
@[simp] theorem consA_ap (p : Ev → R PyData) (q : Ev → R (List PyData)) : consA p q ρ = (p ρ).bind fun d => (q ρ).bind fun ds => .ok (d :: ds) := (rfl)
@[simp] theorem callE_ap (n : Nat) (m : List PyData → R PyData) (p : Ev → R (List PyData)) : callE n m p ρ = (p ρ).bind fun ds => if ds.length = n then m ds else .bad := (rfl)
@[simp] theorem callB_ap (f : List PyData → R PyData) (p : Ev → R (List PyData)) : callB f p ρ = (p ρ).bind f := (rfl)
@[simp] theorem argI_ap (f : List PyData → R (List PyData)) (p : Ev → R (List PyData)) : argI f p ρ = (p ρ).bind f := (rfl)
@[simp] theorem itE_ap (p : Ev → R PyData) : itE p ρ = (p ρ).bind iterD := (rfl)
@[simp] theorem iterD_list : iterD (.list xs) = .ok xs := (rfl)
@[simp] theorem iterD_tuple : iterD (.tuple xs) = .ok xs := (rfl)
@[simp] theorem tupE_ap (p : Ev → R (List PyData)) : tupE p ρ = (p ρ).bind fun ds => if ds.length ≤ SZ then .ok (.tuple ds) else .bad := (rfl)
@[simp] theorem lstE_ap (p : Ev → R (List PyData)) : lstE p ρ = (p ρ).bind fun ds => if ds.length ≤ SZ then .ok (.list ds) else .bad := (rfl)
@[simp] theorem chainE_ap (f g : PyData → PyData → R PyData) (p q r : Ev → R PyData) : chainE f g p q r ρ = (p ρ).bind fun x => (q ρ).bind fun y => (f x y).bind fun k => (boolD k).bind fun t => if t = true then (r ρ).bind fun z => g y z else .ok (.bool false) := (rfl)
@[simp] theorem pNo_ap : pNo ρ = .ok none := (rfl)
@[simp] theorem pAt_ap (p : Ev → R PyData) : pAt p ρ = (p ρ).bind intD := (rfl)
@[simp] theorem intD_ap : intD (.int i) = .ok (some i) := (rfl)
@[simp] theorem slE_ap (p : Ev → R PyData) (q r : Ev → R (Option Int)) : slE p q r ρ = (p ρ).bind fun x => (q ρ).bind fun lo => (r ρ).bind fun hi => slD lo hi x := (rfl)
@[simp] theorem slD_list (lo hi : Option Int) : slD lo hi (.list xs) = .ok (.list (cutL xs lo hi)) := (rfl)
@[simp] theorem slD_tuple (lo hi : Option Int) : slD lo hi (.tuple xs) = .ok (.tuple (cutL xs lo hi)) := (rfl)
@[simp] theorem forS_ap (mi : Ev → R (List PyData)) (g : PyData → Ev → R Ev) (b : SM) : forS mi g b ρ = (mi ρ).bind fun xs => forG g b xs ρ := (rfl)
@[simp] theorem gN_ap (n : Nat) : gN n a ρ = .ok (ρ.set n (.d a)) := (rfl)
@[simp] theorem gsNil_ap : gsNil [] ρ = .ok ρ := (rfl)
@[simp] theorem gsCons_ap (g : PyData → Ev → R Ev) (gs : List PyData → Ev → R Ev) : gsCons g gs (a :: xs) ρ = (g a ρ).bind fun ρ' => gs xs ρ' := (rfl)
@[simp] theorem gT_tuple (n : Nat) (gs : List PyData → Ev → R Ev) : gT n gs (.tuple xs) ρ = if xs.length = n then gs xs ρ else .bad := (rfl)
@[simp] theorem idxE_ap (p q : Ev → R PyData) : idxE p q ρ = (p ρ).bind fun x => (oListD x).bind fun ds => (q ρ).bind fun y => indexD ds y := (rfl)
@[simp] theorem appS_ap (n : Nat) (m : Ev → R PyData) : appS n m ρ = (getLo ρ n).bind fun xs => (m ρ).bind fun d => if xs.length < SZ then .ok (.nx (ρ.set n (.lo (xs ++ [d])))) else .bad := (rfl)
@[simp] theorem yesT_ap : yesT ρ = .ok true := (rfl)
@[simp] theorem add_ii : addD (.int i) (.int j) = .ok (.int (i + j)) := (rfl)
@[simp] theorem sub_ii : subD (.int i) (.int j) = .ok (.int (i - j)) := (rfl)
@[simp] theorem neg_i : negD (.int i) = .ok (.int (-i)) := (rfl)
theorem mul_ii (h : i.natAbs < 2 ^ 64 ∨ j.natAbs < 2 ^ 64) : mulD (.int i) (.int j) = .ok (.int (i * j)) := if_pos (by rcases h with h | h; exact .inl h; exact .inr (.inl h))
theorem mod_ii (h : 0 < j) : modD (.int i) (.int j) = .ok (.int (i % j)) := if_pos h
theorem fdiv_ii (h : 0 < j) (h2 : j < 1073741824) : fdivD (.int i) (.int j) = .ok (.int (i / j)) := if_pos ⟨h, .inl (by omega)⟩
@[simp] theorem lt_ii : ltD (.int i) (.int j) = .ok (.bool (decide (i < j))) := (rfl)
@[simp] theorem gt_ii : gtD (.int i) (.int j) = .ok (.bool (decide (j < i))) := (rfl)
@[simp] theorem le_ii : leD (.int i) (.int j) = .ok (.bool (decide (i ≤ j))) := (rfl)
@[simp] theorem ge_ii : geD (.int i) (.int j) = .ok (.bool (decide (j ≤ i))) := (rfl)
@[simp] theorem int1_i : int1D [.int i] = .ok (.int i) := (rfl)
@[simp] theorem abs_i : absD [.int i] = .ok (.int i.natAbs) := (rfl)
@[simp] theorem len_list : lenD [.list xs] = .ok (.int xs.length) := (rfl)
@[simp] theorem len_tuple : lenD [.tuple xs] = .ok (.int xs.length) := (rfl)
@[simp] theorem tuple1_list : tuple1D [.list xs] = .ok (.tuple xs) := (rfl)
@[simp] theorem tuple1_tuple : tuple1D [.tuple xs] = .ok (.tuple xs) := (rfl)
@[simp] theorem list1_list : list1D [.list xs] = .ok (.list xs) := (rfl)
@[simp] theorem list1_tuple : list1D [.tuple xs] = .ok (.list xs) := (rfl)
@[simp] theorem rev_list : revD (.list xs) = .ok (.list xs.reverse) := (rfl)
@[simp] theorem rev_tuple : revD (.tuple xs) = .ok (.tuple xs.reverse) := (rfl)
@[simp] theorem isNone_none : isNoneD a .none = .ok (.bool (isN a)) := by unfold isNoneD; rfl
@[simp] theorem notNone_none : notNoneD a .none = .ok (.bool (!isN a)) := by unfold notNoneD; rfl
@[simp] theorem isi_ap (t : Ty) : isiD t a = .ok (.bool (isiB t a)) := (rfl)
theorem add_tt (h : xs.length + ys.length ≤ SZ) : addD (.tuple xs) (.tuple ys) = .ok (.tuple (xs ++ ys)) := if_pos h
theorem add_ll (h : xs.length + ys.length ≤ SZ) : addD (.list xs) (.list ys) = .ok (.list (xs ++ ys)) := if_pos h
theorem ix_list (h : atI xs i = some a) : ixD (.list xs) (.int i) = .ok a := by unfold ixD; simp only [h]
theorem ix_tuple (h : atI xs i = some a) : ixD (.tuple xs) (.int i) = .ok a := by unfold ixD; simp only [h]
theorem range1_ok {n : Int} (h : n < 4611686018427387904) (h0 : 0 ≤ n) : range1D [.int n] = .ok (rangeL 0 1 n.toNat) := if_pos (by unfold smallI; omega)
theorem range2_ok {m n : Int} (hm : smallI m) (h : smallI n) : range2D [.int m, .int n] = .ok (rangeL m 1 (n - m).toNat) := if_pos ⟨hm, h⟩
end
/-! ### loops -/
theorem forM_inv {b : PyData → SM} {I : Nat → Ev → Prop} : ∀ (xs : List PyData) (ρ : Ev) (n : Nat), I n ρ → (∀ m x, xs[m]? = some x → ∀ ρ, I (n + m) ρ → ∃ ρ', b x ρ = .ok (.nx ρ') ∧ I (n + m + 1) ρ') →
    ∃ ρ', forM b xs ρ = .ok (.nx ρ') ∧ I (n + xs.length) ρ'
  | [], ρ, n, h, _ => ⟨ρ, rfl, h⟩
  | x :: xs, ρ, n, h, hb => by
    obtain ⟨ρ1, e1, h1⟩ := hb 0 x rfl ρ h
    obtain ⟨ρ2, e2, h2⟩ := forM_inv (b := b) (I := I) xs ρ1 (n + 1) h1 fun m y hy ρ hi => by
      have := hb (m + 1) y hy ρ (by rw [show n + (m + 1) = n + 1 + m by omega]; exact hi)
      rw [show n + (m + 1) + 1 = n + 1 + m + 1 by omega] at this
      exact this
    refine ⟨ρ2, ?_, ?_⟩
    · unfold forM
      rw [e1]
      exact e2
    · rw [List.length_cons, show n + (xs.length + 1) = n + 1 + xs.length by omega]
      exact h2
/-- a loop that returns nothing of its own: every turn goes on -/
theorem forM_all {b : PyData → SM} {I : Ev → Prop} (xs : List PyData) (ρ : Ev) (h : I ρ) (hb : ∀ x ∈ xs, ∀ ρ, I ρ → ∃ ρ', b x ρ = .ok (.nx ρ') ∧ I ρ') : ∃ ρ', forM b xs ρ = .ok (.nx ρ') ∧ I ρ' := by
  obtain ⟨ρ', e, h'⟩ := forM_inv (b := b) (I := fun _ => I) xs ρ 0 h fun m x hx ρ hi => hb x (List.mem_of_getElem? hx) ρ hi
  exact ⟨ρ', e, h'⟩
theorem forG_inv {g : PyData → Ev → R Ev} {b : SM} {I : Nat → Ev → Prop} (xs : List PyData) (ρ : Ev) (h : I 0 ρ) (hb : ∀ m x, xs[m]? = some x → ∀ ρ, I m ρ → ∃ ρ', (g x ρ).bind b = .ok (.nx ρ') ∧ I (m + 1) ρ') :
    ∃ ρ', forG g b xs ρ = .ok (.nx ρ') ∧ I xs.length ρ' := by
  obtain ⟨ρ', e, h'⟩ := forM_inv (b := fun x ρ => (g x ρ).bind b) (I := I) xs ρ 0 h fun m x hx ρ hi => by
    rw [Nat.zero_add] at hi ⊢
    exact hb m x hx ρ hi
  exact ⟨ρ', e, by rw [Nat.zero_add] at h'; exact h'⟩
theorem forG_all {g : PyData → Ev → R Ev} {b : SM} {I : Ev → Prop} (xs : List PyData) (ρ : Ev) (h : I ρ) (hb : ∀ x ∈ xs, ∀ ρ, I ρ → ∃ ρ', (g x ρ).bind b = .ok (.nx ρ') ∧ I ρ') : ∃ ρ', forG g b xs ρ = .ok (.nx ρ') ∧ I ρ' := by
  obtain ⟨ρ', e, h'⟩ := forG_inv (g := g) (b := b) (I := fun _ => I) xs ρ h fun m x hx ρ hi => hb x (List.mem_of_getElem? hx) ρ hi
  exact ⟨ρ', e, h'⟩
theorem rangeL_map (n : Nat) : rangeL 0 1 n = (List.range n).map fun k : Nat => PyData.int k := by
  apply List.ext_getElem?
  intro i
  by_cases h : i < n
  · rw [rangeL_get 1 n 0 i h, List.getElem?_map, List.getElem?_range h]
    simp
  · rw [List.getElem?_eq_none (by rw [rangeL_length]; omega), List.getElem?_eq_none (by simp; omega)]
theorem rangeL_map2 (a : Int) (n : Nat) : rangeL a 1 n = (List.range n).map fun k : Nat => PyData.int (a + k) := by
  apply List.ext_getElem?
  intro i
  by_cases h : i < n
  · rw [rangeL_get 1 n a i h, List.getElem?_map, List.getElem?_range h]
    simp
  · rw [List.getElem?_eq_none (by rw [rangeL_length]; omega), List.getElem?_eq_none (by simp; omega)]
/-! ### comprehensions -/
theorem lcM_of {α : Type} {g : PyData → Ev → R Ev} {t : Ev → R Bool} {e : Ev → R PyData} {ρ : Ev} {enc : α → PyData} {p : α → Bool} {f : α → PyData} :
    ∀ xs : List α, (∀ x ∈ xs, ∃ ρ', g (enc x) ρ = .ok ρ' ∧ t ρ' = .ok (p x) ∧ (p x = true → e ρ' = .ok (f x))) → lcM g t e ρ (xs.map enc) = .ok ((xs.filter p).map f)
  | [], _ => rfl
  | x :: xs, h => by
    obtain ⟨ρ', h1, h2, h3⟩ := h x (by simp)
    have ih := lcM_of (g := g) (t := t) (e := e) (ρ := ρ) (enc := enc) (p := p) (f := f) xs fun y hy => h y (by simp [hy])
    rw [List.map_cons]
    unfold lcM
    rw [h1, bind_ok, h2, bind_ok]
    cases hp : p x with
    | true => rw [if_pos rfl, h3 hp, bind_ok, ih, bind_ok, List.filter_cons_of_pos hp, List.map_cons]
    | false => rw [if_neg Bool.false_ne_true, ih, List.filter_cons_of_neg (by rw [hp]; exact Bool.false_ne_true)]
theorem lcE_of {α : Type} {mi : Ev → R (List PyData)} {vs : List Nat} {g : PyData → Ev → R Ev} {t : Ev → R Bool} {e : Ev → R PyData} {ρ : Ev} {enc : α → PyData} {p : α → Bool} {f : α → PyData} (xs : List α) (hi : mi ρ = .ok (xs.map enc)) (hl : xs.length ≤ SZ)
    (h : ∀ x ∈ xs, ∃ ρ', g (enc x) (wipeE ρ vs) = .ok ρ' ∧ t ρ' = .ok (p x) ∧ (p x = true → e ρ' = .ok (f x))) : lcE mi vs g t e ρ = .ok (.list ((xs.filter p).map f)) := by
  unfold lcE
  rw [hi, bind_ok, List.length_map, if_pos hl, lcM_of xs h]
  rfl
/-- without an if -/
theorem lcE_all {α : Type} {mi : Ev → R (List PyData)} {vs : List Nat} {g : PyData → Ev → R Ev} {e : Ev → R PyData} {ρ : Ev} {enc : α → PyData} {f : α → PyData} (xs : List α) (hi : mi ρ = .ok (xs.map enc)) (hl : xs.length ≤ SZ)
    (h : ∀ x ∈ xs, ∃ ρ', g (enc x) (wipeE ρ vs) = .ok ρ' ∧ e ρ' = .ok (f x)) : lcE mi vs g yesT e ρ = .ok (.list (xs.map f)) := by
  have := lcE_of (mi := mi) (vs := vs) (g := g) (t := yesT) (e := e) (ρ := ρ) (enc := enc) (p := fun _ => true) (f := f) xs hi hl fun x hx => by
    obtain ⟨ρ', h1, h2⟩ := h x hx
    exact ⟨ρ', h1, rfl, fun _ => h2⟩
  rw [this, List.filter_eq_self.mpr fun _ _ => rfl]
/-! ### data with a Lean type -/
section
open PySem.W
variable {α : Type} [DecidableEq α] [Datum α]
theorem shp_t (h : Datum.depth α ≤ 60) (a : α) : shp (Datum.toD a) = true := by
  unfold shp
  have := Datum.depth_le a
  rw [Datum.plain, Bool.true_and, decide_eq_true_eq]
  omega
theorem eq_t (h : Datum.depth α ≤ 60) (a b : α) : eqD (Datum.toD a) (Datum.toD b) = .ok (.bool (decide (a = b))) := by
  unfold eqD
  rw [if_pos ⟨shp_t h a, shp_t h b⟩, Datum.eqv]
theorem ne_t (h : Datum.depth α ≤ 60) (a b : α) : neD (Datum.toD a) (Datum.toD b) = .ok (.bool (!decide (a = b))) := by
  unfold neD
  rw [if_pos ⟨shp_t h a, shp_t h b⟩, Datum.eqv]
theorem in_t (h : Datum.depth α ≤ 59) (a : α) (xs : List α) : inD (Datum.toD a) (.list (xs.map Datum.toD)) = .ok (.bool (decide (a ∈ xs))) := by
  have h1 := shp_t (by omega) a
  have h2 : shp (.list (xs.map Datum.toD)) = true := shp_t (α := List α) (show Datum.depth α + 1 ≤ 60 by omega) xs
  have e : inD (Datum.toD a) (.list (xs.map Datum.toD)) = .ok (.bool ((xs.map Datum.toD).any fun z => PyData.eqv z (Datum.toD a))) := by
    show (if shp (Datum.toD a) = true ∧ shp (.list (xs.map Datum.toD)) = true then R.ok (PyData.bool _) else .bad) = _
    rw [if_pos ⟨h1, h2⟩]
  rw [e, any_datum]
theorem inT_t (h : Datum.depth α ≤ 59) (a : α) (xs : List α) : inD (Datum.toD a) (.tuple (xs.map Datum.toD)) = .ok (.bool (decide (a ∈ xs))) := by
  have h1 := shp_t (by omega) a
  have h2 : shp (.tuple (xs.map Datum.toD)) = true := shp_t (α := Tup α) (show Datum.depth α + 1 ≤ 60 by omega) ⟨xs⟩
  have e : inD (Datum.toD a) (.tuple (xs.map Datum.toD)) = .ok (.bool ((xs.map Datum.toD).any fun z => PyData.eqv z (Datum.toD a))) := by
    show (if shp (Datum.toD a) = true ∧ shp (.tuple (xs.map Datum.toD)) = true then R.ok (PyData.bool _) else .bad) = _
    rw [if_pos ⟨h1, h2⟩]
  rw [e, any_datum]
theorem index_t (h : Datum.depth α ≤ 59) (a : α) (xs : List α) {j : Nat} (hj : xs.findIdx? (fun y => decide (y = a)) = some j) : indexD (xs.map Datum.toD) (Datum.toD a) = .ok (.int j) := by
  have h1 := shp_t (by omega) a
  have h2 : shp (.list (xs.map Datum.toD)) = true := shp_t (α := List α) (show Datum.depth α + 1 ≤ 60 by omega) xs
  unfold indexD
  rw [if_pos ⟨h2, h1⟩]
  have := place_datum xs a
  unfold SeqAt.dataPlace at this
  rw [this, hj]
end
section
open PySem.W
variable {α : Type} [DecidableEq α] [DatumOrd α]
theorem alikeOk_t (h : Datum.depth α ≤ 60) (xs : List α) : alikeOk (xs.map Datum.toD) = true := by
  unfold alikeOk
  have hd := depthAll_map xs
  rw [Bool.and_eq_true, decide_eq_true_eq]
  refine ⟨List.all_eq_true.mpr fun x hx => ?_, by omega⟩
  obtain ⟨a, ha, rfl⟩ := List.mem_map.mp hx
  rw [Bool.and_eq_true]
  refine ⟨List.all_eq_true.mpr fun y hy => ?_, ?_⟩
  · obtain ⟨b, hb, rfl⟩ := List.mem_map.mp hy
    exact DatumOrd.alike a b
  · have := DatumOrd.notNone a
    unfold isN
    split
    · contradiction
    · rfl
theorem min_t (h : Datum.depth α ≤ 60) (x : α) (xs : List α) : PD.minD [.list ((x :: xs).map Datum.toD)] = .ok (Datum.toD (minOf x xs)) := by
  have := alikeOk_t h (x :: xs)
  rw [List.map_cons] at this ⊢
  show (if alikeOk (Datum.toD x :: xs.map Datum.toD) = true then R.ok (PySem.W.minD (Datum.toD x) (xs.map Datum.toD)) else .bad) = _
  rw [if_pos this, minD_map]
theorem max_t (h : Datum.depth α ≤ 60) (x : α) (xs : List α) : PD.maxD [.list ((x :: xs).map Datum.toD)] = .ok (Datum.toD (maxOf x xs)) := by
  have := alikeOk_t h (x :: xs)
  rw [List.map_cons] at this ⊢
  show (if alikeOk (Datum.toD x :: xs.map Datum.toD) = true then R.ok (PySem.W.maxD (Datum.toD x) (xs.map Datum.toD)) else .bad) = _
  rw [if_pos this, maxD_map]
end
@[simp] theorem all_b (bs : List Bool) : allD [.list (bs.map .bool)] = .ok (.bool (bs.all _root_.id)) := by
  unfold allD
  simp only [boolsOf_map]
@[simp] theorem any_b (bs : List Bool) : anyD [.list (bs.map .bool)] = .ok (.bool (bs.any _root_.id)) := by
  unfold anyD
  simp only [boolsOf_map]
@[simp] theorem sum_i (bs : List Int) : sumD [.list (bs.map .int)] = .ok (.int bs.sum) := by
  unfold sumD
  simp only [intsOf_map]
end PD
namespace PD
open PySem PySem.Spec PyProof.Rows L2
/-! ## the numbers that every law draws -/
def drawsB : SM := (seqS (setLS 2 (lstE nilA))
  (seqS (setS 3 (cE (.int 7)))
  (seqS (forS (itE (slE (vE 0) pNo (pAt (cE (.int 63))))) (gN 4)
  (seqS (setS 5 (callB absD (consA (vE 4) nilA)))
  (seqS (setS 3 (op2 modD (callB int1D (consA (op2 addD (op2 addD (op2 mulD (vE 3) (cE (.int 48271))) (vE 5)) (cE (.int 11))) nilA)) (cE (.int 2147483647))))
  (ifS (tvE (op2 geD (vE 5) (op2 powD (cE (.int 10)) (cE (.int 18)))))
  (forS (argI range1D (consA (cE (.int 60)) nilA)) (gN 6)
  (ifS (tvE (op2 gtD (vE 5) (cE (.int 0))))
  (seqS (appS 2 (op2 modD (callB int1D (consA (vE 5) nilA)) (cE (.int 1009))))
  (setS 5 (op2 fdivD (vE 5) (cE (.int 1009)))))
  nxS))
  (appS 2 (op2 modD (op2 fdivD (callB int1D (consA (op2 addD (op2 mulD (vE 3) (cE (.int 16807))) (cE (.int 5))) nilA)) (cE (.int 3))) (cE (.int 65521))))))))
  (seqS (forS (argI range1D (consA (vE 1) nilA)) (gN 6)
  (ifS (tvE (op2 ltD (callB lenD (consA (vB 2) nilA)) (vE 1)))
  (seqS (setS 3 (op2 modD (callB int1D (consA (op2 addD (op2 addD (op2 mulD (vE 3) (cE (.int 69621))) (vE 6)) (cE (.int 1))) nilA)) (cE (.int 2147483647))))
  (appS 2 (op2 modD (op2 fdivD (callB int1D (consA (vE 3) nilA)) (cE (.int 7))) (cE (.int 65521)))))
  nxS))
  (retS (slE (vB 2) pNo (pAt (vE 1))))))))
def Draw (x : Int) : Prop := 0 ≤ x ∧ x < 65521
/-- what stands while the numbers are drawn -/
def DrI (ns : List Int) (many : Nat) (n : Nat) (ρ : Ev) : Prop := ∃ (ds : List Int) (seed : Int) (c nm k : Sl), ρ = [.d (.list (ns.map .int)), .d (.int many), .lo (ds.map .int), .d (.int seed), c, nm, k] ∧ ds.length ≤ n ∧ ∀ x ∈ ds, Draw x
theorem draw_mod {x : Int} (n : Int) (h0 : 0 < n) (h : n ≤ 65521) : Draw (x % n) := ⟨Int.emod_nonneg _ (by omega), Int.lt_of_lt_of_le (Int.emod_lt_of_pos _ h0) h⟩
theorem app_draw {ds : List Int} {x : Int} (h : ∀ y ∈ ds, Draw y) (hx : Draw x) : ∀ y ∈ ds ++ [x], Draw y := fun y hy => by
  rcases List.mem_append.mp hy with hy | hy
  · exact h y hy
  · cases List.mem_singleton.mp hy; exact hx
theorem pow18 : powD (.int 10) (.int 18) = .ok (.int 1000000000000000000) := by
  show (if 0 ≤ (18 : Int) ∧ (18 : Int) ≤ 1000 ∧ (10 : Int).natAbs < 2 ^ 64 then R.ok (PyData.int ((10 : Int) ^ (18 : Int).toNat)) else R.bad) = _
  rw [if_pos (by decide)]
  rfl
def DrJ (n : Nat) (ns : List Int) (many : Nat) (m : Nat) (ρ : Ev) : Prop := ∃ (ds : List Int) (seed : Int) (c : Sl) (nm : Int) (k : Sl), ρ = [.d (.list (ns.map .int)), .d (.int many), .lo (ds.map .int), .d (.int seed), c, .d (.int nm), k] ∧ ds.length ≤ n + m ∧ ∀ x ∈ ds, Draw x
theorem map_snoc (ds : List Int) (x : Int) : ds.map PyData.int ++ [.int x] = (ds ++ [x]).map PyData.int := by rw [List.map_append]; rfl
theorem draws_in (ns : List Int) (many n : Nat) (hn : n ≤ 100000) (x : PyData) (m : Nat) (hm : m ≤ 60) (ρ : Ev) (h : DrJ n ns many m ρ) :
    ∃ ρ', (gN 6 x ρ).bind (ifS (tvE (op2 gtD (vE 5) (cE (.int 0)))) (seqS (appS 2 (op2 modD (callB int1D (consA (vE 5) nilA)) (cE (.int 1009)))) (setS 5 (op2 fdivD (vE 5) (cE (.int 1009))))) nxS) = .ok (.nx ρ') ∧ DrJ n ns many (m + 1) ρ' := by
  obtain ⟨ds, seed, c, nm, k, rfl, hl, hd⟩ := h
  by_cases hp : 0 < nm
  · have hz : ds.length < SZ := by show ds.length < 16777216; omega
    have hd2 := app_draw hd (draw_mod (x := nm) 1009 (by omega) (by omega))
    refine ⟨[.d (.list (ns.map .int)), .d (.int many), .lo ((ds ++ [nm % 1009]).map .int), .d (.int seed), c, .d (.int (nm / 1009)), .d x], ?_, ds ++ [nm % 1009], seed, c, nm / 1009, .d x, rfl, by rw [List.length_append]; simp; omega, hd2⟩
    simp [hp, mod_ii, fdiv_ii]
    rw [if_pos hz]
    simp [fdiv_ii]
  · exact ⟨_, by simp [hp], ds, seed, c, nm, .d x, rfl, by omega, hd⟩
theorem draws_one (ns : List Int) (many n : Nat) (hn : n ≤ 100000) (c : Int) (ρ : Ev) (h : DrI ns many n ρ) :
    ∃ ρ', (gN 4 (.int c) ρ).bind (seqS (setS 5 (callB absD (consA (vE 4) nilA)))
  (seqS (setS 3 (op2 modD (callB int1D (consA (op2 addD (op2 addD (op2 mulD (vE 3) (cE (.int 48271))) (vE 5)) (cE (.int 11))) nilA)) (cE (.int 2147483647))))
  (ifS (tvE (op2 geD (vE 5) (op2 powD (cE (.int 10)) (cE (.int 18)))))
  (forS (argI range1D (consA (cE (.int 60)) nilA)) (gN 6)
  (ifS (tvE (op2 gtD (vE 5) (cE (.int 0))))
  (seqS (appS 2 (op2 modD (callB int1D (consA (vE 5) nilA)) (cE (.int 1009))))
  (setS 5 (op2 fdivD (vE 5) (cE (.int 1009)))))
  nxS))
  (appS 2 (op2 modD (op2 fdivD (callB int1D (consA (op2 addD (op2 mulD (vE 3) (cE (.int 16807))) (cE (.int 5))) nilA)) (cE (.int 3))) (cE (.int 65521))))))) = .ok (.nx ρ') ∧ DrI ns many (n + 60) ρ' := by
  obtain ⟨ds, seed, c0, nm, k, rfl, hl, hd⟩ := h
  have m1 : mulD (.int seed) (.int 48271) = .ok (.int (seed * 48271)) := mul_ii (.inr (by decide))
  have m2 : ∀ t, mulD (.int t) (.int 16807) = .ok (.int (t * 16807)) := fun t => mul_ii (.inr (by decide))
  by_cases hp : (1000000000000000000 : Int) ≤ (c.natAbs : Int)
  · obtain ⟨ρ', e, ds', seed', c', nm', k', e2, hl', hd'⟩ := forG_inv (g := gN 6) (b := (ifS (tvE (op2 gtD (vE 5) (cE (.int 0)))) (seqS (appS 2 (op2 modD (callB int1D (consA (vE 5) nilA)) (cE (.int 1009)))) (setS 5 (op2 fdivD (vE 5) (cE (.int 1009))))) nxS)) (I := DrJ n ns many) (rangeL 0 1 60)
      [.d (.list (ns.map .int)), .d (.int many), .lo (ds.map .int), .d (.int ((seed * 48271 + (c.natAbs : Int) + 11) % 2147483647)), .d (.int c), .d (.int c.natAbs), k] ⟨ds, _, _, _, _, rfl, by omega, hd⟩ fun m x hx ρ hi => by
        have hm := (List.getElem?_eq_some_iff.mp hx).1
        rw [rangeL_length] at hm
        exact draws_in ns many n hn x m (by omega) ρ hi
    rw [rangeL_length] at hl'
    refine ⟨ρ', ?_, ds', seed', c', .d (.int nm'), k', e2, by omega, hd'⟩
    have r60 : range1D [.int 60] = .ok (rangeL 0 1 60) := range1_ok (by decide) (by decide)
    simp [m1, mod_ii, pow18, hp, r60]
    exact e
  · have hz : ds.length < SZ := by show ds.length < 16777216; omega
    have hd2 := app_draw hd (draw_mod (x := (((seed * 48271 + (c.natAbs : Int) + 11) % 2147483647) * 16807 + 5) / 3) 65521 (by omega) (by omega))
    refine ⟨_, ?_, ds ++ [(((seed * 48271 + (c.natAbs : Int) + 11) % 2147483647) * 16807 + 5) / 3 % 65521], (seed * 48271 + (c.natAbs : Int) + 11) % 2147483647, .d (.int c), .d (.int c.natAbs), k, rfl, by rw [List.length_append]; simp; omega, hd2⟩
    simp [m1, m2, mod_ii, fdiv_ii, pow18, hp]
    exact hz
def DrK (ns : List Int) (many : Nat) (m : Nat) (ρ : Ev) : Prop := ∃ (ds : List Int) (seed : Int) (c nm k : Sl), ρ = [.d (.list (ns.map .int)), .d (.int many), .lo (ds.map .int), .d (.int seed), c, nm, k] ∧ ds.length ≤ 10000 ∧ (m ≤ ds.length ∨ many ≤ ds.length) ∧ ∀ x ∈ ds, Draw x
theorem draws_more (ns : List Int) (many : Nat) (hn : many ≤ 1000) (j : Int) (m : Nat) (ρ : Ev) (h : DrK ns many m ρ) :
    ∃ ρ', (gN 6 (.int j) ρ).bind (ifS (tvE (op2 ltD (callB lenD (consA (vB 2) nilA)) (vE 1)))
  (seqS (setS 3 (op2 modD (callB int1D (consA (op2 addD (op2 addD (op2 mulD (vE 3) (cE (.int 69621))) (vE 6)) (cE (.int 1))) nilA)) (cE (.int 2147483647))))
  (appS 2 (op2 modD (op2 fdivD (callB int1D (consA (vE 3) nilA)) (cE (.int 7))) (cE (.int 65521)))))
  nxS) = .ok (.nx ρ') ∧ DrK ns many (m + 1) ρ' := by
  obtain ⟨ds, seed, c0, nm, k, rfl, hz, hl, hd⟩ := h
  have m1 : mulD (.int seed) (.int 69621) = .ok (.int (seed * 69621)) := mul_ii (.inr (by decide))
  by_cases hp : ds.length < many
  · have hz2 : ds.length < SZ := by show ds.length < 16777216; omega
    have hd2 := app_draw hd (draw_mod (x := (seed * 69621 + j + 1) % 2147483647 / 7) 65521 (by omega) (by omega))
    refine ⟨_, ?_, ds ++ [(seed * 69621 + j + 1) % 2147483647 / 7 % 65521], (seed * 69621 + j + 1) % 2147483647, c0, nm, .d (.int j), rfl, by rw [List.length_append]; simp; omega, by rw [List.length_append]; simp; omega, hd2⟩
    simp [hp, m1, mod_ii, fdiv_ii]
    exact hz2
  · refine ⟨_, ?_, ds, seed, c0, nm, .d (.int j), rfl, hz, .inr (by omega), hd⟩
    simp [hp]
theorem cut_take {α : Type} (xs : List α) (n : Nat) : cutL xs none (some (n : Int)) = xs.take n := by
  unfold cutL
  rw [HT.sIx_none, HT.sIx_nat, List.drop_zero, Nat.sub_zero]
  by_cases h : n ≤ xs.length
  · rw [Nat.min_eq_left h]
  · rw [Nat.min_eq_right (by omega), List.take_of_length_le (Nat.le_refl _), List.take_of_length_le (by omega)]
theorem cut_drop {α : Type} (xs : List α) (n : Nat) : cutL xs (some (n : Int)) none = xs.drop n := by
  unfold cutL
  rw [HT.sIx_none, HT.sIx_nat]
  by_cases h : n ≤ xs.length
  · rw [Nat.min_eq_left h, List.take_of_length_le (by rw [List.length_drop]; exact Nat.le_refl _)]
  · rw [Nat.min_eq_right (by omega), List.drop_of_length_le (Nat.le_refl _), List.drop_of_length_le (by omega), List.take_nil]
theorem draws_ok (ns : List Int) (hn : ns.length ≤ 63) (many : Nat) (hm : many ≤ 1000) : ∃ ds : List Int, runB 7 drawsB [.list (ns.map .int), .int many] = .ok (.list (ds.map .int)) ∧ ds.length = many ∧ ∀ x ∈ ds, Draw x := by
  have cut : cutL (ns.map PyData.int) none (some 63) = ns.map PyData.int := by
    have := cut_take (ns.map PyData.int) 63
    rw [List.take_of_length_le (by simpa using hn)] at this
    exact this
  obtain ⟨ρ1, e1, ds1, seed1, c1, nm1, k1, hρ1, hl1, hd1⟩ := forG_inv (g := gN 4) (b := (seqS (setS 5 (callB absD (consA (vE 4) nilA)))
  (seqS (setS 3 (op2 modD (callB int1D (consA (op2 addD (op2 addD (op2 mulD (vE 3) (cE (.int 48271))) (vE 5)) (cE (.int 11))) nilA)) (cE (.int 2147483647))))
  (ifS (tvE (op2 geD (vE 5) (op2 powD (cE (.int 10)) (cE (.int 18)))))
  (forS (argI range1D (consA (cE (.int 60)) nilA)) (gN 6)
  (ifS (tvE (op2 gtD (vE 5) (cE (.int 0))))
  (seqS (appS 2 (op2 modD (callB int1D (consA (vE 5) nilA)) (cE (.int 1009))))
  (setS 5 (op2 fdivD (vE 5) (cE (.int 1009)))))
  nxS))
  (appS 2 (op2 modD (op2 fdivD (callB int1D (consA (op2 addD (op2 mulD (vE 3) (cE (.int 16807))) (cE (.int 5))) nilA)) (cE (.int 3))) (cE (.int 65521)))))))) (I := fun n => DrI ns many (60 * n)) (ns.map .int)
    [.d (.list (ns.map .int)), .d (.int many), .lo [], .d (.int 7), .un, .un, .un] ⟨[], 7, .un, .un, .un, rfl, Nat.zero_le _, fun x hx => by cases hx⟩ fun m x hx ρ hi => by
      obtain ⟨hm1, hm2⟩ := List.getElem?_eq_some_iff.mp hx
      rw [List.getElem_map] at hm2
      rw [List.length_map] at hm1
      subst hm2
      have := draws_one ns many (60 * m) (by omega) (ns[m]) ρ hi
      rw [show 60 * m + 60 = 60 * (m + 1) by omega] at this
      exact this
  rw [List.length_map] at hl1
  subst hρ1
  obtain ⟨ρ2, e2, ds2, seed2, c2, nm2, k2, hρ2, hz2, hl2, hd2⟩ := forG_inv (g := gN 6) (b := (ifS (tvE (op2 ltD (callB lenD (consA (vB 2) nilA)) (vE 1)))
  (seqS (setS 3 (op2 modD (callB int1D (consA (op2 addD (op2 addD (op2 mulD (vE 3) (cE (.int 69621))) (vE 6)) (cE (.int 1))) nilA)) (cE (.int 2147483647))))
  (appS 2 (op2 modD (op2 fdivD (callB int1D (consA (vE 3) nilA)) (cE (.int 7))) (cE (.int 65521)))))
  nxS)) (I := DrK ns many) (rangeL 0 1 many)
    [.d (.list (ns.map .int)), .d (.int many), .lo (ds1.map .int), .d (.int seed1), c1, nm1, k1] ⟨ds1, seed1, c1, nm1, k1, rfl, by omega, .inl (Nat.zero_le _), hd1⟩ fun m x hx ρ hi => by
      have hm1 := (List.getElem?_eq_some_iff.mp hx).1
      rw [rangeL_length] at hm1
      rw [rangeL_get 1 many 0 m hm1] at hx
      cases hx
      exact draws_more ns many hm _ m ρ hi
  rw [rangeL_length] at hl2
  subst hρ2
  have rm : range1D [.int many] = .ok (rangeL 0 1 many) := range1_ok (n := (many : Int)) (by omega) (by omega)
  refine ⟨ds2.take many, ?_, by rw [List.length_take]; omega, fun x hx => hd2 x (List.mem_of_mem_take hx)⟩
  rw [runB_ap]
  unfold drawsB
  simp [cut]
  rw [e1]
  simp [rm]
  rw [e2]
  simp [cut_take]
end PD
namespace PD
open PySem PySem.Spec PyProof.Rows L2 PySem.W
/-! ## the order of data of one type -/
section
variable {α : Type} [DecidableEq α] [DatumOrd α]
theorem lt_lex (a b : α) : DatumOrd.lt a b = PyProof.Rows.lexLt itemOrd (keyToks (Datum.toD a)) (keyToks (Datum.toD b)) := (DatumOrd.lt_eq a b).symm
theorem lt_irr (a : α) : DatumOrd.lt a a = false := by rw [lt_lex]; exact lex_irrefl _
theorem lt_tr {a b c : α} (h : DatumOrd.lt a b = true) (h2 : DatumOrd.lt b c = true) : DatumOrd.lt a c = true := by
  rw [lt_lex] at h h2 ⊢
  exact lex_trans _ _ _ h h2
theorem lt_neg {a c : α} (b : α) (h : DatumOrd.lt a c = true) : DatumOrd.lt a b = true ∨ DatumOrd.lt b c = true := by
  rw [lt_lex] at h
  rw [lt_lex, lt_lex]
  exact lex_negTrans _ _ _ h
theorem lt_anti {a b : α} (h : DatumOrd.lt a b = false) (h2 : DatumOrd.lt b a = false) : a = b := by
  rw [lt_lex] at h h2
  have e := lex_total _ _ h h2
  have t := toks_eqv (Datum.toD a) (Datum.toD b) (DatumOrd.alike a b)
  have q := Datum.eqv a b
  by_cases hab : a = b
  · exact hab
  · exfalso
    rw [decide_eq_false hab] at q
    have t2 := t.2 q [] [Sum.inl 0]
    rw [e, lex_irrefl, lex_pre] at t2
    exact Bool.false_ne_true (t2.symm.trans (by rfl))
theorem minOf_spec : ∀ (xs : List α) (x : α), minOf x xs ∈ x :: xs ∧ ∀ y ∈ x :: xs, DatumOrd.lt y (minOf x xs) = false
  | [], x => ⟨by simp [minOf], fun y hy => by
      cases List.mem_singleton.mp hy
      exact lt_irr _⟩
  | z :: zs, x => by
    have e : minOf x (z :: zs) = minOf (if DatumOrd.lt z x = true then z else x) zs := rfl
    rw [e]
    obtain ⟨h1, h2⟩ := minOf_spec zs (if DatumOrd.lt z x = true then z else x)
    have hs := h2 _ (List.mem_cons_self ..)
    have le2 : ∀ y : α, DatumOrd.lt y (if DatumOrd.lt z x = true then z else x) = false → DatumOrd.lt y (minOf (if DatumOrd.lt z x = true then z else x) zs) = false := fun y hy => by
      cases hc : DatumOrd.lt y (minOf (if DatumOrd.lt z x = true then z else x) zs) with
      | false => rfl
      | true =>
        rcases lt_neg (if DatumOrd.lt z x = true then z else x) hc with h | h
        · rw [hy] at h; cases h
        · rw [hs] at h; cases h
    refine ⟨?_, fun y hy => ?_⟩
    · rcases List.mem_cons.mp h1 with h | h
      · rw [h]
        by_cases hz : DatumOrd.lt z x = true
        · rw [if_pos hz]; simp
        · rw [if_neg hz]; simp
      · simp [h]
    · rcases List.mem_cons.mp hy with rfl | hy
      · refine le2 _ ?_
        by_cases hz : DatumOrd.lt z y = true
        · rw [if_pos hz]
          cases hc : DatumOrd.lt y z with
          | false => rfl
          | true =>
            have := lt_tr hz hc
            rw [lt_irr] at this
            cases this
        · rw [if_neg hz]; exact lt_irr _
      · rcases List.mem_cons.mp hy with rfl | hy
        · refine le2 _ ?_
          by_cases hz : DatumOrd.lt y x = true
          · rw [if_pos hz]; exact lt_irr _
          · rw [if_neg hz]; simpa using hz
        · exact h2 y (by simp [hy])
theorem minOf_mem (x : α) (xs : List α) : minOf x xs ∈ x :: xs := (minOf_spec xs x).1
theorem minOf_le {x : α} {xs : List α} {y : α} (h : y ∈ x :: xs) : DatumOrd.lt y (minOf x xs) = false := (minOf_spec xs x).2 y h
/-- lists with the same members have the same least one -/
theorem minOf_same {x y : α} {xs ys : List α} (h : ∀ z, z ∈ x :: xs ↔ z ∈ y :: ys) : minOf x xs = minOf y ys :=
  lt_anti (minOf_le ((h _).mp (minOf_mem x xs))) (minOf_le ((h _).mpr (minOf_mem y ys)))|>.symm ▸ rfl
end
/-! ## all, any, one by one -/
theorem all_f {α : Type} (f : α → Bool) (xs : List α) : allD [.list (xs.map fun x => .bool (f x))] = .ok (.bool (xs.all f)) := by
  have e : (xs.map fun x => PyData.bool (f x)) = (xs.map f).map .bool := by rw [List.map_map]; rfl
  rw [e, all_b, List.all_map]
  rfl
theorem any_f {α : Type} (f : α → Bool) (xs : List α) : anyD [.list (xs.map fun x => .bool (f x))] = .ok (.bool (xs.any f)) := by
  have e : (xs.map fun x => PyData.bool (f x)) = (xs.map f).map .bool := by rw [List.map_map]; rfl
  rw [e, any_b, List.any_map]
  rfl
theorem modN {k n : Nat} (h : 0 < n) : modD (.int k) (.int n) = .ok (.int ((k % n : Nat) : Int)) := by
  rw [mod_ii (by omega)]
  simp
theorem rangeN {n : Nat} (h : n ≤ 1000000) : range1D [.int (n : Int)] = .ok ((List.range n).map fun k : Nat => PyData.int k) := by
  rw [range1_ok (by omega) (by omega), Int.toNat_natCast, rangeL_map]
theorem addT {us vs : List PyData} (h : us.length + vs.length ≤ 1000000) : addD (.tuple us) (.tuple vs) = .ok (.tuple (us ++ vs)) := add_tt (by show _ ≤ 16777216; omega)
theorem atN {α : Type} (xs : List α) (k : Nat) : atI xs (k : Int) = xs[k]? := by
  unfold atI ixN
  rw [if_pos (by omega)]
  by_cases h : k < xs.length
  · rw [if_pos (by omega)]
    simp
  · rw [if_neg (by omega)]
    simp
    omega
theorem ixL {ds : List PyData} {k : Nat} (h : k < ds.length) : ixD (.list ds) (.int (k : Int)) = .ok ds[k] := ix_list (by rw [atN, List.getElem?_eq_getElem h])
theorem ixT {ds : List PyData} {k : Nat} (h : k < ds.length) : ixD (.tuple ds) (.int (k : Int)) = .ok ds[k] := ix_tuple (by rw [atN, List.getElem?_eq_getElem h])
/-! ## turned lists -/
section
variable {α : Type}
def rot (xs : List α) (j : Nat) : List α := xs.drop j ++ xs.take j
theorem rot_length (xs : List α) (j : Nat) : (rot xs j).length = xs.length := by
  unfold rot
  rw [List.length_append, List.length_drop, List.length_take]
  omega
theorem rot_get {xs : List α} {j k : Nat} (hj : j ≤ xs.length) (hk : k < xs.length) : (rot xs j)[k]? = xs[(k + j) % xs.length]? := by
  unfold rot
  by_cases h : k < xs.length - j
  · rw [List.getElem?_append_left (by rw [List.length_drop]; exact h), List.getElem?_drop, Nat.mod_eq_of_lt (by omega), Nat.add_comm]
  · rw [List.getElem?_append_right (by rw [List.length_drop]; omega), List.length_drop, List.getElem?_take_of_lt (by omega)]
    have e : (k + j) % xs.length = k - (xs.length - j) := by
      rw [show k + j = (k - (xs.length - j)) + xs.length by omega, Nat.add_mod_right, Nat.mod_eq_of_lt (by omega)]
    rw [e]
theorem rot_eq {xs ys : List α} (hl : ys.length = xs.length) (j : Nat) (hj : j ≤ xs.length) (h : ∀ k, k < xs.length → ys[k]? = xs[(k + j) % xs.length]?) : ys = rot xs j := by
  apply List.ext_getElem?
  intro k
  by_cases hk : k < xs.length
  · rw [h k hk, rot_get hj hk]
  · rw [List.getElem?_eq_none (by omega), List.getElem?_eq_none (by rw [rot_length]; omega)]
theorem rot_rot {xs : List α} {i j : Nat} (hi : i ≤ xs.length) (hj : j ≤ xs.length) (hn : 0 < xs.length) : rot (rot xs i) j = rot xs ((i + j) % xs.length) := by
  refine rot_eq (by rw [rot_length, rot_length]) _ (Nat.le_of_lt (Nat.mod_lt _ hn)) fun k hk => ?_
  rw [rot_get (by rw [rot_length]; exact hj) (by rw [rot_length]; exact hk), rot_length, rot_get hi (Nat.mod_lt _ hn), Nat.mod_add_mod, Nat.add_mod_mod]
  congr 2
  omega
theorem rot_zero (xs : List α) : rot xs 0 = xs := by unfold rot; simp
theorem rot_full (xs : List α) : rot xs xs.length = xs := by unfold rot; simp
theorem rot_map {β : Type} (f : α → β) (xs : List α) (j : Nat) : rot (xs.map f) j = (rot xs j).map f := by
  unfold rot
  rw [List.map_append, List.map_drop, List.map_take]
/-- all turned ones -/
def rots (xs : List α) : List (List α) := (List.range xs.length).map (rot xs)
theorem mem_rots {xs ys : List α} : ys ∈ rots xs ↔ ∃ i, i < xs.length ∧ ys = rot xs i := by
  unfold rots
  rw [List.mem_map]
  constructor
  · rintro ⟨i, hi, rfl⟩
    exact ⟨i, List.mem_range.mp hi, rfl⟩
  · rintro ⟨i, hi, rfl⟩
    exact ⟨i, List.mem_range.mpr hi, rfl⟩
theorem rots_self {xs : List α} (h : xs ≠ []) : xs ∈ rots xs := mem_rots.mpr ⟨0, List.length_pos_iff.mpr h, (rot_zero xs).symm⟩
theorem rots_cons {xs : List α} (h : 0 < xs.length) : rots xs = xs :: (rots xs).tail := by
  unfold rots
  rw [show xs.length = (xs.length - 1) + 1 by omega, List.range_succ_eq_map]
  simp [rot_zero]
theorem rots_back {xs ys : List α} (h : ys ∈ rots xs) : xs ∈ rots ys := by
  obtain ⟨i, hi, rfl⟩ := mem_rots.mp h
  by_cases h0 : i = 0
  · subst h0
    rw [rot_zero]
    exact rots_self (by intro z; rw [z] at hi; cases hi)
  · refine mem_rots.mpr ⟨xs.length - i, by rw [rot_length]; omega, ?_⟩
    rw [rot_rot (by omega) (by omega) (by omega), show i + (xs.length - i) = xs.length by omega, Nat.mod_self, rot_zero]
theorem rots_trans {xs ys zs : List α} (h : ys ∈ rots xs) (h2 : zs ∈ rots ys) : zs ∈ rots xs := by
  obtain ⟨i, hi, rfl⟩ := mem_rots.mp h
  obtain ⟨j, hj, rfl⟩ := mem_rots.mp h2
  rw [rot_length] at hj
  exact mem_rots.mpr ⟨(i + j) % xs.length, Nat.mod_lt _ (by omega), rot_rot (by omega) (by omega) (by omega)⟩
theorem rots_same {xs ys : List α} (h : ys ∈ rots xs) (zs : List α) : zs ∈ rots ys ↔ zs ∈ rots xs := ⟨rots_trans h, rots_trans (rots_back h)⟩
end
section
variable {α : Type} [DecidableEq α] [DatumOrd α]
/-- the least turned one -/
def minR (xs : List α) : Tup α := minOf ⟨xs⟩ ((rots xs).map Tup.mk)
theorem minR_mem {xs : List α} (h : xs ≠ []) : (minR xs).items ∈ rots xs := by
  rcases List.mem_cons.mp (minOf_mem (α := Tup α) ⟨xs⟩ ((rots xs).map Tup.mk)) with q | q
  · unfold minR
    rw [q]
    exact rots_self h
  · obtain ⟨ys, hy, e⟩ := List.mem_map.mp q
    unfold minR
    rw [← e]
    exact hy
theorem minR_same {xs ys : List α} (hx : xs ≠ []) (h : ys ∈ rots xs) : minR ys = minR xs := by
  refine minOf_same fun z => ?_
  have hy : ys ≠ [] := fun e => by
    obtain ⟨i, hi, e2⟩ := mem_rots.mp h
    rw [e] at e2
    have := congrArg List.length e2
    rw [rot_length] at this
    rw [← this] at hi
    cases hi
  have m : ∀ (us : List α), us ≠ [] → (z ∈ (⟨us⟩ : Tup α) :: (rots us).map Tup.mk ↔ z.items ∈ rots us) := fun us hu => by
    rw [List.mem_cons, List.mem_map]
    constructor
    · rintro (rfl | ⟨vs, hv, rfl⟩)
      · exact rots_self hu
      · exact hv
    · intro q
      exact .inr ⟨z.items, q, rfl⟩
  rw [m ys hy, m xs hx]
  exact rots_same h z.items
theorem minR_iff {xs ys : List α} (hx : xs ≠ []) (hy : ys ≠ []) : minR xs = minR ys ↔ ys ∈ rots xs := by
  constructor
  · intro e
    have h1 := minR_mem hx
    rw [e] at h1
    exact rots_trans h1 (rots_back (minR_mem hy))
  · intro h
    exact (minR_same hx h).symm
end
end PD
namespace PD
open PySem PySem.Spec PyProof.Rows L2
/-! ## try: .. except X: a suite that asks no name -/
theorem exm_ok {K : PySem.W.Frag} {u : Value} {C : Addr} {b : Bool} (h1 : PySem.W.subIn K (.ref C) (.type "BaseException") = some true) (h2 : PySem.W.isClsIn K C = true) (h3 : PySem.W.typeIn K (.ref C) = some (.type "type")) (h4 : PySem.W.subIn K u (.ref C) = some b) :
    PySem.W.exmOne K u (.ref C) = some b := by
  unfold PySem.W.exmOne PySem.W.kitCls
  have e1 : (PySem.W.subIn K (.ref C) (.type "BaseException") == some true) = true := by rw [h1]; rfl
  rw [if_pos e1]
  have e2 : (PySem.W.clsIn K C).isSome = true := h2
  have e3 : (PySem.W.typeIn K (.ref C) == some (Value.type "type")) = true := by rw [h3]; exact beq_self_eq_true _
  show (if ((PySem.W.clsIn K C).isSome && PySem.W.typeIn K (.ref C) == some (Value.type "type")) = true then PySem.W.subIn K u (.ref C) else none) = some b
  rw [if_pos (by rw [e2, e3]; rfl)]
  exact h4
/-- which clause takes it -/
def pickH : List ((String → Option Bool) × SM) → String → R Out
  | [], c => .err c
  | (mt, ms) :: r, c => match mt c with
    | some true => noErr (ms [])
    | some false => pickH r c
    | none => .bad
def tryS (mb : SM) (hs : List ((String → Option Bool) × SM)) : SM := fun ρ => match mb ρ with
  | .err c => pickH hs c
  | r => r
/-- a suite, from any slots -/
def tK (K : PySem.W.Frag) (ms : SM) : TS := fun D σ H => ∃ F G, Le F G ∧ Le G H ∧ PoS K We0 F G (ms []) D
section
variable {X : Cx} {We : EW} {pos : Pos} {body : List Stmt} {h₀ : ExceptHandler} {hds : List ExceptHandler}
theorem suite_of {st : List Stmt} {ms : SM} (h : XSs X We0 st ms) (hc : ∀ ρ, ms ρ = ms []) : PSs X st (tK X.K ms) := pss_imp h fun D σ H q => by
  obtain ⟨F, G, l1, l2, q⟩ := q
  refine ⟨List.replicate σ.length .un, F, G, ⟨by simp, l1, l2, fun i x e => ?_, fun i j x y a _ e _ o => ?_⟩, by rw [hc]; exact q⟩
  · have := List.mem_of_getElem? e
    rw [List.mem_replicate] at this
    rw [this.2]
    unfold SlOk
    cases σ[i]? <;> trivial
  · have := List.mem_of_getElem? e
    rw [List.mem_replicate] at this
    rw [this.2] at o
    cases o
/-- the clauses: each its class, what it takes of the classes that are known, its suite -/
inductive HsOk (X : Cx) : List ExceptHandler → List ((String → Option Bool) × SM) → Prop
  | nil : HsOk X [] []
  | cons {x : Str} {C : Addr} {mt : String → Option Bool} {ms : SM} {b₀ : Stmt} {suite : List Stmt} {np pos' : Pos} {hds : List ExceptHandler} {l : List ((String → Option Bool) × SM)} (hc : Names X x (.ref C))
      (hm : ∀ (c : String) (b : Bool) (A : Addr), mt c = some b → X.mg (c : Str) = some (.ref A) → PySem.W.exmOne X.K (.ref A) (.ref C) = some b)
      (hk : ∀ ρ, ms ρ = ms [])
      (hsu : ∀ (a : Addr) (oe : Obj) (cls : Value) (d : Option Addr) (pn : List (Addr × Obj)), XSs (X.suite a ((a, oe) :: pn)) We0 (b₀ :: suite) ms) (r : HsOk X hds l) :
      HsOk X (.ExceptHandler (some (.Name x np)) none (b₀ :: suite) pos' :: hds) ((mt, ms) :: l)
def EWof (X : Cx) (W : WX) : EW := fun c σ H => ∀ C, X.mg (c : Str) = some (.ref C) → W (.ref C) none σ H
theorem hs_go {X : Cx} {We : EW} : ∀ {hds : List ExceptHandler} {l : List ((String → Option Bool) × SM)}, HsOk X hds l → ∃ l2 : List (Value × (Addr → Value → Option Addr → TS)), HdsOk X hds l2 ∧
    ∀ (D : Ends) (c : String) (A : Addr) (F G : Hp) (σ' : St) (G' H' : Hp), X.mg (c : Str) = some (.ref A) → Le F G → Le G G' → Le G' H' → PoS X.K We F G (pickH l c) D → wMany X.K (WW X.mg We) D l2 (.ref A) none σ' H'
  | _, _, .nil => ⟨[], .nil, fun D c A F G σ' G' H' hA lf l1 l2 q => by
      have q' : PoS X.K We F G (.err c) D := q
      exact ⟨c, A, rfl, rfl, hA, q' σ' G' H' l1 l2⟩⟩
  | _, _, .cons (C := C) (mt := mt) (ms := ms) hc hm hk hsu r => by
    obtain ⟨l2, h2, go⟩ := hs_go (We := We) r
    refine ⟨(.ref C, fun _ _ _ => tK X.K ms) :: l2, .cons hc (fun a oe cls d pn _ _ => suite_of (hsu a oe cls d pn) hk) h2, fun D c A F G σ' G' H' hA lf l1 l2 q => ?_⟩
    unfold pickH at q
    cases hmc : mt c with
    | none => rw [hmc] at q; exact q.elim
    | some b =>
      rw [hmc] at q
      refine ⟨b, hm c b A hmc hA, fun hb a _ => ?_, fun hb => ?_⟩
      · subst hb
        refine ⟨F, G', lf.trans l1, l2, PoS.step ⟨Le.refl F, l1, fun _ _ => rfl⟩ ?_⟩
        have q' : PoS X.K We F G (noErr (ms [])) D := q
        cases hms : ms [] with
        | ok o => rw [hms] at q'; cases o <;> exact q'
        | err c => rw [hms] at q'; exact q'.elim
        | bad => rw [hms] at q'; exact q'
      · subst hb
        exact go D c A F G σ' G' H' hA lf l1 l2 q
theorem xs_try {mb : SM} {l : List ((String → Option Bool) × SM)} (hs : X.stack = X.env :: X.outer) (hf : X.env.frame = some X.env.locals) (tk : Tk X We)
    (hb : ∀ (W : EW) (pn : List (Addr × Obj)) (xe : Value → Shared → Prop), Tk (X.tr pn xe) W → PassesOwn (model X.prog X.w) X.A X.env xe → XSs (X.tr pn xe) W body mb)
    (hh : HsOk X (h₀ :: hds) l) : XS X We (.Try body (h₀ :: hds) [] [] pos) (tryS mb l) := by
  obtain ⟨l2, h2, go⟩ := hs_go (We := We) hh
  refine ps_imp (ps_try_many hs hf tk (tb := fun W => tS X.K (EWof X W) mb) (fun W pn xe tkW hp => hb (EWof X W) pn xe (tkW.imp fun cls d σ H z => ?_) hp) h2) fun D σ H q => ?_
  · obtain ⟨c, C, rfl, rfl, hC, z⟩ := z
    exact z C hC
  · obtain ⟨ρ, F, G, r, q⟩ := q
    refine ⟨ρ, F, G, r, ?_⟩
    unfold tryS at q
    cases hmb : mb ρ with
    | ok o => rw [hmb] at q; cases o <;> exact q
    | bad => rw [hmb] at q; exact q
    | err c =>
      rw [hmb] at q
      exact fun σ' G' H' l1 l2 C hC => go D c C F G σ' G' H' hC r.fg l1 l2 q
end
@[simp] theorem tryS_ap (mb : SM) (hs : List ((String → Option Bool) × SM)) (ρ : Ev) : tryS mb hs ρ = (match mb ρ with | .err c => pickH hs c | r => r) := (rfl)
end PD
namespace PD
open PySem PySem.Spec PyProof.Rows L2
section
variable {X : Cx} {We : EW} {e a b c : Expr} {es : List Expr} {pos p pos2 p2 : Pos} {x : Str}
/-! ## [x] * n -/
def repL (x : PyData) (k : PyData) : R PyData := match x, k with
  | .list xs, .int k => if k.natAbs < 4611686018427387904 ∧ xs.length * k.toNat ≤ SZ then .ok (.list (List.replicate k.toNat xs).flatten) else .bad
  | _, _ => .bad
def repE (ma mb : Ev → R PyData) (ρ : Ev) : R PyData := (ma ρ).bind fun x => (mb ρ).bind fun k => repL x k
theorem dpAll_rep {K : PySem.W.Frag} {F : Hp} {vs : List V} {xs : List PyData} (h : DpAll K F vs xs) : ∀ n : Nat, DpAll K F (List.replicate n vs).flatten (List.replicate n xs).flatten
  | 0 => .nil
  | n + 1 => by
    rw [List.replicate_succ, List.replicate_succ, List.flatten_cons, List.flatten_cons]
    exact h.append (dpAll_rep h n)
theorem xf_rep {ma mb : Ev → R PyData} (ha : XF X We a ma) (hb : XB X We b mb) : XF X We (.BinOp a .Mult b pos) (repE ma mb) :=
  pe_imp (pe_op op_rep ha hb) fun σ H Q q => by
    obtain ⟨ρ, F, G, r, q⟩ := q
    refine ⟨ρ, F, G, r, Po.bind (P := pF X.K) q fun d v F1 H1 g1 p1 q1 => ?_⟩
    obtain ⟨l, vs, ds, rfl, rfl, n0, n1, h1, hd⟩ := p1
    refine ⟨ρ, F1, _, (r.grow g1).1, Po.bind (P := pB X.K) q1 fun k y F2 H2 g2 p2 q2 => ?_⟩
    cases k with
    | int i =>
      have e3 := p2.int
      subst e3
      have q3 : Po We (pF X.K) F2 H2 σ (if i.natAbs < 4611686018427387904 ∧ ds.length * i.toNat ≤ SZ then R.ok (PyData.list (List.replicate i.toNat ds).flatten) else .bad) Q := q2
      split at q3
      · rename_i hz
        have hl := hd.length
        have sq := sz_eq
        refine ⟨l, i, vs, rfl, rfl, g2.h _ _ h1, by omega, by omega, by rw [sq, hl]; exact hz.2, fun p np => ?_⟩
        exact q3 _ _ _ (Gr.own g2.le np) ⟨p, _, _, rfl, rfl, np, g2.le.none np, upd_same, dpAll_rep (hd.le g2.f) _⟩
      · exact q3.elim
    | _ => exact q2.elim
/-! ## list(range(..)) -/
def lrE1 (m : Ev → R PyData) (ρ : Ev) : R PyData := (m ρ).bind fun d => match d with
  | .int n => if smallI n ∧ n ≤ 16777216 then .ok (.list (rangeL 0 1 n.toNat)) else .bad
  | _ => .bad
def lrE2 (m m2 : Ev → R PyData) (ρ : Ev) : R PyData := (m ρ).bind fun d => (m2 ρ).bind fun d2 => match d, d2 with
  | .int a, .int n => if smallI a ∧ smallI n ∧ n - a ≤ 16777216 then .ok (.list (rangeL a 1 (n - a).toNat)) else .bad
  | _, _ => .bad
theorem rgV_dp {K : PySem.W.Frag} {F : Hp} (a b : Int) : DpAll K F (rgV a b) (rangeL a 1 (b - a).toNat) := by
  unfold rgV
  generalize (b - a).toNat = n
  have : ∀ (n : Nat) (a : Int), DpAll K F ((List.range n).map fun i => V.int (a + (i : Nat))) (rangeL a 1 n) := by
    intro n
    induction n with
    | zero => intro a; exact .nil
    | succ n ih =>
      intro a
      rw [List.range_succ_eq_map, List.map_cons, List.map_map]
      unfold rangeL
      refine .cons (by have e : a + ((0 : Nat) : Int) = a := by omega
                       rw [e]; exact .int _) ?_
      have e : ((fun i : Nat => V.int (a + (i : Nat))) ∘ Nat.succ) = fun i : Nat => V.int (a + 1 + (i : Nat)) := by
        funext i
        show V.int (a + ((i + 1 : Nat) : Int)) = V.int (a + 1 + (i : Nat))
        congr 1
        omega
      rw [e]
      exact ih (a + 1)
  exact this n a
theorem xf_lr1 {m : Ev → R PyData} (hc : X.calm = true) (hg : Gl X "list") (hm : X.mg "list" = none) (hg2 : Gl X "range") (hm2 : X.mg "range" = none) (ha : XE X We a m)
    (na : starEach [a] X.env = (false, eval a X.env) :: starEach [] X.env) (na2 : starEach [.Call (.Name "range" p2) [a] [] pos2] X.env = (false, eval (.Call (.Name "range" p2) [a] [] pos2) X.env) :: starEach [] X.env) :
    XF X We (.Call (.Name "list" p) [.Call (.Name "range" p2) [a] [] pos2] [] pos) (lrE1 m) :=
  pe_imp (pe_listRg hc hg hm (prg_1 hg2 hm2 ha na) na2) fun σ H Q q => by
    obtain ⟨ρ, F, G, r, q⟩ := q
    refine ⟨ρ, F, G, r, Po.bind (P := pD X.K) q fun d v F1 H1 g1 p1 q1 => ?_⟩
    split at q1
    · rename_i n
      have e3 := Dp.int_inv p1
      subst e3
      split at q1
      · rename_i hz
        have h1 := smallI_un hz.1
        refine ⟨n, rfl, ⟨by omega, by omega, h1.1, h1.2, by omega⟩, fun p np => ?_⟩
        have hd : DpAll X.K F1 (rgV 0 n) (rangeL 0 1 (n - 0).toNat) := rgV_dp 0 n
        rw [Int.sub_zero] at hd
        exact q1 _ _ _ (Gr.own g1.le np) ⟨p, _, _, rfl, rfl, np, g1.le.none np, upd_same, hd⟩
      · exact q1.elim
    · exact q1.elim
theorem xf_lr2 {m m2 : Ev → R PyData} (hc : X.calm = true) (hg : Gl X "list") (hm : X.mg "list" = none) (hg2 : Gl X "range") (hm2 : X.mg "range" = none) (ha : XE X We a m) (hb : XE X We b m2)
    (na : starEach [a, b] X.env = (false, eval a X.env) :: starEach [b] X.env) (na1 : starEach [b] X.env = (false, eval b X.env) :: starEach [] X.env) (npl : (backTo pos2 (starEach [b] X.env)).any (·.1) = false)
    (na2 : starEach [.Call (.Name "range" p2) [a, b] [] pos2] X.env = (false, eval (.Call (.Name "range" p2) [a, b] [] pos2) X.env) :: starEach [] X.env) :
    XF X We (.Call (.Name "list" p) [.Call (.Name "range" p2) [a, b] [] pos2] [] pos) (lrE2 m m2) :=
  pe_imp (pe_listRg hc hg hm (prg_2 hg2 hm2 ha hb na na1 npl) na2) fun σ H Q q => by
    obtain ⟨ρ, F, G, r, q⟩ := q
    refine ⟨ρ, F, G, r, Po.bind (P := pD X.K) q fun d v F1 H1 g1 p1 q1 => ?_⟩
    refine ⟨ρ, F1, _, (r.grow g1).1, Po.bind (P := pD X.K) q1 fun d2 v2 F2 H2 g2 p2 q2 => ?_⟩
    split at q2
    · rename_i a n
      have e3 := Dp.int_inv p1
      have e4 := Dp.int_inv p2
      subst e3; subst e4
      split at q2
      · rename_i hz
        have h1 := smallI_un hz.1
        have h2 := smallI_un hz.2.1
        refine ⟨a, n, rfl, rfl, ⟨h1.1, h1.2, h2.1, h2.2, by omega⟩, fun p np => ?_⟩
        exact q2 _ _ _ (Gr.own g2.le np) ⟨p, _, _, rfl, rfl, np, g2.le.none np, upd_same, rgV_dp a n⟩
      · exact q2.elim
    · exact q2.elim
end
/-! ## loops with a test -/
theorem whileM_inv {c : Ev → R Bool} {b : SM} {I : Nat → Ev → Prop} {Q : Ev → Prop} (h : ∀ m ρ, I m ρ → (c ρ = .ok false ∧ Q ρ) ∨ (c ρ = .ok true ∧ ∃ ρ' m', b ρ = .ok (.nx ρ') ∧ m' < m ∧ I m' ρ')) :
    ∀ (fuel m : Nat) (ρ : Ev), m < fuel → I m ρ → ∃ ρ', whileM c b fuel ρ = .ok (.nx ρ') ∧ Q ρ'
  | 0, _, _, hf, _ => by omega
  | f + 1, m, ρ, hf, hi => by
    unfold whileM
    rcases h m ρ hi with ⟨e, q⟩ | ⟨e, ρ', m', e2, hm, hi'⟩
    · refine ⟨ρ, ?_, q⟩
      rw [e]
      rfl
    · obtain ⟨ρ2, e3, q⟩ := whileM_inv h f m' ρ' (by omega) hi'
      refine ⟨ρ2, ?_, q⟩
      rw [e, bind_ok, if_pos rfl, e2]
      exact e3
@[simp] theorem parS_ap (i j : Nat) (m : Ev → R (List PyData)) (ρ : Ev) (a b : PyData) (h : m ρ = .ok [a, b]) : parS i j m ρ = .ok (.nx ((ρ.set i (.d a)).set j (.d b))) := by
  unfold parS
  rw [h]
  rfl
end PD
namespace PD
open PySem PySem.Spec PyProof.Rows L2
/-! ## [e for x in xs for y in ys] -/
def lcM2 (g : PyData → Ev → R Ev) (t : Ev → R Bool) (mi1 : Ev → R (List PyData)) (vs1 : List Nat) (g1 : PyData → Ev → R Ev) (t1 : Ev → R Bool) (e : Ev → R PyData) (ρ : Ev) : List PyData → R (List PyData)
  | [] => .ok []
  | x :: xs => (g x ρ).bind fun ρ' => (t ρ').bind fun b => if b = true then (mi1 ρ').bind fun zs => (lcM g1 t1 e (wipeE ρ' vs1) zs).bind fun ys => (lcM2 g t mi1 vs1 g1 t1 e ρ xs).bind fun rest => .ok (ys ++ rest)
      else lcM2 g t mi1 vs1 g1 t1 e ρ xs
def lc2E (mi : Ev → R (List PyData)) (vs : List Nat) (g : PyData → Ev → R Ev) (t : Ev → R Bool) (mi1 : Ev → R (List PyData)) (vs1 : List Nat) (g1 : PyData → Ev → R Ev) (t1 : Ev → R Bool) (e : Ev → R PyData) (ρ : Ev) : R PyData :=
  (mi ρ).bind fun xs => (noErr (lcM2 g t mi1 vs1 g1 t1 e (wipeE ρ vs) xs)).bind fun ys => if ys.length ≤ SZ then .ok (.list ys) else .bad
/-- all but the list that grows -/
def addH (F : Hp) (D : Addr) (o : HO) : Hp := fun b => if b = D then some o else F b
theorem Rl.hide {K : PySem.W.Frag} {ρ : Ev} {F : Hp} {σ : St} {H : Hp} {D : Addr} {o : HO} (r : Rl K ρ F F σ (minus H D)) (hD : H D = some o) : Rl K ρ F (addH F D o) σ H := by
  have fD : F D = none := r.gh.none minus_at
  refine ⟨r.len, fun a x e => ?_, fun a x e => ?_, fun i x e => ?_, r.dis⟩
  · unfold addH
    by_cases h : a = D
    · subst h; rw [fD] at e; cases e
    · rw [if_neg h]; exact e
  · unfold addH at e
    by_cases h : a = D
    · subst h; rw [if_pos rfl] at e; rw [hD]; exact e
    · rw [if_neg h] at e
      exact minus_le a x (r.gh a x e)
  · have q := r.sl i x e
    unfold SlOk at q ⊢
    split at q
    · trivial
    · exact q
    · obtain ⟨h1, vs, h2, h3⟩ := q
      rename_i a xs _
      have ha : a ≠ D := fun z => by rw [z, minus_at] at h2; cases h2
      refine ⟨?_, vs, minus_le a _ h2, h3⟩
      unfold addH
      rw [if_neg ha]
      exact h1
    · obtain ⟨h1, u, h2, h3⟩ := q
      rename_i a m _
      have ha : a ≠ D := fun z => by rw [z, minus_at] at h2; cases h2
      refine ⟨?_, u, minus_le a _ h2, h3⟩
      unfold addH
      rw [if_neg ha]
      exact h1
    · exact q
    · exact q
    · exact q.elim
theorem Rl.show {K : PySem.W.Frag} {ρ : Ev} {F G : Hp} {σ : St} {H : Hp} {D : Addr} (r : Rl K ρ F G σ H) (fD : F D = none) (gD : G D ≠ none) : Rl K ρ F F σ (minus H D) := by
  refine ⟨r.len, Le.refl F, fun a x e => ?_, fun i x e => ?_, r.dis⟩
  · have ha : a ≠ D := fun z => by rw [z, fD] at e; cases e
    rw [minus_ne ha]
    exact r.fh a x e
  · have q := r.sl i x e
    unfold SlOk at q ⊢
    split at q
    · trivial
    · exact q
    · obtain ⟨h1, vs, h2, h3⟩ := q
      rename_i a xs _
      have ha : a ≠ D := fun z => gD (by rw [← z]; exact h1)
      have hf : F a = none := r.fg.none h1
      exact ⟨hf, vs, by rw [minus_ne ha]; exact h2, h3⟩
    · obtain ⟨h1, u, h2, h3⟩ := q
      rename_i a m _
      have ha : a ≠ D := fun z => gD (by rw [← z]; exact h1)
      have hf : F a = none := r.fg.none h1
      exact ⟨hf, u, by rw [minus_ne ha]; exact h2, h3⟩
    · exact q
    · exact q
    · exact q.elim
section
variable {X : Cx} {We : EW}
theorem lc2_red {mi mi1 : Ev → R (List PyData)} {vs ts vs1 ts1 : List Nat} {g g1 : PyData → Ev → R Ev} {t t1 : Ev → R Bool} {e : Ev → R PyData} (hts : ∀ i ∈ ts, i ∈ vs) (hts1 : ∀ i ∈ ts1, i ∈ vs1) {σ : St} {H : Hp} {Q : VK} (q : tM X.K We (pF X.K) (lc2E mi vs g t mi1 vs1 g1 t1 e) σ H Q) :
    tLc2 (tM X.K We (pI X.K) mi) (tG X.K ts g) (tM X.K We0 pT t) (tM X.K We0 (pI X.K) mi1) (tG X.K ts1 g1) (tM X.K We0 pT t1) (tM X.K We0 (pD X.K) e) vs vs1 σ H Q := by
  obtain ⟨ρ, F, G, r, q⟩ := q
  refine ⟨ρ, F, G, r, Po.bind (P := pI X.K) q fun xs J F1 H1 g1' p1 q1 => ?_⟩
  intro D hD
  have r1 := (r.grow g1').1.low
  have hF1D : F1 D = none := g1'.le.none hD
  cases hl : lcM2 g t mi1 vs1 g1 t1 e (wipeE ρ vs) xs with
  | err c => rw [hl] at q1; exact q1.elim
  | bad => rw [hl] at q1; exact q1.elim
  | ok ys =>
    rw [hl] at q1
    have q1 : Po We (pF X.K) F1 H1 σ (if ys.length ≤ SZ then .ok (.list ys) else .bad) Q := q1
    split at q1
    rotate_left
    · exact q1.elim
    rename_i hz
    have q2 : ∀ b F' H', Gr F1 H1 F' H' → pF X.K H1 F' H' b (.list ys) → Q b H' := q1
    let Inv' : Nat → Hp → Prop := fun i H2 => ∃ F' accV accD rest, Rl X.K (wipeE ρ vs) F' F' (L2.wipe σ vs) (minus H2 D) ∧ ItOk X.K F' J xs ∧ Gr F1 H1 F' (minus H2 D) ∧ H2 D = some (.lst accV) ∧ DpAll X.K F' accV accD ∧
      lcM2 g t mi1 vs1 g1 t1 e (wipeE ρ vs) (xs.drop i) = .ok rest ∧ accD ++ rest = ys
    have hm : minus H1 D = H1 := by
      funext b
      by_cases hb : b = D
      · rw [hb, minus_at, hD]
      · rw [minus_ne hb]
    refine ⟨fun i m H2 => m = xs.length - i ∧ i ≤ xs.length ∧ Inv' i H2, ⟨_, rfl, Nat.zero_le _, F1, [], [], ys, ?_, p1, ?_, upd_same, .nil, hl, rfl⟩, ?_⟩
    · rw [minus_upd, hm]
      exact r1.wipe vs
    · rw [minus_upd, hm]
      exact Gr.refl g1'.le
    · rintro i m H2 ⟨rfl, hi, F', accV, accD, rest, r', p', g', hD', hacc, hrest, hys⟩
      have lF : Le F' H2 := r'.fh.trans minus_le
      have fD : F' D = none := r'.fh.none minus_at
      obtain ⟨h1, h2⟩ := p' F' H2 (Le.refl F') lF
      by_cases hlt : i < xs.length
      · refine .inr ⟨(h1 i _ (List.getElem?_eq_getElem hlt)).1, Inv' (i + 1), fun H3 hN => ⟨_, by omega, rfl, hlt, hN⟩, fun x H3 hy => ?_⟩
        obtain ⟨F3, g3, p3⟩ := (h1 i _ (List.getElem?_eq_getElem hlt)).2 x H3 hy
        have nD : H2 D ≠ none := by rw [hD']; exact fun z => by cases z
        have gm3 := g3.minus fD nD
        have r3 := (r'.grow gm3).1.low
        have fD3 : F3 D = none := (g3.n D nD).trans fD
        have hD3 : H3 D = some (.lst accV) := g3.h _ _ hD'
        rw [List.drop_eq_getElem_cons hlt] at hrest
        unfold lcM2 at hrest
        cases hg : g xs[i] (wipeE ρ vs) with
        | err c => rw [hg] at hrest; cases hrest
        | bad => rw [hg] at hrest; cases hrest
        | ok ρ' =>
          rw [hg, bind_ok] at hrest
          refine ⟨wipeE ρ vs, F3, addH F3 D (.lst accV), xs[i], r3.hide hD3, p3, ?_⟩
          rw [hg]
          intro σ2 r4 c4
          refine ⟨(wipe_ch c4 hts).trans wipe_wipe, ρ', F3, addH F3 D (.lst accV), r4, ?_⟩
          cases ht : t ρ' with
          | err c => rw [ht] at hrest; cases hrest
          | bad => rw [ht] at hrest; cases hrest
          | ok b =>
            rw [ht, bind_ok] at hrest
            intro b' F4 H4 g4 eb
            cases eb
            have nD3 : H3 D ≠ none := by rw [hD3]; exact fun z => by cases z
            have gm4 := g4.minus fD3 nD3
            have hD4 : H4 D = some (.lst accV) := g4.h _ _ hD3
            have nD4 : H4 D ≠ none := by rw [hD4]; exact fun z => by cases z
            have fD4 : F4 D = none := (g4.n D nD3).trans fD3
            cases b with
            | false =>
              rw [if_neg Bool.false_ne_true] at hrest ⊢
              exact ⟨F4, accV, accD, rest, (r3.grow gm4).1.low, (p'.le g3.f).le g4.f, (g'.trans gm3).trans gm4, hD4, (hacc.le g3.f).le g4.f, hrest, hys⟩
            | true =>
              rw [if_pos rfl] at hrest ⊢
              cases hmi : mi1 ρ' with
              | err c => rw [hmi] at hrest; cases hrest
              | bad => rw [hmi] at hrest; cases hrest
              | ok zs =>
                rw [hmi, bind_ok] at hrest
                cases hin : lcM g1 t1 e (wipeE ρ' vs1) zs with
                | err c => rw [hin] at hrest; cases hrest
                | bad => rw [hin] at hrest; cases hrest
                | ok ins =>
                  rw [hin, bind_ok] at hrest
                  cases hou : lcM2 g t mi1 vs1 g1 t1 e (wipeE ρ vs) (xs.drop (i + 1)) with
                  | err c => rw [hou] at hrest; cases hrest
                  | bad => rw [hou] at hrest; cases hrest
                  | ok outs =>
                    rw [hou, bind_ok] at hrest
                    cases hrest
                    refine ⟨ρ', F4, _, (r4.grow g4).1, ?_⟩
                    rw [hmi]
                    intro J1 F5 H5 g5 p5
                    have gm5 := g5.minus fD4 nD4
                    have hD5 : H5 D = some (.lst accV) := g5.h _ _ hD4
                    have fD5 : F5 D = none := (g5.n D nD4).trans fD4
                    have ro5 := ((r3.grow gm4).1.low.grow gm5).1.low
                    have go5 := ((g'.trans gm3).trans gm4).trans gm5
                    have ge := ((r4.grow g4).2.trans ((r4.grow g4).1.grow g5).2).g
                    have hGD : addH F3 D (.lst accV) D = some (.lst accV) := if_pos rfl
                    have ri5 : Rl X.K ρ' F5 F5 σ2 (minus H5 D) := ((r4.grow g4).1.grow g5).1.show fD5 (by rw [ge _ _ hGD]; exact fun z => by cases z)
                    let In1 : Nat → Hp → Prop := fun j H6 => ∃ F6 aV aD rs, Rl X.K (wipeE ρ vs) F6 F6 (L2.wipe σ vs) (minus H6 D) ∧ Rl X.K (wipeE ρ' vs1) F6 F6 (L2.wipe σ2 vs1) (minus H6 D) ∧ ItOk X.K F6 J xs ∧ ItOk X.K F6 J1 zs ∧ Gr F1 H1 F6 (minus H6 D) ∧ H6 D = some (.lst aV) ∧ DpAll X.K F6 aV aD ∧
                      lcM g1 t1 e (wipeE ρ' vs1) (zs.drop j) = .ok rs ∧ (aD ++ rs) ++ outs = ys
                    refine ⟨fun j k H6 => k = zs.length - j ∧ j ≤ zs.length ∧ In1 j H6, ⟨_, rfl, Nat.zero_le _, F5, accV, accD, ins, ro5, ?_, ((p'.le g3.f).le g4.f).le g5.f, p5, go5, hD5, ((hacc.le g3.f).le g4.f).le g5.f, hin, by rw [List.append_assoc]; exact hys⟩, ?_⟩
                    · exact ri5.wipe vs1
                    · rintro j k H6 ⟨rfl, hj, F6, aV, aD, rs, ro6, ri6, pj6, pj16, go6, hD6, hac6, hrs6, hys6⟩
                      have lF6 : Le F6 H6 := ro6.fh.trans minus_le
                      have fD6 : F6 D = none := ro6.fh.none minus_at
                      have nD6 : H6 D ≠ none := by rw [hD6]; exact fun z => by cases z
                      obtain ⟨k1, k2⟩ := pj16 F6 H6 (Le.refl F6) lF6
                      by_cases hjl : j < zs.length
                      · refine .inr ⟨(k1 j _ (List.getElem?_eq_getElem hjl)).1, In1 (j + 1), fun H7 hN => ⟨_, by omega, rfl, hjl, hN⟩, fun y H7 hy7 => ?_⟩
                        obtain ⟨F7, g7, p7⟩ := (k1 j _ (List.getElem?_eq_getElem hjl)).2 y H7 hy7
                        have gm7 := g7.minus fD6 nD6
                        have fD7 : F7 D = none := (g7.n D nD6).trans fD6
                        have hD7 : H7 D = some (.lst aV) := g7.h _ _ hD6
                        have nD7 : H7 D ≠ none := by rw [hD7]; exact fun z => by cases z
                        rw [List.drop_eq_getElem_cons hjl] at hrs6
                        unfold lcM at hrs6
                        cases hg1 : g1 zs[j] (wipeE ρ' vs1) with
                        | err c => rw [hg1] at hrs6; cases hrs6
                        | bad => rw [hg1] at hrs6; cases hrs6
                        | ok ρ'' =>
                          rw [hg1, bind_ok] at hrs6
                          have ri7 := (ri6.grow gm7).1.low
                          refine ⟨wipeE ρ' vs1, F7, F7, zs[j], ri7.up minus_le, p7, ?_⟩
                          rw [hg1]
                          intro σ3 r8 c8
                          refine ⟨(wipe_ch c8 hts1).trans wipe_wipe, ρ'', F7, F7, r8, ?_⟩
                          cases ht1 : t1 ρ'' with
                          | err c => rw [ht1] at hrs6; cases hrs6
                          | bad => rw [ht1] at hrs6; cases hrs6
                          | ok b1 =>
                            rw [ht1, bind_ok] at hrs6
                            intro b2 F8 H8 g8 eb2
                            cases eb2
                            have gm8 := g8.minus fD7 nD7
                            have hD8 : H8 D = some (.lst aV) := g8.h _ _ hD7
                            have nD8 : H8 D ≠ none := by rw [hD8]; exact fun z => by cases z
                            have fD8 : F8 D = none := (g8.n D nD7).trans fD7
                            have ro8 := ((ro6.grow gm7).1.low.grow gm8).1.low
                            have ri8 := (ri7.grow gm8).1.low
                            have go8 := (go6.trans gm7).trans gm8
                            cases b1 with
                            | false =>
                              rw [if_neg Bool.false_ne_true] at hrs6 ⊢
                              exact ⟨F8, aV, aD, rs, ro8, ri8, (pj6.le g7.f).le g8.f, (pj16.le g7.f).le g8.f, go8, hD8, (hac6.le g7.f).le g8.f, hrs6, hys6⟩
                            | true =>
                              rw [if_pos rfl] at hrs6 ⊢
                              cases he : e ρ'' with
                              | err c => rw [he] at hrs6; cases hrs6
                              | bad => rw [he] at hrs6; cases hrs6
                              | ok y2 =>
                                rw [he, bind_ok] at hrs6
                                cases hr : lcM g1 t1 e (wipeE ρ' vs1) (zs.drop (j + 1)) with
                                | err c => rw [hr] at hrs6; cases hrs6
                                | bad => rw [hr] at hrs6; cases hrs6
                                | ok rs' =>
                                  rw [hr] at hrs6
                                  cases hrs6
                                  refine ⟨ρ'', F8, _, (r8.grow g8).1, ?_⟩
                                  rw [he]
                                  intro v F9 H9 g9 p9
                                  have gm9 := g9.minus fD8 nD8
                                  have hl' := DpAll.length hac6
                                  have hl2 : aD.length < ys.length := by rw [← hys6]; simp
                                  have sq := sz_eq
                                  refine ⟨aV, g9.h _ _ hD8, by rw [sq]; omega, F9, aV ++ [v], aD ++ [y2], rs', ?_, ?_, ((pj6.le g7.f).le g8.f).le g9.f, ((pj16.le g7.f).le g8.f).le g9.f, ?_, upd_same, (((hac6.le g7.f).le g8.f).le g9.f).append (.cons p9 .nil), hr, hys6 ▸ (by simp)⟩
                                  · rw [minus_upd]
                                    exact (ro8.grow gm9).1.low
                                  · rw [minus_upd]
                                    exact (ri8.grow gm9).1.low
                                  · rw [minus_upd]
                                    exact go8.trans gm9
                      · have ei : j = zs.length := by omega
                        subst ei
                        refine .inl ⟨k2, F6, aV, aD, outs, ro6, pj6, go6, hD6, hac6, hou, ?_⟩
                        rw [List.drop_length] at hrs6
                        cases hrs6
                        rw [List.append_nil] at hys6
                        exact hys6
      · have ei : i = xs.length := by omega
        subst ei
        refine .inl ⟨h2, ?_⟩
        rw [List.drop_length] at hrest
        cases hrest
        rw [List.append_nil] at hys
        subst hys
        have gg : Gr F1 H1 F' H2 := ⟨g'.f, g'.h.trans minus_le, g'.n, lF⟩
        exact q2 _ F' H2 gg ⟨D, accV, _, rfl, rfl, hD, fD, hD', hacc⟩
theorem xf_lc2 {elt tg iter tg1 iter1 : Expr} {ifs ifs1 : List Expr} {scope : Scope} {own : List (Str × Nat)} {vs1 ts ts1 : List Nat} {pos : Pos} {mi mi1 : Ev → R (List PyData)} {g g1 : PyData → Ev → R Ev} {t t1 : Ev → R Bool} {e : Ev → R PyData} (hc : X.calm = true) (hN : X.N.Nodup) (hi : XI X We tg iter mi)
    (ok : BlkOk X.N X.env.scope scope own) (hv : ∀ i ∈ vs1, i ∈ own.map (·.2)) (hts : ∀ i ∈ ts, i ∈ own.map (·.2)) (hts1 : ∀ i ∈ ts1, i ∈ vs1)
    (hg : ∀ (s : Shared) (H : Hp) (C : Addr) (cl : List (Str × Addr)) (fp : List Addr), XG (X.blk s H scope (compEnvC scope cl C X.env) fp) tg ts g) (ht : ∀ (s : Shared) (H : Hp) (C : Addr) (cl : List (Str × Addr)) (fp : List Addr), XTs (X.blk s H scope (compEnvC scope cl C X.env) fp) We0 ifs t)
    (hi1 : ∀ (s : Shared) (H : Hp) (C : Addr) (cl : List (Str × Addr)) (fp : List Addr), XI (X.blk s H scope (compEnvC scope cl C X.env) fp) We0 tg1 iter1 mi1)
    (hg1 : ∀ (s : Shared) (H : Hp) (C : Addr) (cl : List (Str × Addr)) (fp : List Addr), XG (X.blk s H scope (compEnvC scope cl C X.env) fp) tg1 ts1 g1) (ht1 : ∀ (s : Shared) (H : Hp) (C : Addr) (cl : List (Str × Addr)) (fp : List Addr), XTs (X.blk s H scope (compEnvC scope cl C X.env) fp) We0 ifs1 t1)
    (he : ∀ (s : Shared) (H : Hp) (C : Addr) (cl : List (Str × Addr)) (fp : List Addr), XE (X.blk s H scope (compEnvC scope cl C X.env) fp) We0 elt e) (hs : ∀ x, foldedSetIterable iter X.env x = pure x) (hs1 : ∀ env x, foldedSetIterable iter1 env x = pure x) :
    XF X We (.ListComp elt [⟨tg, iter, ifs, 0⟩, ⟨tg1, iter1, ifs1, 0⟩] scope pos) (lc2E mi (own.map (·.2)) g t mi1 vs1 g1 t1 e) :=
  pe_imp (pe_lc2 hc hN hi ok hv hg ht hi1 hg1 ht1 he hs hs1) fun σ H Q q => lc2_red hts hts1 q
theorem xs_setLc2 {i : Nat} {y : Str} {py : Pos} {elt tg iter tg1 iter1 : Expr} {ifs ifs1 : List Expr} {scope : Scope} {own : List (Str × Nat)} {vs1 ts ts1 : List Nat} {pos spos : Pos} {mi mi1 : Ev → R (List PyData)} {g g1 : PyData → Ev → R Ev} {t t1 : Ev → R Bool} {e : Ev → R PyData} (hc : X.calm = true) (hN : X.N.Nodup) (hy : X.N[i]? = some y) (hyl : X.env.scope.names.lookup y = some .local)
    (hsw : swapsWith (.ListComp elt [⟨tg, iter, ifs, 0⟩, ⟨tg1, iter1, ifs1, 0⟩] scope pos) (some (.Name y py)) spos.line X.env = pure true) (hi : XI X We tg iter mi)
    (ok : BlkOk X.N X.env.scope scope own) (hv : ∀ i ∈ vs1, i ∈ own.map (·.2)) (hts : ∀ i ∈ ts, i ∈ own.map (·.2)) (hts1 : ∀ i ∈ ts1, i ∈ vs1)
    (hg : ∀ (s : Shared) (H : Hp) (C : Addr) (cl : List (Str × Addr)) (fp : List Addr), XG (X.blk s H scope (compEnvC scope cl C X.env) fp) tg ts g) (ht : ∀ (s : Shared) (H : Hp) (C : Addr) (cl : List (Str × Addr)) (fp : List Addr), XTs (X.blk s H scope (compEnvC scope cl C X.env) fp) We0 ifs t)
    (hi1 : ∀ (s : Shared) (H : Hp) (C : Addr) (cl : List (Str × Addr)) (fp : List Addr), XI (X.blk s H scope (compEnvC scope cl C X.env) fp) We0 tg1 iter1 mi1)
    (hg1 : ∀ (s : Shared) (H : Hp) (C : Addr) (cl : List (Str × Addr)) (fp : List Addr), XG (X.blk s H scope (compEnvC scope cl C X.env) fp) tg1 ts1 g1) (ht1 : ∀ (s : Shared) (H : Hp) (C : Addr) (cl : List (Str × Addr)) (fp : List Addr), XTs (X.blk s H scope (compEnvC scope cl C X.env) fp) We0 ifs1 t1)
    (he : ∀ (s : Shared) (H : Hp) (C : Addr) (cl : List (Str × Addr)) (fp : List Addr), XE (X.blk s H scope (compEnvC scope cl C X.env) fp) We0 elt e) (hs : ∀ x, foldedSetIterable iter X.env x = pure x) (hs1 : ∀ env x, foldedSetIterable iter1 env x = pure x) :
    XS X We (.Assign [.Name y py] (.ListComp elt [⟨tg, iter, ifs, 0⟩, ⟨tg1, iter1, ifs1, 0⟩] scope pos) spos) (setS i (lc2E mi (own.map (·.2)) g t mi1 vs1 g1 t1 e)) :=
  ps_imp (ps_setLc2 hc hN hy hyl hsw hi ok hv hg ht hi1 hg1 ht1 he hs hs1) fun D σ H q => by
    obtain ⟨ρ, F, G, r, q⟩ := q
    refine lc2_red (X := X) (We := We) (mi := mi) (mi1 := mi1) (g := g) (g1 := g1) (t := t) (t1 := t1) (e := e) hts hts1 ⟨ρ, F, G, r, ?_⟩
    have q' : Po We (pD X.K) F H σ (lc2E mi (own.map (·.2)) g t mi1 vs1 g1 t1 e ρ) fun x H1 => gName i x σ H1 D.nx := PoS.expr (P := pD X.K) r q fun d v F1 G1 H1 r1 g1 p1 q1 => q1 _ F1 G1 H1 (r1.set i p1) (GrS.refl F1 G1)
    cases hm : lc2E mi (own.map (·.2)) g t mi1 vs1 g1 t1 e ρ with
    | ok d =>
      rw [hm] at q'
      intro v F1 H1 g1 p
      obtain ⟨x, vs, ds, rfl, rfl, n0, n1, h1, h2⟩ := p
      exact q' _ _ _ (g1.keep n0 n1 h1) (Dp.new_lst n1 h2)
    | err c => rw [hm] at q'; exact q'
    | bad => rw [hm] at q'; exact q'
theorem xs_setLc2L {i : Nat} {y : Str} {py : Pos} {elt tg iter tg1 iter1 : Expr} {ifs ifs1 : List Expr} {scope : Scope} {own : List (Str × Nat)} {vs1 ts ts1 : List Nat} {pos spos : Pos} {mi mi1 : Ev → R (List PyData)} {g g1 : PyData → Ev → R Ev} {t t1 : Ev → R Bool} {e : Ev → R PyData} (hc : X.calm = true) (hN : X.N.Nodup) (hy : X.N[i]? = some y) (hyl : X.env.scope.names.lookup y = some .local)
    (hsw : swapsWith (.ListComp elt [⟨tg, iter, ifs, 0⟩, ⟨tg1, iter1, ifs1, 0⟩] scope pos) (some (.Name y py)) spos.line X.env = pure true) (hi : XI X We tg iter mi)
    (ok : BlkOk X.N X.env.scope scope own) (hv : ∀ i ∈ vs1, i ∈ own.map (·.2)) (hts : ∀ i ∈ ts, i ∈ own.map (·.2)) (hts1 : ∀ i ∈ ts1, i ∈ vs1)
    (hg : ∀ (s : Shared) (H : Hp) (C : Addr) (cl : List (Str × Addr)) (fp : List Addr), XG (X.blk s H scope (compEnvC scope cl C X.env) fp) tg ts g) (ht : ∀ (s : Shared) (H : Hp) (C : Addr) (cl : List (Str × Addr)) (fp : List Addr), XTs (X.blk s H scope (compEnvC scope cl C X.env) fp) We0 ifs t)
    (hi1 : ∀ (s : Shared) (H : Hp) (C : Addr) (cl : List (Str × Addr)) (fp : List Addr), XI (X.blk s H scope (compEnvC scope cl C X.env) fp) We0 tg1 iter1 mi1)
    (hg1 : ∀ (s : Shared) (H : Hp) (C : Addr) (cl : List (Str × Addr)) (fp : List Addr), XG (X.blk s H scope (compEnvC scope cl C X.env) fp) tg1 ts1 g1) (ht1 : ∀ (s : Shared) (H : Hp) (C : Addr) (cl : List (Str × Addr)) (fp : List Addr), XTs (X.blk s H scope (compEnvC scope cl C X.env) fp) We0 ifs1 t1)
    (he : ∀ (s : Shared) (H : Hp) (C : Addr) (cl : List (Str × Addr)) (fp : List Addr), XE (X.blk s H scope (compEnvC scope cl C X.env) fp) We0 elt e) (hs : ∀ x, foldedSetIterable iter X.env x = pure x) (hs1 : ∀ env x, foldedSetIterable iter1 env x = pure x) :
    XS X We (.Assign [.Name y py] (.ListComp elt [⟨tg, iter, ifs, 0⟩, ⟨tg1, iter1, ifs1, 0⟩] scope pos) spos) (setLS i (lc2E mi (own.map (·.2)) g t mi1 vs1 g1 t1 e)) :=
  ps_imp (ps_setLc2 hc hN hy hyl hsw hi ok hv hg ht hi1 hg1 ht1 he hs hs1) fun D σ H q => lc2_red (X := X) (We := We) (mi := mi) (mi1 := mi1) (g := g) (g1 := g1) (t := t) (t1 := t1) (e := e) hts hts1 (setL_red q)
end
end PD
namespace PD
open PySem PySem.Spec PyProof.Rows L2
/-! ## zip of two lists, of two tuples; enumerate of a list -/
def zipP (xs ys : List PyData) : List PyData := (xs.zip ys).map fun p => .tuple [p.1, p.2]
def zipD : PyData → PyData → R (List PyData)
  | .list xs, .list ys => .ok (zipP xs ys)
  | .tuple xs, .tuple ys => .ok (zipP xs ys)
  | _, _ => .bad
def zpE (ma mb : Ev → R PyData) (ρ : Ev) : R (List PyData) := (ma ρ).bind fun x => (mb ρ).bind fun y => zipD x y
theorem zipP_at {xs ys : List PyData} {i : Nat} {d : PyData} (h : (zipP xs ys)[i]? = some d) : ∃ a b, xs[i]? = some a ∧ ys[i]? = some b ∧ d = .tuple [a, b] := by
  unfold zipP at h
  rw [List.getElem?_map] at h
  cases hz : (xs.zip ys)[i]? with
  | none => rw [hz] at h; cases h
  | some p =>
    rw [hz] at h
    cases h
    obtain ⟨h1, h2⟩ := List.getElem?_zip_eq_some.mp hz
    exact ⟨p.1, p.2, h1, h2, rfl⟩
theorem zipP_length (xs ys : List PyData) : (zipP xs ys).length = min xs.length ys.length := by unfold zipP; simp
theorem itz_ok {K : PySem.W.Frag} {F : Hp} {a b : Addr} {vs us : List V} {xs ys : List PyData} (h : SqL K F a vs) (h2 : SqL K F b us) (hx : DpAll K F vs xs) (hy : DpAll K F us ys) : ItOk K F (Itz K a b) (zipP xs ys) := fun F' H l1 l2 => by
  have e1 := h.le (l1.trans l2)
  have e2 := h2.le (l1.trans l2)
  refine ⟨fun i d e => ?_, ⟨vs, us, e1, e2, ?_⟩⟩
  · obtain ⟨p, q, hp, hq, rfl⟩ := zipP_at e
    obtain ⟨v, ev, pv⟩ := hx.get hp
    obtain ⟨u, eu, pu⟩ := hy.get hq
    refine ⟨⟨vs, us, v, u, e1, e2, ev, eu⟩, fun x H' hyd => ?_⟩
    obtain ⟨T, z, w, rfl, hT, rfl, g1, g2⟩ := hyd
    have c1 := g1 vs e1
    have c2 := g2 us e2
    rw [ev] at c1
    rw [eu] at c2
    cases c1; cases c2
    exact ⟨_, Gr.new l2 hT, Dp.new_tup (l2.none hT) (.cons (pv.le l1) (.cons (pu.le l1) .nil))⟩
  · rw [zipP_length]
    have := hx.length
    have := hy.length
    omega
theorem itzT_ok {K : PySem.W.Frag} {F : Hp} {a b : Addr} {vs us : List V} {xs ys : List PyData} (h : SqT K F a vs) (h2 : SqT K F b us) (hx : DpAll K F vs xs) (hy : DpAll K F us ys) : ItOk K F (RZ.ItzT K a b) (zipP xs ys) := fun F' H l1 l2 => by
  have e1 := h.le (l1.trans l2)
  have e2 := h2.le (l1.trans l2)
  refine ⟨fun i d e => ?_, ⟨vs, us, e1, e2, ?_⟩⟩
  · obtain ⟨p, q, hp, hq, rfl⟩ := zipP_at e
    obtain ⟨v, ev, pv⟩ := hx.get hp
    obtain ⟨u, eu, pu⟩ := hy.get hq
    refine ⟨⟨vs, us, v, u, e1, e2, ev, eu⟩, fun x H' hyd => ?_⟩
    obtain ⟨T, z, w, rfl, hT, rfl, g1, g2⟩ := hyd
    have c1 := g1 vs e1
    have c2 := g2 us e2
    rw [ev] at c1
    rw [eu] at c2
    cases c1; cases c2
    exact ⟨_, Gr.new l2 hT, Dp.new_tup (l2.none hT) (.cons (pv.le l1) (.cons (pu.le l1) .nil))⟩
  · rw [zipP_length]
    have := hx.length
    have := hy.length
    omega
def enD : PyData → R (List PyData)
  | .list xs => .ok (xs.zipIdx.map fun p => .tuple [.int (p.2 : Nat), p.1])
  | _ => .bad
theorem ite_ok {K : PySem.W.Frag} {F : Hp} {a : Addr} {vs : List V} {xs : List PyData} (h : SqL K F a vs) (hx : DpAll K F vs xs) : ItOk K F (Ite K a) (xs.zipIdx.map fun p => .tuple [.int (p.2 : Nat), p.1]) := fun F' H l1 l2 => by
  have e1 := h.le (l1.trans l2)
  refine ⟨fun i d e => ?_, ⟨vs, e1, ?_⟩⟩
  · rw [List.getElem?_map, List.getElem?_zipIdx] at e
    cases hz : xs[i]? with
    | none => rw [hz] at e; cases e
    | some p =>
      rw [hz] at e
      cases e
      obtain ⟨v, ev, pv⟩ := hx.get hz
      refine ⟨⟨vs, v, e1, ev⟩, fun x H' hyd => ?_⟩
      obtain ⟨T, z, rfl, hT, rfl, g1⟩ := hyd
      have c1 := g1 vs e1
      rw [ev] at c1
      cases c1
      have e0 : ((0 + i : Nat) : Int) = (i : Int) := by omega
      exact ⟨_, Gr.new l2 hT, Dp.new_tup (l2.none hT) (.cons (by show Dp K F' (.int (i : Nat)) (.int ((0 + i : Nat) : Int)); rw [e0]; exact .int _) (.cons (pv.le l1) .nil))⟩
  · have := hx.length
    simp
    omega
section
variable {X : Cx} {We : EW} {e a b c : Expr} {pos p tpos : Pos} {elts : List Expr} {kk : Nat}
theorem xi_zip {ma mb : Ev → R PyData} (hg : Gl X "zip") (hm : X.mg "zip" = none) (ha : XE X We a ma) (hb : XE X We b mb)
    (hs : starEach [a, b] X.env = (false, eval a X.env) :: starEach [b] X.env) (hs1 : starEach [b] X.env = (false, eval b X.env) :: starEach [] X.env) (hpl : (backTo pos (starEach [b] X.env)).any (·.1) = false) :
    XI X We (.Tuple elts kk tpos) (.Call (.Name "zip" p) [a, b] [] pos) (zpE ma mb) := by
  have h := RZ.pi_zipA (tpos := tpos) (elts := elts) (kk := kk) (p := p) (pos := pos) hg hm (xa_cons ha (xa_cons hb xa_nil hs1) hs) hs hpl
  refine ⟨fun pins s σ H R I q => h.run pins s σ H R I ?_⟩
  obtain ⟨ρ, F, G, r, q⟩ := q
  refine ⟨ρ, F, G, r, ?_⟩
  have q' : Po We (pI X.K) F H σ (((consA ma (consA mb nilA)) ρ).bind fun ds => match ds with | [x, y] => zipD x y | _ => .bad) R := by
    have e0 : zpE ma mb ρ = (((consA ma (consA mb nilA)) ρ).bind fun ds => match ds with | [x, y] => zipD x y | _ => .bad) := by
      unfold zpE consA nilA
      cases ma ρ with
      | err c => rfl
      | bad => rfl
      | ok x =>
        simp only [bind_ok]
        cases mb ρ with
        | err c => rfl
        | bad => rfl
        | ok y => rfl
    rw [← e0]
    exact q
  refine Po.bind (P := pA X.K) q' fun ds vs F1 H1 g1 p1 q1 => ?_
  split at q1
  · rename_i x y
    obtain ⟨v, ws, rfl, a1, b1⟩ := DpAll.cons_inv p1
    obtain ⟨v2, ws2, rfl, a2, b2⟩ := DpAll.cons_inv b1
    cases DpAll.nil_inv b2
    unfold zipD at q1
    split at q1
    · cases a1 with
      | lst s1 d1 =>
        cases a2 with
        | lst s2 d2 => exact ⟨_, _, _, _, rfl, .inl ⟨s1.le g1.le, s2.le g1.le, q1 _ F1 H1 (Gr.refl g1.le) (itz_ok s1 s2 d1 d2)⟩⟩
    · cases a1 with
      | tup s1 d1 =>
        cases a2 with
        | tup s2 d2 => exact ⟨_, _, _, _, rfl, .inr ⟨s1.le g1.le, s2.le g1.le, q1 _ F1 H1 (Gr.refl g1.le) (itzT_ok s1 s2 d1 d2)⟩⟩
    · exact q1.elim
  · exact q1.elim
def enE (ma : Ev → R PyData) (ρ : Ev) : R (List PyData) := (ma ρ).bind enD
theorem xi_enum {ma : Ev → R PyData} (hg : Gl X "enumerate") (hm : X.mg "enumerate" = none) (ha : XE X We a ma) (hs : starEach [a] X.env = [(false, eval a X.env)]) :
    XI X We (.Tuple elts kk tpos) (.Call (.Name "enumerate" p) [a] [] pos) (enE ma) := by
  have h := pi_enum (tpos := tpos) (elts := elts) (kk := kk) (p := p) (pos := pos) hg hm (xa_cons ha xa_nil hs) hs
  refine ⟨fun pins s σ H R I q => h.run pins s σ H R I ?_⟩
  obtain ⟨ρ, F, G, r, q⟩ := q
  refine ⟨ρ, F, G, r, ?_⟩
  have q' : Po We (pI X.K) F H σ (((consA ma nilA) ρ).bind fun ds => match ds with | [x] => enD x | _ => .bad) R := by
    have e0 : enE ma ρ = (((consA ma nilA) ρ).bind fun ds => match ds with | [x] => enD x | _ => .bad) := by
      unfold enE consA nilA
      cases ma ρ <;> rfl
    rw [← e0]
    exact q
  refine Po.bind (P := pA X.K) q' fun ds vs F1 H1 g1 p1 q1 => ?_
  split at q1
  · obtain ⟨v, ws, rfl, a1, b1⟩ := DpAll.cons_inv p1
    cases DpAll.nil_inv b1
    unfold enD at q1
    split at q1
    · cases a1 with
      | lst s1 d1 => exact ⟨_, _, rfl, s1.le g1.le, q1 _ F1 H1 (Gr.refl g1.le) (ite_ok s1 d1)⟩
    · exact q1.elim
  · exact q1.elim
/-! ## tuple(range(..)) -/
def trE1 (m : Ev → R PyData) (ρ : Ev) : R PyData := (m ρ).bind fun d => match d with
  | .int n => if smallI n ∧ n ≤ 16777216 then .ok (.tuple (rangeL 0 1 n.toNat)) else .bad
  | _ => .bad
theorem xe_tr1 {p2 pos2 : Pos} {m : Ev → R PyData} (hc : X.calm = true) (hg : Gl X "tuple") (hm : X.mg "tuple" = none) (hg2 : Gl X "range") (hm2 : X.mg "range" = none) (ha : XE X We a m)
    (na : starEach [a] X.env = (false, eval a X.env) :: starEach [] X.env) (na2 : starEach [.Call (.Name "range" p2) [a] [] pos2] X.env = (false, eval (.Call (.Name "range" p2) [a] [] pos2) X.env) :: starEach [] X.env) :
    XE X We (.Call (.Name "tuple" p) [.Call (.Name "range" p2) [a] [] pos2] [] pos) (trE1 m) :=
  pe_imp (pe_tupRg hc hg hm (prg_1 hg2 hm2 ha na) na2) fun σ H Q q => by
    obtain ⟨ρ, F, G, r, q⟩ := q
    refine ⟨ρ, F, G, r, Po.bind (P := pD X.K) q fun d v F1 H1 g1 p1 q1 => ?_⟩
    split at q1
    · rename_i n
      have e3 := Dp.int_inv p1
      subst e3
      split at q1
      · rename_i hz
        have h1 := smallI_un hz.1
        refine ⟨n, rfl, ⟨by omega, by omega, h1.1, h1.2, by omega⟩, fun p np => ?_⟩
        have hd : DpAll X.K F1 (rgV 0 n) (rangeL 0 1 (n - 0).toNat) := rgV_dp 0 n
        rw [Int.sub_zero] at hd
        exact q1 _ _ _ (Gr.new g1.le np) (Dp.new_tup (g1.le.none np) hd)
      · exact q1.elim
    · exact q1.elim
end
end PD
namespace PD
open PySem PySem.Spec PyProof.Rows L2
/-- a loop that carries something on -/
theorem forG_fold {α β : Type} {g : PyData → Ev → R Ev} {b : SM} {I : β → Ev → Prop} {enc : α → PyData} (step : β → α → β) : ∀ (xs : List α) (a : β) (ρ : Ev), I a ρ → (∀ x ∈ xs, ∀ a ρ, I a ρ → ∃ ρ', (g (enc x) ρ).bind b = .ok (.nx ρ') ∧ I (step a x) ρ') →
    ∃ ρ', forG g b (xs.map enc) ρ = .ok (.nx ρ') ∧ I (xs.foldl step a) ρ'
  | [], a, ρ, h, _ => ⟨ρ, rfl, h⟩
  | x :: xs, a, ρ, h, hb => by
    obtain ⟨ρ1, e1, h1⟩ := hb x (by simp) a ρ h
    obtain ⟨ρ2, e2, h2⟩ := forG_fold (g := g) (b := b) (I := I) (enc := enc) step xs (step a x) ρ1 h1 fun y hy => hb y (by simp [hy])
    refine ⟨ρ2, ?_, h2⟩
    rw [List.map_cons]
    unfold forG at e2 ⊢
    unfold forM
    rw [e1]
    exact e2
/-- .. a sum -/
theorem forG_sum {α : Type} {g : PyData → Ev → R Ev} {b : SM} {I : Int → Ev → Prop} {enc : α → PyData} (f : α → Int) (xs : List α) (a : Int) (ρ : Ev) (h : I a ρ) (hb : ∀ x ∈ xs, ∀ a ρ, I a ρ → ∃ ρ', (g (enc x) ρ).bind b = .ok (.nx ρ') ∧ I (a + f x) ρ') :
    ∃ ρ', forG g b (xs.map enc) ρ = .ok (.nx ρ') ∧ I (a + (xs.map f).sum) ρ' := by
  obtain ⟨ρ', e, h'⟩ := forG_fold (g := g) (b := b) (I := I) (enc := enc) (fun a x => a + f x) xs a ρ h hb
  refine ⟨ρ', e, ?_⟩
  have : ∀ (xs : List α) (a : Int), xs.foldl (fun a x => a + f x) a = a + (xs.map f).sum := fun xs => by
    induction xs with
    | nil => intro a; simp
    | cons x xs ih => intro a; rw [List.foldl_cons, ih, List.map_cons, List.sum_cons]; omega
  rw [← this]
  exact h'
@[simp] theorem augS_ap (n : Nat) (f : PyData → PyData → R PyData) (m : Ev → R PyData) (ρ : Ev) : augS n f m ρ = (ofS ρ[n]?).bind fun x => (m ρ).bind fun y => (f x y).bind fun z => .ok (.nx (ρ.set n (.d z))) := by
  unfold augS
  rw [vE_ap]
@[simp] theorem addI_ii (i j : Int) : addI (.int i) (.int j) = .ok (.int (i + j)) := (rfl)
@[simp] theorem min_ii (i j : Int) : minD [.int i, .int j] = .ok (.int (min i j)) := (rfl)
@[simp] theorem max_ii (i j : Int) : maxD [.int i, .int j] = .ok (.int (max i j)) := (rfl)
@[simp] theorem zpE_ap (p q : Ev → R PyData) (ρ : Ev) : zpE p q ρ = (p ρ).bind fun x => (q ρ).bind fun y => zipD x y := (rfl)
@[simp] theorem zipD_t (xs ys : List PyData) : zipD (.tuple xs) (.tuple ys) = .ok (zipP xs ys) := (rfl)
@[simp] theorem zipD_l (xs ys : List PyData) : zipD (.list xs) (.list ys) = .ok (zipP xs ys) := (rfl)
theorem zipP_map {α β : Type} (f : α → PyData) (h : β → PyData) (xs : List α) (ys : List β) : zipP (xs.map f) (ys.map h) = (xs.zip ys).map fun p => .tuple [f p.1, h p.2] := by
  unfold zipP
  rw [List.zip_map, List.map_map]
  rfl
end PD
namespace PD
open PySem PySem.Spec PyProof.Rows L2
theorem lcM_all {α : Type} {g : PyData → Ev → R Ev} {e : Ev → R PyData} {ρ : Ev} {enc : α → PyData} {f : α → PyData} (xs : List α) (h : ∀ x ∈ xs, ∃ ρ', g (enc x) ρ = .ok ρ' ∧ e ρ' = .ok (f x)) : lcM g yesT e ρ (xs.map enc) = .ok (xs.map f) := by
  have := lcM_of (g := g) (t := yesT) (e := e) (ρ := ρ) (enc := enc) (p := fun _ => true) (f := f) xs fun x hx => by
    obtain ⟨ρ', h1, h2⟩ := h x hx
    exact ⟨ρ', h1, rfl, fun _ => h2⟩
  rw [this, List.filter_eq_self.mpr fun _ _ => rfl]
/-- two fors without ifs: what is told for each of the first -/
theorem lcM2_of {α : Type} {g g1 : PyData → Ev → R Ev} {mi1 : Ev → R (List PyData)} {vs1 : List Nat} {t1 : Ev → R Bool} {e : Ev → R PyData} {ρ : Ev} {enc : α → PyData} {f : α → List PyData} :
    ∀ xs : List α, (∀ x ∈ xs, ∃ ρ' zs, g (enc x) ρ = .ok ρ' ∧ mi1 ρ' = .ok zs ∧ lcM g1 t1 e (wipeE ρ' vs1) zs = .ok (f x)) → lcM2 g yesT mi1 vs1 g1 t1 e ρ (xs.map enc) = .ok (xs.flatMap f)
  | [], _ => rfl
  | x :: xs, h => by
    obtain ⟨ρ', zs, h1, h2, h3⟩ := h x (by simp)
    have ih := lcM2_of (g := g) (g1 := g1) (mi1 := mi1) (vs1 := vs1) (t1 := t1) (e := e) (ρ := ρ) (enc := enc) (f := f) xs fun y hy => h y (by simp [hy])
    rw [List.map_cons]
    unfold lcM2
    rw [h1, bind_ok]
    show ((R.ok true).bind fun b => if b = true then (mi1 ρ').bind fun zs => (lcM g1 t1 e (wipeE ρ' vs1) zs).bind fun ys => (lcM2 g yesT mi1 vs1 g1 t1 e ρ (xs.map enc)).bind fun rest => .ok (ys ++ rest) else lcM2 g yesT mi1 vs1 g1 t1 e ρ (xs.map enc)) = _
    rw [bind_ok, if_pos rfl, h2, bind_ok, h3, bind_ok, ih, bind_ok, List.flatMap_cons]
theorem lc2E_of {α : Type} {mi : Ev → R (List PyData)} {vs : List Nat} {g g1 : PyData → Ev → R Ev} {mi1 : Ev → R (List PyData)} {vs1 : List Nat} {t1 : Ev → R Bool} {e : Ev → R PyData} {ρ : Ev} {enc : α → PyData} {f : α → List PyData} (xs : List α) (hi : mi ρ = .ok (xs.map enc)) (hl : (xs.flatMap f).length ≤ SZ)
    (h : ∀ x ∈ xs, ∃ ρ' zs, g (enc x) (wipeE ρ vs) = .ok ρ' ∧ mi1 ρ' = .ok zs ∧ lcM g1 t1 e (wipeE ρ' vs1) zs = .ok (f x)) : lc2E mi vs g yesT mi1 vs1 g1 t1 e ρ = .ok (.list (xs.flatMap f)) := by
  unfold lc2E
  rw [hi, bind_ok, lcM2_of xs h]
  show ((R.ok (xs.flatMap f)).bind fun ys => if ys.length ≤ SZ then R.ok (PyData.list ys) else .bad) = _
  rw [bind_ok, if_pos hl]
end PD
namespace PD
open PySem PySem.Spec PyProof.Rows L2
section
variable {X : Cx} {We : EW} {e a b c : Expr} {es : List Expr} {pos : Pos} {x : Str}
/-! ## x, y = e, f where a target is a list of one's own -/
/-- what a value is put down as: a datum, or a list of one's own -/
def slOf (own : Bool) (d : PyData) : R Sl := if own = true then (match d with
  | .list xs => .ok (.lo xs)
  | _ => .bad) else .ok (.d d)
def pOw (K : PySem.W.Frag) : Bool → PR V PyData
  | true => pF K
  | false => pD K
theorem Rl.putO {K : PySem.W.Frag} {ρ : Ev} {F G : Hp} {σ : St} {H F1 H1 : Hp} {v : V} {d : PyData} {own : Bool} {y : Sl} (r : Rl K ρ F G σ H) (g : Gr F H F1 H1) (p : pOw K own H F1 H1 v d) (hy : slOf own d = .ok y) (i : Nat) :
    ∃ G1, Rl K (ρ.set i y) F1 G1 (σ.set i (some v)) H1 ∧ GrS F G F1 G1 := by
  cases own with
  | false =>
    cases hy
    have p : Dp K F1 v d := p
    exact ⟨_, (r.grow g).1.set i p, (r.grow g).2⟩
  | true =>
    have p : pF K H F1 H1 v d := p
    obtain ⟨q, vs, ds, rfl, rfl, n0, n1, h1, h2⟩ := p
    cases hy
    have g' : Gr F H F1 (fun b => if b = q then none else H1 b) := ⟨g.f, fun b o eb => by
          have : b ≠ q := ne_of_none eb n0
          show (if b = q then none else H1 b) = some o
          rw [if_neg this]
          exact g.h b o eb, g.n, fun b o eb => by
          have : b ≠ q := ne_of_none eb n1
          show (if b = q then none else H1 b) = some o
          rw [if_neg this]
          exact g.le b o eb⟩
    refine ⟨join G F1, Rl.setL (p := q) (vs := vs) (xs := ds) (H' := H1) (r.grow g').1 i (fun b o eb => by
        have eb : (if b = q then none else H1 b) = some o := eb
        by_cases hb : b = q
        · rw [if_pos hb] at eb; cases eb
        · rw [if_neg hb] at eb; exact eb) (by show (if q = q then none else H1 q) = none; rw [if_pos rfl]) h1 h2, (r.grow g').2⟩
def parO (oi oj : Bool) (i j : Nat) (ma mb : Ev → R PyData) : SM := fun ρ => (ma ρ).bind fun d => (mb ρ).bind fun d2 => (slOf oi d).bind fun x => (slOf oj d2).bind fun y => .ok (.nx ((ρ.set i x).set j y))
theorem slOf_ne {own : Bool} {d : PyData} {c : String} : slOf own d ≠ .err c := fun h => by
  unfold slOf at h
  split at h
  · split at h <;> cases h
  · cases h
theorem xs_parO {oi oj : Bool} {i j : Nat} {y : Str} {ma mb : Ev → R PyData} {px py pt : Pos} {kt k2 : Nat} {pt2 : Pos} (hc : X.calm = true) (hN : X.N.Nodup) (hi : X.N[i]? = some x) (hj : X.N[j]? = some y) (hij : i ≠ j)
    (hx : X.env.scope.names.lookup x = some .local) (hy : X.env.scope.names.lookup y = some .local)
    (ha : PE X a (tM X.K We (pOw X.K oi) ma)) (hb : PE X b (tM X.K We (pOw X.K oj) mb))
    (h1 : starEach [a, b] X.env = (false, eval a X.env) :: starEach [b] X.env) (h2 : starEach [b] X.env = (false, eval b X.env) :: starEach [] X.env)
    (hw : swappedStores [.Tuple [.Name x px, .Name y py] kt pt] (.Tuple [a, b] k2 pt2) X.env = pure (some [x, y]))
    (hs : swapsWithSole [.Tuple [.Name x px, .Name y py] kt pt] (.Tuple [a, b] k2 pt2) pos.line X.env = pure false) :
    XS X We (.Assign [.Tuple [.Name x px, .Name y py] kt pt] (.Tuple [a, b] k2 pt2) pos) (parO oi oj i j ma mb) :=
  ps_imp (ps_par hc hN hi hj hij hx hy (pa_cons ha (pa_cons hb pa_nil h2) h1) hw hs) fun D σ H q => by
    obtain ⟨ρ, F, G, r, q⟩ := q
    refine ⟨ρ, F, G, r, ?_⟩
    have q : PoS X.K We F G ((ma ρ).bind fun d => (mb ρ).bind fun d2 => (slOf oi d).bind fun x => (slOf oj d2).bind fun y => .ok (.nx ((ρ.set i x).set j y))) D := q
    cases hma : ma ρ with
    | err c => rw [hma] at q; exact fun H' l => q σ G H' (Le.refl G) (r.gh.trans l)
    | bad => rw [hma] at q; exact q.elim
    | ok d =>
      rw [hma, bind_ok] at q
      intro v F1 H1 g1 p1
      refine ⟨ρ, F1, _, (r.grow g1).1, ?_⟩
      have q0 := PoS.step (r.grow g1).2 q
      cases hmb : mb ρ with
      | err c => rw [hmb] at q0; exact fun H' l => q0 σ _ H' (Le.refl _) ((r.grow g1).1.gh.trans l)
      | bad => rw [hmb] at q0; exact q0.elim
      | ok d2 =>
        rw [hmb, bind_ok] at q
        intro w F2 H2 g2 p2
        cases hsx : slOf oi d with
        | err c => exact (slOf_ne hsx).elim
        | bad => rw [hsx] at q; exact q.elim
        | ok sx =>
          rw [hsx, bind_ok] at q
          cases hsy : slOf oj d2 with
          | err c => exact (slOf_ne hsy).elim
          | bad => rw [hsy] at q; exact q.elim
          | ok sy =>
            rw [hsy, bind_ok] at q
            obtain ⟨G1, r1, s1⟩ := r.putO g1 p1 hsx i
            obtain ⟨G2, r2, s2⟩ := r1.putO g2 p2 hsy j
            exact ⟨v, w, rfl, PoS.step (s1.trans s2) q _ F2 G2 H2 r2 (GrS.refl _ _)⟩
end
@[simp] theorem parO_ap (oi oj : Bool) (i j : Nat) (ma mb : Ev → R PyData) (ρ : Ev) (a b : PyData) (x y : Sl) (h : ma ρ = .ok a) (h2 : mb ρ = .ok b) (hx : slOf oi a = .ok x) (hy : slOf oj b = .ok y) : parO oi oj i j ma mb ρ = .ok (.nx ((ρ.set i x).set j y)) := by
  unfold parO
  rw [h, bind_ok, h2, bind_ok, hx, bind_ok, hy]
  rfl
end PD
namespace PD
open PySem PySem.Spec PyProof.Rows L2 PySem.W
section
variable {α : Type} [DecidableEq α] [DatumOrd α]
theorem maxOf_spec : ∀ (xs : List α) (x : α), maxOf x xs ∈ x :: xs ∧ ∀ y ∈ x :: xs, DatumOrd.lt (maxOf x xs) y = false
  | [], x => ⟨by simp [maxOf], fun y hy => by
      cases List.mem_singleton.mp hy
      exact lt_irr _⟩
  | z :: zs, x => by
    have e : maxOf x (z :: zs) = maxOf (if DatumOrd.lt x z = true then z else x) zs := rfl
    rw [e]
    obtain ⟨h1, h2⟩ := maxOf_spec zs (if DatumOrd.lt x z = true then z else x)
    have hs := h2 _ (List.mem_cons_self ..)
    have le2 : ∀ y : α, DatumOrd.lt (if DatumOrd.lt x z = true then z else x) y = false → DatumOrd.lt (maxOf (if DatumOrd.lt x z = true then z else x) zs) y = false := fun y hy => by
      cases hc : DatumOrd.lt (maxOf (if DatumOrd.lt x z = true then z else x) zs) y with
      | false => rfl
      | true =>
        rcases lt_neg (if DatumOrd.lt x z = true then z else x) hc with h | h
        · rw [hs] at h; cases h
        · rw [hy] at h; cases h
    refine ⟨?_, fun y hy => ?_⟩
    · rcases List.mem_cons.mp h1 with h | h
      · rw [h]
        by_cases hz : DatumOrd.lt x z = true
        · rw [if_pos hz]; simp
        · rw [if_neg hz]; simp
      · simp [h]
    · rcases List.mem_cons.mp hy with rfl | hy
      · refine le2 _ ?_
        by_cases hz : DatumOrd.lt y z = true
        · rw [if_pos hz]
          cases hc : DatumOrd.lt z y with
          | false => rfl
          | true =>
            have := lt_tr hz hc
            rw [lt_irr] at this
            cases this
        · rw [if_neg hz]; exact lt_irr _
      · rcases List.mem_cons.mp hy with rfl | hy
        · refine le2 _ ?_
          by_cases hz : DatumOrd.lt x y = true
          · rw [if_pos hz]; exact lt_irr _
          · rw [if_neg hz]; simpa using hz
        · exact h2 y (by simp [hy])
theorem minT_t (h : Datum.depth α ≤ 60) (x : α) (xs : List α) : PD.minD [.tuple ((x :: xs).map Datum.toD)] = .ok (Datum.toD (minOf x xs)) := by
  have := alikeOk_t h (x :: xs)
  rw [List.map_cons] at this ⊢
  show (if alikeOk (Datum.toD x :: xs.map Datum.toD) = true then R.ok (PySem.W.minD (Datum.toD x) (xs.map Datum.toD)) else .bad) = _
  rw [if_pos this, minD_map]
theorem maxT_t (h : Datum.depth α ≤ 60) (x : α) (xs : List α) : PD.maxD [.tuple ((x :: xs).map Datum.toD)] = .ok (Datum.toD (maxOf x xs)) := by
  have := alikeOk_t h (x :: xs)
  rw [List.map_cons] at this ⊢
  show (if alikeOk (Datum.toD x :: xs.map Datum.toD) = true then R.ok (PySem.W.maxD (Datum.toD x) (xs.map Datum.toD)) else .bad) = _
  rw [if_pos this, maxD_map]
end
theorem lt_int (a b : Int) : DatumOrd.lt a b = decide (a < b) := rfl
theorem maxOf_int {x : Int} {xs : List Int} {y : Int} (h : y ∈ x :: xs) : y ≤ maxOf x xs := by
  have := (maxOf_spec xs x).2 y h
  rw [lt_int] at this
  have := of_decide_eq_false this
  omega
theorem minOf_int {x : Int} {xs : List Int} {y : Int} (h : y ∈ x :: xs) : minOf x xs ≤ y := by
  have := (minOf_spec xs x).2 y h
  rw [lt_int] at this
  have := of_decide_eq_false this
  omega
end PD
namespace PD
open PySem PySem.Spec PyProof.Rows L2
/-! ## what is not told -/
section
variable {X : Cx} {We : EW} {e a b c : Expr} {es : List Expr} {pos p p2 q : Pos} {st : Stmt} {x : Str}
def badE {α : Type} (_ : Ev) : R α := .bad
theorem xe_bad : XE X We e badE := ⟨fun pins s σ H Q I h => by obtain ⟨ρ, F, G, r, q⟩ := h; exact q.elim⟩
theorem xb_bad : XB X We e badE := ⟨fun pins s σ H Q I h => by obtain ⟨ρ, F, G, r, q⟩ := h; exact q.elim⟩
theorem xf_bad : XF X We e badE := ⟨fun pins s σ H Q I h => by obtain ⟨ρ, F, G, r, q⟩ := h; exact q.elim⟩
theorem xt_bad : XT X We e badE := ⟨fun pins s σ H Q I h => by obtain ⟨ρ, F, G, r, q⟩ := h; exact q.elim⟩
theorem xs_bad : XS X We st badE := ⟨fun pins s σ H D I h => by obtain ⟨ρ, F, G, r, q⟩ := h; exact q.elim⟩
end
/-! ## sorted(set(pairs)) -/
abbrev PI2 := Int × Int
def pLt (a b : PI2) : Prop := a.1 < b.1 ∨ a.1 = b.1 ∧ a.2 < b.2
instance (a b : PI2) : Decidable (pLt a b) := inferInstanceAs (Decidable (_ ∨ _))
def insD (x : PI2) : List PI2 → List PI2
  | [] => [x]
  | y :: ys => if pLt x y then x :: y :: ys else if x = y then y :: ys else y :: insD x ys
def sortD2 (ps : List PI2) : List PI2 := ps.foldr insD []
theorem pLt_tr {a b c : PI2} (h : pLt a b) (h2 : pLt b c) : pLt a c := by unfold pLt at *; omega
theorem pLt_irr {a : PI2} : ¬ pLt a a := by unfold pLt; omega
theorem pLt_tot {a b : PI2} (h : ¬ pLt a b) (h2 : ¬ a = b) : pLt b a := by
  have : ¬ (a.1 = b.1 ∧ a.2 = b.2) := fun z => h2 (Prod.ext z.1 z.2)
  unfold pLt at *
  omega
theorem insD_mem (x z : PI2) : ∀ ys, z ∈ insD x ys ↔ z = x ∨ z ∈ ys
  | [] => by simp [insD]
  | y :: ys => by
    unfold insD
    split
    · simp
    · split
      · rename_i h; subst h; simp
      · rw [List.mem_cons, insD_mem x z ys, List.mem_cons]
        constructor
        · rintro (h | h | h) <;> simp [h]
        · rintro (h | h | h) <;> simp [h]
theorem insD_pw (x : PI2) : ∀ ys : List PI2, ys.Pairwise pLt → (insD x ys).Pairwise pLt
  | [], _ => by simp [insD]
  | y :: ys, h => by
    obtain ⟨h1, h2⟩ := List.pairwise_cons.mp h
    unfold insD
    split
    · rename_i hx
      refine List.pairwise_cons.mpr ⟨fun z hz => ?_, h⟩
      rcases List.mem_cons.mp hz with rfl | hz
      · exact hx
      · exact pLt_tr hx (h1 z hz)
    · rename_i hx
      split
      · exact h
      · rename_i hne
        refine List.pairwise_cons.mpr ⟨fun z hz => ?_, insD_pw x ys h2⟩
        rcases (insD_mem x z ys).mp hz with rfl | hz
        · exact pLt_tot hx hne
        · exact h1 z hz
theorem sortD2_mem (z : PI2) : ∀ ps, z ∈ sortD2 ps ↔ z ∈ ps
  | [] => by simp [sortD2]
  | p :: ps => by
    show z ∈ insD p (sortD2 ps) ↔ _
    rw [insD_mem, sortD2_mem z ps, List.mem_cons]
theorem sortD2_pw : ∀ ps, (sortD2 ps).Pairwise pLt
  | [] => .nil
  | p :: ps => insD_pw p _ (sortD2_pw ps)
theorem sortD2_len : ∀ ps, (sortD2 ps).length ≤ ps.length
  | [] => Nat.le_refl _
  | p :: ps => by
    have h := sortD2_len ps
    have : ∀ ys : List PI2, (insD p ys).length ≤ ys.length + 1 := fun ys => by
      induction ys with
      | nil => simp [insD]
      | cons y ys ih =>
        unfold insD
        split
        · simp
        · split
          · simp
          · simp only [List.length_cons]; omega
    have h2 := this (sortD2 ps)
    rw [List.length_cons]
    show (insD p (sortD2 ps)).length ≤ _
    omega
theorem sortD2_uniq {ps qs : List PI2} (h : qs.Pairwise pLt) (hm : ∀ z, z ∈ qs ↔ z ∈ ps) : qs = sortD2 ps := by
  have nd : ∀ l : List PI2, l.Pairwise pLt → l.Nodup := fun l hl => hl.imp fun q e => by subst e; exact pLt_irr q
  refine List.Perm.eq_of_pairwise (le := pLt) (fun a b _ _ p q => absurd (pLt_tr p q) pLt_irr) h (sortD2_pw ps) ?_
  exact (List.perm_ext_iff_of_nodup (nd _ h) (nd _ (sortD2_pw ps))).mpr fun z => by rw [hm, sortD2_mem]
def encP (p : PI2) : PyData := .tuple [.int p.1, .int p.2]
def asP : PyData → Option PI2
  | .tuple [.int x, .int y] => if 0 ≤ x ∧ x < 2048 ∧ 0 ≤ y ∧ y < 2048 then some (x, y) else none
  | _ => none
def asPs : List PyData → Option (List PI2)
  | [] => some []
  | d :: ds => match asP d, asPs ds with
    | some p, some ps => some (p :: ps)
    | _, _ => none
def ssD : PyData → R PyData
  | .list ds => match asPs ds with
    | some ps => if ds.length < 64 then .ok (.list ((sortD2 ps).map encP)) else .bad
    | none => .bad
  | _ => .bad
def ssE (m : Ev → R PyData) (ρ : Ev) : R PyData := (m ρ).bind ssD
theorem asP_un {d : PyData} {p : PI2} (h : asP d = some p) : d = encP p ∧ 0 ≤ p.1 ∧ p.1 < 2048 ∧ 0 ≤ p.2 ∧ p.2 < 2048 := by
  unfold asP at h
  split at h
  · split at h
    · cases h; rename_i z; exact ⟨rfl, z⟩
    · cases h
  · cases h
theorem asPs_un : ∀ {ds : List PyData} {ps : List PI2}, asPs ds = some ps → ds = ps.map encP ∧ ∀ p ∈ ps, 0 ≤ p.1 ∧ p.1 < 2048 ∧ 0 ≤ p.2 ∧ p.2 < 2048
  | [], ps, h => by cases h; exact ⟨rfl, fun p hp => by cases hp⟩
  | d :: ds, ps, h => by
    unfold asPs at h
    split at h
    · rename_i p ps' h1 h2
      cases h
      obtain ⟨e1, b1⟩ := asP_un h1
      obtain ⟨e2, b2⟩ := asPs_un h2
      refine ⟨by rw [List.map_cons, ← e1, ← e2], fun q hq => ?_⟩
      rcases List.mem_cons.mp hq with rfl | hq
      · exact b1
      · exact b2 q hq
    · cases h
theorem asPs_of : ∀ {ps : List PI2}, (∀ p ∈ ps, 0 ≤ p.1 ∧ p.1 < 2048 ∧ 0 ≤ p.2 ∧ p.2 < 2048) → asPs (ps.map encP) = some ps
  | [], _ => rfl
  | p :: ps, h => by
    have h1 := h p (by simp)
    have h2 := asPs_of (ps := ps) fun q hq => h q (by simp [hq])
    rw [List.map_cons]
    unfold asPs
    have : asP (encP p) = some p := by
      show (if _ then some (p.1, p.2) else none) = some p
      rw [if_pos h1]
    rw [this, h2]
theorem ssD_ok {ps : List PI2} (h : ∀ p ∈ ps, 0 ≤ p.1 ∧ p.1 < 2048 ∧ 0 ≤ p.2 ∧ p.2 < 2048) (hl : ps.length < 64) : ssD (.list (ps.map encP)) = .ok (.list ((sortD2 ps).map encP)) := by
  show (match asPs (ps.map encP) with
    | some qs => if (ps.map encP).length < 64 then R.ok (PyData.list ((sortD2 qs).map encP)) else .bad
    | none => .bad) = _
  rw [asPs_of h]
  show (if (ps.map encP).length < 64 then R.ok (PyData.list ((sortD2 ps).map encP)) else .bad) = _
  rw [List.length_map, if_pos hl]
theorem ks_of {K : PySem.W.Frag} {F : Hp} : ∀ {vs : List V} {ps : List PI2}, DpAll K F vs (ps.map encP) → ∃ as : List Addr, as.length = ps.length ∧ vs = (as.zip ps).map (fun q => V.ref q.1) ∧ ∀ q ∈ as.zip ps, SqT K F q.1 [V.int q.2.1, V.int q.2.2]
  | _, [], h => by cases h; exact ⟨[], rfl, rfl, fun q hq => by cases hq⟩
  | _, p :: ps, h => by
    cases h with
    | cons h1 h2 =>
      obtain ⟨as, hl, rfl, hs⟩ := ks_of h2
      cases h1 with
      | tup hq hd =>
        rename_i a us
        cases hd with
        | cons d1 d2 =>
          cases d2 with
          | cons d2 d3 =>
            cases d3
            cases d1; cases d2
            refine ⟨a :: as, by rw [List.length_cons, List.length_cons, hl], rfl, fun q hq' => ?_⟩
            rcases List.mem_cons.mp hq' with rfl | hq'
            · exact hq
            · exact hs q hq'
section
variable {X : Cx} {We : EW} {e a b c : Expr} {es : List Expr} {pos p p2 q : Pos} {st : Stmt} {x : Str}
theorem xf_ss {m : Ev → R PyData} (hc : X.calm = true) (hu : X.A.units + 65 < cLine) (hg : Gl X "sorted") (hm : X.mg "sorted" = none) (hg2 : Gl X "set") (hm2 : X.mg "set" = none) (ha : XB X We a m)
    (na : starEach [a] X.env = (false, eval a X.env) :: starEach [] X.env) (na2 : starEach [.Call (.Name "set" p2) [a] [] q] X.env = (false, eval (.Call (.Name "set" p2) [a] [] q) X.env) :: starEach [] X.env)
    (np : (backTo q (starEach [] X.env)).any (·.1) = false) (np2 : (backTo pos (starEach [] X.env)).any (·.1) = false) :
    XF X We (.Call (.Name "sorted" p) [.Call (.Name "set" p2) [a] [] q] [] pos) (ssE m) :=
  pe_imp (pe_callB (cr_sortedT hc) hg hm (by decide +kernel) (pa_cons (pe_callTy (cr_setOfT hc (by omega)) hg2 hm2 PyProof.Rows.boot_set (pa_cons ha pa_nil na) (by decide) (by decide) na np) pa_nil na2) (by decide) (by decide) na2 np2) fun σ H Q q => by
    obtain ⟨ρ, F, G, r, q⟩ := q
    refine ⟨ρ, F, G, r, Po.bind (P := pB X.K) q fun d v F1 H1 g1 p1 q1 => ?_⟩
    unfold ssD at q1
    split at q1
    · rename_i ds
      split at q1
      · rename_i ps hps
        split at q1
        · rename_i hlen
          obtain ⟨hds, hbd⟩ := asPs_un hps
          obtain ⟨l, vs, rfl, hl, hvs⟩ := p1.list g1.le
          rw [hds] at hvs
          obtain ⟨as, hal, rfl, hsq⟩ := ks_of hvs
          have hz : (as.zip ps).map (·.2) = ps := List.map_snd_zip (by omega)
          refine ⟨l, (as.zip ps).map fun q => (q.1, [q.2.1, q.2.2]), rfl, by rw [List.map_map]; exact hl, fun k hk => ?_, ?_, fun s L ns hsub hall => ?_⟩
          · obtain ⟨z, hz, rfl⟩ := List.mem_map.mp hk
            exact (hsq z hz).le g1.le
          · rw [List.length_map, List.length_zip, hal, Nat.min_self, ← List.length_map encP, ← hds]; exact hlen
          · have hk2 : ∀ k ∈ L, ∃ z ∈ as.zip ps, k = (z.1, [z.2.1, z.2.2]) := fun k hk => by
              obtain ⟨z, hz, rfl⟩ := List.mem_map.mp (hsub k hk)
              exact ⟨z, hz, rfl⟩
            have inps : ∀ z ∈ as.zip ps, z.2 ∈ ps := fun z hzz => by rw [← hz]; exact List.mem_map_of_mem hzz
            have l2 : Le H1 (upd H1 s (SetTO X.prog X.w s L)) := Le.upd ns
            refine ⟨s, L, 2, 2048, rfl, upd_same, fun k hk => ?_, by decide, fun k hk => ?_, fun L' t pm nd h64 pw nt => ?_⟩
            · obtain ⟨z, hzz, rfl⟩ := hk2 k hk
              exact ((hsq z hzz).le g1.le).le l2
            · obtain ⟨z, hzz, rfl⟩ := hk2 k hk
              have hb := hbd _ (inps z hzz)
              refine ⟨rfl, fun y hy => ?_⟩
              simp only [List.mem_cons, List.not_mem_nil, or_false] at hy
              rcases hy with rfl | rfl <;> omega
            · -- the rows as pairs
              have hk3 : ∀ k ∈ L', ∃ z ∈ as.zip ps, k = (z.1, [z.2.1, z.2.2]) := fun k hk => hk2 k (pm.mem_iff.mp hk)
              let pr : Addr × List Int → PI2 := fun k => (k.2.getD 0 0, k.2.getD 1 0)
              have hpr : ∀ k ∈ L', k.2 = [(pr k).1, (pr k).2] ∧ pr k ∈ ps ∧ SqT X.K F1 k.1 [V.int (pr k).1, V.int (pr k).2] := fun k hk => by
                obtain ⟨z, hzz, rfl⟩ := hk3 k hk
                exact ⟨rfl, inps z hzz, hsq z hzz⟩
              have hsorted : L'.map pr = sortD2 ps := by
                refine sortD2_uniq ?_ fun z => ?_
                · rw [List.pairwise_map]
                  have nd' : L'.Pairwise fun k k' => k.2 ≠ k'.2 := List.pairwise_map.mp nd
                  refine List.Pairwise.imp_of_mem (fun {k k'} hk hk' h => ?_) (pw.and nd')
                  obtain ⟨e1, m1, _⟩ := hpr k hk
                  obtain ⟨e2, m2, _⟩ := hpr k' hk'
                  have b1 := hbd _ m1
                  have b2 := hbd _ m2
                  have hne : pr k ≠ pr k' := fun z => h.2 (by rw [e1, e2, z])
                  have hle := h.1
                  rw [e1, e2] at hle
                  have := code_lex (B := 2048) (fun y hy => by
                    simp only [List.mem_cons, List.not_mem_nil, or_false] at hy
                    rcases hy with rfl | rfl <;> omega) (fun y hy => by
                    simp only [List.mem_cons, List.not_mem_nil, or_false] at hy
                    rcases hy with rfl | rfl <;> omega) hle
                  have hne2 : ¬ ((pr k).1 = (pr k').1 ∧ (pr k).2 = (pr k').2) := fun z => hne (Prod.ext z.1 z.2)
                  show pLt (pr k) (pr k')
                  unfold pLt
                  omega
                · constructor
                  · intro hm
                    obtain ⟨k, hk, rfl⟩ := List.mem_map.mp hm
                    exact (hpr k hk).2.1
                  · intro hm
                    rw [← hz] at hm
                    obtain ⟨w, hw, rfl⟩ := List.mem_map.mp hm
                    have := hall _ (List.mem_map_of_mem hw)
                    obtain ⟨k, hk, e⟩ := List.mem_map.mp this
                    have hk' := pm.mem_iff.mpr hk
                    refine List.mem_map.mpr ⟨k, hk', ?_⟩
                    show (k.2.getD 0 0, k.2.getD 1 0) = w.2
                    have e : k.2 = [w.2.1, w.2.2] := e
                    rw [e]
                    rfl
              have nt1 : H1 t = none := l2.none nt
              have nt0 : F1 t = none := g1.le.none nt1
              have hds : DpAll X.K F1 (L'.map fun q => V.ref q.1) ((sortD2 ps).map encP) := by
                rw [← hsorted, List.map_map]
                have : ∀ l : List (Addr × List Int), (∀ k ∈ l, k ∈ L') → DpAll X.K F1 (l.map fun q => V.ref q.1) (l.map (encP ∘ pr)) := fun l => by
                  induction l with
                  | nil => exact fun _ => .nil
                  | cons k l ih =>
                    intro hl
                    refine .cons ?_ (ih fun k' hk' => hl k' (by simp [hk']))
                    exact .tup (hpr k (hl k (by simp))).2.2 (.cons (.int _) (.cons (.int _) .nil))
                exact this L' fun _ h => h
              refine q1 (.ref t) F1 _ ((Gr.own g1.le ns).trans (Gr.own (g1.le.trans l2) nt)) ⟨t, _, _, rfl, rfl, nt1, nt0, upd_same, hds⟩
        · exact q1.elim
      · exact q1.elim
    · exact q1.elim
end
@[simp] theorem ssE_ap (m : Ev → R PyData) (ρ : Ev) : ssE m ρ = (m ρ).bind ssD := (rfl)
end PD
namespace PD
open PySem PySem.Spec PyProof.Rows L2 PySem.W
theorem eq_self {d : PyData} (h : shp d = true) : eqD d d = .ok (.bool true) := by
  show (if _ then _ else _) = _
  rw [if_pos ⟨h, h⟩, PySem.SeqAt.eqv_refl_plain d (shp_un h).1]
theorem ne_self {d : PyData} (h : shp d = true) : neD d d = .ok (.bool false) := by
  show (if _ then _ else _) = _
  rw [if_pos ⟨h, h⟩, PySem.SeqAt.eqv_refl_plain d (shp_un h).1]
  rfl
/-! ## drawn numbers -/
def dN (ds : List Int) (i : Nat) : Nat := (ds.getD i 0).toNat
theorem dN_int {ds : List Int} (hd : ∀ x ∈ ds, Draw x) {i : Nat} (h : i < ds.length) : ds[i] = (dN ds i : Int) := by
  have h1 := hd _ (List.getElem_mem h)
  unfold dN
  rw [List.getD_eq_getElem?_getD, List.getElem?_eq_getElem h]
  exact (Int.toNat_of_nonneg h1.1).symm
theorem dN_lt {ds : List Int} (hd : ∀ x ∈ ds, Draw x) {i : Nat} (h : i < ds.length) : dN ds i < 65521 := by
  have h1 := hd _ (List.getElem_mem h)
  have h2 := dN_int hd h
  have := h1.2
  omega
theorem drw {ds : List Int} {n : Nat} (hl : ds.length = n) (hd : ∀ x ∈ ds, Draw x) {i : Nat} (h : i < n) : ixD (.list (ds.map .int)) (.int (i : Int)) = .ok (.int (dN ds i)) := by
  have h : i < ds.length := by omega
  rw [ixL (by rw [List.length_map]; exact h), List.getElem_map, dN_int hd h]
end PD
namespace PD
open PySem PySem.Spec PyProof.Rows L2
/-! ## is, with a bool -/
def isBD : PyData → PyData → R PyData
  | .bool a, .bool b => .ok (.bool (a == b))
  | _, _ => .bad
def notBD : PyData → PyData → R PyData
  | .bool a, .bool b => .ok (.bool (a != b))
  | _, _ => .bad
theorem isBD_p : Pure2 isBD := fun d e c h => by unfold isBD at h; split at h <;> cases h
theorem notBD_p : Pure2 notBD := fun d e c h => by unfold notBD at h; split at h <;> cases h
@[simp] theorem isB_bb (a b : Bool) : isBD (.bool a) (.bool b) = .ok (.bool (a == b)) := (rfl)
@[simp] theorem notB_bb (a b : Bool) : notBD (.bool a) (.bool b) = .ok (.bool (a != b)) := (rfl)
section
variable {X : Cx} {We : EW} {e a b c d : Expr} {pos : Pos}
theorem opx_isB : OpR X (compareOp .Is) (rO X.K isBD) := by
  intro pins s σ H x y v u Q I rx ry h
  obtain ⟨F, d, e, c, l, pd, pe, hf, q⟩ := h
  unfold isBD at hf
  split at hf
  · cases hf
    have e1 := pd.bool
    have e2 := pe.bool
    subst e1; subst e2
    rename_i a b
    cases rx; cases ry
    exact PyProof.Rows.is_bool ⟨.bl (a == b), H, I, rfl, q _ F H (Gr.refl l) (.bl _)⟩
  · cases hf
theorem opx_isnotB : OpR X (compareOp .IsNot) (rO X.K notBD) := by
  intro pins s σ H x y v u Q I rx ry h
  obtain ⟨F, d, e, c, l, pd, pe, hf, q⟩ := h
  unfold notBD at hf
  split at hf
  · cases hf
    have e1 := pd.bool
    have e2 := pe.bool
    subst e1; subst e2
    rename_i a b
    cases rx; cases ry
    exact PyProof.Rows.isnot_bool ⟨.bl (a != b), H, I, rfl, q _ F H (Gr.refl l) (.bl _)⟩
  · cases hf
/-! ## three comparisons in a row -/
def tChain3 (r r' r'' : R2) (ta tb tc td : TE) : TE := fun σ H Q => ta σ H fun x H1 => tb σ H1 fun y H2 => r x y H2 fun z H3 => ∃ k, z = .bl k ∧
  (if k = true then tc σ H3 fun w H4 => r' y w H4 fun z2 H5 => ∃ k2, z2 = .bl k2 ∧ (if k2 = true then td σ H5 fun w2 H6 => r'' w w2 H6 Q else Q (.bl false) H5) else Q (.bl false) H3)
theorem pe_chain3 {op op' op'' : CmpOp} {r r' r'' : R2} {ta tb tc td : TE} (ho : OpR X (compareOp op) r) (ho' : OpR X (compareOp op') r') (ho'' : OpR X (compareOp op'') r'') (ha : PE X a ta) (hb : PE X b tb) (hc : PE X c tc) (hd : PE X d td)
    (hm : lastMarks [op, op', op''] [b, c, d] = false) : PE X (.Compare a [op, op', op''] [b, c, d] pos) (tChain3 r r' r'' ta tb tc td) := by
  refine ⟨fun pins s σ H Q I h => ?_⟩
  refine Compare_chain (thn (ha.run pins s σ H _ I h) fun v s1 ⟨x, H1, I1, r1, q1⟩ => chain_link (thn (hb.run pins s1 σ H1 _ I1 q1) fun u s2 ⟨y, H2, I2, r2, q2⟩ =>
    thn (ho pins s2 σ H2 x y v u _ I2 r1 r2 q2) fun d s3 ⟨z, H3, I3, r3, k, e, q3⟩ => ?_)) hm
  subst e
  cases r3
  refine wpAny_truthy_bool ?_
  cases k with
  | false => exact ite_ff ⟨.bl false, H3, I3, rfl, q3⟩
  | true =>
    refine ite_tt (chain_link (thn (hc.run pins s3 σ H3 _ I3 q3) fun w' s4 ⟨z', H4, I4, r4, q4⟩ => thn (ho' pins s4 σ H4 y z' u w' _ I4 r2 r4 q4) fun d' s5 ⟨z2, H5, I5, r5, k2, e2, q5⟩ => ?_))
    subst e2
    cases r5
    refine wpAny_truthy_bool ?_
    cases k2 with
    | false => exact ite_ff ⟨.bl false, H5, I5, rfl, q5⟩
    | true => exact ite_tt (chain_last (thn (hd.run pins s5 σ H5 _ I5 q5) fun w2 s6 ⟨z6, H6, I6, r6, q6⟩ => ho'' pins s6 σ H6 z' z6 w' w2 Q I6 r4 r6 q6))
theorem pt_chain3 {op op' op'' : CmpOp} {r r' r'' : R2} {ta tb tc td : TE} (ho : OpR X (compareOp op) r) (ho' : OpR X (compareOp op') r') (ho'' : OpR X (compareOp op'') r'') (ha : PE X a ta) (hb : PE X b tb) (hc : PE X c tc) (hd : PE X d td)
    (hm : lastMarks [op, op', op''] [b, c, d] = false) : PT X (.Compare a [op, op', op''] [b, c, d] pos) (tTest (tChain3 r r' r'' ta tb tc td)) := by
  refine ⟨fun pins s σ H Q I h => ?_⟩
  refine isTrue_chain (thn (ha.run pins s σ H _ I h) fun v s1 ⟨x, H1, I1, r1, q1⟩ => test_link (thn (hb.run pins s1 σ H1 _ I1 q1) fun u s2 ⟨y, H2, I2, r2, q2⟩ =>
    thn (ho pins s2 σ H2 x y v u _ I2 r1 r2 q2) fun d s3 ⟨z, H3, I3, r3, k, e, q3⟩ => ?_)) hm
  subst e
  cases r3
  refine wpAny_truthy_bool ?_
  cases k with
  | false =>
    obtain ⟨k', e', q'⟩ := q3
    cases e'
    exact ite_ff ⟨H3, I3, q'⟩
  | true =>
    refine ite_tt (test_link (thn (hc.run pins s3 σ H3 _ I3 q3) fun w' s4 ⟨z', H4, I4, r4, q4⟩ => thn (ho' pins s4 σ H4 y z' u w' _ I4 r2 r4 q4) fun d' s5 ⟨z2, H5, I5, r5, k2, e2, q5⟩ => ?_))
    subst e2
    cases r5
    refine wpAny_truthy_bool ?_
    cases k2 with
    | false =>
      obtain ⟨k', e', q'⟩ := q5
      cases e'
      exact ite_ff ⟨H5, I5, q'⟩
    | true =>
      refine ite_tt (test_last (thn (hd.run pins s5 σ H5 _ I5 q5) fun w2 s6 ⟨z6, H6, I6, r6, q6⟩ => thn (ho'' pins s6 σ H6 z' z6 w' w2 _ I6 r4 r6 q6) fun d2 s7 ⟨z7, H7, I7, r7, k3, e3, q7⟩ => ?_))
      subst e3
      cases r7
      exact wpAny_truthy_bool ⟨H7, I7, q7⟩
def chain3E (f g h : PyData → PyData → R PyData) (ma mb mc md : Ev → R PyData) (ρ : Ev) : R PyData :=
  (ma ρ).bind fun x => (mb ρ).bind fun y => (f x y).bind fun k => (boolD k).bind fun t => if t = true then (mc ρ).bind fun z => (g y z).bind fun k2 => (boolD k2).bind fun t2 => if t2 = true then (md ρ).bind fun w => h z w else .ok (.bool false) else .ok (.bool false)
theorem chain3_red {f g h : PyData → PyData → R PyData} {ma mb mc md : Ev → R PyData} (pf : Pure2 f) (pg : Pure2 g) (ph : Pure2 h) {σ : St} {H : Hp} {Q : VK} (q : tM X.K We (pD X.K) (chain3E f g h ma mb mc md) σ H Q) :
    tChain3 (rO X.K f) (rO X.K g) (rO X.K h) (tM X.K We (pB X.K) ma) (tM X.K We (pB X.K) mb) (tM X.K We (pB X.K) mc) (tM X.K We (pB X.K) md) σ H Q := by
  obtain ⟨ρ, F, G, r, q⟩ := q
  refine ⟨ρ, F, G, r, Po.bind (P := pB X.K) q fun d x F1 H1 g1 p1 q1 => ?_⟩
  refine ⟨ρ, F1, _, (r.grow g1).1, Po.bind (P := pB X.K) q1 fun e y F2 H2 g2 p2 q2 => ?_⟩
  have r2 := (((r.grow g1).1).grow g2).1
  cases hf : f d e with
  | err c => exact absurd hf (pf d e c)
  | bad => rw [hf] at q2; exact q2.elim
  | ok k =>
    rw [hf] at q2
    refine ⟨F2, d, e, k, g2.le, p1.grow g2, p2, hf, fun v F' H' g' pv => ?_⟩
    have q3 : Po We (pD X.K) F2 H2 σ ((boolD k).bind fun t => if t = true then (mc ρ).bind fun z => (g e z).bind fun k2 => (boolD k2).bind fun t2 => if t2 = true then (md ρ).bind fun w => h z w else .ok (.bool false) else .ok (.bool false)) Q := q2
    cases hb : boolD k with
    | err c => exact absurd hb (boolD_p k c)
    | bad => rw [hb] at q3; exact q3.elim
    | ok t =>
      have ek := boolD_ok hb
      subst ek
      cases pv
      refine ⟨t, rfl, ?_⟩
      rw [hb] at q3
      have q4 : Po We (pD X.K) F' H' σ (if t = true then (mc ρ).bind fun z => (g e z).bind fun k2 => (boolD k2).bind fun t2 => if t2 = true then (md ρ).bind fun w => h z w else .ok (.bool false) else .ok (.bool false)) Q := Po.step g' q3
      cases t with
      | false => exact q4 (.bl false) F' H' (Gr.refl g'.le) (.bl false)
      | true =>
        have rr := (r2.grow g').1
        refine ⟨ρ, F', _, rr, Po.bind (P := pB X.K) q4 fun z w F3 H3 g3 p3 q5 => ?_⟩
        cases hg : g e z with
        | err c => exact absurd hg (pg e z c)
        | bad => rw [hg] at q5; exact q5.elim
        | ok k2 =>
          rw [hg] at q5
          refine ⟨F3, e, z, k2, g3.le, (p2.grow g').grow g3, p3, hg, fun v2 F4 H4 g4 pv2 => ?_⟩
          have q6 : Po We (pD X.K) F3 H3 σ ((boolD k2).bind fun t2 => if t2 = true then (md ρ).bind fun w => h z w else .ok (.bool false)) Q := q5
          cases hb2 : boolD k2 with
          | err c => exact absurd hb2 (boolD_p k2 c)
          | bad => rw [hb2] at q6; exact q6.elim
          | ok t2 =>
            have ek2 := boolD_ok hb2
            subst ek2
            cases pv2
            refine ⟨t2, rfl, ?_⟩
            rw [hb2] at q6
            have q7 : Po We (pD X.K) F4 H4 σ (if t2 = true then (md ρ).bind fun w => h z w else .ok (.bool false)) Q := Po.step g4 q6
            cases t2 with
            | false => exact q7 (.bl false) F4 H4 (Gr.refl g4.le) (.bl false)
            | true =>
              refine ⟨ρ, F4, _, ((rr.grow g3).1.grow g4).1, Po.bind (P := pB X.K) q7 fun w2 y2 F5 H5 g5 p5 q8 => ?_⟩
              cases hh : h z w2 with
              | err c => exact absurd hh (ph z w2 c)
              | bad => rw [hh] at q8; exact q8.elim
              | ok u =>
                rw [hh] at q8
                exact ⟨F5, z, w2, u, g5.le, (p3.grow g4).grow g5, p5, hh, fun v F'' H'' gg pp => q8 v F'' H'' gg pp⟩
theorem xe_chain3 {op op' op'' : CmpOp} {f g h : PyData → PyData → R PyData} {ma mb mc md : Ev → R PyData} (pf : Pure2 f) (pg : Pure2 g) (ph : Pure2 h) (ho : OpR X (compareOp op) (rO X.K f)) (ho' : OpR X (compareOp op') (rO X.K g)) (ho'' : OpR X (compareOp op'') (rO X.K h))
    (hm : lastMarks [op, op', op''] [b, c, d] = false) (ha : XB X We a ma) (hb : XB X We b mb) (hc : XB X We c mc) (hd : XB X We d md) : XE X We (.Compare a [op, op', op''] [b, c, d] pos) (chain3E f g h ma mb mc md) :=
  pe_imp (pe_chain3 ho ho' ho'' ha hb hc hd hm) fun σ H Q q => chain3_red pf pg ph q
theorem xt_chain3 {op op' op'' : CmpOp} {f g h : PyData → PyData → R PyData} {ma mb mc md : Ev → R PyData} (pf : Pure2 f) (pg : Pure2 g) (ph : Pure2 h) (ho : OpR X (compareOp op) (rO X.K f)) (ho' : OpR X (compareOp op') (rO X.K g)) (ho'' : OpR X (compareOp op'') (rO X.K h))
    (hm : lastMarks [op, op', op''] [b, c, d] = false) (ha : XB X We a ma) (hb : XB X We b mb) (hc : XB X We c mc) (hd : XB X We d md) : XT X We (.Compare a [op, op', op''] [b, c, d] pos) (tvE (chain3E f g h ma mb mc md)) :=
  pt_imp (pt_chain3 ho ho' ho'' ha hb hc hd hm) fun σ H Q q => chain3_red pf pg ph (tv_test q)
end
@[simp] theorem chain3E_ap (f g h : PyData → PyData → R PyData) (ma mb mc md : Ev → R PyData) (ρ : Ev) : chain3E f g h ma mb mc md ρ = (ma ρ).bind fun x => (mb ρ).bind fun y => (f x y).bind fun k => (boolD k).bind fun t => if t = true then (mc ρ).bind fun z => (g y z).bind fun k2 => (boolD k2).bind fun t2 => if t2 = true then (md ρ).bind fun w => h z w else .ok (.bool false) else .ok (.bool false) := (rfl)
end PD
namespace PD
open PySem PySem.Spec PyProof.Rows L2
section
variable {X : Cx} {We : EW} {o e : Expr} {es : List Expr} {apos cpos : Pos} {name : Str}
/-! ## e.f(..): what e tells as an error -/
def recvE (mo : Ev → R PyData) (ρ : Ev) : R PyData := (mo ρ).bind fun _ => .bad
theorem xe_recv {mo : Ev → R PyData} (hbase : attributeBase o name X.env (eval o X.env) = eval o X.env)
    (hfew : ((backTo cpos (starEach (e :: es) X.env)).all (fun x => !x.1) && (backToKw cpos (keywordEach [] X.env)).all (fun x => x.1.isSome)
      && decide ((e :: es).length + ([] : List Keyword).length + (if ([] : List Keyword).isEmpty then 0 else 1) < 30)) = true)
    (hline : (apos.endLine == cpos.line) = true) (ho : XE X We o mo) : XE X We (.Call (.Attribute o name apos) (e :: es) [] cpos) (recvE mo) := by
  refine ⟨fun pins s σ H Q I h => ?_⟩
  have h' : tM X.K We (pD X.K) mo σ H fun _ _ => False := by
    obtain ⟨ρ, F, G, r, q⟩ := h
    refine ⟨ρ, F, G, r, ?_⟩
    unfold recvE at q
    cases hm : mo ρ with
    | ok d => rw [hm] at q; exact q.elim
    | err c => rw [hm] at q; exact q
    | bad => rw [hm] at q; exact q.elim
  exact wpAny_Call_method_late hbase hfew hline rfl (thn (ho.run pins s σ H _ I h') fun v s1 ⟨x, H1, I1, r1, q1⟩ => q1.elim)
end
end PD
namespace PD
open PySem PySem.Spec PyProof.Rows L2
/-! ## sorted(set(t)), t a tuple of pairs -/
section
variable {pg : Program} {wd : World} {ar : Around} {ex : Value → Shared → Prop} {st : Shared}
/-- the object that set() begins with -/
def freshSet (wd : World) : Obj :=
  { cls := .type "set", dict := none
    data := .set #[] 0 (.fresh 0 0 (!wd.params.followText "set-order")) }
theorem set_of_tuple {t : Addr} {vals : Array Value} (kys : List (Addr × List Int)) {Q : Value → Shared → Prop}
    (quiet : ar.handled = none) (ht : st.heap.IsTuple t vals)
    (hv : vals.toList = kys.map fun z => Value.ref z.1)
    (hk : ∀ z ∈ kys, IsT pg wd st.heap z.2 z.1) (few : kys.length < 64) (room : ar.units + 3 < cLine)
    (fin : ∀ (hp : Heap) (tk : Nat) L es ep tb,
      SetTR pg wd hp st.heap.objs.size L es ep tb → Got kys kys.length L →
      (∀ b o, st.heap.get? b = some o → hp.get? b = some o) →
      Q (.ref st.heap.objs.size) { st with heap := hp, toks := tk }) :
    wpAny (model pg wd) ar (call (.type "set") [.ref t]) Q ex st := by
  have size : vals.size = kys.length := by
    have e := congrArg List.length hv
    rwa [Array.length_toList, List.length_map] at e
  obtain ⟨cc, tl, mro⟩ := F.called_set.mro
  have m1 := F.called_set.made
  have m2 := F.called_set.sub
  have m3 := F.called_set.notType
  have m4 := F.called_set.canCreate
  have m5 := F.typeCall_set_1 (.ref t)
  refine wpAny_call (codeAny_of_tree ?_)
  show wpAny _ _ (callAny (.type "set") _) _ _ _
  refine wpAny_pure
    ⟨Code.quiet_builtin _ (by decide +kernel), codeAny_builtin F.entry_type_call ?_⟩
  rw [Around.under_plain
    (weight_type_call_type "set" [.ref t] []) rfl]
  repeat (any_goals (first | assumption | wp_step))
  refine codeAny_mono (code_set_led1 (.ref t) (E := ex)
    (Q₁ := fun r s₁ => r = .ref st.heap.objs.size ∧
      s₁ = { st with heap := st.heap.push (freshSet wd) }) ⟨rfl, rfl⟩) fun out s₁ ho => ?_
  cases out with
  | error e => exact ho
  | ok flow =>
    cases flow with
    | ret made =>
      obtain ⟨rfl, rfl⟩ := ho
      have getS : (st.heap.push (freshSet wd)).get? st.heap.objs.size = some (freshSet wd) :=
        Heap.get?_push_size _ rfl
      have isS : Shared.TypeIs { st with heap := st.heap.push (freshSet wd) }
        (.ref st.heap.objs.size) "set" := ⟨_, getS, rfl⟩
      have n1 := F.called_set.init.lookup
      have n2 := F.called_set.init.bind (.ref st.heap.objs.size)
      repeat (any_goals (first | assumption | wp_step))
      refine codeAny_mono (codeAny_call_builtin
        (R := wants (fun r s₂ => r = .none ∧ ∃ hp tk L es ep tb,
          s₂ = { st with heap := hp, toks := tk } ∧
          SetTR pg wd hp st.heap.objs.size L es ep tb ∧ Got kys kys.length L ∧
          (∀ b o, st.heap.get? b = some o → hp.get? b = some o)) ex)
        F.called_set.init.plain F.entry_set_init (check_set_init_1 isS ?_)) fun r₂ s₂ h₂ => ?_
      · obtain ⟨ob, hob, hcl, nn, hda⟩ := ht
        obtain ⟨ocls, odict, odata, oslots⟩ := ob
        simp only at hcl hda
        subst hcl; subst hda
        have w1 : (st.heap.push (freshSet wd)).get? t =
          some { cls := .type "tuple", dict := odict, data := .seq vals nn, slots := oslots } :=
          Heap.get?_push_of_some _ hob
        have w2 := F.sub_tuple_set
        have w3 := F.sub_tuple_frozenset
        have w4 : (Value.type "tuple" == Value.type "dict") = false := by
          decide
        have w5 : (st.heap.push (freshSet wd)).IsTuple t vals := ⟨_, w1, rfl, nn, rfl⟩
        unfold Builtin.«set.__init__»
        unfold noKeywords
        unfold Builtin.Frozenset.updateFrom
        generalize hIt : pyIter = IT
        wp_walk
        subst hIt
        refine wpAny_pyIter_tuple w5 ?_
        refine wpAny_bind (wpAny_runValue ?_)
        have tlt : t < st.heap.objs.size := Heap.lt_size hob
        have sz : (st.heap.push (freshSet wd)).objs.size = st.heap.objs.size + 1 := Heap.size_push ..
        have quiet3 : ar.in1.in1.in1.handled = none := by
          simp [quiet]
        have tne : t ≠ (st.heap.push (freshSet wd)).objs.size := fun e => by
          rw [sz] at e
          exact Nat.lt_irrefl _ (Nat.lt_of_le_of_lt (Nat.le_of_eq e.symm) (Nat.lt_succ_of_lt tlt))
        have fresh_not : st.heap.objs.size ∉ [(st.heap.push (freshSet wd)).objs.size, t] := by
          intro hm
          rcases List.mem_cons.mp hm with e | hm
          · rw [sz] at e
            exact Nat.succ_ne_self _ e.symm
          · have e := List.mem_singleton.mp hm
            rw [e] at tlt
            exact Nat.lt_irrefl _ tlt
        have at_i : ∀ (i : Nat) (v : Value), vals[i]? = some v →
            ∃ z, kys[i]? = some z ∧ v = .ref z.1 := fun i v hi => by
          rw [← Array.getElem?_toList, hv, List.getElem?_map] at hi
          cases hz : kys[i]? with
          | none => rw [hz] at hi; cases hi
          | some z =>
            rw [hz] at hi
            exact ⟨z, rfl, (Option.some.inj hi).symm⟩
        have beyond : ∀ b, st.heap.objs.size ≤ b → st.heap.get? b = none := fun b hb => by
          cases hg : st.heap.get? b with
          | none => rfl
          | some o =>
            exact (Nat.lt_irrefl _ (Nat.lt_of_lt_of_le (Heap.lt_size hg) hb)).elim
        refine set_update_tups ((Walks.tuple quiet3 _ t tne vals).toS) st.heap.objs.size
          fresh_not kys size few at_i st.heap hk (beyond _ (Nat.le_refl _))
          (fun b hb => beyond b (by
            rw [List.mem_singleton.mp hb, sz]
            exact Nat.le_succ _))
          room (vals.size - 0) 0 _ (by omega) (Nat.zero_le _)
          ⟨⟨_, Heap.get?_push_size _ rfl, rfl, rfl⟩, w5.push _⟩
          (fun b o e => Heap.get?_push_of_some _ (Heap.get?_push_of_some _ e)) ?begin ?done
        case begin =>
          refine ⟨[], #[], 0, _, setTR_fresh ?_, Got.zero kys⟩
          exact Heap.get?_push_of_some _ getS
        case done =>
          intro s' L es ep tb mv hS g keep
          obtain ⟨hp, gs, dr, tk, os⟩ := s'
          have e1 : gs = st.gens := mv.gens
          have e2 : dr = st.drawn := mv.drawn
          have e3 : os = st.os := mv.os
          subst e1; subst e2; subst e3
          rw [size] at g
          show wpAny _ _ _ _ _ _
          refine wpAny_pure ?_
          show wpAny _ _ (ret Value.none) _ _ _
          exact wpAny_pure
            ⟨rfl, hp, tk, L, es, ep, tb, rfl, hS, g, keep⟩
      · cases r₂ with
        | error e => exact h₂
        | ok flow₂ =>
          cases flow₂ with
          | ret r =>
            obtain ⟨rfl, hp, tk, L, es, ep, tb, rfl, hS, g, keep⟩ := h₂
            repeat (any_goals (first | assumption | wp_step))
            exact fin _ _ _ _ _ _ hS g keep
          | _ => exact h₂.elim
    | _ => exact ho.elim
end
section
variable {X : Cx}
/-- set(t), t a tuple of tuples of ints -/
def rSetTT (K : PySem.W.Frag) (P : Program) (w : World) : List V → Hp → VK → Prop := fun vs H Q =>
  ∃ (t : Addr) (kys : List (Addr × List Int)), vs = [V.ref t] ∧
    SqT K H t (kys.map fun z => V.ref z.1) ∧ (∀ z ∈ kys, SqT K H z.1 (z.2.map V.int)) ∧
    kys.length < 64 ∧ ∀ a L, H a = none → (∀ z ∈ L, z ∈ kys) →
      (∀ z ∈ kys, z.2 ∈ L.map (·.2)) → Q (.ref a) (upd H a (SetTO P w a L))
theorem cr_setTT (hc : X.calm = true) (hu : X.A.units + 64 < cLine) :
    CallR X (.type "set") (rSetTT X.K X.prog X.w) := by
  intro pins s σ H vs us Q I r h
  obtain ⟨t, kys, rfl, ht, hk, few, q⟩ := h
  rw [Vals.ref1 r]
  obtain ⟨its, rv, ⟨o, ho, hcl, n, hd⟩, _⟩ := I.tuple ht
  have hn : H s.heap.objs.size = none := I.hok.fresh (Nat.le_refl _)
  refine set_of_tuple (pg := X.prog) (wd := X.w) kys (I.ok.hd hc)
    (vals := its.toArray) ⟨o, ho, hcl, n, hd⟩ (by simpa using refs_of_vals rv)
    (fun z hz => I.isT (hk z hz)) few (by omega) fun hp tk L es ep tb R g keep => ?_
  refine ⟨.ref s.heap.objs.size, upd H s.heap.objs.size (SetTO X.prog X.w s.heap.objs.size L),
    I.laid (t' := tk) keep (Nat.le_refl _) (setTO_new R.t0), rfl,
    q _ L hn (fun z hz => ?_) fun z hz => ?_⟩
  · exact List.mem_of_mem_take (g.sub z hz)
  · exact g.all z (by rw [List.take_length]; exact hz)
end
def ssTD : PyData → R PyData
  | .tuple ds => match asPs ds with
    | some ps => if ds.length < 64 then .ok (.list ((sortD2 ps).map encP)) else .bad
    | none => .bad
  | _ => .bad
def ssTE (m : Ev → R PyData) (ρ : Ev) : R PyData := (m ρ).bind ssTD
theorem ssTD_ok {ps : List PI2} (h : ∀ p ∈ ps, 0 ≤ p.1 ∧ p.1 < 2048 ∧ 0 ≤ p.2 ∧ p.2 < 2048) (hl : ps.length < 64) : ssTD (.tuple (ps.map encP)) = .ok (.list ((sortD2 ps).map encP)) := by
  show (match asPs (ps.map encP) with
    | some qs => if (ps.map encP).length < 64 then R.ok (PyData.list ((sortD2 qs).map encP)) else .bad
    | none => .bad) = _
  rw [asPs_of h]
  show (if (ps.map encP).length < 64 then R.ok (PyData.list ((sortD2 ps).map encP)) else .bad) = _
  rw [List.length_map, if_pos hl]
section
variable {X : Cx} {We : EW} {e a b c : Expr} {es : List Expr} {pos p p2 q : Pos} {st : Stmt} {x : Str}
theorem xf_ssT {m : Ev → R PyData} (hc : X.calm = true) (hu : X.A.units + 65 < cLine) (hg : Gl X "sorted") (hm : X.mg "sorted" = none) (hg2 : Gl X "set") (hm2 : X.mg "set" = none) (ha : XE X We a m)
    (na : starEach [a] X.env = (false, eval a X.env) :: starEach [] X.env) (na2 : starEach [.Call (.Name "set" p2) [a] [] q] X.env = (false, eval (.Call (.Name "set" p2) [a] [] q) X.env) :: starEach [] X.env)
    (np : (backTo q (starEach [] X.env)).any (·.1) = false) (np2 : (backTo pos (starEach [] X.env)).any (·.1) = false) :
    XF X We (.Call (.Name "sorted" p) [.Call (.Name "set" p2) [a] [] q] [] pos) (ssTE m) :=
  pe_imp (pe_callB (cr_sortedT hc) hg hm (by decide +kernel) (pa_cons (pe_callTy (cr_setTT hc (by omega)) hg2 hm2 PyProof.Rows.boot_set (pa_cons ha pa_nil na) (by decide) (by decide) na np) pa_nil na2) (by decide) (by decide) na2 np2) fun σ H Q q => by
    obtain ⟨ρ, F, G, r, q⟩ := q
    refine ⟨ρ, F, G, r, Po.bind (P := pD X.K) q fun d v F1 H1 g1 p1 q1 => ?_⟩
    unfold ssTD at q1
    split at q1
    · rename_i ds
      split at q1
      · rename_i ps hps
        split at q1
        · rename_i hlen
          obtain ⟨hds, hbd⟩ := asPs_un hps
          obtain ⟨l, vs, rfl, hl, hvs⟩ : ∃ l vs, v = V.ref l ∧ SqT X.K H1 l vs ∧ DpAll X.K F1 vs ds := by
            cases p1 with
            | tup h1 h2 => exact ⟨_, _, rfl, h1.le g1.le, h2⟩
          rw [hds] at hvs
          obtain ⟨as, hal, rfl, hsq⟩ := ks_of hvs
          have hz : (as.zip ps).map (·.2) = ps := List.map_snd_zip (by omega)
          refine ⟨l, (as.zip ps).map fun q => (q.1, [q.2.1, q.2.2]), rfl, by rw [List.map_map]; exact hl, fun k hk => ?_, ?_, fun s L ns hsub hall => ?_⟩
          · obtain ⟨z, hz, rfl⟩ := List.mem_map.mp hk
            exact (hsq z hz).le g1.le
          · rw [List.length_map, List.length_zip, hal, Nat.min_self, ← List.length_map encP, ← hds]; exact hlen
          · have hk2 : ∀ k ∈ L, ∃ z ∈ as.zip ps, k = (z.1, [z.2.1, z.2.2]) := fun k hk => by
              obtain ⟨z, hz, rfl⟩ := List.mem_map.mp (hsub k hk)
              exact ⟨z, hz, rfl⟩
            have inps : ∀ z ∈ as.zip ps, z.2 ∈ ps := fun z hzz => by rw [← hz]; exact List.mem_map_of_mem hzz
            have l2 : Le H1 (upd H1 s (SetTO X.prog X.w s L)) := Le.upd ns
            refine ⟨s, L, 2, 2048, rfl, upd_same, fun k hk => ?_, by decide, fun k hk => ?_, fun L' t pm nd h64 pw nt => ?_⟩
            · obtain ⟨z, hzz, rfl⟩ := hk2 k hk
              exact ((hsq z hzz).le g1.le).le l2
            · obtain ⟨z, hzz, rfl⟩ := hk2 k hk
              have hb := hbd _ (inps z hzz)
              refine ⟨rfl, fun y hy => ?_⟩
              simp only [List.mem_cons, List.not_mem_nil, or_false] at hy
              rcases hy with rfl | rfl <;> omega
            · -- the rows as pairs
              have hk3 : ∀ k ∈ L', ∃ z ∈ as.zip ps, k = (z.1, [z.2.1, z.2.2]) := fun k hk => hk2 k (pm.mem_iff.mp hk)
              let pr : Addr × List Int → PI2 := fun k => (k.2.getD 0 0, k.2.getD 1 0)
              have hpr : ∀ k ∈ L', k.2 = [(pr k).1, (pr k).2] ∧ pr k ∈ ps ∧ SqT X.K F1 k.1 [V.int (pr k).1, V.int (pr k).2] := fun k hk => by
                obtain ⟨z, hzz, rfl⟩ := hk3 k hk
                exact ⟨rfl, inps z hzz, hsq z hzz⟩
              have hsorted : L'.map pr = sortD2 ps := by
                refine sortD2_uniq ?_ fun z => ?_
                · rw [List.pairwise_map]
                  have nd' : L'.Pairwise fun k k' => k.2 ≠ k'.2 := List.pairwise_map.mp nd
                  refine List.Pairwise.imp_of_mem (fun {k k'} hk hk' h => ?_) (pw.and nd')
                  obtain ⟨e1, m1, _⟩ := hpr k hk
                  obtain ⟨e2, m2, _⟩ := hpr k' hk'
                  have b1 := hbd _ m1
                  have b2 := hbd _ m2
                  have hne : pr k ≠ pr k' := fun z => h.2 (by rw [e1, e2, z])
                  have hle := h.1
                  rw [e1, e2] at hle
                  have := code_lex (B := 2048) (fun y hy => by
                    simp only [List.mem_cons, List.not_mem_nil, or_false] at hy
                    rcases hy with rfl | rfl <;> omega) (fun y hy => by
                    simp only [List.mem_cons, List.not_mem_nil, or_false] at hy
                    rcases hy with rfl | rfl <;> omega) hle
                  have hne2 : ¬ ((pr k).1 = (pr k').1 ∧ (pr k).2 = (pr k').2) := fun z => hne (Prod.ext z.1 z.2)
                  show pLt (pr k) (pr k')
                  unfold pLt
                  omega
                · constructor
                  · intro hm
                    obtain ⟨k, hk, rfl⟩ := List.mem_map.mp hm
                    exact (hpr k hk).2.1
                  · intro hm
                    rw [← hz] at hm
                    obtain ⟨w, hw, rfl⟩ := List.mem_map.mp hm
                    have := hall _ (List.mem_map_of_mem hw)
                    obtain ⟨k, hk, e⟩ := List.mem_map.mp this
                    have hk' := pm.mem_iff.mpr hk
                    refine List.mem_map.mpr ⟨k, hk', ?_⟩
                    show (k.2.getD 0 0, k.2.getD 1 0) = w.2
                    have e : k.2 = [w.2.1, w.2.2] := e
                    rw [e]
                    rfl
              have nt1 : H1 t = none := l2.none nt
              have nt0 : F1 t = none := g1.le.none nt1
              have hds : DpAll X.K F1 (L'.map fun q => V.ref q.1) ((sortD2 ps).map encP) := by
                rw [← hsorted, List.map_map]
                have : ∀ l : List (Addr × List Int), (∀ k ∈ l, k ∈ L') → DpAll X.K F1 (l.map fun q => V.ref q.1) (l.map (encP ∘ pr)) := fun l => by
                  induction l with
                  | nil => exact fun _ => .nil
                  | cons k l ih =>
                    intro hl
                    refine .cons ?_ (ih fun k' hk' => hl k' (by simp [hk']))
                    exact .tup (hpr k (hl k (by simp))).2.2 (.cons (.int _) (.cons (.int _) .nil))
                exact this L' fun _ h => h
              refine q1 (.ref t) F1 _ ((Gr.own g1.le ns).trans (Gr.own (g1.le.trans l2) nt)) ⟨t, _, _, rfl, rfl, nt1, nt0, upd_same, hds⟩
        · exact q1.elim
      · exact q1.elim
    · exact q1.elim
end
@[simp] theorem ssTE_ap (m : Ev → R PyData) (ρ : Ev) : ssTE m ρ = (m ρ).bind ssTD := (rfl)
end PD
namespace PD
open PySem PySem.Spec PyProof.Rows L2
/-! ## t1, t2 = e, a target of which may be xs[k] of an own list -/
section
variable {X : Cx} {We : EW} {e a b c : Expr} {es : List Expr} {pos p p2 q : Pos} {x : Str}
def tGH (K : PySem.W.Frag) (mg : PyData → Ev → R Ev) : TG := fun v σ H Q => ∃ ρ F G d, Rl K ρ F G σ H ∧ Dp K F v d ∧ match mg d ρ with
  | .ok ρ' => ∀ σ' F' G' H', Rl K ρ' F' G' σ' H' → GrS F G F' G' → Q σ' H'
  | _ => False
abbrev XGH (X : Cx) (tg : Expr) (mg : PyData → Ev → R Ev) : Prop := PG X tg (tGH X.K mg)
theorem xgh_name {i : Nat} (hN : X.N.Nodup) (hi : X.N[i]? = some x) (hx : Loc X.env.scope x) (hf : X.fn x = true ∨ X.env.scope.names.lookup x = some .local) : XGH X (.Name x pos) (gN i) :=
  pg_imp (pg_name hN hi hx hf) fun v σ H Q q => by
    obtain ⟨ρ, F, G, d, r, p, q⟩ := q
    exact q _ F G H (r.set i p) (GrS.refl F G)
def setT (i : Nat) (mk : Ev → R PyData) : PyData → Ev → R Ev := fun d ρ => match mk ρ with
  | .ok (.int k) => (getLo ρ i).bind fun xs => match ixN xs.length k with
    | some j => .ok (ρ.set i (.lo (xs.set j d)))
    | none => .bad
  | _ => .bad
theorem xgh_sub {i : Nat} {k : Expr} {mk : Ev → R PyData} {pos' : Pos}
    (hps : PG X (.Subscript (.Name x p) k pos') (gSub (tVar i) (tM X.K We (pB X.K) mk) rSetL)) : XGH X (.Subscript (.Name x p) k pos') (setT i mk) :=
  pg_imp hps fun v σ H Q q => by
    obtain ⟨ρ, F, G, d, r, pd, q⟩ := q
    have q : match setT i mk d ρ with
      | .ok ρ' => ∀ σ' F' G' H', Rl X.K ρ' F' G' σ' H' → GrS F G F' G' → Q σ' H'
      | _ => False := q
    unfold setT at q
    cases hm : mk ρ with
    | err c => rw [hm] at q; exact q.elim
    | bad => rw [hm] at q; exact q.elim
    | ok kd =>
      rw [hm] at q
      cases kd with
      | int kk =>
        have q : match ((getLo ρ i).bind fun xs => match ixN xs.length kk with
            | some j => R.ok (ρ.set i (.lo (xs.set j d)))
            | none => .bad) with
          | .ok ρ' => ∀ σ' F' G' H', Rl X.K ρ' F' G' σ' H' → GrS F G F' G' → Q σ' H'
          | _ => False := q
        cases hg : ρ[i]? with
        | none => rw [getLo_ap, hg] at q; exact q.elim
        | some sl =>
          cases sl with
          | un => rw [getLo_ap, hg] at q; exact q.elim
          | d z => rw [getLo_ap, hg] at q; exact q.elim
          | dd z => rw [getLo_ap, hg] at q; exact q.elim
          | tk z => rw [getLo_ap, hg] at q; exact q.elim
          | df z => rw [getLo_ap, hg] at q; exact q.elim
          | lo xs =>
            rw [getLo_ap, hg, ofL_lo, bind_ok] at q
            obtain ⟨a, vs, e2, e3, e4, e5⟩ := r.getL hg
            cases hj : ixN xs.length kk with
            | none => rw [hj] at q; exact q.elim
            | some j =>
              rw [hj] at q
              have q : ∀ σ' F' G' H', Rl X.K (ρ.set i (.lo (xs.set j d))) F' G' σ' H' → GrS F G F' G' → Q σ' H' := q
              refine ⟨.ref a, e2, ρ, F, G, r, ?_⟩
              rw [hm]
              intro kv F2 H2 g2 p2
              obtain ⟨r2, g3⟩ := r.grow g2
              have hk := pB.int p2
              subst hk
              have hl := DpAll.length e5
              exact ⟨a, vs, kk, j, rfl, rfl, g2.h _ _ e4, by rw [hl]; exact hj, q _ F2 _ _ (r2.write hg e2 (DpAll.set (pd.le g2.f) j (e5.le g2.f))) g3⟩
      | _ => exact q.elim
def asgH2 (m : Ev → R PyData) (g1 g2 : PyData → Ev → R Ev) : SM := fun ρ => (m ρ).bind fun d => match d with
  | .tuple [a, b] => (g1 a ρ).bind fun ρ1 => (g2 b ρ1).bind fun ρ2 => .ok (.nx ρ2)
  | _ => .bad
/-- targets that do not fail -/
def OkG (g : PyData → Ev → R Ev) : Prop := ∀ d ρ c, g d ρ ≠ .err c
theorem okG_n (i : Nat) : OkG (gN i) := fun d ρ c h => by cases h
theorem okG_t (i : Nat) (mk : Ev → R PyData) : OkG (setT i mk) := fun d ρ c h => by
  unfold setT at h
  split at h
  · rw [getLo_ap] at h
    cases hg : ρ[i]? with
    | none => rw [hg] at h; cases h
    | some sl =>
      cases sl with
      | un => rw [hg] at h; cases h
      | d z => rw [hg] at h; cases h
      | dd z => rw [hg] at h; cases h
      | tk z => rw [hg] at h; cases h
      | df z => rw [hg] at h; cases h
      | lo xs =>
        rw [hg, ofL_lo, bind_ok] at h
        split at h <;> cases h
  · cases h
theorem xs_asgH2 {t1 t2 : Expr} {m : Ev → R PyData} {g1 g2 : PyData → Ev → R Ev} {kk : Nat} {tpos : Pos} (hc : X.calm = true) (he : XE X We e m) (h1 : XGH X t1 g1) (h2 : XGH X t2 g2) (k1 : OkG g1) (k2 : OkG g2)
    (hs1 : (assignEach [t1, t2] X.env).map (·.2) = assign t1 X.env :: (assignEach [t2] X.env).map (·.2)) (hs2 : (assignEach [t2] X.env).map (·.2) = assign t2 X.env :: (assignEach [] X.env).map (·.2))
    (hn : (assignEach [t1, t2] X.env).length = 2) (hst : (assignEach [t1, t2] X.env).findIdx? (·.1) = none)
    (hs : swapsWithSole [.Tuple [t1, t2] kk tpos] e pos.line X.env = pure false) (hw : swappedStores [.Tuple [t1, t2] kk tpos] e X.env = pure none)
    (ha : (assignEach [.Tuple [t1, t2] kk tpos] X.env).map (·.2) = [assign (.Tuple [t1, t2] kk tpos) X.env]) :
    XS X We (.Assign [.Tuple [t1, t2] kk tpos] e pos) (asgH2 m g1 g2) :=
  ps_imp (ps_asg he (pg_tup hc (pgs_cons h1 (pgs_cons h2 pgs_nil hs2) hs1) hn hst) hs hw ha) fun D σ H q => by
    obtain ⟨ρ, F, G, r, q⟩ := q
    refine ⟨ρ, F, G, r, PoS.expr (P := pD X.K) r q fun d v F1 G1 H1 r1 g1' p1 q1 => ?_⟩
    split at q1
    · rename_i da db
      cases p1 with
      | tup ht hd =>
        obtain ⟨va, ws, rfl, pa, hd⟩ := DpAll.cons_inv hd
        obtain ⟨vb, ws2, rfl, pb, hd⟩ := DpAll.cons_inv hd
        cases DpAll.nil_inv hd
        refine ⟨_, _, rfl, ht.le r1.fh, rfl, va, _, rfl, ρ, F1, G1, da, r1, pa, ?_⟩
        cases e1 : g1 da ρ with
        | err c => exact absurd e1 (k1 _ _ _)
        | bad => rw [e1] at q1; exact q1.elim
        | ok ρ1 =>
          rw [e1, bind_ok] at q1
          intro σ2 F2 G2 H2 r2 g2'
          refine ⟨vb, _, rfl, ρ1, F2, G2, db, r2, pb.le g2'.f, ?_⟩
          cases e2 : g2 db ρ1 with
          | err c => exact absurd e2 (k2 _ _ _)
          | bad => rw [e2] at q1; exact q1.elim
          | ok ρ2 =>
            rw [e2, bind_ok] at q1
            intro σ3 F3 G3 H3 r3 g3'
            exact ⟨rfl, q1 σ3 F3 G3 H3 r3 (g2'.trans g3')⟩
    · exact q1.elim
end
@[simp] theorem asgH2_ap (m : Ev → R PyData) (g1 g2 : PyData → Ev → R Ev) (ρ : Ev) : asgH2 m g1 g2 ρ = (m ρ).bind fun d => (match d with
  | .tuple [a, b] => (g1 a ρ).bind fun ρ1 => (g2 b ρ1).bind fun ρ2 => .ok (.nx ρ2)
  | _ => .bad) := (rfl)
/-! ## x, y, z = e, f, g where a target is a list of one's own -/
section
variable {X : Cx} {We : EW} {a b c : Expr} {pos : Pos} {x : Str}
def parO3 (oi oj ol : Bool) (i j l : Nat) (ma mb mc : Ev → R PyData) : SM := fun ρ => (ma ρ).bind fun d => (mb ρ).bind fun d2 => (mc ρ).bind fun d3 => (slOf oi d).bind fun x => (slOf oj d2).bind fun y => (slOf ol d3).bind fun z => .ok (.nx (((ρ.set i x).set j y).set l z))
theorem xs_parO3 {oi oj ol : Bool} {i j l : Nat} {y z : Str} {ma mb mc : Ev → R PyData} {px py pz pt : Pos} {kt k2 : Nat} {pt2 : Pos} (hc : X.calm = true) (hN : X.N.Nodup) (hi : X.N[i]? = some x) (hj : X.N[j]? = some y) (hl : X.N[l]? = some z) (hij : i ≠ j) (hil : i ≠ l) (hjl : j ≠ l)
    (hx : X.env.scope.names.lookup x = some .local) (hy : X.env.scope.names.lookup y = some .local) (hz : X.env.scope.names.lookup z = some .local)
    (ha : PE X a (tM X.K We (pOw X.K oi) ma)) (hb : PE X b (tM X.K We (pOw X.K oj) mb)) (hcc : PE X c (tM X.K We (pOw X.K ol) mc))
    (h1 : starEach [a, b, c] X.env = (false, eval a X.env) :: starEach [b, c] X.env) (h2 : starEach [b, c] X.env = (false, eval b X.env) :: starEach [c] X.env) (h3 : starEach [c] X.env = (false, eval c X.env) :: starEach [] X.env)
    (hw : swappedStores [.Tuple [.Name x px, .Name y py, .Name z pz] kt pt] (.Tuple [a, b, c] k2 pt2) X.env = pure (some [x, y, z]))
    (hs : swapsWithSole [.Tuple [.Name x px, .Name y py, .Name z pz] kt pt] (.Tuple [a, b, c] k2 pt2) pos.line X.env = pure false) :
    XS X We (.Assign [.Tuple [.Name x px, .Name y py, .Name z pz] kt pt] (.Tuple [a, b, c] k2 pt2) pos) (parO3 oi oj ol i j l ma mb mc) :=
  ps_imp (ps_par3 hc hN hi hj hl hij hil hjl hx hy hz (pa_cons ha (pa_cons hb (pa_cons hcc pa_nil h3) h2) h1) hw hs) fun D σ H q => by
    obtain ⟨ρ, F, G, r, q⟩ := q
    refine ⟨ρ, F, G, r, ?_⟩
    have q : PoS X.K We F G ((ma ρ).bind fun d => (mb ρ).bind fun d2 => (mc ρ).bind fun d3 => (slOf oi d).bind fun x => (slOf oj d2).bind fun y => (slOf ol d3).bind fun z => .ok (.nx (((ρ.set i x).set j y).set l z))) D := q
    cases hma : ma ρ with
    | err c => rw [hma] at q; exact fun H' l => q σ G H' (Le.refl G) (r.gh.trans l)
    | bad => rw [hma] at q; exact q.elim
    | ok d =>
      rw [hma, bind_ok] at q
      intro v F1 H1 g1 p1
      refine ⟨ρ, F1, _, (r.grow g1).1, ?_⟩
      have q0 := PoS.step (r.grow g1).2 q
      cases hmb : mb ρ with
      | err c => rw [hmb] at q0; exact fun H' l => q0 σ _ H' (Le.refl _) ((r.grow g1).1.gh.trans l)
      | bad => rw [hmb] at q0; exact q0.elim
      | ok d2 =>
        rw [hmb, bind_ok] at q q0
        intro w F2 H2 g2 p2
        have r12 := (r.grow g1).1.grow g2
        refine ⟨ρ, F2, _, r12.1, ?_⟩
        have q00 := PoS.step r12.2 q0
        cases hmc : mc ρ with
        | err c => rw [hmc] at q00; exact fun H' l => q00 σ _ H' (Le.refl _) (r12.1.gh.trans l)
        | bad => rw [hmc] at q00; exact q00.elim
        | ok d3 =>
          rw [hmc, bind_ok] at q
          intro u F3 H3 g3 p3
          cases hsx : slOf oi d with
          | err c => exact (slOf_ne hsx).elim
          | bad => rw [hsx] at q; exact q.elim
          | ok sx =>
            rw [hsx, bind_ok] at q
            cases hsy : slOf oj d2 with
            | err c => exact (slOf_ne hsy).elim
            | bad => rw [hsy] at q; exact q.elim
            | ok sy =>
              rw [hsy, bind_ok] at q
              cases hsz : slOf ol d3 with
              | err c => exact (slOf_ne hsz).elim
              | bad => rw [hsz] at q; exact q.elim
              | ok sz =>
                rw [hsz, bind_ok] at q
                obtain ⟨G1, r1, s1⟩ := r.putO g1 p1 hsx i
                obtain ⟨G2, r2, s2⟩ := r1.putO g2 p2 hsy j
                obtain ⟨G3, r3, s3⟩ := r2.putO g3 p3 hsz l
                exact ⟨v, w, u, rfl, PoS.step ((s1.trans s2).trans s3) q _ F3 G3 H3 r3 (GrS.refl _ _)⟩
end
theorem parO3_ap (oi oj ol : Bool) (i j l : Nat) (ma mb mc : Ev → R PyData) (ρ : Ev) (a b c : PyData) (x y z : Sl) (h : ma ρ = .ok a) (h2 : mb ρ = .ok b) (h3 : mc ρ = .ok c) (hx : slOf oi a = .ok x) (hy : slOf oj b = .ok y) (hz : slOf ol c = .ok z) : parO3 oi oj ol i j l ma mb mc ρ = .ok (.nx (((ρ.set i x).set j y).set l z)) := by
  unfold parO3
  rw [h, bind_ok, h2, bind_ok, h3, bind_ok, hx, bind_ok, hy, bind_ok, hz]
  rfl
/-! ### the same by way of a tuple (names that are captured) -/
section
variable {X : Cx} {We : EW} {a b c : Expr} {pos : Pos} {x : Str}
theorem xs_parT3 {oi oj ol : Bool} {i j l : Nat} {y z : Str} {ma mb mc : Ev → R PyData} {px py pz pt : Pos} {kt k2 : Nat} {pt2 : Pos} (hc : X.calm = true) (hN : X.N.Nodup) (hi : X.N[i]? = some x) (hj : X.N[j]? = some y) (hl : X.N[l]? = some z)
    (hx : Loc X.env.scope x) (hy : Loc X.env.scope y) (hz : Loc X.env.scope z)
    (fx : X.fn x = true ∨ X.env.scope.names.lookup x = some .local) (fy : X.fn y = true ∨ X.env.scope.names.lookup y = some .local) (fz : X.fn z = true ∨ X.env.scope.names.lookup z = some .local)
    (ha : PE X a (tM X.K We (pOw X.K oi) ma)) (hb : PE X b (tM X.K We (pOw X.K oj) mb)) (hcc : PE X c (tM X.K We (pOw X.K ol) mc))
    (h1 : starEach [a, b, c] X.env = (false, eval a X.env) :: starEach [b, c] X.env) (h2 : starEach [b, c] X.env = (false, eval b X.env) :: starEach [c] X.env) (h3 : starEach [c] X.env = (false, eval c X.env) :: starEach [] X.env)
    (k1 : (assignEach [.Name x px, .Name y py, .Name z pz] X.env).map (·.2) = assign (.Name x px) X.env :: (assignEach [.Name y py, .Name z pz] X.env).map (·.2)) (k2' : (assignEach [.Name y py, .Name z pz] X.env).map (·.2) = assign (.Name y py) X.env :: (assignEach [.Name z pz] X.env).map (·.2)) (k3 : (assignEach [.Name z pz] X.env).map (·.2) = assign (.Name z pz) X.env :: (assignEach [] X.env).map (·.2))
    (hn : (assignEach [.Name x px, .Name y py, .Name z pz] X.env).length = 3) (hst : (assignEach [.Name x px, .Name y py, .Name z pz] X.env).findIdx? (·.1) = none)
    (hs : swapsWithSole [.Tuple [.Name x px, .Name y py, .Name z pz] kt pt] (.Tuple [a, b, c] k2 pt2) pos.line X.env = pure false)
    (hw : swappedStores [.Tuple [.Name x px, .Name y py, .Name z pz] kt pt] (.Tuple [a, b, c] k2 pt2) X.env = pure none)
    (hA : (assignEach [.Tuple [.Name x px, .Name y py, .Name z pz] kt pt] X.env).map (·.2) = [assign (.Tuple [.Name x px, .Name y py, .Name z pz] kt pt) X.env]) :
    XS X We (.Assign [.Tuple [.Name x px, .Name y py, .Name z pz] kt pt] (.Tuple [a, b, c] k2 pt2) pos) (parO3 oi oj ol i j l ma mb mc) :=
  ps_imp (ps_asg (pe_tup (pa_cons ha (pa_cons hb (pa_cons hcc pa_nil h3) h2) h1)) (pg_tup hc (pgs_cons (pg_name hN hi hx fx) (pgs_cons (pg_name hN hj hy fy) (pgs_cons (pg_name hN hl hz fz) pgs_nil k3) k2') k1) hn hst) hs hw hA) fun D σ H q => by
    obtain ⟨ρ, F, G, r, q⟩ := q
    refine ⟨ρ, F, G, r, ?_⟩
    have q : PoS X.K We F G ((ma ρ).bind fun d => (mb ρ).bind fun d2 => (mc ρ).bind fun d3 => (slOf oi d).bind fun x => (slOf oj d2).bind fun y => (slOf ol d3).bind fun z => .ok (.nx (((ρ.set i x).set j y).set l z))) D := q
    cases hma : ma ρ with
    | err c => rw [hma] at q; exact fun H' l => q σ G H' (Le.refl G) (r.gh.trans l)
    | bad => rw [hma] at q; exact q.elim
    | ok d =>
      rw [hma, bind_ok] at q
      intro v F1 H1 g1 p1
      refine ⟨ρ, F1, _, (r.grow g1).1, ?_⟩
      have q0 := PoS.step (r.grow g1).2 q
      cases hmb : mb ρ with
      | err c => rw [hmb] at q0; exact fun H' l => q0 σ _ H' (Le.refl _) ((r.grow g1).1.gh.trans l)
      | bad => rw [hmb] at q0; exact q0.elim
      | ok d2 =>
        rw [hmb, bind_ok] at q q0
        intro w F2 H2 g2 p2
        have r12 := (r.grow g1).1.grow g2
        refine ⟨ρ, F2, _, r12.1, ?_⟩
        have q00 := PoS.step r12.2 q0
        cases hmc : mc ρ with
        | err c => rw [hmc] at q00; exact fun H' l => q00 σ _ H' (Le.refl _) (r12.1.gh.trans l)
        | bad => rw [hmc] at q00; exact q00.elim
        | ok d3 =>
          rw [hmc, bind_ok] at q
          intro u F3 H3 g3 p3
          cases hsx : slOf oi d with
          | err c => exact (slOf_ne hsx).elim
          | bad => rw [hsx] at q; exact q.elim
          | ok sx =>
            rw [hsx, bind_ok] at q
            cases hsy : slOf oj d2 with
            | err c => exact (slOf_ne hsy).elim
            | bad => rw [hsy] at q; exact q.elim
            | ok sy =>
              rw [hsy, bind_ok] at q
              cases hsz : slOf ol d3 with
              | err c => exact (slOf_ne hsz).elim
              | bad => rw [hsz] at q; exact q.elim
              | ok sz =>
                rw [hsz, bind_ok] at q
                obtain ⟨G1, r1, s1⟩ := r.putO g1 p1 hsx i
                obtain ⟨G2, r2, s2⟩ := r1.putO g2 p2 hsy j
                obtain ⟨G3, r3, s3⟩ := r2.putO g3 p3 hsz l
                refine ⟨by rw [sz_eq]; show 3 ≤ 16777216; omega, fun T nT => ?_⟩
                obtain ⟨r4, s4⟩ := r3.grow (Gr.own (p := T) (o := .tup [v, w, u]) r3.fh nT)
                exact ⟨T, _, rfl, SqT.of upd_same, rfl, v, _, rfl, w, _, rfl, u, _, rfl, rfl, PoS.step (((s1.trans s2).trans s3).trans s4) q _ F3 _ _ r4 (GrS.refl _ _)⟩
end
end PD
namespace PD
open PySem PySem.Spec PyProof.Rows L2
/-! ## enumerate(t), t a tuple -/
abbrev itObj (t : Addr) : Obj := { cls := .type "tuple_iterator", data := .fields #[.ref t, .int 0 0] }
abbrev enObj (a : Addr) : Obj := { cls := .type "enumerate", data := .fields #[.none, .bool false, .ref a, rawInt 0, .none, .none] }
theorem new_enum_tuple (t : Addr) (vals : Array Value) (n : Nat) (dct : Option Addr) (sl : Array (Option Value)) :
    Meets (Builtin.«enumerate.__new__» ⟨[.type "enumerate", .ref t], []⟩) (fun _ R st =>
      st.heap.get? t = some { cls := .type "tuple", dict := dct, data := .seq vals n, slots := sl } ∧
      R (.ok (.ret (.ref (st.heap.push (itObj t)).objs.size)))
        { st with heap := (st.heap.push (itObj t)).push (enObj st.heap.objs.size) }) :=
  .of_wp fun pg wd ar R st h => by
    obtain ⟨hp, gs, dr, tk, os⟩ := st
    obtain ⟨ht, h⟩ := h
    have m1 := sub_enumerate
    have m2 : Heap.IsTuple (Shared.heap ⟨hp, gs, dr, tk, os⟩) t vals := ⟨_, ht, rfl, n, rfl⟩
    wp_walk using AutoSeq1.wpAny_loadPart' ht
    refine wpAny_stack_any fun stk => wpAny_pure ?_
    split
    · rename_i cl _ _ _ _ _
      cases (cl == Value.type "enumerate")
      · wp_walk using AutoSeq1.wpAny_loadPart' ht, wpAny_pyIter_tuple m2
        exact ⟨_, rfl, h⟩
      · wp_walk using AutoSeq1.wpAny_loadPart' ht, wpAny_pyIter_tuple m2
        exact ⟨_, rfl, h⟩
    · wp_walk using AutoSeq1.wpAny_loadPart' ht, wpAny_pyIter_tuple m2
      exact ⟨_, rfl, h⟩
section
variable {pg : Program} {wd : World} {ar : Around} {ex : Value → Shared → Prop} {st : Shared}
theorem enum_of_tuple {t : Addr} {vals : Array Value} {Q : Value → Shared → Prop} (ht : st.heap.IsTuple t vals)
    (fin : ∀ hp, IsEnum hp (st.heap.objs.size + 1) st.heap.objs.size 0 .none → hp.IsTupleIter st.heap.objs.size t 0 →
      (∀ b o, st.heap.get? b = some o → hp.get? b = some o) → Q (.ref (st.heap.objs.size + 1)) { st with heap := hp }) :
    wpAny (model pg wd) ar (call (.type "enumerate") [.ref t]) Q ex st := by
  obtain ⟨⟨cl, dct, dt, sl⟩, hl, hc, n, hd⟩ := ht
  have hc : cl = .type "tuple" := hc
  have hd : dt = .seq vals n := hd
  subst hc hd
  refine callType_new F.called_enumerate (by decide) (F.typeCall_enumerate_1 _)
    (F.newCall_enumerate_1 _) (fun obj => F.args_object_init_2 obj _) F.entry_enumerate_new
    (new_enum_tuple t vals n dct sl) ⟨hl, ?_⟩
  have hz : (st.heap.push (itObj t)).objs.size = st.heap.objs.size + 1 :=
    Heap.size_push ..
  show _ ∧ _
  have he := Heap.get?_push_size (st.heap.push (itObj t)) (o := enObj st.heap.objs.size) rfl
  rw [hz] at he ⊢
  exact ⟨⟨_, he, rfl⟩, fin _ he
    ⟨_, Heap.get?_push_of_some _ (Heap.get?_push_size _ rfl), rfl, rfl⟩
    fun b o x => Heap.get?_push_of_some _ (Heap.get?_push_of_some _ x)⟩
end
/-- the tuple at t, each item in a new pair -/
def ItEt (K : PySem.W.Frag) (t : Addr) : It :=
  ⟨fun i H => ∃ (xs : List V) (x : V), SqT K H t xs ∧ xs[i]? = some x,
   fun i H v H' => ∃ T x, v = .ref T ∧ H T = none ∧ H' = upd H T (.tup [.int (i : Nat), x]) ∧ ∀ xs, SqT K H t xs → xs[i]? = some x,
   fun i H => ∃ xs : List V, SqT K H t xs ∧ xs.length = i⟩
theorem turn_enumT {P : Program} {w : World} {K : PySem.W.Frag} {elts : List Expr} {kk : Nat} {tpos : Pos} (t e it : Addr) :
    Turn P w K (.Tuple elts kk tpos) (ItEt K t) [e, it] e (fun i h => (∃ old, IsEnum h e it ((i : Nat) : Int) old) ∧ h.IsTupleIter it t i ∧ e ≠ it ∧ e ≠ t ∧ t ≠ it) where
  mem := by simp
  obj := fun i h st b hb => by
    obtain ⟨⟨old, he⟩, ⟨o, ho, hc, hd⟩, _⟩ := st
    rcases (show b = e ∨ b = it by simpa using hb) with z | z
    · rw [z]
      exact ⟨_, he, fun v q => nomatch q⟩
    · rw [z]
      exact ⟨o, ho, fun v q => by rw [hd] at q; cases q⟩
  keep := fun i h h' st k => by
    obtain ⟨⟨old, he⟩, ⟨o, ho, r⟩, hn⟩ := st
    exact ⟨⟨old, k e (by simp) _ he⟩, ⟨o, k it (by simp) o ho, r⟩, hn⟩
  item := by
    intro X hP hw hK hc i pins s σ H E I hf st hg
    subst hP hw hK
    obtain ⟨⟨old, he⟩, hit, n1, n2, n3⟩ := st
    obtain ⟨xs, x, hq, hx⟩ := hg
    obtain ⟨its, rv, ⟨o, ho, hcl, nn, hd⟩, hz⟩ := I.tuple hq
    obtain ⟨u, hu, ru⟩ := rv.get hx
    have isT : s.heap.IsTuple t its.toArray := ⟨o, ho, hcl, nn, hd⟩
    have quiet : X.A.in1.handled = none := by
      have := I.ok.hd hc
      simp [this]
    have W := WalksT.enumerateD (prog := X.prog) (w := X.w) (A := X.A) (Draws.tuple quiet it t n3 its.toArray) e n1 (by
      intro hm
      rcases (show e = it ∨ e = t by simpa using hm) with z | z
      · exact n1 z
      · exact n2 z) (by simp)
    have hlt : i < its.toArray.size := by
      have := rv.length
      have := (List.getElem?_eq_some_iff.mp hx).1
      simp
      omega
    refine W.item i s _ _ hlt ⟨⟨old, he⟩, hit, isT⟩ fun T vals h1 tk hp hle hT mid k1 => ?_
    refine ⟨_, rfl, W.go elts kk tpos i T _ _ _ mid fun h2 st2 k2 => ?_⟩
    obtain ⟨tk0, y, hy, rfl⟩ := hp
    have hy : its.toArray[i]? = some y := hy
    have eu : y = u := by
      have : its.toArray[i]? = some u := by simpa using hu
      rw [hy] at this
      exact Option.some.inj this
    subst eu
    have hTw := W.apart i T h1 mid
    obtain ⟨oT, hoT, hcT, nT, hdT⟩ := hT
    have hT2 : h2.get? T = some oT := k2 T oT hTw hoT
    have new : ObjOk X.prog X.w (upd H T (.tup [.int (i : Nat), x])) h2 T (.tup [.int (i : Nat), x]) :=
      ⟨by show 2 ≤ sizeLine; decide, [.int i tk0, y], .cons ⟨_, rfl⟩ (.cons ru .nil), ⟨oT, hT2, hcT, nT, hdT⟩⟩
    have I1 : Inv X pins σ (upd H T (.tup [.int (i : Nat), x])) { s with heap := h2, toks := tk } :=
      I.turnedNew (ch := [e, it]) (fun b ob hb q => k2 b ob hb (k1 b ob hb q)) hf hle new
    obtain ⟨⟨old2, he2⟩, hit2, _⟩ := st2
    refine ⟨.ref T, _, I1, rfl, ⟨_, x, rfl, I.hok.fresh hle, rfl, fun ys hys => by rw [I.tuple_inj hys hq]; exact hx⟩, ⟨⟨old2, he2⟩, hit2, n1, n2, n3⟩, fun b hb => ?_⟩
    rw [upd_ne (fun z => hTw (by rw [← z]; exact hb))]
    exact (hf b hb).1
  done := by
    intro X hP hw hK hc i pins s σ H E I hf st hg
    subst hP hw hK
    obtain ⟨⟨old, he⟩, hit, n1, n2, n3⟩ := st
    obtain ⟨xs, hq, hx⟩ := hg
    obtain ⟨its, rv, ⟨o, ho, hcl, nn, hd⟩, hz⟩ := I.tuple hq
    have isT : s.heap.IsTuple t its.toArray := ⟨o, ho, hcl, nn, hd⟩
    have quiet : X.A.in1.handled = none := by
      have := I.ok.hd hc
      simp [this]
    have W := WalksT.enumerateD (prog := X.prog) (w := X.w) (A := X.A) (Draws.tuple quiet it t n3 its.toArray) e n1 (by
      intro hm
      rcases (show e = it ∨ e = t by simpa using hm) with z | z
      · exact n1 z
      · exact n2 z) (by simp)
    have hl : i = its.toArray.size := by
      have := rv.length
      simp
      omega
    subst hl
    exact W.done s _ _ ⟨⟨old, he⟩, hit, isT⟩ fun h1 tk k1 => ⟨rfl, I.turnedL (t' := tk) (ch := [e, it]) k1 hf⟩
  self := fun A i s Q E st h => by
    obtain ⟨⟨_, he⟩, _⟩ := st
    exact wpAny_pyIter_enum he h
/-- a list or a tuple -/
def iEnumA (K : PySem.W.Frag) (ta : TA) : TI := fun σ H R => ta σ H fun vs H1 => ∃ a xs, vs = [.ref a] ∧ ((SqL K H1 a xs ∧ R (Ite K a) H1) ∨ (SqT K H1 a xs ∧ R (ItEt K a) H1))
theorem pi_enumA {X : Cx} {e : Expr} {ta : TA} {p pos tpos : Pos} {elts : List Expr} {kk : Nat} (hg : Gl X "enumerate") (hm : X.mg "enumerate" = none) (ha : PA X [e] ta) (hs : starEach [e] X.env = [(false, eval e X.env)]) :
    PI X (.Tuple elts kk tpos) (.Call (.Name "enumerate" p) [e] [] pos) (iEnumA X.K ta) := by
  refine ⟨fun pins s σ H R I h => ?_⟩
  refine Call_ (ld_blt I hg hm boot_enumerate (PyProof.Rows.callWith_type1
    (thn (ha.run pos pins s σ H _ I h) fun us s1 ⟨vs, H1, I1, r1, q1⟩ => ?_) hs rfl))
  obtain ⟨a, xs, ex, q⟩ := q1
  subst ex
  cases r1 with
  | cons r rr =>
    cases rr
    cases r
    have fps : ∀ b ∈ [s1.heap.objs.size + 1, s1.heap.objs.size], FpOk X pins H1 b := fun b hb => by
      have hle : s1.heap.objs.size ≤ b := by
        rcases (show b = s1.heap.objs.size + 1 ∨ b = s1.heap.objs.size by simpa using hb) with z | z
        · rw [z]; exact Nat.le_add_right _ _
        · rw [z]; exact Nat.le_refl _
      exact I1.fpOk hle (I1.hok.fresh hle)
    rcases q with ⟨hq, q⟩ | ⟨hq, q⟩
    · obtain ⟨its, rv, p', hz⟩ := I1.list hq
      refine call_enumerate_list p'.isList fun h' he hit hsz hk => wpAny_pyIter_enum he ?_
      have I2 : Inv X pins σ H1 { s1 with heap := h' } := I1.kept (t' := s1.toks) hk
      exact ⟨s1.heap.objs.size + 1, _, _, _, H1, rfl, I2, turn_enum a (s1.heap.objs.size + 1) s1.heap.objs.size,
        ⟨⟨.none, he⟩, hit, Nat.succ_ne_self _⟩, fps, q⟩
    · obtain ⟨its, rv, ⟨o, ho, hcl, nn, hd⟩, hz⟩ := I1.tuple hq
      have lt := Heap.lt_size ho
      refine enum_of_tuple (vals := its.toArray) ⟨o, ho, hcl, nn, hd⟩ fun h' he hit hk => wpAny_pyIter_enum he ?_
      have I2 : Inv X pins σ H1 { s1 with heap := h' } := I1.kept (t' := s1.toks) hk
      exact ⟨s1.heap.objs.size + 1, _, _, _, H1, rfl, I2, turn_enumT a (s1.heap.objs.size + 1) s1.heap.objs.size,
        ⟨⟨.none, he⟩, hit, Nat.succ_ne_self _, fun z => Nat.lt_irrefl _ (Nat.lt_of_lt_of_le (z ▸ lt) (Nat.le_succ _)), Nat.ne_of_lt lt⟩, fps, q⟩
theorem itet_ok {K : PySem.W.Frag} {F : Hp} {a : Addr} {vs : List V} {xs : List PyData} (h : SqT K F a vs) (hx : DpAll K F vs xs) : ItOk K F (ItEt K a) (xs.zipIdx.map fun p => .tuple [.int (p.2 : Nat), p.1]) := fun F' H l1 l2 => by
  have e1 := h.le (l1.trans l2)
  refine ⟨fun i d e => ?_, ⟨vs, e1, ?_⟩⟩
  · rw [List.getElem?_map, List.getElem?_zipIdx] at e
    cases hz : xs[i]? with
    | none => rw [hz] at e; cases e
    | some p =>
      rw [hz] at e
      cases e
      obtain ⟨v, ev, pv⟩ := hx.get hz
      refine ⟨⟨vs, v, e1, ev⟩, fun x H' hyd => ?_⟩
      obtain ⟨T, z, rfl, hT, rfl, g1⟩ := hyd
      have c1 := g1 vs e1
      rw [ev] at c1
      cases c1
      have e0 : ((0 + i : Nat) : Int) = (i : Int) := by omega
      exact ⟨_, Gr.new l2 hT, Dp.new_tup (l2.none hT) (.cons (by show Dp K F' (.int (i : Nat)) (.int ((0 + i : Nat) : Int)); rw [e0]; exact .int _) (.cons (pv.le l1) .nil))⟩
  · have := hx.length
    simp
    omega
def enD2 : PyData → R (List PyData)
  | .list xs => .ok (xs.zipIdx.map fun p => .tuple [.int (p.2 : Nat), p.1])
  | .tuple xs => .ok (xs.zipIdx.map fun p => .tuple [.int (p.2 : Nat), p.1])
  | _ => .bad
def enE2 (ma : Ev → R PyData) (ρ : Ev) : R (List PyData) := (ma ρ).bind enD2
section
variable {X : Cx} {We : EW} {e a b c : Expr} {pos p tpos : Pos} {elts : List Expr} {kk : Nat}
theorem xi_enumA {ma : Ev → R PyData} (hg : Gl X "enumerate") (hm : X.mg "enumerate" = none) (ha : XE X We a ma) (hs : starEach [a] X.env = [(false, eval a X.env)]) :
    XI X We (.Tuple elts kk tpos) (.Call (.Name "enumerate" p) [a] [] pos) (enE2 ma) := by
  have h := pi_enumA (tpos := tpos) (elts := elts) (kk := kk) (p := p) (pos := pos) hg hm (xa_cons ha xa_nil hs) hs
  refine ⟨fun pins s σ H R I q => h.run pins s σ H R I ?_⟩
  obtain ⟨ρ, F, G, r, q⟩ := q
  refine ⟨ρ, F, G, r, ?_⟩
  have q' : Po We (pI X.K) F H σ (((consA ma nilA) ρ).bind fun ds => match ds with | [x] => enD2 x | _ => .bad) R := by
    have e0 : enE2 ma ρ = (((consA ma nilA) ρ).bind fun ds => match ds with | [x] => enD2 x | _ => .bad) := by
      unfold enE2 consA nilA
      cases ma ρ <;> rfl
    rw [← e0]
    exact q
  refine Po.bind (P := pA X.K) q' fun ds vs F1 H1 g1 p1 q1 => ?_
  split at q1
  · obtain ⟨v, ws, rfl, a1, b1⟩ := DpAll.cons_inv p1
    cases DpAll.nil_inv b1
    unfold enD2 at q1
    split at q1
    · cases a1 with
      | lst s1 d1 => exact ⟨_, _, rfl, .inl ⟨s1.le g1.le, q1 _ F1 H1 (Gr.refl g1.le) (ite_ok s1 d1)⟩⟩
    · cases a1 with
      | tup s1 d1 => exact ⟨_, _, rfl, .inr ⟨s1.le g1.le, q1 _ F1 H1 (Gr.refl g1.le) (itet_ok s1 d1)⟩⟩
    · exact q1.elim
  · exact q1.elim
end
@[simp] theorem enE2_ap (ma : Ev → R PyData) (ρ : Ev) : enE2 ma ρ = (ma ρ).bind enD2 := (rfl)
@[simp] theorem enD2_l (xs : List PyData) : enD2 (.list xs) = .ok (xs.zipIdx.map fun p => .tuple [.int (p.2 : Nat), p.1]) := (rfl)
@[simp] theorem enD2_t (xs : List PyData) : enD2 (.tuple xs) = .ok (xs.zipIdx.map fun p => .tuple [.int (p.2 : Nat), p.1]) := (rfl)
end PD
namespace PD
open PySem PySem.Spec PyProof.Rows L2
/-! ## zip(t, xs), t a tuple and xs a list -/
def ItzM (K : PySem.W.Frag) (a b : Addr) : It :=
  ⟨fun i H => ∃ (xs ys : List V) (x y : V), SqT K H a xs ∧ SqL K H b ys ∧ xs[i]? = some x ∧ ys[i]? = some y,
   fun i H v H' => ∃ T x y, v = .ref T ∧ H T = none ∧ H' = upd H T (.tup [x, y]) ∧ (∀ xs, SqT K H a xs → xs[i]? = some x) ∧ ∀ ys, SqL K H b ys → ys[i]? = some y,
   fun i H => ∃ xs ys : List V, SqT K H a xs ∧ SqL K H b ys ∧ min xs.length ys.length = i⟩
theorem turn_zipM {P : Program} {w : World} {K : PySem.W.Frag} {elts : List Expr} {kk : Nat} {tpos : Pos} {a b z TI TO i1 i2 : Addr} (S : ZipSep2 z TI TO i1 i2 [i1, a] [i2, b]) (na : a ≠ i1) (nb : b ≠ i2) :
    Turn P w K (.Tuple elts kk tpos) (ItzM K a b) [z, TI, TO, i1, i2] z (fun i h => IsZip h z TI TO .none ∧ IsTupOf2 h TI (.ref i1) (.ref i2) ∧ (∃ u v, IsTupOf2 h TO u v) ∧ h.IsTupleIter i1 a i ∧ h.IsListIter i2 b i) where
  mem := by simp
  obj := fun i h st c hc => by
    obtain ⟨hz, hTI, ⟨x, y, hTO⟩, ⟨o1, e1, _, d1⟩, ⟨o2, e2, _, d2⟩⟩ := st
    rcases (show c = z ∨ c = TI ∨ c = TO ∨ c = i1 ∨ c = i2 by simpa using hc) with q | q | q | q | q
    · rw [q]
      exact ⟨_, hz, fun v q => nomatch q⟩
    · rw [q]
      exact ⟨_, hTI, fun v q => nomatch q⟩
    · rw [q]
      exact ⟨_, hTO, fun v q => nomatch q⟩
    · rw [q]
      exact ⟨o1, e1, fun v q => by rw [d1] at q; cases q⟩
    · rw [q]
      exact ⟨o2, e2, fun v q => by rw [d2] at q; cases q⟩
  keep := fun i h h' st k => by
    obtain ⟨hz, hTI, ⟨x, y, hTO⟩, ⟨o1, e1, r1⟩, ⟨o2, e2, r2⟩⟩ := st
    exact ⟨k z (by simp) _ hz, k TI (by simp) _ hTI, ⟨x, y, k TO (by simp) _ hTO⟩, ⟨o1, k i1 (by simp) _ e1, r1⟩, ⟨o2, k i2 (by simp) _ e2, r2⟩⟩
  item := by
    intro X hP hw hK hc i pins s σ H E I hf st hg
    subst hP hw hK
    obtain ⟨hz, hTI, hTO, h1, h2⟩ := st
    obtain ⟨xs, ys, x, y, hqx, hqy, hx, hy⟩ := hg
    obtain ⟨its, rv, ⟨o, ho, hcl, nn, hd⟩, _⟩ := I.tuple hqx
    obtain ⟨its2, rv2, p2, _⟩ := I.list hqy
    obtain ⟨u, hu, ru⟩ := rv.get hx
    obtain ⟨u2, hu2, ru2⟩ := rv2.get hy
    have isT : s.heap.IsTuple a its.toArray := ⟨o, ho, hcl, nn, hd⟩
    have quiet : X.A.in1.handled = none := by
      have := I.ok.hd hc
      simp [this]
    have W := WalksT.zipD2 (prog := X.prog) (w := X.w) (A := X.A) S (Draws.tuple quiet i1 a na its.toArray) (Draws.list quiet i2 b nb its2.toArray)
    have hlt : i < min its.toArray.size its2.toArray.size := by
      have a1 := rv.length
      have a2 := rv2.length
      have b1 := (List.getElem?_eq_some_iff.mp hx).1
      have b2 := (List.getElem?_eq_some_iff.mp hy).1
      simp
      omega
    have wr : ∀ c, c ∉ [z, TI, TO, i1, i2] → c ∉ [z, TO, i1, i2] := fun c h q => h (by
      rcases (show c = z ∨ c = TO ∨ c = i1 ∨ c = i2 by simpa using q) with e | e | e | e <;> simp [e])
    refine W.item i s _ _ hlt ⟨hz, hTI, hTO, ⟨h1, isT⟩, ⟨h2, p2.isList⟩⟩ fun T vals h' tk hp hle hT mid k1 => ?_
    refine ⟨_, rfl, W.go elts kk tpos i T _ _ _ mid fun h'' st2 k2 => ?_⟩
    obtain ⟨y1, y2, e1, e2, rfl⟩ := hp
    have e1 : its.toArray[i]? = some y1 := e1
    have e2 : its2.toArray[i]? = some y2 := e2
    have eu : y1 = u := by
      have : its.toArray[i]? = some u := by simpa using hu
      rw [e1] at this
      exact Option.some.inj this
    have eu2 : y2 = u2 := by
      have : its2.toArray[i]? = some u2 := by simpa using hu2
      rw [e2] at this
      exact Option.some.inj this
    subst eu eu2
    have hTw := W.apart i T h' mid
    obtain ⟨oT, hoT, hcT, nT, hdT⟩ := hT
    have hT2 : h''.get? T = some oT := k2 T oT hTw hoT
    have new : ObjOk X.prog X.w (upd H T (.tup [x, y])) h'' T (.tup [x, y]) :=
      ⟨by show 2 ≤ sizeLine; decide, [y1, y2], .cons ru (.cons ru2 .nil), ⟨oT, hT2, hcT, nT, hdT⟩⟩
    have I1 : Inv X pins σ (upd H T (.tup [x, y])) { s with heap := h'', toks := tk } :=
      I.turnedNew (ch := [z, TI, TO, i1, i2]) (fun c ob hb q => k2 c ob (wr c hb) (k1 c ob (wr c hb) q)) hf hle new
    obtain ⟨g1, g2, g3, g4, g5⟩ := st2
    refine ⟨.ref T, _, I1, rfl, ⟨_, x, y, rfl, I.hok.fresh hle, rfl, fun l hl => by rw [I.tuple_inj hl hqx]; exact hx, fun l hl => by rw [I.list_inj hl hqy]; exact hy⟩, ⟨g1, g2, g3, g4.1, g5.1⟩, fun c hcm => ?_⟩
    have hlt2 : c < s.heap.objs.size := by
      rcases (show c = z ∨ c = TI ∨ c = TO ∨ c = i1 ∨ c = i2 by simpa using hcm) with q | q | q | q | q
      · rw [q]; exact Heap.lt_size hz
      · rw [q]; exact Heap.lt_size hTI
      · obtain ⟨_, _, hTO⟩ := hTO
        rw [q]; exact Heap.lt_size hTO
      · obtain ⟨_, w1, _⟩ := h1
        rw [q]; exact Heap.lt_size w1
      · obtain ⟨_, w2, _⟩ := h2
        rw [q]; exact Heap.lt_size w2
    have hne : c ≠ T := fun q => by
      rw [q] at hlt2
      exact Nat.lt_irrefl _ (Nat.lt_of_lt_of_le hlt2 hle)
    rw [upd_ne hne]
    exact (hf c hcm).1
  done := by
    intro X hP hw hK hc i pins s σ H E I hf st hg
    subst hP hw hK
    obtain ⟨hz, hTI, hTO, h1, h2⟩ := st
    obtain ⟨xs, ys, hqx, hqy, hend⟩ := hg
    obtain ⟨its, rv, ⟨o, ho, hcl, nn, hd⟩, _⟩ := I.tuple hqx
    obtain ⟨its2, rv2, p2, _⟩ := I.list hqy
    have isT : s.heap.IsTuple a its.toArray := ⟨o, ho, hcl, nn, hd⟩
    have quiet : X.A.in1.handled = none := by
      have := I.ok.hd hc
      simp [this]
    have W := WalksT.zipD2 (prog := X.prog) (w := X.w) (A := X.A) S (Draws.tuple quiet i1 a na its.toArray) (Draws.list quiet i2 b nb its2.toArray)
    have wr : ∀ c, c ∉ [z, TI, TO, i1, i2] → c ∉ [z, TO, i1, i2] := fun c h q => h (by
      rcases (show c = z ∨ c = TO ∨ c = i1 ∨ c = i2 by simpa using q) with e | e | e | e <;> simp [e])
    have hl : i = min its.toArray.size its2.toArray.size := by
      have a1 := rv.length
      have a2 := rv2.length
      simp
      omega
    subst hl
    exact W.done s _ _ ⟨hz, hTI, hTO, ⟨h1, isT⟩, ⟨h2, p2.isList⟩⟩ fun h' tk k1 => ⟨rfl, I.turnedL (t' := tk) (ch := [z, TI, TO, i1, i2]) (fun c o hb q => k1 c o (wr c hb) q) hf⟩
  self := fun A i s Q E st h => wpAny_pyIter_zip st.1 h
def iZipM (K : PySem.W.Frag) (ta : TA) : TI := fun σ H R => ta σ H fun vs H1 => ∃ a b xs ys, vs = [.ref a, .ref b] ∧ SqT K H1 a xs ∧ SqL K H1 b ys ∧ R (ItzM K a b) H1
theorem pi_zipM {X : Cx} {e e2 : Expr} {ta : TA} {p pos tpos : Pos} {elts : List Expr} {kk : Nat} (hg : Gl X "zip") (hm : X.mg "zip" = none) (ha : PA X [e, e2] ta)
    (hs : starEach [e, e2] X.env = (false, eval e X.env) :: starEach [e2] X.env) (hpl : (backTo pos (starEach [e2] X.env)).any (·.1) = false) :
    PI X (.Tuple elts kk tpos) (.Call (.Name "zip" p) [e, e2] [] pos) (iZipM X.K ta) := by
  refine ⟨fun pins s σ H R I h => ?_⟩
  refine Call_ (ld_blt I hg hm PyProof.Rows.boot_zip (PyProof.Rows.callWith_type1
    (thn (ha.run pos pins s σ H _ I h) fun us s1 ⟨vs, H1, I1, r1, q1⟩ => ?_) hs hpl))
  obtain ⟨a, b, xs, ys, ex, hqx, hqy, q⟩ := q1
  subst ex
  cases r1 with
  | cons r rr =>
    cases rr with
    | cons r' rr =>
      cases rr
      cases r
      cases r'
      obtain ⟨its, rv, ⟨o, ho, hcl, nn, hd⟩, _⟩ := I1.tuple hqx
      obtain ⟨its2, rv2, p2, _⟩ := I1.list hqy
      have isT : s1.heap.IsTuple a its.toArray := ⟨o, ho, hcl, nn, hd⟩
      have la : a < s1.heap.objs.size := Heap.lt_size ho
      have lb : b < s1.heap.objs.size := p2.lt
      refine zip_begins2 (begins_tuple a its.toArray) (begins_list b its2.toArray) isT p2.isList fun h' hz hTI hTO g1 g2 hsz hk => wpAny_pyIter_zip hz ?_
      have I2 : Inv X pins σ H1 { s1 with heap := h' } := I1.kept (t' := s1.toks) hk
      have S : ZipSep2 (s1.heap.objs.size + 4) (s1.heap.objs.size + 2) (s1.heap.objs.size + 3) s1.heap.objs.size (s1.heap.objs.size + 1) [s1.heap.objs.size, a] [s1.heap.objs.size + 1, b] :=
        zip_sep2 (fp1 := [a]) (fp2 := [b]) (fun c hc => by rw [List.mem_singleton.mp hc]; exact la) (fun c hc => by rw [List.mem_singleton.mp hc]; exact lb)
      refine ⟨s1.heap.objs.size + 4, _, _, _, H1, rfl, I2, turn_zipM S (Nat.ne_of_lt la) (Nat.ne_of_lt (Nat.lt_succ_of_lt lb)), ⟨hz, hTI, ⟨_, _, hTO⟩, ⟨_, g1, rfl, rfl⟩, ⟨_, g2, rfl, rfl⟩⟩, fun c hcm => ?_, q⟩
      have hle : s1.heap.objs.size ≤ c := by
        rcases (show c = s1.heap.objs.size + 4 ∨ c = s1.heap.objs.size + 2 ∨ c = s1.heap.objs.size + 3 ∨ c = s1.heap.objs.size ∨ c = s1.heap.objs.size + 1 by simpa using hcm) with z | z | z | z | z
        · rw [z]; exact Nat.le_add_right _ _
        · rw [z]; exact Nat.le_add_right _ _
        · rw [z]; exact Nat.le_add_right _ _
        · rw [z]; exact Nat.le_refl _
        · rw [z]; exact Nat.le_add_right _ _
      exact I1.fpOk hle (I1.hok.fresh hle)
theorem itzm_ok {K : PySem.W.Frag} {F : Hp} {a b : Addr} {vs us : List V} {xs ys : List PyData} (h : SqT K F a vs) (h2 : SqL K F b us) (hx : DpAll K F vs xs) (hy : DpAll K F us ys) : ItOk K F (ItzM K a b) (zipP xs ys) := fun F' H l1 l2 => by
  have e1 := h.le (l1.trans l2)
  have e2 := h2.le (l1.trans l2)
  refine ⟨fun i d e => ?_, ⟨vs, us, e1, e2, ?_⟩⟩
  · obtain ⟨p, q, hp, hq, rfl⟩ := zipP_at e
    obtain ⟨v, ev, pv⟩ := hx.get hp
    obtain ⟨u, eu, pu⟩ := hy.get hq
    refine ⟨⟨vs, us, v, u, e1, e2, ev, eu⟩, fun x H' hyd => ?_⟩
    obtain ⟨T, z, w, rfl, hT, rfl, g1, g2⟩ := hyd
    have c1 := g1 vs e1
    have c2 := g2 us e2
    rw [ev] at c1
    rw [eu] at c2
    cases c1; cases c2
    exact ⟨_, Gr.new l2 hT, Dp.new_tup (l2.none hT) (.cons (pv.le l1) (.cons (pu.le l1) .nil))⟩
  · rw [zipP_length]
    have := hx.length
    have := hy.length
    omega
def zipD2 : PyData → PyData → R (List PyData)
  | .tuple xs, .list ys => .ok (zipP xs ys)
  | d, e => zipD d e
def zpE2 (ma mb : Ev → R PyData) (ρ : Ev) : R (List PyData) := (ma ρ).bind fun x => (mb ρ).bind fun y => zipD2 x y
theorem zipD2_ne {d e : PyData} (h : ¬ ∃ xs ys, d = .tuple xs ∧ e = .list ys) : zipD2 d e = zipD d e := by
  unfold zipD2
  split
  · exact absurd ⟨_, _, rfl, rfl⟩ h
  · rfl
section
variable {X : Cx} {We : EW} {e a b c : Expr} {pos p tpos : Pos} {elts : List Expr} {kk : Nat}
theorem xi_zip2 {ma mb : Ev → R PyData} (hg : Gl X "zip") (hm : X.mg "zip" = none) (ha : XE X We a ma) (hb : XE X We b mb)
    (hs : starEach [a, b] X.env = (false, eval a X.env) :: starEach [b] X.env) (hs1 : starEach [b] X.env = (false, eval b X.env) :: starEach [] X.env) (hpl : (backTo pos (starEach [b] X.env)).any (·.1) = false) :
    XI X We (.Tuple elts kk tpos) (.Call (.Name "zip" p) [a, b] [] pos) (zpE2 ma mb) := by
  have h1 := xi_zip (tpos := tpos) (elts := elts) (kk := kk) (p := p) (pos := pos) hg hm ha hb hs hs1 hpl
  have h2 := pi_zipM (tpos := tpos) (elts := elts) (kk := kk) (p := p) (pos := pos) hg hm (xa_cons ha (xa_cons hb xa_nil hs1) hs) hs hpl
  refine ⟨fun pins s σ H R I q => ?_⟩
  obtain ⟨ρ, F, G, r, q⟩ := q
  by_cases hmx : ∃ xs ys, ma ρ = .ok (.tuple xs) ∧ mb ρ = .ok (.list ys)
  · obtain ⟨xs, ys, e1, e2⟩ := hmx
    refine h2.run pins s σ H R I ⟨ρ, F, G, r, ?_⟩
    have e3 : consA ma (consA mb nilA) ρ = .ok [.tuple xs, .list ys] := by
      unfold consA nilA
      rw [e1, e2]
      rfl
    have e4 : zpE2 ma mb ρ = .ok (zipP xs ys) := by
      unfold zpE2
      rw [e1, e2]
      rfl
    rw [e4] at q
    rw [e3]
    intro vs F1 H1 g1 p1
    obtain ⟨v, ws, rfl, a1, b1⟩ := DpAll.cons_inv p1
    obtain ⟨v2, ws2, rfl, a2, b2⟩ := DpAll.cons_inv b1
    cases DpAll.nil_inv b2
    cases a1 with
    | tup s1 d1 =>
      cases a2 with
      | lst s2 d2 => exact ⟨_, _, _, _, rfl, s1.le g1.le, s2.le g1.le, q _ F1 H1 g1 (itzm_ok s1 s2 d1 d2)⟩
  · refine h1.run pins s σ H R I ⟨ρ, F, G, r, ?_⟩
    have e4 : zpE2 ma mb ρ = zpE ma mb ρ := by
      unfold zpE2 zpE
      cases hma : ma ρ with
      | err c => rfl
      | bad => rfl
      | ok x =>
        rw [bind_ok, bind_ok]
        cases hmb : mb ρ with
        | err c => rfl
        | bad => rfl
        | ok y =>
          rw [bind_ok, bind_ok]
          exact zipD2_ne fun ⟨xs, ys, z1, z2⟩ => hmx ⟨xs, ys, by rw [hma, z1], by rw [hmb, z2]⟩
    rw [← e4]
    exact q
end
@[simp] theorem zpE2_ap (ma mb : Ev → R PyData) (ρ : Ev) : zpE2 ma mb ρ = (ma ρ).bind fun x => (mb ρ).bind fun y => zipD2 x y := (rfl)
@[simp] theorem zipD2_tl (xs ys : List PyData) : zipD2 (.tuple xs) (.list ys) = .ok (zipP xs ys) := (rfl)
/-! ## a def that calls itself: nothing is said at the bottom -/
theorem fnP_bad {P : Program} {w : World} {K : PySem.W.Frag} {mg : Str → Option Value} {base : Heap} {x qual : Str} {st : Stmt} {f : Addr} {fd : FuncData} {N ps : List Str} {k : Nat} (Fn : Fun K x qual st f fd) (S : FnScope N ps (defScope st)) :
    FnP P w K mg base (k + 1) f fd ps (fun _ => .bad) := by
  refine Fn.okX S (fun vs H Q E h => ?_) fun cdv A outer s H vs Q E hr h => ?_
  · obtain ⟨F, ds, l, hd, hl, h⟩ := h
    exact h.elim
  · obtain ⟨F, ds, l, hd, hl, h⟩ := h
    exact h.elim
end PD
namespace PD
open PySem PySem.Spec PyProof.Rows L2
section
variable {X : Cx} {We : EW} {a b c d0 : Expr} {pos : Pos} {x : Str}
/-! ## four targets -/
def parO4 (oi oj ol om : Bool) (i j l m : Nat) (ma mb mc md : Ev → R PyData) : SM := fun ρ => (ma ρ).bind fun d => (mb ρ).bind fun d2 => (mc ρ).bind fun d3 => (md ρ).bind fun d4 => (slOf oi d).bind fun x => (slOf oj d2).bind fun y => (slOf ol d3).bind fun z => (slOf om d4).bind fun t => .ok (.nx ((((ρ.set i x).set j y).set l z).set m t))
theorem xs_parT4 {oi oj ol om : Bool} {i j l m : Nat} {y z u : Str} {ma mb mc md : Ev → R PyData} {px py pz pu pt : Pos} {kt k2 : Nat} {pt2 : Pos} (hc : X.calm = true) (hN : X.N.Nodup) (hi : X.N[i]? = some x) (hj : X.N[j]? = some y) (hl : X.N[l]? = some z) (hm' : X.N[m]? = some u)
    (hx : Loc X.env.scope x) (hy : Loc X.env.scope y) (hz : Loc X.env.scope z) (hu' : Loc X.env.scope u)
    (fx : X.fn x = true ∨ X.env.scope.names.lookup x = some .local) (fy : X.fn y = true ∨ X.env.scope.names.lookup y = some .local) (fz : X.fn z = true ∨ X.env.scope.names.lookup z = some .local) (fu : X.fn u = true ∨ X.env.scope.names.lookup u = some .local)
    (ha : PE X a (tM X.K We (pOw X.K oi) ma)) (hb : PE X b (tM X.K We (pOw X.K oj) mb)) (hcc : PE X c (tM X.K We (pOw X.K ol) mc)) (hdd : PE X d0 (tM X.K We (pOw X.K om) md))
    (h1 : starEach [a, b, c, d0] X.env = (false, eval a X.env) :: starEach [b, c, d0] X.env) (h2 : starEach [b, c, d0] X.env = (false, eval b X.env) :: starEach [c, d0] X.env) (h3 : starEach [c, d0] X.env = (false, eval c X.env) :: starEach [d0] X.env) (h4 : starEach [d0] X.env = (false, eval d0 X.env) :: starEach [] X.env)
    (k1 : (assignEach [.Name x px, .Name y py, .Name z pz, .Name u pu] X.env).map (·.2) = assign (.Name x px) X.env :: (assignEach [.Name y py, .Name z pz, .Name u pu] X.env).map (·.2)) (k2' : (assignEach [.Name y py, .Name z pz, .Name u pu] X.env).map (·.2) = assign (.Name y py) X.env :: (assignEach [.Name z pz, .Name u pu] X.env).map (·.2)) (k3 : (assignEach [.Name z pz, .Name u pu] X.env).map (·.2) = assign (.Name z pz) X.env :: (assignEach [.Name u pu] X.env).map (·.2)) (k4 : (assignEach [.Name u pu] X.env).map (·.2) = assign (.Name u pu) X.env :: (assignEach [] X.env).map (·.2))
    (hn : (assignEach [.Name x px, .Name y py, .Name z pz, .Name u pu] X.env).length = 4) (hst : (assignEach [.Name x px, .Name y py, .Name z pz, .Name u pu] X.env).findIdx? (·.1) = none)
    (hs : swapsWithSole [.Tuple [.Name x px, .Name y py, .Name z pz, .Name u pu] kt pt] (.Tuple [a, b, c, d0] k2 pt2) pos.line X.env = pure false)
    (hw : swappedStores [.Tuple [.Name x px, .Name y py, .Name z pz, .Name u pu] kt pt] (.Tuple [a, b, c, d0] k2 pt2) X.env = pure none)
    (hA : (assignEach [.Tuple [.Name x px, .Name y py, .Name z pz, .Name u pu] kt pt] X.env).map (·.2) = [assign (.Tuple [.Name x px, .Name y py, .Name z pz, .Name u pu] kt pt) X.env]) :
    XS X We (.Assign [.Tuple [.Name x px, .Name y py, .Name z pz, .Name u pu] kt pt] (.Tuple [a, b, c, d0] k2 pt2) pos) (parO4 oi oj ol om i j l m ma mb mc md) :=
  ps_imp (ps_asg (pe_tup (pa_cons ha (pa_cons hb (pa_cons hcc (pa_cons hdd pa_nil h4) h3) h2) h1)) (pg_tup hc (pgs_cons (pg_name hN hi hx fx) (pgs_cons (pg_name hN hj hy fy) (pgs_cons (pg_name hN hl hz fz) (pgs_cons (pg_name hN hm' hu' fu) pgs_nil k4) k3) k2') k1) hn hst) hs hw hA) fun D σ H q => by
    obtain ⟨ρ, F, G, r, q⟩ := q
    refine ⟨ρ, F, G, r, ?_⟩
    have q : PoS X.K We F G ((ma ρ).bind fun d => (mb ρ).bind fun d2 => (mc ρ).bind fun d3 => (md ρ).bind fun d4 => (slOf oi d).bind fun x => (slOf oj d2).bind fun y => (slOf ol d3).bind fun z => (slOf om d4).bind fun t => .ok (.nx ((((ρ.set i x).set j y).set l z).set m t))) D := q
    cases hma : ma ρ with
    | err c => rw [hma] at q; exact fun H' l => q σ G H' (Le.refl G) (r.gh.trans l)
    | bad => rw [hma] at q; exact q.elim
    | ok d =>
      rw [hma, bind_ok] at q
      intro v F1 H1 g1 p1
      refine ⟨ρ, F1, _, (r.grow g1).1, ?_⟩
      have q0 := PoS.step (r.grow g1).2 q
      cases hmb : mb ρ with
      | err c => rw [hmb] at q0; exact fun H' l => q0 σ _ H' (Le.refl _) ((r.grow g1).1.gh.trans l)
      | bad => rw [hmb] at q0; exact q0.elim
      | ok d2 =>
        rw [hmb, bind_ok] at q q0
        intro w F2 H2 g2 p2
        have r12 := (r.grow g1).1.grow g2
        refine ⟨ρ, F2, _, r12.1, ?_⟩
        have q00 := PoS.step r12.2 q0
        cases hmc : mc ρ with
        | err c => rw [hmc] at q00; exact fun H' l => q00 σ _ H' (Le.refl _) (r12.1.gh.trans l)
        | bad => rw [hmc] at q00; exact q00.elim
        | ok d3 =>
          rw [hmc, bind_ok] at q q00
          intro u3 F3 H3 g3 p3
          have r13 := r12.1.grow g3
          refine ⟨ρ, F3, _, r13.1, ?_⟩
          have q000 := PoS.step r13.2 q00
          cases hmd : md ρ with
          | err c => rw [hmd] at q000; exact fun H' l => q000 σ _ H' (Le.refl _) (r13.1.gh.trans l)
          | bad => rw [hmd] at q000; exact q000.elim
          | ok d4 =>
            rw [hmd, bind_ok] at q
            intro u4 F4 H4 g4 p4
            cases hsx : slOf oi d with
            | err c => exact (slOf_ne hsx).elim
            | bad => rw [hsx] at q; exact q.elim
            | ok sx =>
              rw [hsx, bind_ok] at q
              cases hsy : slOf oj d2 with
              | err c => exact (slOf_ne hsy).elim
              | bad => rw [hsy] at q; exact q.elim
              | ok sy =>
                rw [hsy, bind_ok] at q
                cases hsz : slOf ol d3 with
                | err c => exact (slOf_ne hsz).elim
                | bad => rw [hsz] at q; exact q.elim
                | ok sz =>
                  rw [hsz, bind_ok] at q
                  cases hst4 : slOf om d4 with
                  | err c => exact (slOf_ne hst4).elim
                  | bad => rw [hst4] at q; exact q.elim
                  | ok st =>
                    rw [hst4, bind_ok] at q
                    obtain ⟨G1, r1, s1⟩ := r.putO g1 p1 hsx i
                    obtain ⟨G2, r2, s2⟩ := r1.putO g2 p2 hsy j
                    obtain ⟨G3, r3, s3⟩ := r2.putO g3 p3 hsz l
                    obtain ⟨G4, r4, s4⟩ := r3.putO g4 p4 hst4 m
                    refine ⟨by rw [sz_eq]; show 4 ≤ 16777216; omega, fun T nT => ?_⟩
                    obtain ⟨r5, s5⟩ := r4.grow (Gr.own (p := T) (o := .tup [v, w, u3, u4]) r4.fh nT)
                    exact ⟨T, _, rfl, SqT.of upd_same, rfl, v, _, rfl, w, _, rfl, u3, _, rfl, u4, _, rfl, rfl, PoS.step ((((s1.trans s2).trans s3).trans s4).trans s5) q _ F4 _ _ r5 (GrS.refl _ _)⟩
end
theorem parO4_ap (oi oj ol om : Bool) (i j l m : Nat) (ma mb mc md : Ev → R PyData) (ρ : Ev) (a b c d : PyData) (x y z t : Sl) (h : ma ρ = .ok a) (h2 : mb ρ = .ok b) (h3 : mc ρ = .ok c) (h4 : md ρ = .ok d) (hx : slOf oi a = .ok x) (hy : slOf oj b = .ok y) (hz : slOf ol c = .ok z) (ht : slOf om d = .ok t) : parO4 oi oj ol om i j l m ma mb mc md ρ = .ok (.nx ((((ρ.set i x).set j y).set l z).set m t)) := by
  unfold parO4
  rw [h, bind_ok, h2, bind_ok, h3, bind_ok, h4, bind_ok, hx, bind_ok, hy, bind_ok, hz, bind_ok, ht]
  rfl
/-! ## f() -/
section
variable {X : Cx} {We : EW} {pos p : Pos} {x : Str}
theorem xe_call0 {k : Nat} {f : Addr} {fd : FuncData} {m : List PyData → R PyData} (F : FnP X.prog X.w X.K X.mg X.base k f fd [] m) (hr : Room k X.A) (hg : Gl X x) (hm : X.mg x = some (.ref f)) (hk : PySem.W.keepIn X.K (.ref f) = true) (hb : Binds X.K fd [] [])
    (tk : Tk X We) (hdb : (x == ("__debug__" : Str)) = false) :
    XE X We (.Call (.Name x p) [] [] pos) (callE 0 m nilA) := by
  refine ⟨fun pins s σ H Q I h => ?_⟩
  refine wpAny_Call_Name_kw (ld_glob I hg hm ?_ hdb)
  refine PySem.W.callWith_K0 I.kIn hk (run_fnS (us := []) F hr hb (passAt tk σ) I .nil ?_)
  obtain ⟨ρ, F0, G, r, q⟩ := h
  have q1 : Po We (pD X.K) F0 H σ (m []) Q := q
  refine ⟨F0, [], r.fh, .nil, rfl, ?_⟩
  cases hmd : m [] with
  | ok d => rw [hmd] at q1; exact fun v F' H' g p => q1 v F' H' g p
  | err c => rw [hmd] at q1; exact fun H' C l hC => ⟨c, C, rfl, rfl, hC, q1 H' l⟩
  | bad => rw [hmd] at q1; exact q1
end
end PD
namespace PD
open PySem PySem.Spec PyProof.Rows L2
/-! ## sizes and counts -/
theorem zl0 : ((0 : Nat) ≤ SZ) = True := eq_true (Nat.zero_le _)
theorem zl1 : ((0 : Nat) + 1 ≤ SZ) = True := eq_true (by show _ ≤ 16777216; omega)
theorem zl2 : ((0 : Nat) + 1 + 1 ≤ SZ) = True := eq_true (by show _ ≤ 16777216; omega)
theorem zl3 : ((0 : Nat) + 1 + 1 + 1 ≤ SZ) = True := eq_true (by show _ ≤ 16777216; omega)
theorem zl4 : ((0 : Nat) + 1 + 1 + 1 + 1 ≤ SZ) = True := eq_true (by show _ ≤ 16777216; omega)
theorem zl5 : ((0 : Nat) + 1 + 1 + 1 + 1 + 1 ≤ SZ) = True := eq_true (by show _ ≤ 16777216; omega)
theorem zl6 : ((0 : Nat) + 1 + 1 + 1 + 1 + 1 + 1 ≤ SZ) = True := eq_true (by show _ ≤ 16777216; omega)
theorem zl7 : ((0 : Nat) + 1 + 1 + 1 + 1 + 1 + 1 + 1 ≤ SZ) = True := eq_true (by show _ ≤ 16777216; omega)
theorem zl8 : ((0 : Nat) + 1 + 1 + 1 + 1 + 1 + 1 + 1 + 1 ≤ SZ) = True := eq_true (by show _ ≤ 16777216; omega)
theorem zl9 : ((0 : Nat) + 1 + 1 + 1 + 1 + 1 + 1 + 1 + 1 + 1 ≤ SZ) = True := eq_true (by show _ ≤ 16777216; omega)
theorem zl10 : ((0 : Nat) + 1 + 1 + 1 + 1 + 1 + 1 + 1 + 1 + 1 + 1 ≤ SZ) = True := eq_true (by show _ ≤ 16777216; omega)
theorem zl11 : ((0 : Nat) + 1 + 1 + 1 + 1 + 1 + 1 + 1 + 1 + 1 + 1 + 1 ≤ SZ) = True := eq_true (by show _ ≤ 16777216; omega)
theorem zl12 : ((0 : Nat) + 1 + 1 + 1 + 1 + 1 + 1 + 1 + 1 + 1 + 1 + 1 + 1 ≤ SZ) = True := eq_true (by show _ ≤ 16777216; omega)
theorem zl13 : ((0 : Nat) + 1 + 1 + 1 + 1 + 1 + 1 + 1 + 1 + 1 + 1 + 1 + 1 + 1 ≤ SZ) = True := eq_true (by show _ ≤ 16777216; omega)
theorem ql1 : ((0 : Nat) + 1 = 1) = True := by simp
theorem ql2 : ((0 : Nat) + 1 + 1 = 2) = True := by simp
theorem ql3 : ((0 : Nat) + 1 + 1 + 1 = 3) = True := by simp
theorem ql4 : ((0 : Nat) + 1 + 1 + 1 + 1 = 4) = True := by simp
theorem ql5 : ((0 : Nat) + 1 + 1 + 1 + 1 + 1 = 5) = True := by simp
/-! ## small things -/
theorem int_ne (a b : Int) : neD (.int a) (.int b) = .ok (.bool (!decide (a = b))) := ne_t (α := Int) (by decide) a b
theorem int_eq (a b : Int) : eqD (.int a) (.int b) = .ok (.bool (decide (a = b))) := eq_t (α := Int) (by decide) a b
theorem bool_eq (a b : Bool) : eqD (.bool a) (.bool b) = .ok (.bool (decide (a = b))) := by cases a <;> cases b <;> rfl
theorem bool_ne (a b : Bool) : neD (.bool a) (.bool b) = .ok (.bool (!decide (a = b))) := by cases a <;> cases b <;> rfl
theorem nx_seq {a b : SM} {ρ ρ' : Ev} (h : a ρ = .ok (.nx ρ')) : seqS a b ρ = b ρ' := by
  rw [seqS_ap, h, thenS_nx]
theorem len_cut {α : Type} (xs : List α) (lo hi : Option Int) : (cutL xs lo hi).length ≤ xs.length := by
  unfold cutL
  rw [List.length_take, List.length_drop]
  omega
theorem mem_cut {α : Type} {xs : List α} {lo hi : Option Int} {x : α} (h : x ∈ cutL xs lo hi) : x ∈ xs := by
  unfold cutL at h
  exact List.mem_of_mem_drop (List.mem_of_mem_take h)
def intB (d : PyData) : Bool := isiB .int d && !isiB .bool d
theorem intB_true {d : PyData} (h : intB d = true) : ∃ i, d = .int i := by
  cases d <;> first | exact ⟨_, rfl⟩ | cases h
theorem intB_int (i : Int) : intB (.int i) = true := rfl
theorem isi_tup {d : PyData} (h : isiB .tuple d = true) : ∃ xs, d = .tuple xs := by
  cases d <;> first | exact ⟨_, rfl⟩ | cases h
theorem pair_of {xs : List PyData} (h : xs.length = 2) : ∃ x y, xs = [x, y] := by
  match xs, h with
  | [x, y], _ => exact ⟨x, y, rfl⟩
def asInt : PyData → Option Int
  | .int i => some i
  | _ => none
theorem asInt_some {d : PyData} {i : Int} (h : asInt d = some i) : d = .int i := by
  cases d <;> first | (cases h; rfl) | cases h
theorem asInt_none {d : PyData} (h : intB d = false) : asInt d = none := by
  cases d <;> first | rfl | cases h
theorem intB_asInt (d : PyData) : intB d = (asInt d).isSome := by cases d <;> rfl
/-- a whole number within bounds -/
def wholeB (d : PyData) (a b : Int) : Bool := match d with
  | .int i => decide (a ≤ i) && decide (i ≤ b)
  | _ => false
@[simp] theorem wholeB_int (i a b : Int) : wholeB (.int i) a b = (decide (a ≤ i) && decide (i ≤ b)) := rfl
theorem wholeB_not {d : PyData} (h : intB d = false) (a b : Int) : wholeB d a b = false := by
  cases d <;> first | rfl | cases h
theorem wholeB_un {d : PyData} {a b : Int} (h : wholeB d a b = true) : ∃ i, d = .int i ∧ a ≤ i ∧ i ≤ b := by
  cases d with
  | int i =>
    rw [wholeB_int, Bool.and_eq_true] at h
    exact ⟨i, rfl, of_decide_eq_true h.1, of_decide_eq_true h.2⟩
  | _ => cases h
theorem whole_ok (d : PyData) (a b : Int) : runB 3 (retS (andE (op1 (isiD .int) (vE 0)) (andE (notE (op1 (isiD .bool) (vE 0))) (chainE leD leD (vE 1) (vE 0) (vE 2))))) [d, .int a, .int b] = .ok (.bool (wholeB d a b)) := by
  cases d with
  | int i =>
    rw [runB_ap, wholeB_int]
    show outR ((chainE leD leD (vE 1) (vE 0) (vE 2) [.d (.int i), .d (.int a), .d (.int b)]).bind _) = _
    simp only [chainE_ap, vE_ap, List.getElem?_cons_zero, List.getElem?_cons_succ, ofS_d, bind_ok, le_ii, boolD_ap]
    by_cases h : a ≤ i
    · rw [decide_eq_true h]; rfl
    · rw [decide_eq_false h]; rfl
  | _ => rfl
theorem integer_ok (d : PyData) : runB 1 (retS (andE (op1 (isiD .int) (vE 0)) (notE (op1 (isiD .bool) (vE 0))))) [d] = .ok (.bool (intB d)) := by
  cases d <;> rfl
/-- all of what is walked, by a test that a def or an expression makes -/
theorem lcE_any {mi : Ev → R (List PyData)} {vs : List Nat} {g : PyData → Ev → R Ev} {e : Ev → R PyData} {ρ : Ev} {f : PyData → PyData} (xs : List PyData) (hi : mi ρ = .ok xs) (hl : xs.length ≤ SZ)
    (h : ∀ x ∈ xs, ∃ ρ', g x (wipeE ρ vs) = .ok ρ' ∧ e ρ' = .ok (f x)) : lcE mi vs g yesT e ρ = .ok (.list (xs.map f)) :=
  lcE_all (enc := fun d => d) xs (by rw [hi, List.map_id']) hl h
end PD
namespace PD
open PySem PySem.Spec PyProof.Rows L2 PySem.W
/-! ## sorted, over data with a Lean type -/
section
variable {α : Type} [DecidableEq α] [DatumOrd α]
def sortO (xs : List α) : List α := xs.mergeSort fun a b => !DatumOrd.lt b a
theorem lt_asym {a b : α} (h : DatumOrd.lt a b = true) : DatumOrd.lt b a = false := by
  cases e : DatumOrd.lt b a with
  | false => rfl
  | true => have := lt_tr h e; rw [lt_irr] at this; cases this
theorem sortO_perm (xs : List α) : (sortO xs).Perm xs := List.mergeSort_perm xs _
theorem sortO_pw (xs : List α) : (sortO xs).Pairwise fun a b => DatumOrd.lt b a = false := by
  have := List.pairwise_mergeSort (le := fun a b : α => !DatumOrd.lt b a) (fun a b c h1 h2 => by
    simp only [Bool.not_eq_true'] at *
    cases e : DatumOrd.lt c a with
    | false => rfl
    | true => rcases lt_neg b e with q | q
              · rw [q] at h2; cases h2
              · rw [q] at h1; cases h1) (fun a b => by
    cases e : DatumOrd.lt b a with
    | false => rfl
    | true => rw [lt_asym e]; rfl) xs
  exact this.imp fun q => by simpa using q
theorem sortO_uniq {xs ys : List α} (hp : ys.Perm xs) (hs : ys.Pairwise fun a b => DatumOrd.lt b a = false) : sortO xs = ys :=
  List.Perm.eq_of_pairwise (fun a b _ _ p q => lt_anti q p) (sortO_pw xs) hs ((sortO_perm xs).trans hp.symm)
theorem sortO_length (xs : List α) : (sortO xs).length = xs.length := List.length_mergeSort _
theorem sortO_mem {xs : List α} {x : α} : x ∈ sortO xs ↔ x ∈ xs := (sortO_perm xs).mem_iff
/-- what sorted takes: all tuples with something in them, or none a tuple -/
class Srt (α : Type) [DecidableEq α] [DatumOrd α] : Prop where
  ok : (∀ a : α, ∃ x xs, Datum.toD a = .tuple (x :: xs)) ∨ ∀ a : α, (match (Datum.toD a : PyData) with | .tuple _ => false | .none => false | _ => true) = true
theorem sortOk_t [Srt α] (h : Datum.depth α ≤ 60) (xs : List α) (hl : xs.length ≤ SZ) : sortOk (xs.map Datum.toD) = true := by
  unfold sortOk
  have hd := depthAll_map xs
  rw [Bool.and_eq_true, Bool.and_eq_true, decide_eq_true_eq, List.length_map]
  refine ⟨⟨List.all_eq_true.mpr fun x hx => ?_, ?_⟩, hl, by omega⟩
  · obtain ⟨a, ha, rfl⟩ := List.mem_map.mp hx
    refine List.all_eq_true.mpr fun y hy => ?_
    obtain ⟨b, hb, rfl⟩ := List.mem_map.mp hy
    exact DatumOrd.alike a b
  · rw [Bool.or_eq_true]
    rcases (Srt.ok : _ ∨ ∀ a : α, _) with k | k
    · refine .inl (List.all_eq_true.mpr fun x hx => ?_)
      obtain ⟨a, ha, rfl⟩ := List.mem_map.mp hx
      obtain ⟨y, ys, e⟩ := k a
      rw [e]
    · refine .inr (List.all_eq_true.mpr fun x hx => ?_)
      obtain ⟨a, ha, rfl⟩ := List.mem_map.mp hx
      exact k a
theorem sort_map (xs : List α) : (xs.map Datum.toD).mergeSort dLe = (sortO xs).map Datum.toD := by
  unfold sortO
  rw [List.map_mergeSort (r := fun a b : α => !DatumOrd.lt b a) (s := dLe) fun a _ b _ => by unfold dLe; rw [DatumOrd.lt_eq]]
theorem sort_t [Srt α] (h : Datum.depth α ≤ 60) (xs : List α) (hl : xs.length ≤ SZ) : sortedD [.list (xs.map Datum.toD)] = .ok (.list ((sortO xs).map Datum.toD)) := by
  show (if sortOk (xs.map Datum.toD) = true then R.ok (PyData.list ((xs.map Datum.toD).mergeSort dLe)) else .bad) = _
  rw [if_pos (sortOk_t h xs hl), sort_map]
theorem sortT_t [Srt α] (h : Datum.depth α ≤ 60) (xs : List α) (hl : xs.length ≤ SZ) : sortedD [.tuple (xs.map Datum.toD)] = .ok (.list ((sortO xs).map Datum.toD)) := by
  show (if sortOk (xs.map Datum.toD) = true then R.ok (PyData.list ((xs.map Datum.toD).mergeSort dLe)) else .bad) = _
  rw [if_pos (sortOk_t h xs hl), sort_map]
end
theorem srt_int : Srt Int := ⟨.inr fun _ => rfl⟩
theorem srt_str : Srt Str := ⟨.inr fun _ => rfl⟩
theorem srt_pair {α β : Type} [DecidableEq α] [DatumOrd α] [DecidableEq β] [DatumOrd β] : Srt (α × β) := ⟨.inl fun _ => ⟨_, _, rfl⟩⟩
theorem maxL2 (a b : Int) : maxD [.list [.int a, .int b]] = .ok (.int (max a b)) := by
  refine (max_t (α := Int) (by decide) a [b]).trans ?_
  unfold maxOf
  simp only [List.foldl]
  rw [show DatumOrd.lt a b = decide (a < b) from rfl]
  by_cases h : a < b
  · rw [decide_eq_true h, if_pos rfl, Int.max_eq_right (by omega)]; rfl
  · rw [decide_eq_false h, if_neg Bool.false_ne_true, Int.max_eq_left (by omega)]; rfl
theorem maxL1 (a : Int) : maxD [.list [.int a]] = .ok (.int a) := max_t (α := Int) (by decide) a []
theorem minL1 (a : Int) : minD [.list [.int a]] = .ok (.int a) := min_t (α := Int) (by decide) a []
theorem at_end {α : Type} (xs : List α) (x : α) : atI (xs ++ [x]) (-1) = some x := by
  unfold atI ixN
  rw [if_neg (by decide), if_pos (by rw [List.length_append]; show -((xs.length + 1 : Nat) : Int) ≤ -1; omega)]
  show (xs ++ [x])[((-1 : Int) + ((xs ++ [x]).length : Int)).toNat]? = _
  rw [List.length_append, show ((-1 : Int) + ((xs.length + [x].length : Nat) : Int)).toNat = xs.length by show ((-1 : Int) + ((xs.length + 1 : Nat) : Int)).toNat = _; omega]
  simp
theorem ix_end {xs : List PyData} {x : PyData} : ixD (.list (xs ++ [x])) (.int (-1)) = .ok x := ix_list (at_end xs x)
theorem ixT_end {xs : List PyData} {x : PyData} : ixD (.tuple (xs ++ [x])) (.int (-1)) = .ok x := ix_tuple (at_end xs x)
/-! ## a loop's turns one by one -/
theorem forG_nil {g : PyData → Ev → R Ev} {b : SM} {ρ : Ev} : forG g b [] ρ = .ok (.nx ρ) := rfl
theorem forG_nx {g : PyData → Ev → R Ev} {b : SM} {x : PyData} {xs : List PyData} {ρ ρ' : Ev} (h : (g x ρ).bind b = .ok (.nx ρ')) : forG g b (x :: xs) ρ = forG g b xs ρ' := by
  show PD.forM (fun x ρ => (g x ρ).bind b) (x :: xs) ρ = _
  rw [PD.forM, h]
  rfl
theorem forG_rt {g : PyData → Ev → R Ev} {b : SM} {x : PyData} {xs : List PyData} {ρ : Ev} {d : PyData} (h : (g x ρ).bind b = .ok (.rt d)) : forG g b (x :: xs) ρ = .ok (.rt d) := by
  unfold forG PD.forM
  rw [h]
theorem forG_ct {g : PyData → Ev → R Ev} {b : SM} {x : PyData} {xs : List PyData} {ρ ρ' : Ev} (h : (g x ρ).bind b = .ok (.ct ρ')) : forG g b (x :: xs) ρ = forG g b xs ρ' := by
  show PD.forM (fun x ρ => (g x ρ).bind b) (x :: xs) ρ = _
  rw [PD.forM, h]
  rfl
theorem forG_bk {g : PyData → Ev → R Ev} {b : SM} {x : PyData} {xs : List PyData} {ρ ρ' : Ev} (h : (g x ρ).bind b = .ok (.bk ρ')) : forG g b (x :: xs) ρ = .ok (.nx ρ') := by
  unfold forG PD.forM
  rw [h]
theorem forG_err {g : PyData → Ev → R Ev} {b : SM} {x : PyData} {xs : List PyData} {ρ : Ev} {c : String} (h : (g x ρ).bind b = .err c) : forG g b (x :: xs) ρ = .err c := by
  unfold forG PD.forM
  rw [h]
theorem forG_app {g : PyData → Ev → R Ev} {b : SM} {ys : List PyData} : ∀ {xs : List PyData} {ρ ρ' : Ev}, forG g b xs ρ = .ok (.nx ρ') → (∀ x ∈ xs, ∀ ρ, ∀ ρ', (g x ρ).bind b ≠ .ok (.bk ρ')) → forG g b (xs ++ ys) ρ = forG g b ys ρ'
  | [], ρ, ρ', h, _ => by cases h; rfl
  | x :: xs, ρ, ρ', h, hn => by
    rw [List.cons_append]
    cases e : (g x ρ).bind b with
    | err c => rw [forG_err e] at h; cases h
    | bad => unfold forG PD.forM at h; rw [e] at h; cases h
    | ok o =>
      cases o with
      | nx ρ1 => rw [forG_nx e] at h ⊢; exact forG_app h fun y hy => hn y (by simp [hy])
      | ct ρ1 => rw [forG_ct e] at h ⊢; exact forG_app h fun y hy => hn y (by simp [hy])
      | bk ρ1 => exact absurd e (hn x (by simp) ρ ρ1)
      | rt d => rw [forG_rt e] at h; cases h
      | rd d => unfold forG PD.forM at h; rw [e] at h; cases h
/-- a loop that ends at the first that is found -/
theorem forG_find {α : Type} {g : PyData → Ev → R Ev} {b : SM} {enc : α → PyData} {bad : α → Bool} {out : α → PyData} {I : Ev → Prop} : ∀ (xs : List α) (ρ : Ev), I ρ →
    (∀ x ∈ xs, ∀ ρ, I ρ → (bad x = true → (g (enc x) ρ).bind b = .ok (.rt (out x))) ∧ (bad x = false → ∃ ρ', (g (enc x) ρ).bind b = .ok (.nx ρ') ∧ I ρ')) →
    (∃ x rest, xs.filter bad = x :: rest ∧ forG g b (xs.map enc) ρ = .ok (.rt (out x))) ∨ (xs.filter bad = [] ∧ ∃ ρ', forG g b (xs.map enc) ρ = .ok (.nx ρ') ∧ I ρ')
  | [], ρ, h, _ => .inr ⟨rfl, ρ, rfl, h⟩
  | x :: xs, ρ, h, hb => by
    obtain ⟨h1, h2⟩ := hb x (by simp) ρ h
    cases e : bad x with
    | true => exact .inl ⟨x, xs.filter bad, by rw [List.filter_cons_of_pos e], by rw [List.map_cons, forG_rt (h1 e)]⟩
    | false =>
      obtain ⟨ρ', k1, k2⟩ := h2 e
      rw [List.map_cons, forG_nx k1, List.filter_cons_of_neg (by rw [e]; exact Bool.false_ne_true)]
      exact forG_find xs ρ' k2 fun y hy => hb y (by simp [hy])
theorem all_int {xs : List PyData} (h : xs.all intB = true) : ∃ ns : List Int, xs = ns.map .int := by
  induction xs with
  | nil => exact ⟨[], rfl⟩
  | cons x xs ih =>
    rw [List.all_cons, Bool.and_eq_true] at h
    obtain ⟨i, rfl⟩ := intB_true h.1
    obtain ⟨ns, rfl⟩ := ih h.2
    exact ⟨i :: ns, rfl⟩
theorem int_all (ns : List Int) : (ns.map PyData.int).all intB = true := by
  rw [List.all_map]
  exact List.all_eq_true.mpr fun _ _ => rfl
theorem zip_idx {α : Type} (xs : List α) (d : α) : xs.zipIdx = (List.range xs.length).map fun i => (xs.getD i d, i) := by
  apply List.ext_getElem?
  intro i
  rw [List.getElem?_zipIdx, List.getElem?_map]
  by_cases h : i < xs.length
  · rw [List.getElem?_range h, List.getElem?_eq_getElem h]
    show some (xs[i], 0 + i) = some (xs.getD i d, i)
    rw [List.getD_eq_getElem?_getD, List.getElem?_eq_getElem h, Nat.zero_add]
    rfl
  · rw [List.getElem?_eq_none (by omega), List.getElem?_eq_none (by rw [List.length_range]; omega)]
    rfl
theorem int_at {ns : List Int} {k : Nat} (h : k < ns.length) : ixD (.tuple (ns.map .int)) (.int (k : Nat)) = .ok (.int (ns.getD k 0)) := by
  refine ix_tuple ?_
  rw [atN, List.getElem?_map, List.getElem?_eq_getElem h, List.getD_eq_getElem?_getD, List.getElem?_eq_getElem h]
  rfl
theorem intL_at {ns : List Int} {k : Nat} (h : k < ns.length) : ixD (.list (ns.map .int)) (.int (k : Nat)) = .ok (.int (ns.getD k 0)) := by
  refine ix_list ?_
  rw [atN, List.getElem?_map, List.getElem?_eq_getElem h, List.getD_eq_getElem?_getD, List.getElem?_eq_getElem h]
  rfl
theorem range2N {a n : Nat} (h : a ≤ 100000) (h2 : n ≤ 1000000) : range2D [.int (a : Nat), .int (n : Nat)] = .ok ((List.range (n - a)).map fun k : Nat => PyData.int ((a + k : Nat) : Int)) := by
  rw [range2_ok (by unfold smallI; omega) (by unfold smallI; omega), rangeL_map2, show ((n : Int) - (a : Int)).toNat = n - a by omega]
  refine congrArg R.ok (List.map_congr_left fun k _ => ?_)
  rw [Int.natCast_add]
theorem ix_head {x : PyData} {xs : List PyData} : ixD (.list (x :: xs)) (.int 0) = .ok x := ix_list (atN (x :: xs) 0)
theorem ixT_head {x : PyData} {xs : List PyData} : ixD (.tuple (x :: xs)) (.int 0) = .ok x := ix_tuple (atN (x :: xs) 0)
theorem fdivN (b : Nat) {g : Nat} (h : 0 < g) (h2 : g < 1000000000) : fdivD (.int b) (.int g) = .ok (.int ((b / g : Nat) : Int)) := by
  rw [fdiv_ii (by omega) (by omega)]
  rfl
theorem mulN (a b : Nat) (h : b < 1000000) : mulD (.int a) (.int b) = .ok (.int ((a * b : Nat) : Int)) := by
  rw [mul_ii (.inr (by omega))]
  rfl
theorem isN_iff {d : PyData} : isN d = true ↔ d = .none := by
  cases d <;> first | exact ⟨fun _ => rfl, fun _ => rfl⟩ | exact ⟨fun h => (by cases h), fun h => (by cases h)⟩
section
variable {α : Type} [DecidableEq α] [Datum α]
theorem notIn_t (h : Datum.depth α ≤ 59) (a : α) (xs : List α) : notInD (Datum.toD a) (.list (xs.map Datum.toD)) = .ok (.bool (!decide (a ∈ xs))) := by
  have h1 := shp_t (by omega) a
  have h2 : shp (.list (xs.map Datum.toD)) = true := shp_t (α := List α) (show Datum.depth α + 1 ≤ 60 by omega) xs
  have e : notInD (Datum.toD a) (.list (xs.map Datum.toD)) = .ok (.bool (!((xs.map Datum.toD).any fun z => PyData.eqv z (Datum.toD a)))) := by
    show (if shp (Datum.toD a) = true ∧ shp (.list (xs.map Datum.toD)) = true then R.ok (PyData.bool _) else .bad) = _
    rw [if_pos ⟨h1, h2⟩]
  rw [e, any_datum]
theorem notInT_t (h : Datum.depth α ≤ 59) (a : α) (xs : List α) : notInD (Datum.toD a) (.tuple (xs.map Datum.toD)) = .ok (.bool (!decide (a ∈ xs))) := by
  have h1 := shp_t (by omega) a
  have h2 : shp (.tuple (xs.map Datum.toD)) = true := shp_t (α := Tup α) (show Datum.depth α + 1 ≤ 60 by omega) ⟨xs⟩
  have e : notInD (Datum.toD a) (.tuple (xs.map Datum.toD)) = .ok (.bool (!((xs.map Datum.toD).any fun z => PyData.eqv z (Datum.toD a)))) := by
    show (if shp (Datum.toD a) = true ∧ shp (.tuple (xs.map Datum.toD)) = true then R.ok (PyData.bool _) else .bad) = _
    rw [if_pos ⟨h1, h2⟩]
  rw [e, any_datum]
end
end PD
namespace PD
open PySem PySem.Spec PyProof.Rows L2 PySem.W
/-! ## extend by any list -/
theorem list_extend_plain (l : Addr) (items : Array Value) (n : Nat) (b : Addr) (items2 : Array Value) (n2 : Nat) (d2 : Option Addr) (sl2 : Array (Option Value)) (hc0 : ¬(!items.isEmpty && Builtin.List.listTooLong (items.size + items2.size)) = true) (hc1 : items.size ≤ sizeLine) (hs2 : items.size + items2.size ≤ sizeLine + 1) :
    Meets (Builtin.«list.extend» ⟨[.ref l, .ref b], []⟩) (fun _ R s => s.heap.get? l = some { cls := .type "list", dict := none, data := .seq items n, slots := #[] } ∧ s.heap.get? b = some { cls := .type "list", dict := d2, data := .seq items2 n2, slots := sl2 } ∧ R (.ok (.ret Value.none)) { s with heap := s.heap.update l (Obj.mapSeq fun x => x ++ items2), toks := s.toks }) :=
  .of_wp fun prog w A R s h => by
    obtain ⟨hp, g, d, tk, os⟩ := s; obtain ⟨hl, hb, h⟩ := h; have f1 := AutoSeq1.idx_int; have f2 := AutoSeq1.sub_tuple_tuple; have f3 := AutoSeq1.sub_list_list; have f4 := AutoSeq1.sub_tuple_list; have f5 := AutoSeq1.sub_list_tuple;
    have hz' : (items ++ items2).size ≤ sizeLine + 1 := by rw [Array.size_append]; exact hs2
    wp_walk using (wpAny_updateSeq hl rfl (hz := hc1) (_hz' := hz')), AutoSeq1.wpAny_loadPart' hl, AutoSeq1.wpAny_loadPart' hb; exact ⟨_, rfl, h⟩
section
variable {X : Cx}
def rExtendX (K : PySem.W.Frag) : V → List V → Hp → VK → Prop := fun x vs H Q => ∃ l b xs zs, x = .ref l ∧ vs = [.ref b] ∧ H l = some (.lst xs) ∧ SqL K H b zs ∧ xs.length + zs.length ≤ sizeLine ∧ Q .non (upd H l (.lst (xs ++ zs)))
theorem mt_extendX : MtM X "list.extend" (rExtendX X.K) := by
  intro pins s σ H x vs v us Q I rx rv h
  obtain ⟨l, b, xs, zs, rfl, rfl, hH, hB, hz, q⟩ := h
  cases rx
  obtain ⟨u, rfl, ru⟩ := rv.one
  cases ru
  obtain ⟨z, its, n, r, hl, e⟩ := I.lstM hH
  obtain ⟨its2, r2, ⟨o2, n2, e2, c2, dn2, da2⟩, hl2'⟩ := I.list hB
  obtain ⟨cls2, dict2, data2, slots2⟩ := o2
  cases c2
  cases da2
  have hl2 := r2.length
  have hsz : its.toArray.size + its2.toArray.size ≤ sizeLine := by rw [List.size_toArray, List.size_toArray]; omega
  have hlong : ¬ (!its.toArray.isEmpty && Builtin.List.listTooLong (its.toArray.size + its2.toArray.size)) = true := by
    rw [notLongL hsz, Bool.and_false]
    exact Bool.false_ne_true
  refine call_meets F.slot_list_extend ⟨_, e, rfl⟩ F.entry_list_extend (F.args_list_extend_2 _ _)
    (list_extend_plain l its.toArray n b its2.toArray n2 _ _ hlong (by rw [List.size_toArray]; omega) (by omega)) ⟨e, e2, ?_⟩
  refine ⟨.non, _, I.lset (its' := its ++ its2) hH e (by simp) (r.append r2) ?_, rfl, q⟩
  rw [List.length_append]
  omega
end
section
variable {X : Cx} {We : EW} {e a b : Expr} {x : Str} {p apos cpos pos : Pos}
theorem xs_extendB {i : Nat} {ma : Ev → R PyData} (hN : X.N[i]? = some x) (hv : Vis X.env.scope x) (ha : XB X We e ma) (hd : (x == ("__debug__" : Str)) = false) (hcd : (x == ("__classdict__" : Str)) = false)
    (hbase : attributeBase (.Name x p) "extend" X.env (eval (.Name x p) X.env) = eval (.Name x p) X.env)
    (hfew : ((backTo cpos (starEach (e :: []) X.env)).all (fun x => !x.1) && (backToKw cpos (keywordEach [] X.env)).all (fun x => x.1.isSome)
      && decide ((e :: ([] : List Expr)).length + ([] : List Keyword).length + (if ([] : List Keyword).isEmpty then 0 else 1) < 30)) = true)
    (hline : (apos.endLine == cpos.line) = true) (hs : starEach (e :: []) X.env = (false, eval e X.env) :: starEach [] X.env) (hplain : (backTo cpos (starEach [] X.env)).any (·.1) = false)
    (hsw : swapsWith (.Call (.Attribute (.Name x p) "extend" apos) [e] [] cpos) none pos.line X.env = pure false) : XS X We (.Expr (.Call (.Attribute (.Name x p) "extend" apos) [e] [] cpos) pos) (extS i ma) :=
  ps_imp (ps_expr (pe_bm PySem.F.plainAttrs_list PySem.F.slot_list_extend PySem.F.type_list_extend mt_extendX (pe_var hN hv hd hcd) (pa_cons ha pa_nil hs) hbase hfew hline hs hplain) hsw) fun D σ H q => by
    obtain ⟨ρ, F, G, r, q⟩ := q
    obtain ⟨xs, a, vs, e1, e2, e3, e4, e5, q⟩ := PoS.own r q
    refine ⟨.ref a, e2, .inl ⟨rfl, vs, SqL.of e4⟩, ρ, F, G, r, PoS.expr (P := pB X.K) r q fun d v F1 G1 H1 r1 g1 p1 q1 => ?_⟩
    cases d with
    | list ds =>
      obtain ⟨b, ws, rfl, h1, h2⟩ := p1.list g1.le
      have q1 : PoS X.K We F1 G1 (if xs.length + ds.length ≤ SZ then .ok (.nx (ρ.set i (.lo (xs ++ ds)))) else .bad) D := q1
      split at q1
      · rename_i hz
        have hl := DpAll.length e5
        have hl2 := DpAll.length h2
        have sq := sz_eq
        refine ⟨a, b, vs, ws, rfl, rfl, g1.h _ _ e4, h1, by rw [sq]; omega, ?_⟩
        exact q1 _ F1 G1 _ (r1.write e1 e2 ((e5.le g1.f).append h2)) (GrS.refl F1 G1)
      · exact q1.elim
    | _ => exact q1.elim
/-! ## a list and a list: a new list -/
def addLD : PyData → PyData → R PyData
  | .list xs, .list ys => if xs.length + ys.length ≤ SZ then .ok (.list (xs ++ ys)) else .bad
  | _, _ => .bad
def addLE (ma mb : Ev → R PyData) (ρ : Ev) : R PyData := (ma ρ).bind fun x => (mb ρ).bind fun y => addLD x y
@[simp] theorem addLE_ap (ma mb : Ev → R PyData) (ρ : Ev) : addLE ma mb ρ = (ma ρ).bind fun x => (mb ρ).bind fun y => addLD x y := (rfl)
theorem addLD_ll {xs ys : List PyData} (h : xs.length + ys.length ≤ SZ) : addLD (.list xs) (.list ys) = .ok (.list (xs ++ ys)) := if_pos h
theorem xf_addL {ma mb : Ev → R PyData} (ha : XB X We a ma) (hb : XB X We b mb) : XF X We (.BinOp a .Add b pos) (addLE ma mb) :=
  pe_imp (pe_op op_catX ha hb) fun σ H Q q => by
    obtain ⟨ρ, F, G, r, q⟩ := q
    refine ⟨ρ, F, G, r, Po.bind (P := pB X.K) q fun x v F1 H1 g1 p1 q1 => ?_⟩
    refine ⟨ρ, F1, _, (r.grow g1).1, Po.bind (P := pB X.K) q1 fun y u F2 H2 g2 p2 q2 => ?_⟩
    cases x with
    | list xs =>
      cases y with
      | list ys =>
        have q3 : Po We (pF X.K) F2 H2 σ (if xs.length + ys.length ≤ SZ then R.ok (PyData.list (xs ++ ys)) else .bad) Q := q2
        split at q3
        · rename_i hz
          obtain ⟨a, vs, rfl, h1, d1⟩ := (p1.grow g2).list g2.le
          obtain ⟨b, ws, rfl, h2, d2⟩ := p2.list g2.le
          have n1 := d1.length
          have n2 := d2.length
          have sq := sz_eq
          refine ⟨a, b, vs, ws, rfl, rfl, h1, h2, by rw [sq]; omega, fun p np => ?_⟩
          exact q3 _ _ _ (Gr.own g2.le np) ⟨p, _, _, rfl, rfl, np, g2.le.none np, upd_same, d1.append d2⟩
        · exact q3.elim
      | _ => exact q2.elim
    | _ => exact q2.elim
end
end PD
namespace PD
open PySem PySem.Spec PyProof.Rows L2
/-! ## set(xs), xs a list of ints -/
section
variable {pg : Program} {wd : World} {ar : Around} {ex : Value → Shared → Prop} {st : Shared}
theorem set_of_ints {t : Addr} {vals : Array Value} (ns : List Int) {Q : Value → Shared → Prop}
    (quiet : ar.handled = none) (ht : st.heap.IsList t vals)
    (hv : IntsAre vals.toList ns) (few : ns.length + 1 < scanBound)
    (fin : ∀ (hp : Heap) (tk c : Nat),
      SetR wd hp st.heap.objs.size (fun j => decide (j ∈ ns)) c → c ≤ ns.length →
      (∀ b o, st.heap.get? b = some o → hp.get? b = some o) →
      Q (.ref st.heap.objs.size) { st with heap := hp, toks := tk }) :
    wpAny (model pg wd) ar (call (.type "set") [.ref t]) Q ex st := by
  have size : vals.size = ns.length := by
    have e := IntsAre.length hv
    rwa [Array.length_toList] at e
  obtain ⟨cc, tl, mro⟩ := F.called_set.mro
  have m1 := F.called_set.made
  have m2 := F.called_set.sub
  have m3 := F.called_set.notType
  have m4 := F.called_set.canCreate
  have m5 := F.typeCall_set_1 (.ref t)
  refine wpAny_call (codeAny_of_tree ?_)
  show wpAny _ _ (callAny (.type "set") _) _ _ _
  refine wpAny_pure
    ⟨Code.quiet_builtin _ (by decide +kernel), codeAny_builtin F.entry_type_call ?_⟩
  rw [Around.under_plain
    (weight_type_call_type "set" [.ref t] []) rfl]
  repeat (any_goals (first | assumption | wp_step))
  refine codeAny_mono (code_set_led1 (.ref t) (E := ex)
    (Q₁ := fun r s₁ => r = .ref st.heap.objs.size ∧
      s₁ = { st with heap := st.heap.push (freshSet wd) }) ⟨rfl, rfl⟩) fun out s₁ ho => ?_
  cases out with
  | error e => exact ho
  | ok flow =>
    cases flow with
    | ret made =>
      obtain ⟨rfl, rfl⟩ := ho
      have getS : (st.heap.push (freshSet wd)).get? st.heap.objs.size = some (freshSet wd) :=
        Heap.get?_push_size _ rfl
      have isS : Shared.TypeIs { st with heap := st.heap.push (freshSet wd) }
        (.ref st.heap.objs.size) "set" := ⟨_, getS, rfl⟩
      have n1 := F.called_set.init.lookup
      have n2 := F.called_set.init.bind (.ref st.heap.objs.size)
      repeat (any_goals (first | assumption | wp_step))
      refine codeAny_mono (codeAny_call_builtin
        (R := wants (fun r s₂ => r = .none ∧ ∃ hp tk c,
          s₂ = { st with heap := hp, toks := tk } ∧
          SetR wd hp st.heap.objs.size (fun j => decide (j ∈ ns)) c ∧ c ≤ ns.length ∧
          (∀ b o, st.heap.get? b = some o → hp.get? b = some o)) ex)
        F.called_set.init.plain F.entry_set_init (check_set_init_1 isS ?_)) fun r₂ s₂ h₂ => ?_
      · obtain ⟨ob, hob, hcl, nn, hda⟩ := ht
        obtain ⟨ocls, odict, odata, oslots⟩ := ob
        simp only at hcl hda
        subst hcl; subst hda
        have w1 : (st.heap.push (freshSet wd)).get? t =
          some { cls := .type "list", dict := odict, data := .seq vals nn, slots := oslots } :=
          Heap.get?_push_of_some _ hob
        have w2 := F.sub_list_set
        have w3 := F.sub_list_frozenset
        have w4 : (Value.type "list" == Value.type "dict") = false := by
          decide
        have w5 : (st.heap.push (freshSet wd)).IsList t vals := ⟨_, w1, rfl, nn, rfl⟩
        unfold Builtin.«set.__init__»
        unfold noKeywords
        unfold Builtin.Frozenset.updateFrom
        generalize hIt : pyIter = IT
        wp_walk
        subst hIt
        refine wpAny_pyIter_list w5 ?_
        refine wpAny_bind (wpAny_runValue ?_)
        have tlt : t < st.heap.objs.size := Heap.lt_size hob
        have sz : (st.heap.push (freshSet wd)).objs.size = st.heap.objs.size + 1 := Heap.size_push ..
        have quiet3 : ar.in1.in1.in1.handled = none := by
          simp [quiet]
        have tne : t ≠ (st.heap.push (freshSet wd)).objs.size := fun e => by
          rw [sz] at e
          exact Nat.lt_irrefl _ (Nat.lt_of_le_of_lt (Nat.le_of_eq e.symm) (Nat.lt_succ_of_lt tlt))
        have fresh_not : st.heap.objs.size ∉ [(st.heap.push (freshSet wd)).objs.size, t] := by
          intro hm
          rcases List.mem_cons.mp hm with e | hm
          · rw [sz] at e
            exact Nat.succ_ne_self _ e.symm
          · have e := List.mem_singleton.mp hm
            rw [e] at tlt
            exact Nat.lt_irrefl _ tlt
        have at_i : ∀ (i : Nat) (v : Value), vals[i]? = some v →
            ∃ k u, ns[i]? = some k ∧ v = .int k u := fun i v hi => by
          have lt : i < ns.length := by
            rw [← size]
            exact (Array.getElem?_eq_some_iff.mp hi).1
          obtain ⟨u, e⟩ := PyProof.Rows.IntsAre.int_at hv i v (by
            rw [Array.getElem?_toList]
            exact hi)
          refine ⟨ns[i], u, List.getElem?_eq_getElem lt, ?_⟩
          rw [e, List.getD_eq_getElem?_getD, List.getElem?_eq_getElem lt]
          rfl
        refine set_update_ints ((Walks.list quiet3 _ t tne vals).toS) st.heap.objs.size
          fresh_not ns size few at_i (vals.size - 0) 0 _ (by omega) (Nat.zero_le _)
          ⟨⟨_, Heap.get?_push_size _ rfl, rfl, rfl⟩, w5.push _⟩ ?begin ?done
        case begin =>
          exact ⟨0, Nat.le_refl 0, setR_new_at (Heap.get?_push_of_some _ getS)⟩
        case done =>
          intro s' c mv hc hS
          obtain ⟨hp, gs, dr, tk, os⟩ := s'
          have e1 : gs = st.gens := mv.gens
          have e2 : dr = st.drawn := mv.drawn
          have e3 : os = st.os := mv.os
          subst e1; subst e2; subst e3
          rw [size] at hc
          show wpAny _ _ _ _ _ _
          refine wpAny_pure ?_
          show wpAny _ _ (ret Value.none) _ _ _
          refine wpAny_pure ⟨rfl, hp, tk, c, rfl, hS, hc, fun b o e => ?_⟩
          have lt0 : b < st.heap.objs.size := Heap.lt_size e
          refine mv.heap b o (fun hm => ?_) (Heap.get?_push_of_some _ (Heap.get?_push_of_some _ e))
          rcases List.mem_cons.mp hm with e2 | hm
          · exact absurd e2 (Nat.ne_of_lt lt0)
          · rcases List.mem_cons.mp hm with e2 | hm
            · rw [sz] at e2
              exact absurd e2 (Nat.ne_of_lt (Nat.lt_succ_of_lt lt0))
            · cases hm
      · cases r₂ with
        | error e => exact h₂
        | ok flow₂ =>
          cases flow₂ with
          | ret r =>
            obtain ⟨rfl, hp, tk, c, rfl, hS, hc, keep⟩ := h₂
            repeat (any_goals (first | assumption | wp_step))
            exact fin hp tk c hS hc keep
          | _ => exact h₂.elim
    | _ => exact ho.elim
end
end PD
namespace PD
open PySem PySem.Spec PyProof.Rows L2
section
variable {X : Cx}
theorem cr_or {f : Value} {r1 r2 : List V → Hp → VK → Prop} (h1 : CallR X f r1) (h2 : CallR X f r2) : CallR X f (fun vs H Q => r1 vs H Q ∨ r2 vs H Q) := by
  intro pins s σ H vs us Q I r h
  rcases h with h | h
  · exact h1 pins s σ H vs us Q I r h
  · exact h2 pins s σ H vs us Q I r h
/-- set(xs), xs a list of ints -/
def rSetLI (K : PySem.W.Frag) (w : World) : List V → Hp → VK → Prop := fun vs H Q =>
  ∃ (l : Addr) (ns : List Int), vs = [V.ref l] ∧ SqL K H l (ns.map V.int) ∧ ns.length < 64 ∧
    ∀ a c, H a = none → c ≤ ns.length → Q (.ref a) (upd H a (SetO w a (fun j => decide (j ∈ ns)) c))
theorem cr_setLI (hc : X.calm = true) : CallR X (.type "set") (rSetLI X.K X.w) := by
  intro pins s σ H vs us Q I r h
  obtain ⟨l, ns, rfl, hl, few, q⟩ := h
  rw [Vals.ref1 r]
  obtain ⟨its, rv, pl, hz⟩ := I.list hl
  have hn : H s.heap.objs.size = none := I.hok.fresh (Nat.le_refl _)
  have hi : IntsAre its.toArray.toList ns := ints_of_vals rv
  refine set_of_ints (pg := X.prog) (wd := X.w) ns (I.ok.hd hc) pl.isList hi (by unfold scanBound; omega) fun hp tk c R hcn keep => ?_
  exact ⟨.ref s.heap.objs.size, upd H s.heap.objs.size (SetO X.w s.heap.objs.size (fun j => decide (j ∈ ns)) c), I.laid (t' := tk) keep (Nat.le_refl _) (setO_new R), rfl, q _ c hn hcn⟩
end
/-! ## ascending ints, each once -/
def insI (x : Int) : List Int → List Int
  | [] => [x]
  | y :: ys => if x < y then x :: y :: ys else if x = y then y :: ys else y :: insI x ys
def sortI (ns : List Int) : List Int := ns.foldr insI []
theorem insI_mem (x z : Int) : ∀ ys, z ∈ insI x ys ↔ z = x ∨ z ∈ ys
  | [] => by simp [insI]
  | y :: ys => by
    unfold insI
    split
    · simp
    · split
      · rename_i e; subst e; simp
      · rw [List.mem_cons, insI_mem x z ys, List.mem_cons]
        constructor
        · rintro (h | h | h)
          · exact .inr (.inl h)
          · exact .inl h
          · exact .inr (.inr h)
        · rintro (h | h | h)
          · exact .inr (.inl h)
          · exact .inl h
          · exact .inr (.inr h)
theorem insI_pw (x : Int) : ∀ ys : List Int, ys.Pairwise (· < ·) → (insI x ys).Pairwise (· < ·)
  | [], _ => by simp [insI]
  | y :: ys, h => by
    unfold insI
    obtain ⟨h1, h2⟩ := List.pairwise_cons.mp h
    split
    · rename_i c
      refine List.pairwise_cons.mpr ⟨fun z hz => ?_, h⟩
      rcases List.mem_cons.mp hz with rfl | hz
      · exact c
      · have := h1 z hz; omega
    · split
      · exact h
      · rename_i c1 c2
        refine List.pairwise_cons.mpr ⟨fun z hz => ?_, insI_pw x ys h2⟩
        rcases (insI_mem x z ys).mp hz with rfl | hz
        · omega
        · exact h1 z hz
theorem sortI_mem (z : Int) : ∀ ns, z ∈ sortI ns ↔ z ∈ ns
  | [] => Iff.rfl
  | n :: ns => by
    show z ∈ insI n (sortI ns) ↔ _
    rw [insI_mem, sortI_mem z ns, List.mem_cons]
theorem sortI_pw : ∀ ns, (sortI ns).Pairwise (· < ·)
  | [] => .nil
  | n :: ns => insI_pw n _ (sortI_pw ns)
theorem insI_len (x : Int) : ∀ ys, (insI x ys).length ≤ ys.length + 1
  | [] => Nat.le_refl _
  | y :: ys => by
    unfold insI
    split
    · exact Nat.le_refl _
    · split
      · exact Nat.le_succ _
      · have := insI_len x ys
        rw [List.length_cons, List.length_cons]
        omega
theorem sortI_len : ∀ ns, (sortI ns).length ≤ ns.length
  | [] => Nat.le_refl _
  | n :: ns => by
    have h1 := insI_len n (sortI ns)
    have h2 := sortI_len ns
    show (insI n (sortI ns)).length ≤ ns.length + 1
    omega
theorem pw_uniq {xs ys : List Int} (h1 : xs.Pairwise (· < ·)) (h2 : ys.Pairwise (· < ·)) (h : ∀ z, z ∈ xs ↔ z ∈ ys) : xs = ys := by
  refine List.Perm.eq_of_pairwise (le := fun a b : Int => a ≤ b) (fun a b _ _ p q => by omega) (h1.imp fun q => by omega) (h2.imp fun q => by omega) ?_
  refine (List.perm_ext_iff_of_nodup ?_ ?_).mpr h
  · exact h1.imp fun q => by omega
  · exact h2.imp fun q => by omega
theorem sortI_uniq {ns ms : List Int} (h : ms.Pairwise (· < ·)) (hm : ∀ z, z ∈ ms ↔ z ∈ ns) : ms = sortI ns :=
  pw_uniq h (sortI_pw ns) fun z => (hm z).trans (sortI_mem z ns).symm
/-- sorted(set(xs)), xs a list of ints, or one of pairs -/
def ssLD : PyData → R PyData
  | .list ds => match intsOf ds with
    | some ns => if ds.length < 64 then .ok (.list ((sortI ns).map .int)) else .bad
    | none => ssD (.list ds)
  | _ => .bad
def ssLE (m : Ev → R PyData) (ρ : Ev) : R PyData := (m ρ).bind ssLD
@[simp] theorem ssLE_ap (m : Ev → R PyData) (ρ : Ev) : ssLE m ρ = (m ρ).bind ssLD := (rfl)
theorem ssLD_int {ns : List Int} (hl : ns.length < 64) : ssLD (.list (ns.map .int)) = .ok (.list ((sortI ns).map .int)) := by
  unfold ssLD
  simp only [intsOf_map]
  rw [List.length_map, if_pos hl]
theorem ssLD_pair {p : PI2} {ps : List PI2} (h : ∀ q ∈ p :: ps, 0 ≤ q.1 ∧ q.1 < 2048 ∧ 0 ≤ q.2 ∧ q.2 < 2048) (hl : (p :: ps).length < 64) : ssLD (.list ((p :: ps).map encP)) = .ok (.list ((sortD2 (p :: ps)).map encP)) := by
  unfold ssLD
  have : intsOf ((p :: ps).map encP) = none := rfl
  simp only [this]
  exact ssD_ok h hl
def ssID : PyData → R PyData
  | .list ds => match intsOf ds with
    | some ns => if ds.length < 64 then .ok (.list ((sortI ns).map .int)) else .bad
    | none => .bad
  | _ => .bad
def ssIE (m : Ev → R PyData) (ρ : Ev) : R PyData := (m ρ).bind ssID
section
variable {X : Cx} {We : EW} {e a b c : Expr} {es : List Expr} {pos p p2 q : Pos} {st : Stmt} {x : Str}
theorem xf_ssI {m : Ev → R PyData} (hc : X.calm = true) (hg : Gl X "sorted") (hm : X.mg "sorted" = none) (hg2 : Gl X "set") (hm2 : X.mg "set" = none) (ha : XB X We a m)
    (na : starEach [a] X.env = (false, eval a X.env) :: starEach [] X.env) (na2 : starEach [.Call (.Name "set" p2) [a] [] q] X.env = (false, eval (.Call (.Name "set" p2) [a] [] q) X.env) :: starEach [] X.env)
    (np : (backTo q (starEach [] X.env)).any (·.1) = false) (np2 : (backTo pos (starEach [] X.env)).any (·.1) = false) :
    XF X We (.Call (.Name "sorted" p) [.Call (.Name "set" p2) [a] [] q] [] pos) (ssIE m) :=
  pe_imp (pe_callB (cr_sortedSet hc) hg hm (by decide +kernel) (pa_cons (pe_callTy (cr_setLI hc) hg2 hm2 PyProof.Rows.boot_set (pa_cons ha pa_nil na) (by decide) (by decide) na np) pa_nil na2) (by decide) (by decide) na2 np2) fun σ H Q q => by
    obtain ⟨ρ, F, G, r, q⟩ := q
    refine ⟨ρ, F, G, r, Po.bind (P := pB X.K) q fun d v F1 H1 g1 p1 q1 => ?_⟩
    unfold ssID at q1
    split at q1
    · rename_i ds
      split at q1
      · rename_i ns hns
        split at q1
        · rename_i hlen
          have hds := intsOf_eq hns
          subst hds
          rw [List.length_map] at hlen
          obtain ⟨l, vs, rfl, hl, hvs⟩ := p1.list g1.le
          have hvi := hvs.ints
          subst hvi
          refine ⟨l, ns, rfl, hl, hlen, fun s c hn hcn => ?_⟩
          have l2 : Le H1 (upd H1 s (SetO X.w s (fun j => decide (j ∈ ns)) c)) := Le.upd hn
          refine ⟨s, _, c, rfl, upd_same, by omega, fun ms t pw hmem hlm nt => ?_⟩
          have hs : ms = sortI ns := sortI_uniq pw fun z => (hmem z).trans decide_eq_true_iff
          subst hs
          have nt1 : H1 t = none := l2.none nt
          have nt0 : F1 t = none := g1.le.none nt1
          exact q1 (.ref t) F1 _ ((Gr.own g1.le hn).trans (Gr.own (g1.le.trans l2) nt)) ⟨t, _, _, rfl, rfl, nt1, nt0, upd_same, dpAll_ints _⟩
        · exact q1.elim
      · exact q1.elim
    · exact q1.elim
theorem pe_or {t t1 t2 : TE} (h1 : PE X e t1) (h2 : PE X e t2) (k : ∀ σ H Q, t σ H Q → t1 σ H Q ∨ t2 σ H Q) : PE X e t :=
  ⟨fun pins s σ H Q I q => (k σ H Q q).elim (h1.run pins s σ H Q I) (h2.run pins s σ H Q I)⟩
theorem xf_ssL {m : Ev → R PyData} (hc : X.calm = true) (hu : X.A.units + 65 < cLine) (hg : Gl X "sorted") (hm : X.mg "sorted" = none) (hg2 : Gl X "set") (hm2 : X.mg "set" = none) (ha : XB X We a m)
    (na : starEach [a] X.env = (false, eval a X.env) :: starEach [] X.env) (na2 : starEach [.Call (.Name "set" p2) [a] [] q] X.env = (false, eval (.Call (.Name "set" p2) [a] [] q) X.env) :: starEach [] X.env)
    (np : (backTo q (starEach [] X.env)).any (·.1) = false) (np2 : (backTo pos (starEach [] X.env)).any (·.1) = false) :
    XF X We (.Call (.Name "sorted" p) [.Call (.Name "set" p2) [a] [] q] [] pos) (ssLE m) :=
  pe_or (xf_ssI hc hg hm hg2 hm2 ha na na2 np np2) (xf_ss hc hu hg hm hg2 hm2 ha na na2 np np2) fun σ H Q q => by
    obtain ⟨ρ, F, G, r, q⟩ := q
    have key : ssLE m ρ = ssIE m ρ ∨ ssLE m ρ = ssE m ρ := by
      unfold ssLE ssIE ssE
      cases m ρ with
      | err c => exact .inl rfl
      | bad => exact .inl rfl
      | ok d =>
        cases d with
        | list ds =>
          cases h : intsOf ds with
          | some ns => left; show ssLD (.list ds) = ssID (.list ds); unfold ssLD ssID; simp only [h]
          | none => right; show ssLD (.list ds) = ssD (.list ds); unfold ssLD; simp only [h]
        | _ => exact .inl rfl
    rcases key with k | k
    · exact .inl ⟨ρ, F, G, r, by rw [← k]; exact q⟩
    · exact .inr ⟨ρ, F, G, r, by rw [← k]; exact q⟩
end
end PD
namespace PD
open PySem PySem.Spec PyProof.Rows L2
/-! ## len(set(xs)) -/
section
variable {X : Cx}
def rLenSI (w : World) : List V → Hp → VK → Prop := fun vs H Q => ∃ (a : Addr) (S : Int → Bool) (n : Nat), vs = [V.ref a] ∧ H a = some (SetO w a S n) ∧
  ∀ ks : List Int, ks.Nodup → (∀ k, k ∈ ks ↔ S k = true) → ks.length = n → Q (.int n) H
theorem cr_lenSI : CallR X (.builtin "len") (rLenSI X.w) := by
  intro pins s σ H vs us Q I r h
  obtain ⟨a, S, n, rfl, ha, q⟩ := h
  obtain ⟨o, es, ep, t, ho, hex, hd, g, nd, hm, hb, hf, hn, hr, hl⟩ := setO_get I ha
  rw [Vals.ref1 r]
  refine call_len_set ho hex hd hf (by have : scanBound ≤ 2 ^ 62 := (by unfold scanBound; decide); omega) ?_
  refine ⟨.int n, H, I.tok _, ⟨_, by rw [hn]⟩, q (es.toList.map keyOf) nd (fun k => (hm k).symm) (by rw [List.length_map, Array.length_toList]; exact hn)⟩
def rLenST (K : PySem.W.Frag) (P : Program) (w : World) : List V → Hp → VK → Prop := fun vs H Q => ∃ (a : Addr) (L : List (Addr × List Int)), vs = [V.ref a] ∧ H a = some (SetTO P w a L) ∧ (∀ p ∈ L, SqT K H p.1 (p.2.map V.int)) ∧ ((L.map (·.2)).Nodup → Q (.int L.length) H)
theorem cr_lenST : CallR X (.builtin "len") (rLenST X.K X.prog X.w) := by
  intro pins s σ H vs us Q I r h
  obtain ⟨a, L, rfl, ha, hk, q⟩ := h
  have R0 : SetT0 X.prog X.w s.heap a L := (I.hok a _ ha).1
  obtain ⟨es, ep, t, R⟩ := R0.full fun p hp => I.isT (hk p hp)
  obtain ⟨o, ho, hex, hd⟩ := R.ob
  rw [Vals.ref1 r]
  have few := R.few
  have hsz := R.size
  refine call_len_set ho hex hd R.fits (by omega) ?_
  refine ⟨.int L.length, H, I.tok _, ⟨_, by rw [hsz]⟩, q R.nd⟩
end
/-- how many unlike ones there are: ints, or pairs of ints -/
def asQ2 : PyData → Option PI2
  | .tuple [.int a, .int b] => some (a, b)
  | _ => none
def asQs2 : List PyData → Option (List PI2)
  | [] => some []
  | d :: ds => match asQ2 d, asQs2 ds with
    | some p, some ps => some (p :: ps)
    | _, _ => none
theorem asQs2_un : ∀ {ds : List PyData} {ps : List PI2}, asQs2 ds = some ps → ds = ps.map encP
  | [], _, h => by cases h; rfl
  | d :: ds, ps, h => by
    unfold asQs2 at h
    split at h
    · rename_i p qs h1 h2
      cases h
      have e1 : d = encP p := by
        unfold asQ2 at h1
        split at h1
        · cases h1; rfl
        · cases h1
      rw [e1, asQs2_un h2]
      rfl
    · cases h
theorem asQs2_of : ∀ ps : List PI2, asQs2 (ps.map encP) = some ps
  | [] => rfl
  | p :: ps => by
    rw [List.map_cons]
    unfold asQs2
    rw [asQs2_of ps]
    rfl
def lsID : PyData → R PyData
  | .list ds => match intsOf ds with
    | some ns => if ds.length < 64 then .ok (.int (sortI ns).length) else .bad
    | none => .bad
  | _ => .bad
def lsPD : PyData → R PyData
  | .list ds => match asQs2 ds with
    | some ps => if ds.length < 64 then .ok (.int (sortD2 ps).length) else .bad
    | none => .bad
  | _ => .bad
def lsD : PyData → R PyData
  | .list ds => match intsOf ds with
    | some ns => if ds.length < 64 then .ok (.int (sortI ns).length) else .bad
    | none => lsPD (.list ds)
  | _ => .bad
def lsIE (m : Ev → R PyData) (ρ : Ev) : R PyData := (m ρ).bind lsID
def lsPE (m : Ev → R PyData) (ρ : Ev) : R PyData := (m ρ).bind lsPD
def lsE (m : Ev → R PyData) (ρ : Ev) : R PyData := (m ρ).bind lsD
@[simp] theorem lsE_ap (m : Ev → R PyData) (ρ : Ev) : lsE m ρ = (m ρ).bind lsD := (rfl)
theorem lsD_int {ns : List Int} (hl : ns.length < 64) : lsD (.list (ns.map .int)) = .ok (.int (sortI ns).length) := by
  unfold lsD
  simp only [intsOf_map]
  rw [List.length_map, if_pos hl]
theorem lsD_pair {p : PI2} {ps : List PI2} (hl : (p :: ps).length < 64) : lsD (.list ((p :: ps).map encP)) = .ok (.int (sortD2 (p :: ps)).length) := by
  unfold lsD
  have : intsOf ((p :: ps).map encP) = none := rfl
  simp only [this]
  show (match asQs2 ((p :: ps).map encP) with
    | some qs => if ((p :: ps).map encP).length < 64 then R.ok (PyData.int (sortD2 qs).length) else .bad
    | none => .bad) = _
  rw [asQs2_of]
  show (if ((p :: ps).map encP).length < 64 then R.ok (PyData.int (sortD2 (p :: ps)).length) else .bad) = _
  rw [List.length_map, if_pos hl]
theorem nodup_len {α : Type} {xs ys : List α} (h1 : xs.Nodup) (h2 : ys.Nodup) (h : ∀ z, z ∈ xs ↔ z ∈ ys) : xs.length = ys.length :=
  ((List.perm_ext_iff_of_nodup h1 h2).mpr h).length_eq
section
variable {X : Cx} {We : EW} {e a b c : Expr} {es : List Expr} {pos p p2 q : Pos} {st : Stmt} {x : Str}
theorem xe_lsI {m : Ev → R PyData} (hc : X.calm = true) (hg : Gl X "len") (hm : X.mg "len" = none) (hg2 : Gl X "set") (hm2 : X.mg "set" = none) (ha : XB X We a m)
    (na : starEach [a] X.env = (false, eval a X.env) :: starEach [] X.env) (na2 : starEach [.Call (.Name "set" p2) [a] [] q] X.env = (false, eval (.Call (.Name "set" p2) [a] [] q) X.env) :: starEach [] X.env)
    (np : (backTo q (starEach [] X.env)).any (·.1) = false) (np2 : (backTo pos (starEach [] X.env)).any (·.1) = false) :
    XE X We (.Call (.Name "len" p) [.Call (.Name "set" p2) [a] [] q] [] pos) (lsIE m) :=
  pe_imp (pe_callB cr_lenSI hg hm PySem.boot_len (pa_cons (pe_callTy (cr_setLI hc) hg2 hm2 PyProof.Rows.boot_set (pa_cons ha pa_nil na) (by decide) (by decide) na np) pa_nil na2) (by decide) (by decide) na2 np2) fun σ H Q q => by
    obtain ⟨ρ, F, G, r, q⟩ := q
    refine ⟨ρ, F, G, r, Po.bind (P := pB X.K) q fun d v F1 H1 g1 p1 q1 => ?_⟩
    unfold lsID at q1
    split at q1
    · rename_i ds
      split at q1
      · rename_i ns hns
        split at q1
        · rename_i hlen
          have hds := intsOf_eq hns
          subst hds
          rw [List.length_map] at hlen
          obtain ⟨l, vs, rfl, hl, hvs⟩ := p1.list g1.le
          have hvi := hvs.ints
          subst hvi
          refine ⟨l, ns, rfl, hl, hlen, fun s c hn hcn => ?_⟩
          refine ⟨s, _, c, rfl, upd_same, fun ks nd hmem hkl => ?_⟩
          have hlen2 : c = (sortI ns).length := by
            rw [← hkl]
            exact nodup_len nd ((sortI_pw ns).imp fun q => by omega) fun z => ((hmem z).trans decide_eq_true_iff).trans (sortI_mem z ns).symm
          rw [hlen2]
          exact q1 _ F1 _ (Gr.own g1.le hn) (.int _)
        · exact q1.elim
      · exact q1.elim
    · exact q1.elim
theorem xe_lsP {m : Ev → R PyData} (hc : X.calm = true) (hu : X.A.units + 65 < cLine) (hg : Gl X "len") (hm : X.mg "len" = none) (hg2 : Gl X "set") (hm2 : X.mg "set" = none) (ha : XB X We a m)
    (na : starEach [a] X.env = (false, eval a X.env) :: starEach [] X.env) (na2 : starEach [.Call (.Name "set" p2) [a] [] q] X.env = (false, eval (.Call (.Name "set" p2) [a] [] q) X.env) :: starEach [] X.env)
    (np : (backTo q (starEach [] X.env)).any (·.1) = false) (np2 : (backTo pos (starEach [] X.env)).any (·.1) = false) :
    XE X We (.Call (.Name "len" p) [.Call (.Name "set" p2) [a] [] q] [] pos) (lsPE m) :=
  pe_imp (pe_callB cr_lenST hg hm PySem.boot_len (pa_cons (pe_callTy (cr_setOfT hc (by omega)) hg2 hm2 PyProof.Rows.boot_set (pa_cons ha pa_nil na) (by decide) (by decide) na np) pa_nil na2) (by decide) (by decide) na2 np2) fun σ H Q q => by
    obtain ⟨ρ, F, G, r, q⟩ := q
    refine ⟨ρ, F, G, r, Po.bind (P := pB X.K) q fun d v F1 H1 g1 p1 q1 => ?_⟩
    unfold lsPD at q1
    split at q1
    · rename_i ds
      split at q1
      · rename_i ps hps
        split at q1
        · rename_i hlen
          have hds := asQs2_un hps
          obtain ⟨l, vs, rfl, hl, hvs⟩ := p1.list g1.le
          rw [hds] at hvs
          obtain ⟨as, hal, rfl, hsq⟩ := ks_of hvs
          have hz : (as.zip ps).map (·.2) = ps := List.map_snd_zip (by omega)
          refine ⟨l, (as.zip ps).map fun q => (q.1, [q.2.1, q.2.2]), rfl, by rw [List.map_map]; exact hl, fun k hk => ?_, ?_, fun s L ns hsub hall => ?_⟩
          · obtain ⟨z, hz, rfl⟩ := List.mem_map.mp hk
            exact (hsq z hz).le g1.le
          · rw [List.length_map, List.length_zip, hal, Nat.min_self, ← List.length_map encP, ← hds]; exact hlen
          · have hk2 : ∀ k ∈ L, ∃ z ∈ as.zip ps, k = (z.1, [z.2.1, z.2.2]) := fun k hk => by
              obtain ⟨z, hz, rfl⟩ := List.mem_map.mp (hsub k hk)
              exact ⟨z, hz, rfl⟩
            have inps : ∀ z ∈ as.zip ps, z.2 ∈ ps := fun z hzz => by rw [← hz]; exact List.mem_map_of_mem hzz
            refine ⟨s, L, rfl, upd_same, fun k hk => ?_, fun nd => ?_⟩
            · obtain ⟨z, hzz, rfl⟩ := hk2 k hk
              exact ((hsq z hzz).le g1.le).le (Le.upd ns)
            · let enc2 : PI2 → List Int := fun p => [p.1, p.2]
              have hlen2 : L.length = (sortD2 ps).length := by
                have h1 : (L.map (·.2)).length = ((sortD2 ps).map enc2).length := by
                  refine nodup_len nd ?_ fun z => ?_
                  · refine List.pairwise_map.mpr ((sortD2_pw ps).imp fun {a b} hab e => ?_)
                    have e : [a.1, a.2] = [b.1, b.2] := e
                    simp only [List.cons.injEq, and_true] at e
                    have : a = b := Prod.ext e.1 e.2
                    rw [this] at hab
                    exact pLt_irr hab
                  · constructor
                    · intro hm
                      obtain ⟨k, hk, rfl⟩ := List.mem_map.mp hm
                      obtain ⟨y, hy, rfl⟩ := hk2 k hk
                      exact List.mem_map.mpr ⟨y.2, (sortD2_mem _ _).mpr (inps y hy), rfl⟩
                    · intro hm
                      obtain ⟨y, hy, rfl⟩ := List.mem_map.mp hm
                      have hy := (sortD2_mem _ _).mp hy
                      rw [← hz] at hy
                      obtain ⟨u, hu, rfl⟩ := List.mem_map.mp hy
                      exact hall _ (List.mem_map_of_mem hu)
                rw [List.length_map, List.length_map] at h1
                exact h1
              rw [hlen2]
              exact q1 _ F1 _ (Gr.own g1.le ns) (.int _)
        · exact q1.elim
      · exact q1.elim
    · exact q1.elim
theorem xe_ls {m : Ev → R PyData} (hc : X.calm = true) (hu : X.A.units + 65 < cLine) (hg : Gl X "len") (hm : X.mg "len" = none) (hg2 : Gl X "set") (hm2 : X.mg "set" = none) (ha : XB X We a m)
    (na : starEach [a] X.env = (false, eval a X.env) :: starEach [] X.env) (na2 : starEach [.Call (.Name "set" p2) [a] [] q] X.env = (false, eval (.Call (.Name "set" p2) [a] [] q) X.env) :: starEach [] X.env)
    (np : (backTo q (starEach [] X.env)).any (·.1) = false) (np2 : (backTo pos (starEach [] X.env)).any (·.1) = false) :
    XE X We (.Call (.Name "len" p) [.Call (.Name "set" p2) [a] [] q] [] pos) (lsE m) :=
  pe_or (xe_lsI hc hg hm hg2 hm2 ha na na2 np np2) (xe_lsP hc hu hg hm hg2 hm2 ha na na2 np np2) fun σ H Q q => by
    obtain ⟨ρ, F, G, r, q⟩ := q
    have key : lsE m ρ = lsIE m ρ ∨ lsE m ρ = lsPE m ρ := by
      unfold lsE lsIE lsPE
      cases m ρ with
      | err c => exact .inl rfl
      | bad => exact .inl rfl
      | ok d =>
        cases d with
        | list ds =>
          cases h : intsOf ds with
          | some ns => left; show lsD (.list ds) = lsID (.list ds); unfold lsD lsID; simp only [h]
          | none => right; show lsD (.list ds) = lsPD (.list ds); unfold lsD; simp only [h]
        | _ => exact .inl rfl
    rcases key with k | k
    · exact .inl ⟨ρ, F, G, r, by rw [← k]; exact q⟩
    · exact .inr ⟨ρ, F, G, r, by rw [← k]; exact q⟩
end
end PD
namespace PD
open PySem PySem.Spec PyProof.Rows L2
/-! ## dicts of one's own -/
def keyA : PyData → Option Key
  | .int i => some (.inl i)
  | .str s => some (.inr s)
  | _ => none
def keysA : List PyData → Option (List Key)
  | [] => some []
  | d :: ds => match keyA d, keysA ds with
    | some k, some ks => some (k :: ks)
    | _, _ => none
theorem keyA_un {d : PyData} {k : Key} (h : keyA d = some k) : d = kP k := by
  unfold keyA at h
  split at h <;> first | (cases h; rfl) | cases h
@[simp] theorem keyA_kP (k : Key) : keyA (kP k) = some k := by cases k <;> rfl
theorem keysA_un : ∀ {ds : List PyData} {ks : List Key}, keysA ds = some ks → ds = ks.map kP
  | [], ks, h => by cases h; rfl
  | d :: ds, ks, h => by
    unfold keysA at h
    split at h
    · rename_i k ks' h1 h2
      cases h
      rw [keyA_un h1, keysA_un h2, List.map_cons]
    · cases h
@[simp] theorem keysA_kP : ∀ ks : List Key, keysA (ks.map kP) = some ks
  | [] => rfl
  | k :: ks => by
    rw [List.map_cons]
    unfold keysA
    rw [keyA_kP, keysA_kP ks]
/-- what a key is, in a dict of that kind -/
def dKey (t : Bool) (d : PyData) : Option (List Key) := match t, d with
  | false, d => (keyA d).map fun k => [k]
  | true, .tuple xs => (intsOf xs).map fun ns => ns.map Sum.inl
  | true, _ => none
def kq (t : Bool) (a b : PyData) : Bool := match dKey t a, dKey t b with
  | some x, some y => decide (x = y)
  | _, _ => false
def dFind (m : Dd) (d : PyData) : Option PyData := (m.l.find? fun p => kq m.t p.1 d).map (·.2)
def dPut (m : Dd) (d x : PyData) : Dd := ⟨m.t, if m.l.any (fun p => kq m.t p.1 d) = true then m.l.map (fun p => if kq m.t p.1 d = true then (p.1, x) else p) else m.l ++ [(d, x)]⟩
theorem kq_k (a b : Key) : kq false (kP a) (kP b) = decide (a = b) := by
  show (match (keyA (kP a)).map fun k => [k], (keyA (kP b)).map fun k => [k] with
    | some x, some y => decide (x = y)
    | _, _ => false) = _
  rw [keyA_kP, keyA_kP]
  exact decide_eq_decide.mpr ⟨fun h => by cases h; rfl, fun h => by rw [h]⟩
theorem inl_inj : ∀ {a b : List Int}, (a.map Sum.inl : List Key) = b.map Sum.inl → a = b
  | [], [], _ => rfl
  | [], _ :: _, h => by cases h
  | _ :: _, [], h => by cases h
  | x :: a, y :: b, h => by
    rw [List.map_cons, List.map_cons] at h
    injection h with h1 h2
    cases h1
    rw [inl_inj h2]
theorem kq_t (a b : List Int) : kq true (.tuple (a.map PyData.int)) (.tuple (b.map PyData.int)) = decide (a = b) := by
  show (match (intsOf (a.map PyData.int)).map (fun ns => (ns.map Sum.inl : List Key)), (intsOf (b.map PyData.int)).map (fun ns => (ns.map Sum.inl : List Key)) with
    | some x, some y => decide (x = y)
    | _, _ => false) = _
  rw [intsOf_map, intsOf_map]
  exact decide_eq_decide.mpr ⟨inl_inj, fun h => by rw [h]⟩
section
variable {κ : Type} [DecidableEq κ] {enc : κ → PyData} {t : Bool} {K : PySem.W.Frag} {F : Hp}
theorem find_g (he : ∀ a b, kq t (enc a) (enc b) = decide (a = b)) : ∀ {ks : List (κ × V)} {l : List (PyData × PyData)}, Paired (fun p q => q.1 = enc p.1 ∧ Dp K F p.2 q.2) ks l → ∀ k : κ,
    (∃ v x, valV ks k = some v ∧ (l.find? fun p => kq t p.1 (enc k)).map (·.2) = some x ∧ Dp K F v x) ∨ (valV ks k = none ∧ (l.find? fun p => kq t p.1 (enc k)).map (·.2) = none)
  | _, _, .nil, k => .inr ⟨rfl, rfl⟩
  | p :: ps, q :: qs, .cons h hs, k => by
    by_cases e : p.1 = k
    · refine .inl ⟨p.2, q.2, valV_pos e, ?_, h.2⟩
      rw [List.find?_cons_of_pos (by rw [h.1, he, decide_eq_true e])]
      rfl
    · rw [valV_neg e, List.find?_cons_of_neg (by rw [h.1, he, decide_eq_false e]; exact Bool.false_ne_true)]
      exact find_g he hs k
theorem any_g (he : ∀ a b, kq t (enc a) (enc b) = decide (a = b)) : ∀ {ks : List (κ × V)} {l : List (PyData × PyData)}, Paired (fun p q => q.1 = enc p.1 ∧ Dp K F p.2 q.2) ks l → ∀ k : κ,
    (ks.any fun kv => decide (kv.1 = k)) = l.any fun p => kq t p.1 (enc k)
  | _, _, .nil, k => rfl
  | p :: ps, q :: qs, .cons h hs, k => by
    rw [List.any_cons, List.any_cons, any_g he hs k, h.1, he]
theorem paired_app {α β : Type} {R : α → β → Prop} : ∀ {a b : List α} {c d : List β}, Paired R a c → Paired R b d → Paired R (a ++ b) (c ++ d)
  | _, _, _, _, .nil, s => s
  | _, _, _, _, .cons h hs, s => .cons h (paired_app hs s)
theorem map_g (he : ∀ a b, kq t (enc a) (enc b) = decide (a = b)) {v : V} {x : PyData} (hv : Dp K F v x) (k : κ) : ∀ {ks : List (κ × V)} {l : List (PyData × PyData)}, Paired (fun p q => q.1 = enc p.1 ∧ Dp K F p.2 q.2) ks l →
    Paired (fun p q => q.1 = enc p.1 ∧ Dp K F p.2 q.2) (ks.map fun kv => if kv.1 = k then (kv.1, v) else kv) (l.map fun p => if kq t p.1 (enc k) = true then (p.1, x) else p)
  | _, _, .nil => .nil
  | p :: ps, q :: qs, .cons h hs => by
    rw [List.map_cons, List.map_cons]
    refine .cons ?_ (map_g he hv k hs)
    have e1 : kq t q.1 (enc k) = decide (p.1 = k) := by rw [h.1, he]
    rw [e1]
    by_cases e : p.1 = k
    · rw [if_pos e, if_pos (decide_eq_true e)]
      exact ⟨h.1, hv⟩
    · rw [if_neg e, if_neg (by rw [decide_eq_false e]; exact Bool.false_ne_true)]
      exact h
theorem put_g (he : ∀ a b, kq t (enc a) (enc b) = decide (a = b)) {v : V} {x : PyData} (hv : Dp K F v x) (k : κ) {ks : List (κ × V)} {l : List (PyData × PyData)} (h : Paired (fun p q => q.1 = enc p.1 ∧ Dp K F p.2 q.2) ks l) :
    Paired (fun p q => q.1 = enc p.1 ∧ Dp K F p.2 q.2) (putK ks k v) (if l.any (fun p => kq t p.1 (enc k)) = true then l.map (fun p => if kq t p.1 (enc k) = true then (p.1, x) else p) else l ++ [(enc k, x)]) := by
  unfold putK
  rw [any_g he h k]
  split
  · exact map_g he hv k h
  · exact paired_app h (.cons ⟨rfl, hv⟩ .nil)
end
theorem paired_len {α β : Type} {R : α → β → Prop} : ∀ {a : List α} {b : List β}, Paired R a b → a.length = b.length
  | _, _, .nil => rfl
  | _, _, .cons _ t => by rw [List.length_cons, List.length_cons, paired_len t]
/-! ### keys that are tuples of numbers -/
theorem mem_pl {α β : Type} {R : α → β → Prop} : ∀ {a : List α} {b : List β} {x : α}, Paired R a b → x ∈ a → ∃ y ∈ b, R x y
  | _, _, _, .cons h t, m => by
    rcases List.mem_cons.mp m with rfl | m
    · exact ⟨_, List.mem_cons_self, h⟩
    · obtain ⟨y, h1, h2⟩ := mem_pl t m
      exact ⟨y, List.mem_cons_of_mem _ h1, h2⟩
theorem mem_pr {α β : Type} {R : α → β → Prop} : ∀ {a : List α} {b : List β} {y : β}, Paired R a b → y ∈ b → ∃ x ∈ a, R x y
  | _, _, _, .cons h t, m => by
    rcases List.mem_cons.mp m with rfl | m
    · exact ⟨_, List.mem_cons_self, h⟩
    · obtain ⟨x, h1, h2⟩ := mem_pr t m
      exact ⟨x, List.mem_cons_of_mem _ h1, h2⟩
abbrev kvT (xs : List TRow) : List (List Int × V) := xs.map fun p => (p.1, p.2.2)
abbrev IK (P : Program) (w : World) := tupleKind (PySem.intKind P w)
section
variable {X : Cx} {pins : List (Addr × Obj)} {σ : St} {H : Hp} {s : Shared} {a : Addr} {y v d : V} {u r : Value} {o : Option V} {A : Around} {E : Value → Shared → Prop}
theorem ints_are {P : Program} {w : World} : ∀ {ks : List Int} {us : List Value}, Vals (ks.map V.int) us → ItemsAre (PySem.intKind P w) ks us
  | [], _, .nil => .nil
  | _ :: _, _, .cons h t => by
    obtain ⟨tk, rfl⟩ := h
    exact .cons (by first | rfl | decide | simp [PySem.intKind, Value.isInt]) (ints_are t)
theorem key_sq {ks : List Int} {b : Addr} (I : Inv X pins σ H s) (e : SqT X.K H b (ks.map V.int)) : (IK X.prog X.w).is s.heap ks b := by
  obtain ⟨its, r, ⟨o, h1, h2, n, h3⟩, _⟩ := I.tuple e
  exact ⟨o, its.toArray, n, h1, h2, h3, by simpa using ints_are r⟩
theorem ent_eq (P : Program) (w : World) : (fun y : List Int × Addr × Value => tEnt y) = entryOfKey (IK P w) := rfl
theorem t_dict {xs : List TRow} (I : Inv X pins σ H s) (e : Rd H a (DTx a xs)) (hk : ∀ p ∈ xs, SqT X.K H p.2.1 (p.1.map V.int)) :
    xs.length ≤ sizeLine ∧ (a == sysModules) = false ∧ ∃ ys, Paired TRel xs ys ∧ s.heap.DictOfH (IK X.prog X.w) a ys := by
  obtain ⟨⟨hl, hs, ys, rel, o, es, ep, h1, h2, h3, h4, h5⟩, _⟩ : ObjOk X.prog X.w H s.heap a (DTx a xs) := e.ok I.hok
  refine ⟨hl, hs, ys, rel, o, es, ep, h1, h2, h3, h4, fun q hq => ?_, h5⟩
  obtain ⟨p, hp, e1, e2, e3⟩ := mem_pr rel hq
  rw [← e1, ← e2]
  exact key_sq I (hk p hp)
theorem t_val : ∀ {xs : List TRow} {ys : List (List Int × Addr × Value)} (k : List Int), Paired TRel xs ys → RelO (valV (kvT xs) k) ((atKey ys k).map (·.2))
  | [], _, k, .nil => by show RelO none none; trivial
  | p :: ps, q :: qs, k, .cons h t => by
    obtain ⟨h1, h2, h3⟩ := h
    by_cases e : p.1 = k
    · have e' : q.1 = k := h1.symm.trans e
      have a1 : valV (kvT (p :: ps)) k = some p.2.2 := valV_pos (p := (p.1, p.2.2)) e
      have a2 : atKey (q :: qs) k = some q.2 := by simp [atKey, List.find?_cons, e']
      rw [a1, a2]
      exact h3
    · have e' : ¬ q.1 = k := fun z => e (h1.trans z)
      have a1 : valV (kvT (p :: ps)) k = valV (kvT ps) k := valV_neg (p := (p.1, p.2.2)) e
      have a2 : atKey (q :: qs) k = atKey qs k := by simp [atKey, List.find?_cons, e']
      rw [a1, a2]
      exact t_val k t
/-- what a dict with tuples for keys holds -/
def TGet (K : PySem.W.Frag) (H : Hp) (a : Addr) (y : V) (r : Option V) : Prop := ∃ xs k b, Rd H a (DTx a xs) ∧ (∀ p ∈ xs, SqT K H p.2.1 (p.1.map V.int)) ∧ y = .ref b ∧ SqT K H b (k.map V.int) ∧ r = valV (kvT xs) k
theorem t_getItem {Q : Value → Shared → Prop} (hu : A.units + 1 < cLine) (I : Inv X pins σ H s) (g : TGet X.K H a y (some v)) (ry : RelV y u) (h : ∀ w' s', Inv X pins σ H s' → RelV v w' → Q w' s') :
    wpAny (model X.prog X.w) A (getItem (.ref a) u) Q E s := by
  obtain ⟨xs, k, b, e, hk, rfl, eb, l⟩ := g
  cases (show u = Value.ref b from ry)
  obtain ⟨z, hd, ys, rel, dd⟩ := t_dict I e hk
  obtain ⟨w', hw, rw'⟩ := RelO.some_of (v := v) (o := (atKey ys k).map (·.2)) (by rw [l]; exact t_val k rel)
  obtain ⟨p, hp, hp2⟩ := Option.map_eq_some_iff.mp hw
  refine wpAny_getItem_heap (knd := IK X.prog X.w) (tupleKind_room_in1 hu) (key_sq I eb) dd hp ?_
  rw [hp2]
  exact h w' _ (I.tok _) rw'
theorem t_get2 {Q : Value → Shared → Prop} (hu : A.units + 1 < cLine) (I : Inv X pins σ H s) (g : TGet X.K H a y o) (ry : RelV y u) (rd : RelV d r) (h : ∀ w' s', Inv X pins σ H s' → RelV (o.getD d) w' → Q w' s') :
    wpAny (model X.prog X.w) A (call (.builtin "dict.get") [.ref a, u, r]) Q E s := by
  obtain ⟨xs, k, b, e, hk, rfl, eb, l⟩ := g
  cases (show u = Value.ref b from ry)
  obtain ⟨z, hd, ys, rel, dd⟩ := t_dict I e hk
  refine call_meetsIn PySem.F.slot_dict_get dd.typeIs PySem.F.entry_dict_get (PySem.F.args_dict_get_3 _ _ _) (meetsH_dict_get_default (IK X.prog X.w) a b hd r) ⟨tupleKind_room_in1 hu, k, ys, key_sq I eb, dd, h _ _ (I.tok _) ?_⟩
  rw [l]
  exact (t_val k rel).getD rd
/-- either kind -/
def AGet (K : PySem.W.Frag) (H : Hp) (a : Addr) (y : V) (r : Option V) : Prop := DGet H a y r ∨ TGet K H a y r
/-- a is a dict -/
theorem dictAt {K : PySem.W.Frag} {F : Hp} {ob : HO} {m : Dd} (I : Inv X pins σ H s) (e : Rd H a ob) (hd : DOk K F a ob m) :
    s.TypeIs (.ref a) "dict" ∧ (∀ b, Value.ref a = .ref b → ∃ ob, s.heap.get? b = some ob ∧ ob.dict = none) := by
  rcases hd with ⟨_, ks, rfl, _⟩ | ⟨_, xs, rfl, _⟩
  · obtain ⟨t1, t2, _⟩ := isD_at I (.inl ⟨ks, e⟩)
    exact ⟨t1, t2⟩
  · obtain ⟨⟨hl, hs, ys, rel, o, es, ep, h1, h2, h3, h4, h5⟩, _⟩ : ObjOk X.prog X.w H s.heap a (DTx a xs) := e.ok I.hok
    refine ⟨⟨o, h1, h2.1⟩, fun b q => ?_⟩
    cases q
    exact ⟨o, h1, h2.2.1⟩
end
section
variable {X : Cx} {We : EW} {e i f : Expr} {x : Str} {pos p apos cpos pos' : Pos}
def getDd (ρ : Ev) (n : Nat) : R Dd := match ρ[n]? with
  | some (.dd m) => .ok m
  | some (.df m) => .ok m
  | _ => .bad
theorem getDd_ok {ρ : Ev} {n : Nat} {m : Dd} (h : getDd ρ n = .ok m) : ρ[n]? = some (.dd m) ∨ ρ[n]? = some (.df m) := by
  unfold getDd at h
  split at h
  · cases h; exact .inl (by assumption)
  · cases h; exact .inr (by assumption)
  · cases h
theorem getDd_r {K : PySem.W.Frag} {ρ : Ev} {F G : Hp} {σ : St} {H : Hp} {n : Nat} {m : Dd} (r : Rl K ρ F G σ H) (h : getDd ρ n = .ok m) : ∃ a o, σ[n]? = some (some (.ref a)) ∧ Rd H a o ∧ DOk K F a o m := by
  rcases getDd_ok h with e | e
  · obtain ⟨a, o, e1, e2, e3, e4⟩ := r.getD e
    exact ⟨a, o, e1, .inl e3, e4⟩
  · obtain ⟨a, od, o, e1, e2, e3⟩ := r.getF e
    exact ⟨a, o, e1, .inr ⟨od, r.fh _ _ e2⟩, e3⟩
theorem rd_le {H H' : Hp} {a : Addr} {o : HO} (l : Le H H') (h : Rd H a o) : Rd H' a o := by
  rcases h with h | ⟨od, h⟩
  · exact .inl (l _ _ h)
  · exact .inr ⟨od, l _ _ h⟩
theorem getDd_ne {ρ : Ev} {n : Nat} {c : String} : getDd ρ n ≠ .err c := fun h => by
  unfold getDd at h
  split at h <;> cases h
theorem pairedMap {α β γ : Type} {R : α → β → Prop} {S : γ → β → Prop} (f : α → γ) (k : ∀ a b, R a b → S (f a) b) : ∀ {a : List α} {b : List β}, Paired R a b → Paired S (a.map f) b
  | _, _, .nil => .nil
  | _, _, .cons h t => .cons (k _ _ h) (pairedMap f k t)
/-- what is at a key, told in both worlds -/
theorem aget {K : PySem.W.Frag} {F H : Hp} {a : Addr} {o : HO} {m : Dd} {y : V} {d : PyData} {k : List Key} (l : Le F H) (ha : Rd H a o) (hd : DOk K F a o m) (hy : Dp K F y d) (hk : dKey m.t d = some k) :
    (∃ v z, AGet K H a y (some v) ∧ dFind m d = some z ∧ Dp K F v z) ∨ (AGet K H a y none ∧ dFind m d = none) := by
  rcases hd with ⟨ht, ks, rfl, hp⟩ | ⟨ht, ks, rfl, hp⟩
  · rw [ht] at hk
    obtain ⟨k0, hk0, rfl⟩ := Option.map_eq_some_iff.mp (show (keyA d).map (fun k => [k]) = some k from hk)
    obtain rfl := keyA_un hk0
    have ey : y = kV k0 := by
      cases k0 with
      | inl i => cases hy; rfl
      | inr s => cases hy; rfl
    subst ey
    have g : DGet H a (kV k0) (valV ks k0) := .inl ⟨ks, k0, ha, rfl, rfl⟩
    unfold dFind
    rw [ht]
    rcases find_g kq_k hp k0 with ⟨v, z, h1, h2, h3⟩ | ⟨h1, h2⟩
    · rw [h1] at g
      exact .inl ⟨v, z, .inl g, h2, h3⟩
    · rw [h1] at g
      exact .inr ⟨.inl g, h2⟩
  · rw [ht] at hk
    cases d with
    | tuple ds =>
      obtain ⟨ns, hns, -⟩ := Option.map_eq_some_iff.mp (show (intsOf ds).map (fun ns => (ns.map Sum.inl : List Key)) = some k from hk)
      obtain rfl := intsOf_eq hns
      cases hy with
      | tup hq hs =>
        rename_i b vs
        have ev := hs.ints
        subst ev
        have hp' : Paired (fun (p : List Int × V) (q : PyData × PyData) => q.1 = .tuple (p.1.map PyData.int) ∧ Dp K F p.2 q.2) (kvT ks) m.l := pairedMap (fun p : TRow => (p.1, p.2.2)) (fun a b q => ⟨q.1, q.2.2⟩) hp
        have g : TGet K H a (.ref b) (valV (kvT ks) ns) := ⟨ks, ns, b, ha, fun p hp0 => by
          obtain ⟨q, _, h1, h2, h3⟩ := mem_pl hp hp0
          exact h2.le l, rfl, hq.le l, rfl⟩
        unfold dFind
        rw [ht]
        rcases find_g (enc := fun ns : List Int => PyData.tuple (ns.map PyData.int)) kq_t hp' ns with ⟨v, z, h1, h2, h3⟩ | ⟨h1, h2⟩
        · rw [h1] at g
          exact .inl ⟨v, z, .inr g, h2, h3⟩
        · rw [h1] at g
          exact .inr ⟨.inr g, h2⟩
    | _ => cases hk
/-- x[k] of a dict -/
def dixE (n : Nat) (mk : Ev → R PyData) (ρ : Ev) : R PyData := (getDd ρ n).bind fun m => (mk ρ).bind fun d => match dKey m.t d, dFind m d with
  | some _, some v => .ok v
  | _, _ => .bad
theorem xe_dix {n : Nat} {mk : Ev → R PyData} (hu : X.A.units + 1 < cLine) (hN : X.N[n]? = some x) (hv : Vis X.env.scope x) (hd : (x == ("__debug__" : Str)) = false) (hcd : (x == ("__classdict__" : Str)) = false)
    (hi : XE X We i mk) (hs : NoSl i) : XE X We (.Subscript (.Name x p) i pos) (dixE n mk) := by
  refine ⟨fun pins s σ H Q I h => ?_⟩
  obtain ⟨ρ, F, G, r, q⟩ := h
  unfold dixE at q
  cases hg : getDd ρ n with
  | err c => exact absurd hg getDd_ne
  | bad => rw [hg] at q; exact q.elim
  | ok m =>
    rw [hg, bind_ok] at q
    obtain ⟨a, o, e1, e3, e4⟩ := getDd_r r hg
    have q' : tM X.K We (pD X.K) mk σ H fun y H1 => (∃ F1, Rd H1 a o ∧ DOk X.K F1 a o m) ∧ ∃ v, AGet X.K H1 a y (some v) ∧ Q v H1 := ⟨ρ, F, G, r, Po.bind (P := pD X.K) q fun d y F1 H1 g1 p1 q1 => by
      split at q1
      · rename_i k z hk hz
        rcases aget g1.le (rd_le g1.h e3) (e4.le g1.f) p1 hk with ⟨v, z', ag, hz', hv'⟩ | ⟨ag, hz'⟩
        · rw [hz] at hz'
          cases hz'
          exact ⟨⟨F1, rd_le g1.h e3, e4.le g1.f⟩, v, ag, q1 _ _ _ (Gr.refl g1.le) hv'⟩
        · rw [hz] at hz'
          cases hz'
      · exact q1.elim⟩
    refine subD_of PySem.F.slot_dict_getitem.lookup hs (thn ((pe_var hN hv hd hcd).run pins s σ H (fun x H1 => x = .ref a ∧ H1 = H) I ⟨_, e1, rfl, rfl⟩) fun u s1 ⟨x0, H0, I1, rx, ex, eh⟩ => ?_)
    subst ex eh
    obtain rfl : u = Value.ref a := rx
    refine thn (hi.run pins s1 σ H0 _ I1 q') fun iv s2 ⟨y, H2, I2, ry, ⟨F2, e5, e6⟩, v, g, q2⟩ => ?_
    refine ⟨(dictAt I2 e5 e6).1, ?_⟩
    rcases g with g | g
    · exact d_getItem hu I2 g ry fun w' s3 I3 rw' => ⟨v, H2, I3, rw', q2⟩
    · exact t_getItem hu I2 g ry fun w' s3 I3 rw' => ⟨v, H2, I3, rw', q2⟩
/-- x.get(k, z) of a dict -/
def dgetE (n : Nat) (mk mz : Ev → R PyData) (ρ : Ev) : R PyData := (getDd ρ n).bind fun m => (mk ρ).bind fun d => (mz ρ).bind fun z => match dKey m.t d with
  | some _ => .ok ((dFind m d).getD z)
  | none => .bad
theorem xe_dget {n : Nat} {mk mz : Ev → R PyData} (hu : X.A.units + 1 < cLine) (hN : X.N[n]? = some x) (hv : Vis X.env.scope x) (hd : (x == ("__debug__" : Str)) = false) (hcd : (x == ("__classdict__" : Str)) = false)
    (hi : XE X We i mk) (hf : XE X We f mz) (m : M2 X (.Name x p) "get" apos i f cpos) : XE X We (.Call (.Attribute (.Name x p) "get" apos) [i, f] [] cpos) (dgetE n mk mz) := by
  refine ⟨fun pins s σ H Q I h => ?_⟩
  obtain ⟨ρ, F, G, r, q⟩ := h
  unfold dgetE at q
  cases hg : getDd ρ n with
  | err c => exact absurd hg getDd_ne
  | bad => rw [hg] at q; exact q.elim
  | ok md =>
    rw [hg, bind_ok] at q
    obtain ⟨a, o, e1, e3, e4⟩ := getDd_r r hg
    have q' : tM X.K We (pD X.K) mk σ H fun y H1 => tM X.K We (pD X.K) mz σ H1 fun z H2 => ∃ ov : Option V, AGet X.K H2 a y ov ∧ Q (ov.getD z) H2 := ⟨ρ, F, G, r, Po.bind (P := pD X.K) q fun d y F1 H1 g1 p1 q1 =>
      ⟨ρ, F1, _, (r.grow g1).1, Po.bind (P := pD X.K) q1 fun z zv F2 H2 g2 p2 q2 => by
        split at q2
        · rename_i k hk
          rcases aget g2.le (rd_le g2.h (rd_le g1.h e3)) (e4.le (g1.f.trans g2.f)) (Dp.le g2.f p1) hk with ⟨v, z', ag, hz', hv'⟩ | ⟨ag, hz'⟩
          · rw [hz'] at q2
            exact ⟨some v, ag, q2 _ _ _ (Gr.refl g2.le) hv'⟩
          · rw [hz'] at q2
            exact ⟨none, ag, q2 _ _ _ (Gr.refl g2.le) p2⟩
        · exact q2.elim⟩⟩
    refine wpAny_Call_method m.base m.few m.line PySem.F.plainAttrs_dict PySem.F.slot_dict_get PySem.F.type_dict_get (thn ((pe_var hN hv hd hcd).run pins s σ H (fun x H1 => x = .ref a ∧ H1 = H) I ⟨_, e1, rfl, rfl⟩) fun u s1 ⟨x0, H0, I1, rx, ex, eh⟩ => ?_)
    subst ex eh
    obtain rfl : u = Value.ref a := rx
    obtain ⟨t1, t2⟩ := dictAt I1 e3 e4
    refine ⟨t1, t2, ?_⟩
    rw [m.trees]
    refine Calls.callWith_builtin rfl (Calls.evalArgs_plain (Calls.spliced_cons (thn (hi.run pins s1 σ H0 _ I1 q') fun iv s2 ⟨y, H2, I2, ry, q2⟩ =>
      Calls.spliced_cons (thn (hf.run pins s2 σ H2 _ I2 q2) fun fv s3 ⟨z, H3, I3, rz, ov, g, q3⟩ => Calls.spliced_nil ?_))))
    rcases g with g | g
    · exact d_get2 hu I3 g ry rz fun w' s4 I4 rw' => ⟨_, H3, I4, rw', q3⟩
    · exact t_get2 hu I3 g ry rz fun w' s4 I4 rw' => ⟨_, H3, I4, rw', q3⟩
end
end PD
namespace PD
open PySem PySem.Spec PyProof.Rows L2
/-! ## dicts: statements -/
section
variable {X : Cx} {We : EW} {e i f : Expr} {es : List Expr} {ss : List Stmt} {x y : Str} {pos p p2 apos cpos pos' : Pos}
def newDS (n : Nat) (t : Bool) : SM := fun ρ => .ok (.nx (ρ.set n (.dd ⟨t, []⟩)))
theorem xs_newK {n : Nat} (hN : X.N.Nodup) (hi : X.N[n]? = some x) (hx : Loc X.env.scope x) (hs : swapsWith (.Dict [] [] p2) (some (.Name x pos')) pos.line X.env = pure false)
    (hf : X.fn x = true ∨ X.env.scope.names.lookup x = some .local) : XS X We (.Assign [.Name x pos'] (.Dict [] [] p2) pos) (newDS n false) := ps_imp (ps_set hN hi hx pe_dnewK hs hf) fun D σ H q => by
  obtain ⟨ρ, F, G, r, q⟩ := q
  exact fun a hp => q _ F G _ (Rl.setDd (p := a) (u := .dK []) r n (Le.upd hp) hp upd_same (.inl ⟨rfl, [], rfl, .nil⟩)) (GrS.refl F G)
theorem dtx_ok {P : Program} {w : World} {H' : Hp} {h : Heap} {a : Addr} {xs : List TRow} {ys : List (List Int × Addr × Value)} (z : xs.length ≤ sizeLine) (hd : (a == sysModules) = false) (rel : Paired TRel xs ys) (dd : h.DictOfH (IK P w) a ys) : ObjOk P w H' h a (DTx a xs) := by
  obtain ⟨o, es, ep, h1, h2, h3, h4, _, h5⟩ := dd
  refine ⟨⟨z, hd, ys, rel, o, es, ep, h1, h2, h3, h4, h5⟩, ⟨o, h1⟩, fun g1 g2 q k => ?_⟩
  obtain ⟨z, hd, ys, rel, o, es, ep, h1, r⟩ := q
  exact ⟨z, hd, ys, rel, o, es, ep, k o h1, r⟩
theorem pe_dnewX : PE X (.Dict [] [] pos) (fun _ H Q => ∀ p, H p = none → Q (.ref p) (upd H p (DTx p []))) := ⟨fun pins s σ H Q I h =>
  wpAny_Dict_empty ⟨.ref s.heap.objs.size, _, I.laid (a := s.heap.objs.size) (o := DTx s.heap.objs.size []) (t' := s.toks) (fun _ _ q => Heap.get?_push_of_some _ q) (Nat.le_refl _)
    (dtx_ok (Nat.zero_le _) (beq_eq_false_iff_ne.mpr (Ne.symm (Nat.ne_of_lt I.big))) .nil (Heap.DictOfH.new s.heap)), rfl, h _ (I.hok.fresh (Nat.le_refl _))⟩⟩
theorem xs_newT {n : Nat} (hN : X.N.Nodup) (hi : X.N[n]? = some x) (hx : Loc X.env.scope x) (hs : swapsWith (.Dict [] [] p2) (some (.Name x pos')) pos.line X.env = pure false)
    (hf : X.fn x = true ∨ X.env.scope.names.lookup x = some .local) : XS X We (.Assign [.Name x pos'] (.Dict [] [] p2) pos) (newDS n true) := ps_imp (ps_set hN hi hx pe_dnewX hs hf) fun D σ H q => by
  obtain ⟨ρ, F, G, r, q⟩ := q
  exact fun a hp => q _ F G _ (Rl.setDd (p := a) (u := DTx a []) r n (Le.upd hp) hp upd_same (.inr ⟨rfl, [], rfl, .nil⟩)) (GrS.refl F G)
def getOd (ρ : Ev) (n : Nat) : R Dd := match ρ[n]? with
  | some (.dd m) => .ok m
  | _ => .bad
theorem getOd_ok {ρ : Ev} {n : Nat} {m : Dd} (h : getOd ρ n = .ok m) : ρ[n]? = some (.dd m) := by
  unfold getOd at h
  split at h
  · cases h; assumption
  · cases h
theorem getOd_ne {ρ : Ev} {n : Nat} {c : String} : getOd ρ n ≠ .err c := fun h => by
  unfold getOd at h
  split at h <;> cases h
/-- a pair is put to a dict whose keys are tuples -/
def putT (xs : List TRow) (k : List Int) (b : Addr) (v : V) : List TRow := if (xs.any fun p => decide (p.1 = k)) = true then xs.map (fun p => if p.1 = k then (p.1, p.2.1, v) else p) else xs ++ [(k, b, v)]
theorem t_any (k : List Int) : ∀ {xs : List TRow} {ys : List (List Int × Addr × Value)}, Paired TRel xs ys → (xs.any fun p => decide (p.1 = k)) = (atKey ys k).isSome
  | _, _, .nil => rfl
  | p :: ps, q :: qs, .cons h t => by
    rw [List.any_cons, t_any k t]
    by_cases e : p.1 = k
    · have e' : q.1 = k := h.1.symm.trans e
      simp [atKey, List.find?_cons, e, e']
    · have e' : ¬ q.1 = k := fun z => e (h.1.trans z)
      simp [atKey, List.find?_cons, e, e']
theorem t_put (k : List Int) (b : Addr) {v : V} {r : Value} (hv : RelV v r) {xs : List TRow} {ys : List (List Int × Addr × Value)} (h : Paired TRel xs ys) : Paired TRel (putT xs k b v) (storedH ys k b r) := by
  unfold putT storedH
  rw [t_any k h]
  split
  · rename_i hs
    clear hs
    induction h with
    | nil => exact .nil
    | @cons p q ps qs h t ih =>
      rw [List.map_cons, List.map_cons]
      refine .cons ?_ ih
      unfold putAt
      by_cases e : p.1 = k
      · rw [if_pos e, if_pos (h.1.symm.trans e)]
        exact ⟨h.1, h.2.1, hv⟩
      · rw [if_neg e, if_neg (fun z => e (h.1.trans z))]
        exact h
  · exact paired_app h (.cons ⟨rfl, rfl, hv⟩ .nil)
theorem putT_len (xs : List TRow) (k : List Int) (b : Addr) (v : V) : (putT xs k b v).length ≤ xs.length + 1 := by
  unfold putT
  split
  · rw [List.length_map]; omega
  · rw [List.length_append]; exact Nat.le_refl _
theorem t_setItem {pins : List (Addr × Obj)} {σ : St} {H : Hp} {s : Shared} {a b : Addr} {v : V} {r : Value} {k : List Int} {xs : List TRow} {A : Around} {E : Value → Shared → Prop} {Q : Unit → Shared → Prop} (hu : A.units + 1 < cLine) (I : Inv X pins σ H s)
    (e : H a = some (DTx a xs)) (hk : ∀ p ∈ xs, SqT X.K H p.2.1 (p.1.map V.int)) (eb : SqT X.K H b (k.map V.int)) (l : xs.length < sizeLine) (rv : RelV v r) (h : ∀ s', Inv X pins σ (upd H a (DTx a (putT xs k b v))) s' → Q () s') :
    wpAny (model X.prog X.w) A (setItem (.ref a) (.ref b) r) Q E s := by
  obtain ⟨z, hd, ys, rel, dd⟩ := t_dict I (.inl e) hk
  have hz : ys.length ≤ sizeLine := by rw [← paired_len rel]; exact z
  have hl : (putT xs k b v).length ≤ sizeLine := by have := putT_len xs k b v; omega
  refine wpAny_setItem_heap (knd := IK X.prog X.w) (hsz := hz) (tupleKind_room_in1 hu) (key_sq I eb) dd fun h' dd' hs => h _ ?_
  have he : ∃ q, h'.get? a = some q := let ⟨q, _, _, hq, _⟩ := dd'; ⟨q, hq⟩
  exact d_write I (by rw [e]; exact True.intro) hs he (dtx_ok hl hd (t_put k b rv rel) dd')
theorem any_t {K : PySem.W.Frag} {F : Hp} (k : List Int) : ∀ {xs : List TRow} {l : List (PyData × PyData)}, Paired (fun (p : TRow) (q : PyData × PyData) => q.1 = .tuple (p.1.map PyData.int) ∧ SqT K F p.2.1 (p.1.map V.int) ∧ Dp K F p.2.2 q.2) xs l →
    (xs.any fun p => decide (p.1 = k)) = l.any fun p => kq true p.1 (.tuple (k.map PyData.int))
  | _, _, .nil => rfl
  | p :: ps, q :: qs, .cons h hs => by rw [List.any_cons, List.any_cons, any_t k hs, h.1, kq_t]
theorem put_t {K : PySem.W.Frag} {F : Hp} {k : List Int} {b : Addr} {v : V} {x : PyData} (hb : SqT K F b (k.map V.int)) (hv : Dp K F v x) {xs : List TRow} {l : List (PyData × PyData)} (h : Paired (fun (p : TRow) (q : PyData × PyData) => q.1 = .tuple (p.1.map PyData.int) ∧ SqT K F p.2.1 (p.1.map V.int) ∧ Dp K F p.2.2 q.2) xs l) :
    Paired (fun (p : TRow) (q : PyData × PyData) => q.1 = .tuple (p.1.map PyData.int) ∧ SqT K F p.2.1 (p.1.map V.int) ∧ Dp K F p.2.2 q.2) (putT xs k b v)
      (if l.any (fun p => kq true p.1 (.tuple (k.map PyData.int))) = true then l.map (fun p => if kq true p.1 (.tuple (k.map PyData.int)) = true then (p.1, x) else p) else l ++ [(.tuple (k.map PyData.int), x)]) := by
  unfold putT
  rw [any_t k h]
  split
  · rename_i hs
    clear hs
    induction h with
    | nil => exact .nil
    | @cons p q ps qs h t ih =>
      rw [List.map_cons, List.map_cons]
      refine .cons ?_ ih
      have e1 : kq true q.1 (.tuple (k.map PyData.int)) = decide (p.1 = k) := by rw [h.1, kq_t]
      rw [e1]
      by_cases e : p.1 = k
      · rw [if_pos e, if_pos (decide_eq_true e)]
        exact ⟨h.1, h.2.1, hv⟩
      · rw [if_neg e, if_neg (by rw [decide_eq_false e]; exact Bool.false_ne_true)]
        exact h
  · exact paired_app h (.cons ⟨rfl, hb, hv⟩ .nil)
/-- x[k] = v -/
def putDS (n : Nat) (mk mv : Ev → R PyData) : SM := fun ρ => (mv ρ).bind fun v => (getOd ρ n).bind fun m => (mk ρ).bind fun d => match dKey m.t d with
  | some _ => if m.l.length < SZ then .ok (.nx (ρ.set n (.dd (dPut m d v)))) else .bad
  | none => .bad
theorem xs_put {n : Nat} {mk mv : Ev → R PyData} (hu : X.A.units + 1 < cLine) (hN : X.N[n]? = some x) (hv : Vis X.env.scope x) (hd : (x == ("__debug__" : Str)) = false) (hcd : (x == ("__classdict__" : Str)) = false)
    (hi : XE X We i mk) (he : XE X We e mv) (hs : swapsWith e (some (.Subscript (.Name x p) i pos')) pos.line X.env = pure false) : XS X We (.Assign [.Subscript (.Name x p) i pos'] e pos) (putDS n mk mv) := by
  refine ⟨fun pins s σ H D I h => ?_⟩
  obtain ⟨ρ, F, G, r, q⟩ := h
  have q' : tM X.K We (pD X.K) mv σ H fun v H1 => ∃ a : Addr, σ[n]? = some (some (.ref a)) ∧ tM X.K We (pD X.K) mk σ H1 fun y H2 => ∃ H3, D.nx σ H3 ∧
      ((∃ ks k, H2 a = some (.dK ks) ∧ y = kV k ∧ ks.length < sizeLine ∧ H3 = upd H2 a (.dK (putK ks k v))) ∨
       (∃ xs k b, H2 a = some (DTx a xs) ∧ (∀ p ∈ xs, SqT X.K H2 p.2.1 (p.1.map V.int)) ∧ y = .ref b ∧ SqT X.K H2 b (k.map V.int) ∧ xs.length < sizeLine ∧ H3 = upd H2 a (DTx a (putT xs k b v)))) :=
    ⟨ρ, F, G, r, PoS.expr (P := pD X.K) r q fun d v F1 G1 H1 r1 g1 p1 q1 => by
      cases hg : getOd ρ n with
      | err c => exact absurd hg getOd_ne
      | bad => rw [hg] at q1; exact q1.elim
      | ok m =>
        rw [hg, bind_ok] at q1
        have em := getOd_ok hg
        obtain ⟨a, o, e1, e2, e3, e4⟩ := r1.getD em
        refine ⟨a, e1, ρ, F1, G1, r1, PoS.expr (P := pD X.K) r1 q1 fun kd y F2 G2 H2 r2 g2 p2 q2 => ?_⟩
        have sq := sz_eq
        rcases e4 with ⟨ht, ks, rfl, hp⟩ | ⟨ht, xs, rfl, hp⟩
        · obtain ⟨mt, ml⟩ := m
          cases ht
          cases hk : keyA kd with
          | none =>
            have : dKey false kd = none := by show (keyA kd).map _ = none; rw [hk]; rfl
            rw [this] at q2
            exact q2.elim
          | some k =>
            have hdk : dKey false kd = some [k] := by show (keyA kd).map _ = some [k]; rw [hk]; rfl
            rw [hdk] at q2
            obtain rfl := keyA_un hk
            have ey : y = kV k := by
              cases k with
              | inl i => cases p2; rfl
              | inr s => cases p2; rfl
            subst ey
            have q2 : PoS X.K We F2 G2 (if ml.length < SZ then .ok (.nx (ρ.set n (.dd (dPut ⟨false, ml⟩ (kP k) d)))) else .bad) D := q2
            split at q2
            · rename_i hz
              have hp2 := pairedI hp fun a b q => (⟨q.1, Dp.le g2.f q.2⟩ : b.1 = kP a.1 ∧ Dp X.K F2 a.2 b.2)
              have hl : ks.length = ml.length := paired_len hp
              exact ⟨_, q2 σ F2 G2 _ (r2.writeD em e1 (.inl ⟨rfl, _, rfl, put_g kq_k (Dp.le g2.f p1) k hp2⟩)) (GrS.refl F2 G2), .inl ⟨ks, k, g2.h _ _ e3, rfl, by rw [hl, sq]; exact hz, rfl⟩⟩
            · exact q2.elim
        · obtain ⟨mt, ml⟩ := m
          cases ht
          cases kd with
          | tuple ds =>
            cases hk : intsOf ds with
            | none =>
              have : dKey true (.tuple ds) = none := by show (intsOf ds).map _ = none; rw [hk]; rfl
              rw [this] at q2
              exact q2.elim
            | some ns =>
              have hdk : dKey true (.tuple ds) = some (ns.map Sum.inl) := by show (intsOf ds).map _ = _; rw [hk]; rfl
              rw [hdk] at q2
              obtain rfl := intsOf_eq hk
              cases p2 with
              | tup hq hs2 =>
                rename_i b vs
                have ev := hs2.ints
                subst ev
                have q2 : PoS X.K We F2 G2 (if ml.length < SZ then .ok (.nx (ρ.set n (.dd (dPut ⟨true, ml⟩ (.tuple (ns.map PyData.int)) d)))) else .bad) D := q2
                split at q2
                · rename_i hz
                  have hp2 := pairedI hp fun a b q => (⟨q.1, q.2.1.le g2.f, Dp.le g2.f q.2.2⟩ : b.1 = .tuple (a.1.map PyData.int) ∧ SqT X.K F2 a.2.1 (a.1.map V.int) ∧ Dp X.K F2 a.2.2 b.2)
                  have hl : xs.length = ml.length := paired_len hp
                  exact ⟨_, q2 σ F2 G2 _ (r2.writeD em e1 (.inr ⟨rfl, _, rfl, put_t hq (Dp.le g2.f p1) hp2⟩)) (GrS.refl F2 G2), .inr ⟨xs, ns, b, g2.h _ _ e3, fun p hp0 => by
                    obtain ⟨q, _, h1, h2, h3⟩ := mem_pl hp2 hp0
                    exact h2.le r2.fh, rfl, hq.le r2.fh, by rw [hl, sq]; exact hz, rfl⟩⟩
                · exact q2.elim
          | _ => exact q2.elim⟩
  refine wpAny_Assign_Subscript (thn (he.run pins s σ H _ I q') fun rr s1 ⟨v, H1, I1, rv, a, ea, q1⟩ => thn ((pe_var hN hv hd hcd).run pins s1 σ H1 (fun x H2 => x = .ref a ∧ H2 = H1) I1 ⟨_, ea, rfl, rfl⟩) fun u s2 ⟨x0, H0, I2, rx, ex, eh⟩ => ?_) hs
  subst ex eh
  obtain rfl : u = Value.ref a := rx
  refine thn (hi.run pins s2 σ H0 _ I2 q1) fun iv s3 ⟨y, H2, I3, ry, H3, nx, q2⟩ => ?_
  rcases q2 with ⟨ks, k, e1, rfl, hl, rfl⟩ | ⟨xs, k, b, e1, hk, rfl, eb, hl, rfl⟩
  · exact d_setItem hu I3 (DPut.k e1 hl) ry rv fun s4 I4 => ⟨σ, _, I4, nx⟩
  · cases (show iv = Value.ref b from ry)
    exact t_setItem hu I3 e1 hk eb hl rv fun s4 I4 => ⟨σ, _, I4, nx⟩
/-- one's own dict is locked, and stays (no statement of the text) -/
def frzDS (n : Nat) : SM := fun ρ => match ρ[n]? with
  | some (.dd m) => .ok (.nx (ρ.set n (.df m)))
  | some (.df _) => .ok (.nx ρ)
  | _ => .bad
theorem xss_frzD (n : Nat) {m : SM} (h : XSs X We ss m) : XSs X We ss (seqS (frzDS n) m) := ⟨fun pins s σ H D I q => by
  obtain ⟨ρ, F, G, r, q⟩ := q
  unfold seqS frzDS at q
  cases e : ρ[n]? with
  | none => rw [e] at q; exact q.elim
  | some sl =>
    rw [e] at q
    cases sl with
    | dd md =>
      obtain ⟨a, o, e1, e2, e3, e4⟩ := r.getD e
      have mu : Mut (some o) := by
        rcases e4 with ⟨_, ks, rfl, _⟩ | ⟨_, ks, rfl, _⟩ <;> exact True.intro
      obtain ⟨od, I'⟩ := I.lock e3 mu
      obtain ⟨r', g'⟩ := Rl.frzD (od := od) r e e1 e3
      exact h.run pins s σ _ D I' ⟨_, _, _, r', PoS.step g' q⟩
    | df md => exact h.run pins s σ H D I ⟨ρ, F, G, r, q⟩
    | un => exact q.elim
    | d _ => exact q.elim
    | lo _ => exact q.elim
    | tk _ => exact q.elim⟩
/-- a dict is given back -/
def retDS (n : Nat) : SM := fun ρ => match ρ[n]? with
  | some (.df m) => .ok (.rd m)
  | _ => .bad
theorem xs_retD {n : Nat} (hN : X.N[n]? = some x) (hv : Vis X.env.scope x) (hd : (x == ("__debug__" : Str)) = false) (hcd : (x == ("__classdict__" : Str)) = false) : XS X We (.Return (some (.Name x p)) pos) (retDS n) := ps_imp (ps_ret (pe_var hN hv hd hcd)) fun D σ H q => by
  obtain ⟨ρ, F, G, r, q⟩ := q
  unfold retDS at q
  split at q
  · rename_i m em
    obtain ⟨a, od, o, e1, e2, e3⟩ := r.getF em
    exact ⟨_, e1, q a od o F G H (GrS.refl F G) r.fg r.gh e2 e3⟩
  · exact q.elim
end
/-! ### defs that give a dict -/
def spPd (mg : Str → Option Value) (K : PySem.W.Frag) (n : Nat) (m : List PyData → R Dd) : Sp := fun vs H Q E => ∃ F ds, Le F H ∧ DpAll K F vs ds ∧ ds.length = n ∧ match m ds with
  | .ok d => ∀ a od o F' H', Gr F H F' H' → F' a = some (.frz od o) → DOk K F' a o d → Q (.ref a) H'
  | .err c => ∀ H' C, Le H H' → mg (c : Str) = some (.ref C) → E (.ref C) none H'
  | .bad => False
abbrev FnPd (P : Program) (w : World) (K : PySem.W.Frag) (mg : Str → Option Value) (base : Heap) (k : Nat) (f : Addr) (fd : FuncData) (ps : List Str) (m : List PyData → R Dd) : Prop :=
  FnOk P w K mg base (L2.CX P w) k f fd ps (spPd mg K ps.length m)
def outD : R Out → R Dd
  | .ok (.rd m) => .ok m
  | .ok _ => .bad
  | .err c => .err c
  | .bad => .bad
def runBD (n : Nat) (b : SM) (ds : List PyData) : R Dd := outD (b (ds.map Sl.d ++ List.replicate (n - ds.length) Sl.un))
theorem fnPd_of {P : Program} {w : World} {K : PySem.W.Frag} {mg : Str → Option Value} {base : Heap} {x qual : Str} {st : Stmt} {f : Addr} {fd : FuncData} {N ps : List Str} {k : Nat} {b : SM} (Fn : Fun K x qual st f fd) (S : FnScope N ps (defScope st))
    (hb : ∀ (cdv : Value) (A : Around) (outer : List Env) (s : Shared) (H : Hp) (E : XK) (We : EW), Room k (cxOf (L2.CX P w) P w K mg base N qual (defScope st) f cdv A outer s H E).A → Tk (cxOf (L2.CX P w) P w K mg base N qual (defScope st) f cdv A outer s H E) We →
      PassesOwn (model P w) (cxOf (L2.CX P w) P w K mg base N qual (defScope st) f cdv A outer s H E).A (cxOf (L2.CX P w) P w K mg base N qual (defScope st) f cdv A outer s H E).env (cxOf (L2.CX P w) P w K mg base N qual (defScope st) f cdv A outer s H E).xe →
      XSs (cxOf (L2.CX P w) P w K mg base N qual (defScope st) f cdv A outer s H E) We (defBody st) b) : FnPd P w K mg base (k + 1) f fd ps (runBD N.length b) := by
  refine Fn.okX S (fun vs H Q E h => ?_) fun cdv A outer s H vs Q E hr h => ?_
  · obtain ⟨F, ds, l, hd, hl, _⟩ := h
    rw [hd.length, hl]
  · obtain ⟨F, ds, l, hd, hl, h⟩ := h
    refine ⟨_, hb cdv A outer s H E (fun c _ H' => ∀ C, mg (c : Str) = some (.ref C) → E (.ref C) none H') hr ((takes_of rfl rfl rfl rfl).imp fun cls d σ H' z => ?_) (passes_of rfl), _, F, H, Rl.start l hd, ?_⟩
    · obtain ⟨c, C, rfl, rfl, hm, z⟩ := z
      exact z C hm
    · unfold runBD at h
      revert h
      generalize b (ds.map Sl.d ++ List.replicate (N.length - ds.length) Sl.un) = r
      intro h
      cases r with
      | ok o =>
        cases o with
        | nx ρ => exact h.elim
        | bk ρ => exact h.elim
        | ct ρ => exact h.elim
        | rt d => exact h.elim
        | rd d => exact fun a od o F' G' H' g fg gh e1 e2 => h a od o F' H' ⟨g.f, g.g.trans gh, g.n, fg.trans gh⟩ e1 e2
      | err c => exact fun σ' G' H' a b C hm => h H' C (a.trans b) hm
      | bad => exact h
section
variable {X : Cx} {We : EW} {e a b c : Expr} {es : List Expr} {st : Stmt} {ss : List Stmt} {pos p p2 pos' : Pos} {x y : Str}
/-- y = x(..), a dict -/
def callDS (i n : Nat) (m : List PyData → R Dd) (ma : Ev → R (List PyData)) : SM := fun ρ => (ma ρ).bind fun ds => if ds.length = n then (m ds).bind fun d => .ok (.nx (ρ.set i (.df d))) else .bad
theorem xs_callD {i : Nat} {k : Nat} {f : Addr} {fd : FuncData} {ps : List Str} {m : List PyData → R Dd} {ma : Ev → R (List PyData)} (F : FnPd X.prog X.w X.K X.mg X.base k f fd ps m) (hr : Room k X.A) (hg : Gl X x) (hm : X.mg x = some (.ref f)) (hk : PySem.W.keepIn X.K (.ref f) = true) (hb : Binds X.K fd ps [])
    (tk : Tk X We) (ha : XA X We (e :: es) ma) (hdb : (x == ("__debug__" : Str)) = false) (he : starEach (e :: es) X.env = (false, eval e X.env) :: starEach es X.env) (hpl : (backTo p2 (starEach es X.env)).any (·.1) = false)
    (hN : X.N.Nodup) (hi : X.N[i]? = some y) (hy : Loc X.env.scope y) (hs : swapsWith (.Call (.Name x p) (e :: es) [] p2) (some (.Name y pos')) pos.line X.env = pure false)
    (hf : X.fn y = true ∨ X.env.scope.names.lookup y = some .local) : XS X We (.Assign [.Name y pos'] (.Call (.Name x p) (e :: es) [] p2) pos) (callDS i ps.length m ma) :=
  ps_imp (ps_set hN hi hy (pe_callS F hr hg hm hk hb (fun σ => passAt tk σ) ha hdb he hpl) hs hf) fun D σ H q => by
    obtain ⟨ρ, F0, G, r, q⟩ := q
    refine ⟨ρ, F0, G, r, PoS.expr (P := pA X.K) r q fun ds vs F1 G1 H1 r1 g1 p1 q1 => ?_⟩
    split at q1
    · rename_i hl
      refine ⟨F1, ds, r1.fh, p1, hl, ?_⟩
      cases hmd : m ds with
      | ok d =>
        rw [hmd] at q1
        exact fun a od o F' H' g h1 h2 => PoS.step (r1.grow g).2 q1 _ F' _ H' ((r1.grow g).1.setF i h1 h2) (GrS.refl _ _)
      | err c => rw [hmd] at q1; exact fun H' C l hC => ⟨c, C, rfl, rfl, hC, q1 σ G1 H' (Le.refl G1) (r1.gh.trans l)⟩
      | bad => rw [hmd] at q1; exact q1
    · exact q1.elim
/-- a dict's keys, walked -/
def keysE (n : Nat) (ρ : Ev) : R (List PyData) := match ρ[n]? with
  | some (.df ⟨false, l⟩) => .ok (l.map (·.1))
  | _ => .bad
theorem paired_at {α β : Type} {R : α → β → Prop} : ∀ {a : List α} {b : List β} {i : Nat} {y : β}, Paired R a b → b[i]? = some y → ∃ x, a[i]? = some x ∧ R x y
  | _, _, _, _, .nil, e => by simp at e
  | _, _, 0, _, .cons h _, e => by simp at e; subst e; exact ⟨_, rfl, h⟩
  | _, _, i + 1, _, .cons _ t, e => by
    obtain ⟨x, h1, h2⟩ := paired_at (i := i) t (by simpa using e)
    exact ⟨x, by simpa using h1, h2⟩
theorem itk_ok {K : PySem.W.Frag} {F : Hp} {d : Addr} {od : Obj} {ks : List (Key × V)} {l : List (PyData × PyData)} (h : F d = some (.frz od (.dK ks))) (hp : Paired (fun p q => q.1 = kP p.1 ∧ Dp K F p.2 q.2) ks l) : ItOk K F (Itk d od ks) (l.map (·.1)) := fun F' H l1 l2 => by
  have h' := l2 _ _ (l1 _ _ h)
  have hl := paired_len hp
  refine ⟨fun i y e => ?_, ⟨h', by rw [List.length_map, hl]; exact Nat.le_refl _⟩⟩
  rw [List.getElem?_map] at e
  cases hq : l[i]? with
  | none => rw [hq] at e; cases e
  | some q =>
    rw [hq] at e
    cases e
    obtain ⟨kv, hk, e1, e2⟩ := paired_at hp hq
    obtain ⟨hlt, _⟩ := List.getElem?_eq_some_iff.mp hk
    refine ⟨⟨h', hlt⟩, fun x H' hy => ?_⟩
    obtain ⟨rfl, k, v, hkv, rfl⟩ := hy
    rw [hk] at hkv
    cases hkv
    refine ⟨F', Gr.refl l2, ?_⟩
    show Dp K F' (kV k) q.1
    rw [e1]
    cases k with
    | inl i => exact .int i
    | inr s => exact .str s
theorem xi_keys {tg : Expr} {n : Nat} (hN : X.N[n]? = some x) (hv : Vis X.env.scope x) (hd : (x == ("__debug__" : Str)) = false) (hcd : (x == ("__classdict__" : Str)) = false) : XI X We tg (.Name x p) (keysE n) := by
  refine ⟨fun pins s σ H R I h => ?_⟩
  obtain ⟨ρ, F, G, r, h⟩ := h
  unfold keysE at h
  split at h
  · rename_i l em
    obtain ⟨a, od, o, e1, e2, e3⟩ := r.getF em
    rcases e3 with ⟨_, ks, rfl, hp⟩ | ⟨ht, _⟩
    · refine (pi_keys (pe_var hN hv hd hcd)).run pins s σ H R I ⟨_, e1, a, od, rfl, .inl ⟨ks, r.fh _ _ e2, ?_⟩⟩
      exact h _ F H (Gr.refl r.fh) (itk_ok e2 hp)
    · cases ht
  · exact h.elim
end
end PD
namespace PD
open PySem PySem.Spec PyProof.Rows L2 PySem.W
/-! ## xs.count(y) -/
def rCnt (K : PySem.W.Frag) (tup : Bool) : V → List V → Hp → VK → Prop := fun x xs H Q => ∃ (a : Addr) (y : V) (d : PyData) (ds : List PyData), x = V.ref a ∧ xs = [y] ∧ Dp K H (V.ref a) (if tup = true then .tuple ds else .list ds) ∧ Dp K H y d ∧
  shp (.list ds) = true ∧ shp d = true ∧ Q (.int ((ds.countP fun z => PyData.eqv z d : Nat) : Int)) H
section
variable {X : Cx} {We : EW} {e a b c : Expr} {es : List Expr} {st : Stmt} {ss : List Stmt} {pos p p2 q2 pos' apos cpos : Pos} {x y : Str}
theorem mt_cntL (hu : X.A.units + 65 < cLine) : MtR X "list.count" (rCnt X.K false) := by
  intro pins s σ H x xs v us Q I r rxs h
  obtain ⟨a, y, d, ds, rfl, rfl, hl, hy, sl, sd, q⟩ := h
  cases r
  cases rxs with
  | cons ry rt =>
    rename_i uy ut
    cases rt
    obtain ⟨bs, rb⟩ := Dp.reads I d y uy hy ry
    have pl : PyData.plainAll ds = true := by have := (shp_un sl).1; simpa only [PyData.plain] using this
    rw [if_neg Bool.false_ne_true] at hl
    cases hl with
    | lst hs ha =>
      obtain ⟨its, rv, ⟨o, n, ho, hc, hdn, hdt⟩, hlen⟩ := I.list hs
      obtain ⟨as, ra⟩ := Dp.readsAll I ds _ its ha rv
      exact SeqAt.count_list_data (vs := its.toArray) ⟨o, ho, hc, n, hdt⟩ (show ReadsAll s.heap its.toArray.toList ds as from ra) rb pl (shp_un sd).1 (room_shp sd hu) ⟨.int _, H, I.tok _, ⟨_, rfl⟩, q⟩
def cntD (ds : List PyData) (yd : PyData) : R PyData := if shp (.list ds) = true ∧ shp yd = true then .ok (.int ((ds.countP fun z => PyData.eqv z yd : Nat) : Int)) else .bad
def cntE (ma mb : Ev → R PyData) (ρ : Ev) : R PyData := (ma ρ).bind fun x => (oListD x).bind fun ds => (mb ρ).bind fun y => cntD ds y
theorem xe_countL {ma mb : Ev → R PyData} (hu : X.A.units + 65 < cLine) (ha : XB X We a ma) (hb : XB X We b mb)
    (hbase : attributeBase a "count" X.env (eval a X.env) = eval a X.env)
    (hfew : ((backTo cpos (starEach (b :: []) X.env)).all (fun x => !x.1) && (backToKw cpos (keywordEach [] X.env)).all (fun x => x.1.isSome)
      && decide ((b :: ([] : List Expr)).length + ([] : List Keyword).length + (if ([] : List Keyword).isEmpty then 0 else 1) < 30)) = true)
    (hline : (apos.endLine == cpos.line) = true) (hs : starEach (b :: []) X.env = (false, eval b X.env) :: starEach [] X.env) (hplain : (backTo cpos (starEach [] X.env)).any (·.1) = false) :
    XE X We (.Call (.Attribute a "count" apos) [b] [] cpos) (cntE ma mb) :=
  pe_imp (pe_bm PySem.F.plainAttrs_list PySem.F.slot_list_count PySem.F.type_list_count (mt_cntL hu) ha (pa_cons hb pa_nil hs) hbase hfew hline hs hplain) fun σ H Q q => by
    obtain ⟨ρ, F, G, r, h⟩ := q
    refine ⟨ρ, F, G, r, Po.bind (P := pB X.K) h fun d x F1 H1 g1 p1 q1 => ?_⟩
    cases d with
    | list ds =>
      obtain ⟨av, vs, rfl, hav, hvs⟩ := p1.list g1.le
      refine ⟨.inl ⟨rfl, vs, hav⟩, ρ, F1, _, (r.grow g1).1, Po.bind (P := pB X.K) q1 fun e y F2 H2 g2 p2 q2 => ?_⟩
      unfold cntD at q2
      split at q2
      · rename_i hz
        exact ⟨av, y, e, ds, rfl, rfl, (p1.grow g2).dp g2.le, p2.dp g2.le, hz.1, hz.2, q2 _ F2 H2 (Gr.refl g2.le) (.int _)⟩
      · exact q2.elim
    | _ => exact q1.elim
/-! ## sorted(x), x a dict whose keys are words -/
def strsOf : List PyData → Option (List Str)
  | [] => some []
  | .str i :: r => (strsOf r).map (i :: ·)
  | _ :: _ => none
theorem strsOf_eq : ∀ {ds : List PyData} {ns : List Str}, strsOf ds = some ns → ds = ns.map PyData.str
  | [], ns, h => by unfold strsOf at h; cases h; rfl
  | d :: r, ns, h => by
    cases d with
    | str i =>
      unfold strsOf at h
      cases hr : strsOf r with
      | none => rw [hr] at h; cases h
      | some ms => rw [hr] at h; cases h; rw [strsOf_eq hr]; rfl
    | _ => unfold strsOf at h; cases h
@[simp] theorem strsOf_map : ∀ ns : List Str, strsOf (ns.map PyData.str) = some ns
  | [] => rfl
  | n :: ns => by rw [List.map_cons]; unfold strsOf; rw [strsOf_map ns]; rfl
def srtDD (m : Dd) : R PyData := match m.t, strsOf (m.l.map (·.1)) with
  | false, some ks => if ks.length < 64 then .ok (.list ((sortO ks).map .str)) else .bad
  | _, _ => .bad
def srtDE (n : Nat) (ρ : Ev) : R PyData := (getDd ρ n).bind srtDD
theorem le_tr {x y z : Str} (h1 : DatumOrd.lt y x = false) (h2 : DatumOrd.lt z y = false) : DatumOrd.lt z x = false := by
  cases e : DatumOrd.lt z x with
  | false => rfl
  | true => rcases lt_neg y e with q | q
            · rw [q] at h2; cases h2
            · rw [q] at h1; cases h1
theorem risingS_pw : ∀ {ys : List Str} {p : Str}, risingS p ys = true → (∀ y ∈ ys, DatumOrd.lt y p = false) ∧ ys.Pairwise fun a b => DatumOrd.lt b a = false
  | [], p, _ => ⟨fun y hy => (by cases hy), .nil⟩
  | x :: r, p, h => by
    unfold risingS at h
    rw [Bool.and_eq_true] at h
    have h0 : DatumOrd.lt x p = false := by
      show decide (x.cps.toList < p.cps.toList) = false
      rw [← ltCps_eq]
      simpa using h.1
    obtain ⟨a, b⟩ := risingS_pw h.2
    refine ⟨fun y hy => ?_, .cons a b⟩
    rcases List.mem_cons.mp hy with rfl | hy
    · exact h0
    · exact le_tr h0 (a y hy)
theorem sortedS_pw : ∀ {ys : List Str}, sortedS ys = true → ys.Pairwise fun a b => DatumOrd.lt b a = false
  | [], _ => .nil
  | x :: r, h => by
    obtain ⟨a, b⟩ := risingS_pw (p := x) (ys := r) h
    exact .cons a b
theorem keys_strs {K : PySem.W.Frag} {F : Hp} : ∀ {ks : List (Key × V)} {l : List (PyData × PyData)} {ns : List Str}, Paired (fun p q => q.1 = kP p.1 ∧ Dp K F p.2 q.2) ks l → l.map (·.1) = ns.map PyData.str → ks.map (·.1) = ns.map Sum.inr
  | _, _, [], .nil, _ => rfl
  | _, _, _ :: _, .nil, e => by cases e
  | _, _, [], .cons _ _, e => by cases e
  | p :: ps, q :: qs, n :: ns, .cons h hs, e => by
    rw [List.map_cons, List.map_cons] at e
    injection e with e1 e2
    rw [List.map_cons, List.map_cons, keys_strs hs e2]
    rw [h.1] at e1
    obtain ⟨k, v⟩ := p
    cases k with
    | inl i => cases e1
    | inr s => cases e1; rfl
theorem dpAll_strs {K : PySem.W.Frag} {F : Hp} : ∀ ns : List Str, DpAll K F (ns.map V.str) (ns.map PyData.str)
  | [] => .nil
  | n :: ns => .cons (.str n) (dpAll_strs ns)
theorem xf_sortD {n : Nat} (hc : X.calm = true) (hN : X.N[n]? = some x) (hv : Vis X.env.scope x) (hd : (x == ("__debug__" : Str)) = false) (hcd : (x == ("__classdict__" : Str)) = false) (hg : Gl X "sorted") (hm : X.mg "sorted" = none)
    (na : starEach [.Name x p2] X.env = (false, eval (.Name x p2) X.env) :: starEach [] X.env) (np : (backTo pos (starEach [] X.env)).any (·.1) = false) :
    XF X We (.Call (.Name "sorted" p) [.Name x p2] [] pos) (srtDE n) :=
  pe_imp (pe_callB (call_sortedD hc) hg hm (by decide +kernel) (pa_cons (pe_var hN hv hd hcd) pa_nil na) (by decide) (by decide) na np) fun σ H Q q => by
    obtain ⟨ρ, F, G, r, q⟩ := q
    unfold srtDE at q
    cases hg : getDd ρ n with
    | err c => exact absurd hg getDd_ne
    | bad => rw [hg] at q; exact q.elim
    | ok m =>
      rw [hg, bind_ok] at q
      obtain ⟨a, o, e1, e3, e4⟩ := getDd_r r hg
      refine ⟨_, e1, ?_⟩
      unfold srtDD at q
      split at q
      · rename_i ks ht hk
        split at q
        · rename_i hz
          rcases e4 with ⟨_, kvs, rfl, hp⟩ | ⟨ht', _⟩
          · refine ⟨a, kvs, ks, rfl, e3, keys_strs hp (strsOf_eq hk), hz, fun ys b hperm hs hb => ?_⟩
            have eu : sortO ks = ys := sortO_uniq hperm (sortedS_pw hs)
            rw [eu] at q
            exact q _ F _ (Gr.own r.fh hb) ⟨b, ys.map V.str, ys.map .str, rfl, rfl, hb, r.fh.none hb, upd_same, dpAll_strs ys⟩
          · rw [ht] at ht'; cases ht'
        · exact q.elim
      · exact q.elim
end
end PD
namespace PD
open PySem PySem.Spec PyProof.Rows L2
/-! ## expressions that make a dict -/
def pDf (K : PySem.W.Frag) : PR V Dd := fun H0 F H v m => ∃ a o, v = V.ref a ∧ H0 a = none ∧ F a = none ∧ H a = some o ∧ DOk K F a o m
instance {K} : Anti (pDf K) := ⟨fun _ _ _ _ _ _ l ⟨a, o, e1, n, r⟩ => ⟨a, o, e1, l.none n, r⟩⟩
/-- one that stays -/
def pDz (K : PySem.W.Frag) : PR V Dd := fun _ F _ v m => ∃ a od o, v = V.ref a ∧ F a = some (.frz od o) ∧ DOk K F a o m
instance {K} : Anti (pDz K) := ⟨fun _ _ _ _ _ _ _ h => h⟩
abbrev XD (X : Cx) (We : EW) (e : Expr) (m : Ev → R Dd) : Prop := PE X e (tM X.K We (pDf X.K) m)
abbrev XZ (X : Cx) (We : EW) (e : Expr) (m : Ev → R Dd) : Prop := PE X e (tM X.K We (pDz X.K) m)
/-- the pairs that are made, one after the other -/
def dcM (g : PyData → Ev → R Ev) (t : Ev → R Bool) (mk mv : Ev → R PyData) (ρ : Ev) : List (PyData × PyData) → List PyData → R (List (PyData × PyData))
  | acc, [] => .ok acc
  | acc, x :: xs => (g x ρ).bind fun ρ' => (t ρ').bind fun b => if b = true then (mk ρ').bind fun k => (mv ρ').bind fun v => match keyA k with
    | some _ => dcM g t mk mv ρ (dPut ⟨false, acc⟩ k v).l xs
    | none => .bad else dcM g t mk mv ρ acc xs
def dcE (mi : Ev → R (List PyData)) (vs : List Nat) (g : PyData → Ev → R Ev) (t : Ev → R Bool) (mk mv : Ev → R PyData) (ρ : Ev) : R Dd :=
  (mi ρ).bind fun xs => if xs.length ≤ SZ then (noErr (dcM g t mk mv (wipeE ρ vs) [] xs)).bind fun ys => .ok ⟨false, ys⟩ else .bad
section
variable {X : Cx} {We : EW} {e a b c : Expr} {es : List Expr} {st : Stmt} {ss : List Stmt} {p p2 q2 pos' apos cpos : Pos} {x y : Str}
theorem dc_red {mi : Ev → R (List PyData)} {vs ts : List Nat} {g : PyData → Ev → R Ev} {t : Ev → R Bool} {mk mv : Ev → R PyData} (hts : ∀ i ∈ ts, i ∈ vs) {σ : St} {H : Hp} {Q : VK} (q : tM X.K We (pDf X.K) (dcE mi vs g t mk mv) σ H Q) :
    tDc (tM X.K We (pI X.K) mi) (tG X.K ts g) (tM X.K We0 pT t) (tM X.K We0 (pD X.K) mk) (tM X.K We0 (pD X.K) mv) vs σ H Q := by
  obtain ⟨ρ, F, G, r, q⟩ := q
  refine ⟨ρ, F, G, r, Po.bind (P := pI X.K) q fun xs J F1 H1 g1 p1 q1 => ?_⟩
  intro D hD
  split at q1
  rotate_left
  · exact q1.elim
  rename_i hz
  have r1 := (r.grow g1).1.low
  have hF1D : F1 D = none := g1.le.none hD
  cases hl : dcM g t mk mv (wipeE ρ vs) [] xs with
  | err c => rw [hl] at q1; exact q1.elim
  | bad => rw [hl] at q1; exact q1.elim
  | ok ys =>
    rw [hl] at q1
    have q2 : ∀ b F' H', Gr F1 H1 F' H' → pDf X.K H1 F' H' b ⟨false, ys⟩ → Q b H' := q1
    -- the invariant
    let Inv' : Nat → Hp → Prop := fun i H2 => ∃ F' accV accD, Rl X.K (wipeE ρ vs) F' F' (L2.wipe σ vs) (minus H2 D) ∧ ItOk X.K F' J xs ∧ Gr F1 H1 F' (minus H2 D) ∧ H2 D = some (.dK accV) ∧ Paired (fun p q => q.1 = kP p.1 ∧ Dp X.K F' p.2 q.2) accV accD ∧ accD.length ≤ i ∧
      dcM g t mk mv (wipeE ρ vs) accD (xs.drop i) = .ok ys
    refine ⟨fun i m H2 => m = xs.length - i ∧ i ≤ xs.length ∧ Inv' i H2, ⟨_, rfl, Nat.zero_le _, F1, [], [], ?_, p1, ?_, upd_same, .nil, Nat.le_refl _, hl⟩, ?_⟩
    · rw [minus_upd]
      have hm : minus H1 D = H1 := by
        funext b
        by_cases hb : b = D
        · rw [hb, minus_at, hD]
        · rw [minus_ne hb]
      rw [hm]
      exact r1.wipe vs
    · rw [minus_upd]
      have hm : minus H1 D = H1 := by
        funext b
        by_cases hb : b = D
        · rw [hb, minus_at, hD]
        · rw [minus_ne hb]
      rw [hm]
      exact Gr.refl g1.le
    · rintro i m H2 ⟨rfl, hi, F', accV, accD, r', p', g', hD', hacc, hal, hrest⟩
      have lF : Le F' H2 := r'.fh.trans minus_le
      have fD : F' D = none := r'.fh.none minus_at
      obtain ⟨h1, h2⟩ := p' F' H2 (Le.refl F') lF
      by_cases hlt : i < xs.length
      · refine .inr ⟨(h1 i _ (List.getElem?_eq_getElem hlt)).1, Inv' (i + 1), fun H3 hN => ⟨_, by omega, rfl, hlt, hN⟩, fun x H3 hy => ?_⟩
        obtain ⟨F3, g3, p3⟩ := (h1 i _ (List.getElem?_eq_getElem hlt)).2 x H3 hy
        have nD : H2 D ≠ none := by rw [hD']; exact fun z => by cases z
        have gm3 := g3.minus fD nD
        have r3 := (r'.grow gm3).1.low
        have fD3 : F3 D = none := (g3.n D nD).trans fD
        have hD3 : H3 D = some (.dK accV) := g3.h _ _ hD'
        rw [List.drop_eq_getElem_cons hlt] at hrest
        unfold dcM at hrest
        cases hg : g xs[i] (wipeE ρ vs) with
        | err c => rw [hg] at hrest; cases hrest
        | bad => rw [hg] at hrest; cases hrest
        | ok ρ' =>
          rw [hg] at hrest
          refine ⟨wipeE ρ vs, F3, F3, xs[i], r3.up minus_le, p3, ?_⟩
          rw [hg]
          intro σ2 r4 c4
          refine ⟨(wipe_ch c4 hts).trans wipe_wipe, ρ', F3, F3, r4, ?_⟩
          have hrest : ((t ρ').bind fun b => if b = true then (mk ρ').bind fun k => (mv ρ').bind fun v => match keyA k with
            | some _ => dcM g t mk mv (wipeE ρ vs) (dPut ⟨false, accD⟩ k v).l (xs.drop (i + 1))
            | none => .bad else dcM g t mk mv (wipeE ρ vs) accD (xs.drop (i + 1))) = R.ok ys := hrest
          cases ht : t ρ' with
          | err c => rw [ht] at hrest; cases hrest
          | bad => rw [ht] at hrest; cases hrest
          | ok b =>
            rw [ht] at hrest
            intro b' F4 H4 g4 eb
            cases eb
            have nD3 : H3 D ≠ none := by rw [hD3]; exact fun z => by cases z
            have gm4 := g4.minus fD3 nD3
            have hD4 : H4 D = some (.dK accV) := g4.h _ _ hD3
            cases b with
            | false =>
              have hrest : dcM g t mk mv (wipeE ρ vs) accD (xs.drop (i + 1)) = .ok ys := hrest
              rw [if_neg Bool.false_ne_true]
              exact ⟨F4, accV, accD, (r3.grow gm4).1.low, (p'.le g3.f).le g4.f, (g'.trans gm3).trans gm4, hD4, pairedI hacc (fun a b q => ⟨q.1, (q.2.le g3.f).le g4.f⟩), Nat.le_succ_of_le hal, hrest⟩
            | true =>
              rw [if_pos rfl]
              have hrest : ((mk ρ').bind fun k => (mv ρ').bind fun v => match keyA k with
                | some _ => dcM g t mk mv (wipeE ρ vs) (dPut ⟨false, accD⟩ k v).l (xs.drop (i + 1))
                | none => .bad) = R.ok ys := hrest
              cases hk : mk ρ' with
              | err c => rw [hk] at hrest; cases hrest
              | bad => rw [hk] at hrest; cases hrest
              | ok kd =>
                rw [hk] at hrest
                have hrest : ((mv ρ').bind fun v => match keyA kd with
                  | some _ => dcM g t mk mv (wipeE ρ vs) (dPut ⟨false, accD⟩ kd v).l (xs.drop (i + 1))
                  | none => .bad) = R.ok ys := hrest
                cases hv : mv ρ' with
                | err c => rw [hv] at hrest; cases hrest
                | bad => rw [hv] at hrest; cases hrest
                | ok y =>
                  rw [hv] at hrest
                  have hrest : (match keyA kd with
                    | some _ => dcM g t mk mv (wipeE ρ vs) (dPut ⟨false, accD⟩ kd y).l (xs.drop (i + 1))
                    | none => .bad) = R.ok ys := hrest
                  cases hka : keyA kd with
                  | none => rw [hka] at hrest; cases hrest
                  | some k =>
                    rw [hka] at hrest
                    have hrest : dcM g t mk mv (wipeE ρ vs) (dPut ⟨false, accD⟩ kd y).l (xs.drop (i + 1)) = R.ok ys := hrest
                    obtain rfl := keyA_un hka
                    refine ⟨ρ', F4, _, (r4.grow g4).1, ?_⟩
                    rw [hk]
                    intro kv F5 H5 g5 p5
                    refine ⟨ρ', F5, _, ((r4.grow g4).1.grow g5).1, ?_⟩
                    rw [hv]
                    intro v F6 H6 g6 p6
                    have ek : kv = kV k := by
                      cases k with
                      | inl i => cases p5; rfl
                      | inr s => cases p5; rfl
                    subst ek
                    have nD4 : H4 D ≠ none := by rw [hD4]; exact fun z => by cases z
                    have fD4 : F4 D = none := (g4.n D nD3).trans fD3
                    have gm5 := g5.minus fD4 nD4
                    have hD5 : H5 D = some (.dK accV) := g5.h _ _ hD4
                    have nD5 : H5 D ≠ none := by rw [hD5]; exact fun z => by cases z
                    have fD5 : F5 D = none := (g5.n D nD4).trans fD4
                    have gm6 := g6.minus fD5 nD5
                    have hl' := paired_len hacc
                    have sq := sz_eq
                    have hp6 := pairedI hacc (fun a b q => (⟨q.1, (((q.2.le g3.f).le g4.f).le g5.f).le g6.f⟩ : b.1 = kP a.1 ∧ Dp X.K F6 a.2 b.2))
                    refine ⟨accV, k, rfl, g6.h _ _ hD5, by rw [sq]; omega, F6, _, _, ?_, (((p'.le g3.f).le g4.f).le g5.f).le g6.f, ?_, upd_same, put_g kq_k p6 k hp6, ?_, hrest⟩
                    · rw [minus_upd]
                      exact (((r3.grow gm4).1.low.grow gm5).1.low.grow gm6).1.low
                    · rw [minus_upd]
                      exact (((g'.trans gm3).trans gm4).trans gm5).trans gm6
                    · split
                      · rw [List.length_map]; omega
                      · rw [List.length_append, List.length_singleton]; omega
      · have ei : i = xs.length := by omega
        subst ei
        refine .inl ⟨h2, ?_⟩
        rw [List.drop_length] at hrest
        cases hrest
        have gg : Gr F1 H1 F' H2 := ⟨g'.f, g'.h.trans minus_le, g'.n, lF⟩
        exact q2 _ F' H2 gg ⟨D, _, rfl, hD, fD, hD', .inl ⟨rfl, accV, rfl, hacc⟩⟩
theorem xd_dc {kx vx tg iter : Expr} {ifs : List Expr} {scope : Scope} {own : List (Str × Nat)} {pos : Pos} {mi : Ev → R (List PyData)} {ts : List Nat} {g : PyData → Ev → R Ev} {t : Ev → R Bool} {mk mv : Ev → R PyData} (hc : X.calm = true) (hN : X.N.Nodup) (hi : XI X We tg iter mi) (ok : BlkOk X.N X.env.scope scope own) (hts : ∀ i ∈ ts, i ∈ own.map (·.2))
    (hg : ∀ (s : Shared) (H : Hp) (C : Addr) (cl : List (Str × Addr)) (fp : List Addr), XG (X.blk s H scope (compEnvC scope cl C X.env) fp) tg ts g) (ht : ∀ (s : Shared) (H : Hp) (C : Addr) (cl : List (Str × Addr)) (fp : List Addr), XTs (X.blk s H scope (compEnvC scope cl C X.env) fp) We0 ifs t)
    (hk : ∀ (s : Shared) (H : Hp) (C : Addr) (cl : List (Str × Addr)) (fp : List Addr), XE (X.blk s H scope (compEnvC scope cl C X.env) fp) We0 kx mk)
    (he : ∀ (s : Shared) (H : Hp) (C : Addr) (cl : List (Str × Addr)) (fp : List Addr), XE (X.blk s H scope (compEnvC scope cl C X.env) fp) We0 vx mv) (hs : ∀ x, foldedSetIterable iter X.env x = pure x) :
    XD X We (.DictComp kx vx [⟨tg, iter, ifs, 0⟩] scope pos) (dcE mi (own.map (·.2)) g t mk mv) :=
  pe_imp (pe_dc hc hN hi ok hg ht hk he hs) fun σ H Q q => dc_red hts q
/-- a new dict is locked -/
theorem xd_lock {m : Ev → R Dd} (h : XD X We e m) : XZ X We e m := ⟨fun pins s σ H Q I q => by
  obtain ⟨ρ, F, G, r, q⟩ := q
  refine thn (h.run pins s σ H (fun v H1 => ∃ a o, v = .ref a ∧ H1 a = some o ∧ Mut (some o) ∧ ∀ od, Q (.ref a) (upd H1 a (.frz od o))) I ⟨ρ, F, G, r, ?_⟩) fun u s1 ⟨v, H1, I1, rv, a, o, ev, e1, mu, q1⟩ => ?_
  · cases hm : m ρ with
    | err c => rw [hm] at q; exact q
    | bad => rw [hm] at q; exact q
    | ok d =>
      rw [hm] at q
      intro v F1 H1 g1 p1
      obtain ⟨a, o, rfl, n0, n1, h1, h2⟩ := p1
      have mu : Mut (some o) := by
        rcases h2 with ⟨_, ks, rfl, _⟩ | ⟨_, ks, rfl, _⟩ <;> exact True.intro
      refine ⟨a, o, rfl, h1, mu, fun od => q _ (upd F1 a (.frz od o)) _ ?_ ⟨a, od, o, rfl, upd_same, h2.le (Le.upd n1)⟩⟩
      refine ⟨g1.f.trans (Le.upd n1), fun b u eb => ?_, fun b hb => ?_, fun b u eb => ?_⟩
      · rw [upd_ne (ne_of_none eb n0)]
        exact g1.h b u eb
      · rw [upd_ne (fun z => hb (by rw [z]; exact n0))]
        exact g1.n b hb
      · by_cases hb : b = a
        · subst hb; rw [upd_same] at eb ⊢; exact eb
        · rw [upd_ne hb] at eb ⊢; exact g1.le b u eb
  · subst ev
    obtain ⟨od, I2⟩ := I1.lock e1 mu
    exact ⟨.ref a, _, I2, rv, q1 od⟩⟩
/-- x = a dict that stays -/
def setZS (i : Nat) (m : Ev → R Dd) : SM := fun ρ => (m ρ).bind fun d => .ok (.nx (ρ.set i (.df d)))
theorem xs_setZ {i : Nat} {pos : Pos} {m : Ev → R Dd} (hN : X.N.Nodup) (hi : X.N[i]? = some x) (hx : Loc X.env.scope x) (he : XZ X We e m) (hs : swapsWith e (some (.Name x pos')) pos.line X.env = pure false)
    (hf : X.fn x = true ∨ X.env.scope.names.lookup x = some .local) : XS X We (.Assign [.Name x pos'] e pos) (setZS i m) := ps_imp (ps_set hN hi hx he hs hf) fun D σ H q => by
  obtain ⟨ρ, F, G, r, q⟩ := q
  exact ⟨ρ, F, G, r, PoS.expr (P := pDz X.K) r q fun d v F1 G1 H1 r1 g1 p1 q1 => by
    obtain ⟨a, od, o, rfl, h1, h2⟩ := p1
    exact q1 _ F1 G1 H1 (r1.setF i h1 h2) (GrS.refl F1 G1)⟩
/-- a new dict is given back -/
def retZS (m : Ev → R Dd) : SM := fun ρ => (m ρ).bind fun d => .ok (.rd d)
theorem xs_retZ {pos : Pos} {m : Ev → R Dd} (h : XZ X We e m) : XS X We (.Return (some e) pos) (retZS m) := ps_imp (ps_ret h) fun D σ H q => by
  obtain ⟨ρ, F, G, r, q⟩ := q
  exact ⟨ρ, F, G, r, PoS.expr (P := pDz X.K) r q fun d v F1 G1 H1 r1 g1 p1 q1 => by
    obtain ⟨a, od, o, rfl, h1, h2⟩ := p1
    exact q1 a od o F1 G1 H1 (GrS.refl F1 G1) r1.fg r1.gh h1 h2⟩
/-- sorted(..) of a dict that is made there -/
def srtZE (m : Ev → R Dd) (ρ : Ev) : R PyData := (m ρ).bind srtDD
theorem xf_sortZ {pos : Pos} {m : Ev → R Dd} (hc : X.calm = true) (he : XZ X We e m) (hg : Gl X "sorted") (hm : X.mg "sorted" = none)
    (na : starEach [e] X.env = (false, eval e X.env) :: starEach [] X.env) (np : (backTo pos (starEach [] X.env)).any (·.1) = false) :
    XF X We (.Call (.Name "sorted" p) [e] [] pos) (srtZE m) :=
  pe_imp (pe_callB (call_sortedD hc) hg hm (by decide +kernel) (pa_cons he pa_nil na) (by decide) (by decide) na np) fun σ H Q q => by
    obtain ⟨ρ, F, G, r, q⟩ := q
    refine ⟨ρ, F, G, r, Po.bind (P := pDz X.K) q fun m v F1 H1 g1 p1 q1 => ?_⟩
    obtain ⟨a, od, o, rfl, h1, h2⟩ := p1
    unfold srtDD at q1
    split at q1
    · rename_i ks ht hk
      split at q1
      · rename_i hz
        rcases h2 with ⟨_, kvs, rfl, hp⟩ | ⟨ht', _⟩
        · refine ⟨a, kvs, ks, rfl, .inr ⟨od, g1.le _ _ h1⟩, keys_strs hp (strsOf_eq hk), hz, fun ys b hperm hs hb => ?_⟩
          have eu : sortO ks = ys := sortO_uniq hperm (sortedS_pw hs)
          rw [eu] at q1
          exact q1 _ F1 _ (Gr.own g1.le hb) ⟨b, ys.map V.str, ys.map .str, rfl, rfl, hb, g1.le.none hb, upd_same, dpAll_strs ys⟩
        · rw [ht] at ht'; cases ht'
      · exact q1.elim
    · exact q1.elim
end
end PD
namespace PD
open PySem PySem.Spec PyProof.Rows L2
/-! ## except X as e: return .., by the class of e -/
theorem kit_ok {K : PySem.W.Frag} {A C : Addr} {b : Bool} (h2 : PySem.W.isClsIn K C = true) (h3 : PySem.W.typeIn K (.ref C) = some (.type "type")) (h4 : PySem.W.subIn K (.ref A) (.ref C) = some b) (h5 : PySem.W.subIn K (.ref C) (.ref C) = some true) :
    PySem.W.kitOne K (.ref A) (.ref C) = some b := by
  unfold PySem.W.kitOne
  by_cases e : ((Value.ref A) == (Value.ref C)) = true
  · rw [if_pos e]
    have e' : Value.ref A = Value.ref C := by simpa using e
    rw [e', h5] at h4
    exact h4
  · rw [if_neg e]
    unfold PySem.W.kitCls
    have e2 : (PySem.W.clsIn K C).isSome = true := h2
    have e3 : (PySem.W.typeIn K (.ref C) == some (Value.type "type")) = true := by rw [h3]; exact beq_self_eq_true _
    show (if ((PySem.W.clsIn K C).isSome && PySem.W.typeIn K (.ref C) == some (Value.type "type")) = true then PySem.W.subIn K (.ref A) (.ref C) else none) = some b
    rw [if_pos (by rw [e2, e3]; rfl)]
    exact h4
/-- what an expression of the suite gives, by the class of what is caught -/
structure HEx (X : Cx) (i : Nat) (e : Expr) (f : String → R PyData) : Prop where
  run : ∀ (c : String) (A : Addr) (v : PyData), f c = .ok v → X.mg (c : Str) = some (.ref A) → ExcC X.K A → ∀ (a : Addr) (oe : Obj) (pn : List (Addr × Obj)), Zc (.ref A) none oe → (∃ vs, oe.data = .fields vs) →
    PE (X.suite a ((a, oe) :: pn)) e (fun σ H Q => σ[i]? = some (some (.ref a)) ∧ ∀ w, (∀ F, Dp X.K F w v) → Q w H)
def hStr (x : Str) : String → R PyData := fun _ => .ok (.str x)
def hIs (mt : String → Option Bool) : String → R PyData := fun c => match mt c with
  | some b => .ok (.bool b)
  | none => .bad
def hIf (f g h : String → R PyData) : String → R PyData := fun c => match f c with
  | .ok (.bool true) => g c
  | .ok (.bool false) => h c
  | _ => .bad
section
variable {X : Cx} {We : EW} {i : Nat} {t a b : Expr} {f g h : String → R PyData} {pos p p1 p2 np pos' : Pos}
theorem hx_str {x : Str} {j : Nat} : HEx X i (.Constant (.str x) j pos) (hStr x) := ⟨fun c A v hv _ _ a oe pn _ _ => by
  cases hv
  exact pe_imp pe_str fun σ H Q q => q.2 _ fun F => .str x⟩
theorem hx_is {C : Addr} {n x : Str} {mt : String → Option Bool} (hN : X.N[i]? = some n) (hv : Vis X.env.scope n) (hd : (n == ("__debug__" : Str)) = false) (hcd : (n == ("__classdict__" : Str)) = false)
    (hgi : Gl X "isinstance") (hmi : X.mg "isinstance" = none) (hg : Gl X x) (hm : X.mg x = some (.ref C)) (hdb : (x == ("__debug__" : Str)) = false)
    (hk : ∀ (c : String) (b : Bool) (A : Addr), mt c = some b → X.mg (c : Str) = some (.ref A) → PySem.W.kitOne X.K (.ref A) (.ref C) = some b)
    (s1 : ∀ (a : Addr) (pn : List (Addr × Obj)), starEach [.Name n p1, .Name x p2] (X.suite a pn).env = (false, eval (.Name n p1) (X.suite a pn).env) :: starEach [.Name x p2] (X.suite a pn).env)
    (s2 : ∀ (a : Addr) (pn : List (Addr × Obj)), starEach [.Name x p2] (X.suite a pn).env = (false, eval (.Name x p2) (X.suite a pn).env) :: starEach [] (X.suite a pn).env)
    (np : ∀ (a : Addr) (pn : List (Addr × Obj)), (backTo pos (starEach [.Name x p2] (X.suite a pn).env)).any (·.1) = false) :
    HEx X i (.Call (.Name "isinstance" p) [.Name n p1, .Name x p2] [] pos) (hIs mt) := ⟨fun c A v hf hA hC a oe pn hz hd' => by
  have hf : (match mt c with | some b => R.ok (PyData.bool b) | none => .bad) = .ok v := hf
  cases hmt : mt c with
  | none => rw [hmt] at hf; cases hf
  | some bb =>
    rw [hmt] at hf
    cases hf
    have kk := hk c bb A hmt hA
    exact pe_imp (pe_callB (X := X.suite a ((a, oe) :: pn)) (call_isE hC hz hd') hgi hmi (by decide +kernel) (pa_cons (pe_var hN hv hd hcd) (pa_cons (pe_glob hg hm (v := .ref C) rfl hdb) pa_nil (s2 _ _)) (s1 _ _)) (by decide) (by decide) (s1 _ _) (np _ _)) fun σ H Q q => by
      obtain ⟨q1, q2⟩ := q
      exact ⟨.ref a, q1, .ref C, .ref C, bb, rfl, fun u hu => hu, kk, q2 _ fun F => .bl bb⟩⟩
theorem hx_if (ht : HEx X i t f) (ha : HEx X i a g) (hb : HEx X i b h)
    (he : ∀ (a : Addr) (pn : List (Addr × Obj)) whole, isTrue t (X.suite a pn).env whole = (do let v ← whole; standAt t.pos; holding [v] (truthy v))) :
    HEx X i (.IfExp t a b pos) (hIf f g h) := ⟨fun c A v hf hA hC aa oe pn hz hd => by
  have hf : (match f c with | .ok (.bool true) => g c | .ok (.bool false) => h c | _ => .bad) = .ok v := hf
  have key : ∃ bb, f c = .ok (.bool bb) ∧ (if bb = true then g c else h c) = .ok v := by
    cases hfc : f c with
    | ok d =>
      cases d with
      | bool bb => rw [hfc] at hf; cases bb <;> exact ⟨_, rfl, hf⟩
      | _ => rw [hfc] at hf; cases hf
    | err _ => rw [hfc] at hf; cases hf
    | bad => rw [hfc] at hf; cases hf
  obtain ⟨bb, h1, h2⟩ := key
  have pt := ht.run c A (.bool bb) h1 hA hC aa oe pn hz hd
  cases bb with
  | true =>
    have pa := ha.run c A v h2 hA hC aa oe pn hz hd
    exact pe_imp (pe_ifExp (tb := fun _ _ _ => False) (pt_val pt (he _ _)) pa ⟨fun _ _ _ _ _ _ q => q.elim⟩) fun σ H Q q => ⟨q.1, fun w hw => by
      have := hw H
      cases this
      exact ⟨true, rfl, q⟩⟩
  | false =>
    have pb := hb.run c A v h2 hA hC aa oe pn hz hd
    exact pe_imp (pe_ifExp (ta := fun _ _ _ => False) (pt_val pt (he _ _)) ⟨fun _ _ _ _ _ _ q => q.elim⟩ pb) fun σ H Q q => ⟨q.1, fun w hw => by
      have := hw H
      cases this
      exact ⟨false, rfl, q⟩⟩⟩
def tryAsS (mb : SM) (mt : String → Option Bool) (f : String → R PyData) : SM := fun ρ => match mb ρ with
  | .err c => (match mt c with
    | some true => (match f c with
      | .ok d => .ok (.rt d)
      | _ => .bad)
    | some false => .err c
    | none => .bad)
  | r => r
theorem xs_tryAs {body : List Stmt} {n x : Str} {C : Addr} {e : Expr} {rp : Pos} {mb : SM} {mt : String → Option Bool} (hs : X.stack = X.env :: X.outer) (hf : X.env.frame = some X.env.locals) (hN : X.N.Nodup) (hi : X.N[i]? = some n) (hln : X.env.kindOf n = some .local) (hc : Names X x (.ref C)) (tk : Tk X We)
    (hb : ∀ (W : EW) (pn : List (Addr × Obj)) (xe : Value → Shared → Prop), Tk (X.tr pn xe) W → PassesOwn (model X.prog X.w) X.A X.env xe → XSs (X.tr pn xe) W body mb)
    (hm : ∀ (c : String) (b : Bool) (A : Addr), mt c = some b → X.mg (c : Str) = some (.ref A) → PySem.W.exmOne X.K (.ref A) (.ref C) = some b)
    (hx : ∀ (c : String) (A : Addr), mt c = some true → X.mg (c : Str) = some (.ref A) → ExcC X.K A) (he : HEx X i e f) :
    XS X We (.Try body [.ExceptHandler (some (.Name x np)) (some n) [.Return (some e) rp] pos'] [] [] pos) (tryAsS mb mt f) := by
  let ts : Addr → Value → Option Addr → TS := fun a cls d D σ H => ∃ (c : String) (A : Addr) (v : PyData), cls = .ref A ∧ d = none ∧ f c = .ok v ∧ X.mg (c : Str) = some (.ref A) ∧ ExcC X.K A ∧ (i < σ.length → σ[i]? = some (some (.ref a))) ∧ ∀ w, (∀ F, Dp X.K F w v) → D.rt w H
  refine ps_imp (ps_try_as (ts := ts) hs hf hN hi hln hc tk (tb := fun W => tS X.K (EWof X W) mb) (fun W pn xe tkW hp => hb (EWof X W) pn xe (tkW.imp fun cls d σ H z => ?_) hp) fun a oe cls d pn hz hd => pss_one ⟨fun pins s σ H D I q => ?_⟩) fun D σ H q => ?_
  · obtain ⟨c, C, rfl, rfl, hC, z⟩ := z
    exact z C hC
  · obtain ⟨c, A, v, rfl, rfl, hfc, hA, hE, hl, hr⟩ := q
    have li : i < σ.length := by
      have := I.len
      obtain ⟨h1, _⟩ := List.getElem?_eq_some_iff.mp hi
      have e2 : (X.suite a ((a, oe) :: pn)).N = X.N := rfl
      rw [e2] at this
      omega
    exact (ps_ret (he.run c A v hfc hA hE a oe pn hz hd)).run pins s σ H D I ⟨hl li, hr⟩
  · obtain ⟨ρ, F, G, r, q⟩ := q
    refine ⟨ρ, F, G, r, ?_⟩
    unfold tryAsS at q
    cases hmb : mb ρ with
    | ok o => rw [hmb] at q; cases o <;> exact q
    | bad => rw [hmb] at q; exact q
    | err c =>
      rw [hmb] at q
      intro σ' G' H' l1 l2 C0 hC0
      have q : PoS X.K We F G (match mt c with
        | some true => (match f c with
          | .ok d => .ok (.rt d)
          | _ => .bad)
        | some false => .err c
        | none => .bad) D := q
      cases hmc : mt c with
      | none => rw [hmc] at q; exact q.elim
      | some b =>
        rw [hmc] at q
        refine ⟨b, hm c b C0 hmc hC0, fun hb a ha => ?_, fun hb => ?_⟩
        · subst hb
          have q : PoS X.K We F G (match f c with
            | .ok d => .ok (.rt d)
            | _ => .bad) D := q
          cases hfc : f c with
          | err _ => rw [hfc] at q; exact q.elim
          | bad => rw [hfc] at q; exact q.elim
          | ok d =>
            rw [hfc] at q
            have q : ∀ v F' G' H', GrS F G F' G' → Le F' G' → Le G' H' → Dp X.K F' v d → D.rt v H' := q
            exact ⟨c, C0, d, rfl, rfl, hfc, hC0, hx c C0 hmc hC0, fun hl => List.getElem?_set_self (by simpa using hl), fun w hw => q w F G' H' ⟨Le.refl F, l1, fun _ _ => rfl⟩ (r.fg.trans l1) l2 (hw F)⟩
        · subst hb
          have q : PoS X.K We F G (.err c) D := q
          exact ⟨c, C0, rfl, rfl, hC0, q σ' G' H' l1 l2⟩
end
end PD
namespace PD
open PySem PySem.Spec PyProof.Rows L2
/-! ## sorted(x), x a dict with tuples of numbers for keys -/
section
open PySem.Calls PySem.W
variable {prog : Program} {w : World} {A : Around} {E : Value → Shared → Prop} {s : Shared} {β : Type} {R : Value → β → Prop} {enc : β → PyData} {bs : List β}
theorem kdl_raw {d : Addr} {es : Array DictEntry} {ep : Nat} (lo : (d == sysModules) = false) : KdlSrc prog w "dict" d d es.size (fun i v => ∃ hi : i < es.size, v = es[i].key) (fun h => h.DictRaw d es ep) where
  type := fun _ hm => hm.typeIs
  there := fun _ hm => let ⟨_, ho, _⟩ := hm; ⟨Heap.lt_size ho, Heap.lt_size ho⟩
  keep := fun _ _ hm hk => hm.at fun o e => hk d (.inl rfl) o e
  notList := by decide
  notTuple := by decide
  hint := fun _ _ _ _ hm hq => kdl_hint_dict hm.typeIs hq
  iter := fun _ _ hh hm => ⟨_, _, (fun _ _ hq => wpAny_pyIter_dict_raw lo hm hq), Walks.rawKeys hh _ d (let ⟨_, ho, _⟩ := hm; Nat.ne_of_lt (Heap.lt_size ho)) es ep, ⟨⟨_, Heap.get?_push_size _ rfl, rfl, rfl⟩, hm.at fun o e => Heap.get?_push_of_some _ e⟩⟩
theorem items_raw {es : Array DictEntry} {acc : Array Value} (h : ItemsOf (fun i v => ∃ hi : i < es.size, v = es[i].key) acc es.size) : acc.toList = es.toList.map (·.key) := by
  apply List.ext_getElem?
  intro j
  by_cases hj : j < es.size
  · have ha : j < acc.size := by rw [h.1]; exact hj
    obtain ⟨_, e⟩ := h.2 j acc[j] (Array.getElem?_eq_getElem ha)
    rw [Array.getElem?_toList, Array.getElem?_eq_getElem ha, List.getElem?_map, Array.getElem?_toList, Array.getElem?_eq_getElem hj, e]
    rfl
  · rw [List.getElem?_eq_none (by rw [Array.length_toList, h.1]; omega), List.getElem?_eq_none (by rw [List.length_map, Array.length_toList]; omega)]
theorem sorted_raw {d : Addr} {es : Array DictEntry} {ep : Nat} {Q : Value → Shared → Prop} (lo : (d == sysModules) = false) (hh : A.handled = none) (hm : s.heap.DictRaw d es ep) (e : EachIs R (es.toList.map (·.key)) bs) (er : EachIs (fun v b => ∃ as, Reads s.heap v (enc b) as) (es.toList.map (·.key)) bs) (hal : AllAlike (bs.map enc)) (hk : Sortable (bs.map enc)) (hL : bs.length ≤ sizeLine)
    (hu : ∀ b, b ∈ bs → A.units + 2 + (enc b).depth < cLine)
    (h : ∀ (h1 h' : Heap) (tk : Nat) (d : Addr) (out : List Value), (∀ b o, s.heap.get? b = some o → h1.get? b = some o) → (∀ b o, h1.get? b = some o → h'.get? b = some o) → h1.objs.size ≤ d → (∃ n, h'.get? d = some (seqObj "list" out.toArray n)) → EachIs R out (bs.mergeSort (dataLe false enc)) → Q (.ref d) { s with heap := h', toks := tk }) :
    wpAny (model prog w) A (call (.builtin "sorted") [.ref d]) Q E s := by
  have hz0 : es.size ≤ sizeLine := by
    have := e.length
    rw [List.length_map, Array.length_toList] at this
    omega
  refine call_function_entry kind_sorted plain_sorted entry_sorted (args_sorted1 _) ?_
  unfold Builtin.«sorted»
  refine wpAny_bind (m := checkCount "sorted" 1 1 _) (wpAny_pure ?_)
  refine wpAny_bind (kdu_collect (A := A.in1) (kdl_raw lo) hh hm hz0 fun h1 tk acc k1 hacc => ?_)
  have hus := items_raw hacc
  rw [← hus] at e er
  generalize acc.toList = us at *
  have hz : us.length ≤ sizeLine := by rw [e.length]; exact hL
  refine wpAny_bind (wpAny_newList ?_ hz)
  have hat : (h1.push (seqObj "list" us.toArray 0)).get? h1.objs.size = some (seqObj "list" us.toArray 0) := Heap.get?_push_size _ rfl
  have old1 : ∀ b ob, h1.get? b = some ob → b ≠ h1.objs.size ∧ (h1.push (seqObj "list" us.toArray 0)).get? b = some ob := fun b ob q =>
    ⟨Nat.ne_of_lt (Heap.lt_size q), Heap.get?_push_of_some _ q⟩
  have er' : EachIs (fun v b => ∃ as, Reads (sortingHeap (h1.push (seqObj "list" us.toArray 0)) h1.objs.size us) v (enc b) as) us bs :=
    er.mono fun _ _ ⟨as, r⟩ => ⟨as, PyProof.Rows.Reads.keeps (fun b ob q => sortingHeap_old (old1 b ob (k1 b ob q)).1 (old1 b ob (k1 b ob q)).2) r⟩
  show wpAny _ _ _ _ _ { s with heap := h1.push (seqObj "list" us.toArray 0), toks := tk }
  refine wpAny_bind (wpAny_holding (wpAny_call_entry slot_list_sort ⟨_, hat, rfl⟩ entry_list_sort (list_sort_vals (s := { s with heap := h1.push (seqObj "list" us.toArray 0), toks := tk }) (κ := dataKind (sortingHeap (h1.push (seqObj "list" us.toArray 0)) h1.objs.size us) (bs.map enc)) hat
    (SortsAt.data (s := { s with heap := sortingHeap (h1.push (seqObj "list" us.toArray 0)) h1.objs.size us, toks := tk }) (each_map (R := fun v d => ∃ as, Reads (sortingHeap (h1.push (seqObj "list" us.toArray 0)) h1.objs.size us) v d as) enc er') hal hk (bound_map hu)) hz ⟨_, rfl, ?_⟩) (args_list_sort _)))
  refine wpAny_pure ⟨_, rfl, ?_⟩
  refine h h1 _ tk _ _ k1 (fun b ob q => ?_) (Nat.le_refl _) (sortedHeap_at (n := 0) hat) (sortVals_data false e er' hal)
  rw [sortedHeap_old (old1 b ob q).1 (Heap.lt_size (old1 b ob q).2)]
  exact (old1 b ob q).2
end
/-- the keys of such a dict -/
abbrev keyT (xs : List TRow) : List PyData := xs.map fun p => .tuple (p.1.map PyData.int)
theorem dpAll_intsT {K : PySem.W.Frag} {F : Hp} : ∀ ns : List Int, DpAll K F (ns.map V.int) (ns.map PyData.int)
  | [] => .nil
  | n :: ns => .cons (.int n) (dpAll_intsT ns)
theorem keys_dp {K : PySem.W.Frag} {F : Hp} : ∀ {xs : List TRow}, (∀ p ∈ xs, SqT K F p.2.1 (p.1.map V.int)) → DpAll K F (xs.map fun p => V.ref p.2.1) (keyT xs)
  | [], _ => .nil
  | p :: ps, h => .cons (.tup (h p List.mem_cons_self) (dpAll_intsT p.1)) (keys_dp fun q hq => h q (List.mem_cons_of_mem _ hq))
theorem keys_vals : ∀ {xs : List TRow} {ys : List (List Int × Addr × Value)}, Paired TRel xs ys → Vals (xs.map fun p => V.ref p.2.1) (ys.map fun y => Value.ref y.2.1)
  | _, _, .nil => .nil
  | p :: ps, q :: qs, .cons h t => .cons (by show Value.ref q.2.1 = Value.ref p.2.1; rw [h.2.1]) (keys_vals t)
def rSrtX (K : PySem.W.Frag) : List V → Hp → VK → Prop := fun vs H Q => ∃ (a : Addr) (xs : List TRow) (F : Hp), vs = [.ref a] ∧ Rd H a (DTx a xs) ∧ Le F H ∧ (∀ p ∈ xs, SqT K F p.2.1 (p.1.map V.int)) ∧ sortOk (keyT xs) = true ∧
  ∀ (out : List V) (b : Addr), H b = none → DpAll K F out ((keyT xs).mergeSort dLe) → Q (.ref b) (upd H b (.lst out))
theorem call_sortedX {X : Cx} (hc : X.calm = true) (hu : X.A.units + 65 < cLine) : CallR X (.builtin "sorted") (rSrtX X.K) := by
  intro pins s σ H vs us Q I r h
  obtain ⟨a, xs, F, rfl, e, l, hk, hz, q⟩ := h
  rw [Vals.ref1 r]
  obtain ⟨⟨hlen, lo, ys, rel, o, es, ep, h1, h2, h3, h4, h5⟩, _⟩ : ObjOk X.prog X.w H s.heap a (DTx a xs) := e.ok I.hok
  have hvs := keys_dp hk
  have hus : es.toList.map (·.key) = ys.map fun y => Value.ref y.2.1 := by rw [h4, List.map_map]; rfl
  have rv : Vals (xs.map fun p => V.ref p.2.1) (es.toList.map (·.key)) := by rw [hus]; exact keys_vals rel
  obtain ⟨z1, z2, z3, z4⟩ := sortOk_un hz
  have hl := hvs.length
  have hm : ((xs.map fun p => V.ref p.2.1).zip (keyT xs)).map (·.2) = keyT xs := by rw [List.map_snd_zip (by omega)]
  have sq := sz_eq
  refine sorted_raw (enc := fun b : V × PyData => b.2) lo (I.ok.hd hc) ⟨o, h1, h2, h3⟩ (each_zip hvs rv) ((each_zip hvs rv).mono fun v b ⟨r, p⟩ => Dp.reads I b.2 b.1 v (p.le l) r) (by rw [hm]; exact z1) (by rw [hm]; exact z2) (by rw [List.length_zip, sq]; omega) (fun b hb => ?_) fun g1 h' tk d out k1 kp hd hat hE => ?_
  · have hb2 : b.2 ∈ keyT xs := by rw [← hm]; exact List.mem_map_of_mem hb
    have := z4 _ hb2
    omega
  · obtain ⟨e1, e2⟩ := each_un hE
    have em : (((xs.map fun p => V.ref p.2.1).zip (keyT xs)).mergeSort (PySem.W.dataLe false fun b : V × PyData => b.2)).map (·.2) = (keyT xs).mergeSort dLe := by
      have := List.map_mergeSort (f := fun b : V × PyData => b.2) (r := PySem.W.dataLe false fun b : V × PyData => b.2) (s := dLe) (l := (xs.map fun p => V.ref p.2.1).zip (keyT xs)) (fun a _ b _ => rfl)
      rw [this, hm]
    rw [em] at e1
    have hlen2 : ((((xs.map fun p => V.ref p.2.1).zip (keyT xs)).mergeSort (PySem.W.dataLe false fun b : V × PyData => b.2)).map (·.1)).length ≤ sizeLine := by
      rw [List.length_map, List.length_mergeSort, List.length_zip, sq]
      omega
    obtain ⟨n, he'⟩ := hat
    have I1 : Inv X pins σ H { s with heap := g1, toks := tk } := I.kept k1
    have np : H d = none := I1.hok.fresh hd
    exact ⟨.ref _, upd H d (.lst ((((xs.map fun p => V.ref p.2.1).zip (keyT xs)).mergeSort (PySem.W.dataLe false fun b : V × PyData => b.2)).map (·.1))), I1.laid (t' := tk) kp hd ⟨hlen2, out, n, e2, he'⟩, rfl, q _ _ np e1⟩
def srtTD (m : Dd) : R PyData := if m.t = true ∧ sortOk (m.l.map (·.1)) = true then .ok (.list ((m.l.map (·.1)).mergeSort dLe)) else .bad
def srtTE (n : Nat) (ρ : Ev) : R PyData := (getDd ρ n).bind srtTD
theorem keys_eq {K : PySem.W.Frag} {F : Hp} : ∀ {xs : List TRow} {l : List (PyData × PyData)}, Paired (fun (p : TRow) (q : PyData × PyData) => q.1 = .tuple (p.1.map PyData.int) ∧ SqT K F p.2.1 (p.1.map V.int) ∧ Dp K F p.2.2 q.2) xs l → l.map (·.1) = keyT xs
  | _, _, .nil => rfl
  | p :: ps, q :: qs, .cons h t => by rw [List.map_cons, keys_eq t, h.1]; rfl
section
variable {X : Cx} {We : EW} {pos p p2 : Pos} {x : Str}
theorem xf_sortT {n : Nat} (hc : X.calm = true) (hu : X.A.units + 65 < cLine) (hN : X.N[n]? = some x) (hv : Vis X.env.scope x) (hd : (x == ("__debug__" : Str)) = false) (hcd : (x == ("__classdict__" : Str)) = false) (hg : Gl X "sorted") (hm : X.mg "sorted" = none)
    (na : starEach [.Name x p2] X.env = (false, eval (.Name x p2) X.env) :: starEach [] X.env) (np : (backTo pos (starEach [] X.env)).any (·.1) = false) :
    XF X We (.Call (.Name "sorted" p) [.Name x p2] [] pos) (srtTE n) :=
  pe_imp (pe_callB (call_sortedX hc hu) hg hm (by decide +kernel) (pa_cons (pe_var hN hv hd hcd) pa_nil na) (by decide) (by decide) na np) fun σ H Q q => by
    obtain ⟨ρ, F, G, r, q⟩ := q
    unfold srtTE at q
    cases hg : getDd ρ n with
    | err c => exact absurd hg getDd_ne
    | bad => rw [hg] at q; exact q.elim
    | ok m =>
      rw [hg, bind_ok] at q
      obtain ⟨a, o, e1, e3, e4⟩ := getDd_r r hg
      refine ⟨_, e1, ?_⟩
      unfold srtTD at q
      split at q
      · rename_i hz
        rcases e4 with ⟨ht, _⟩ | ⟨_, xs, rfl, hp⟩
        · rw [hz.1] at ht; cases ht
        · rw [keys_eq hp] at hz q
          refine ⟨a, xs, F, rfl, e3, r.fh, fun p hp0 => ?_, hz.2, fun out b hb hout => ?_⟩
          · obtain ⟨q, _, h1, h2, h3⟩ := mem_pl hp hp0
            exact h2
          · exact q _ F _ (Gr.own r.fh hb) ⟨b, out, _, rfl, rfl, hb, r.fh.none hb, upd_same, hout⟩
      · exact q.elim
end
end PD
namespace PD
open PySem PySem.Spec PyProof.Rows L2
/-! ## except clauses, some with a name -/
abbrev HT := Value × Option Nat × (Addr → Value → Option Addr → TS)
/-- how a suite ends, the name of the clause gone -/
def gone (i : Nat) (D : Ends) : Ends := { nx := fun σ H => D.nx (σ.set i none) H, rt := D.rt, bk := fun σ H => D.bk (σ.set i none) H, ct := fun σ H => D.ct (σ.set i none) H }
def wMix (K : PySem.W.Frag) (Wout : WX) (D : Ends) : List HT → WX
  | [] => Wout
  | (c, none, ts) :: r => fun cls d σ H => ∃ b, PySem.W.exmOne K cls c = some b ∧ (b = true → ∀ a, H a = none → ts a cls d D σ H) ∧ (b = false → wMix K Wout D r cls d σ H)
  | (c, some i, ts) :: r => fun cls d σ H => ∃ b, PySem.W.exmOne K cls c = some b ∧ (b = true → ∀ a, H a = none → ts a cls d (gone i D) (σ.set i (some (.ref a))) H) ∧ (b = false → wMix K Wout D r cls d σ H)
inductive HdsM (X : Cx) : List ExceptHandler → List HT → Prop
  | nil : HdsM X [] []
  | cons {x : Str} {c : Value} {ts : Addr → Value → Option Addr → TS} {b₀ : Stmt} {suite : List Stmt} {np pos' : Pos} {hds : List ExceptHandler} {l : List HT} (hc : Names X x c)
      (hsu : ∀ (a : Addr) (oe : Obj) (cls : Value) (d : Option Addr) (pn : List (Addr × Obj)), Zc cls d oe → (∃ vs, oe.data = .fields vs) → PSs (X.suite a ((a, oe) :: pn)) (b₀ :: suite) (ts a cls d)) (r : HdsM X hds l) :
      HdsM X (.ExceptHandler (some (.Name x np)) none (b₀ :: suite) pos' :: hds) ((c, none, ts) :: l)
  | named {x n : Str} {i : Nat} {c : Value} {ts : Addr → Value → Option Addr → TS} {b₀ : Stmt} {suite : List Stmt} {np pos' : Pos} {hds : List ExceptHandler} {l : List HT} (hi : X.N[i]? = some n) (hln : X.env.kindOf n = some .local) (hc : Names X x c)
      (hsu : ∀ (a : Addr) (oe : Obj) (cls : Value) (d : Option Addr) (pn : List (Addr × Obj)), Zc cls d oe → (∃ vs, oe.data = .fields vs) → PSs (X.suite a ((a, oe) :: pn)) (b₀ :: suite) (ts a cls d)) (r : HdsM X hds l) :
      HdsM X (.ExceptHandler (some (.Name x np)) (some n) (b₀ :: suite) pos' :: hds) ((c, some i, ts) :: l)
section
variable {X : Cx} {body : List Stmt} {h₀ : ExceptHandler} {hds : List ExceptHandler} {l : List HT} {pos : Pos} {tb : WX → TS} {Wout : WX}
theorem ps_try_mix (hs : X.stack = X.env :: X.outer) (hf : X.env.frame = some X.env.locals) (hN : X.N.Nodup) (tk : Takes X Wout)
    (hb : ∀ (W : WX) (pn : List (Addr × Obj)) (xe : Value → Shared → Prop), Takes (X.tr pn xe) W → PassesOwn (model X.prog X.w) X.A X.env xe → PSs (X.tr pn xe) body (tb W))
    (hh : HdsM X (h₀ :: hds) l) : PS X (.Try body (h₀ :: hds) [] [] pos) (fun D σ H => tb (wMix X.K Wout D l) D σ H) := by
  refine ⟨fun pins s σ H D I h => ?_⟩
  have ok := I.ok
  have hfr : X.A.frames = some (X.env :: X.outer) := by rw [ok.frames, hs]
  have whole := (hb (wMix X.K Wout D l) (X.pn ++ pins) (fun e s₁ => wpAny (model X.prog X.w) X.A (noteFrame e X.env) (fun _ s₂ => wpAny (model X.prog X.w) X.A (setFlight e none) (fun _ s₃ =>
    wpAny (model X.prog X.w) X.A (handleBy e X.env (h₀ :: hds)) (SP X pins D) X.xe s₃) X.xe s₂) X.xe s₁) (fun u s' caught => ?_) PassesOwn.looking).run [] s σ H D (I.toTry _) h
  · refine wpAny_Try_except (wpAny_mono whole (fun f s1 hsp => ?_) (fun e s1 he => he))
    cases f with
    | next => obtain ⟨σ', H', J', q⟩ := hsp; exact wpAny_execs_nil ⟨σ', H', J'.ofTry ok, q⟩
    | brk => obtain ⟨σ', H', J', q⟩ := hsp; exact ⟨σ', H', J'.ofTry ok, q⟩
    | cont => obtain ⟨σ', H', J', q⟩ := hsp; exact ⟨σ', H', J'.ofTry ok, q⟩
    | ret u => obtain ⟨v, σ', H', J', r, q⟩ := hsp; exact ⟨v, σ', H', J'.ofTry ok, r, q⟩
  obtain ⟨a, B, sI, pins', σ', H', cls, d, rfl, J', nb, up, sky, na, os, ag, w⟩ := caught
  have J : Inv X pins σ' H' sI := J'.ofTry ok
  show wpAny (model X.prog X.w) X.A (noteFrame (.ref a) X.env) _ _ _
  refine Sky.land Zc.steady hfr hf (show Sky B (X.env :: X.outer) a (Zc cls d) X.env.locals s'.heap from by rw [← hs]; exact sky) fun h3 fl3 up3 => ?_
  have J3 : Inv X pins σ' H' { s' with heap := h3 } := J.landed nb fl3.1 (up.trans up3) os ag
  obtain ⟨oe3, vs3, he3, hz3, hd3⟩ := fl3.there
  have nfr : a ∉ frs (X.env :: X.outer) := fun hm => by
    obtain ⟨_, o', e', hnf⟩ := fl3.2.2.1.mem hm
    rw [he3] at e'
    cases e'
    exact hnf _ hd3
  have nL : a ≠ X.env.locals := fun z => nfr (List.mem_filterMap.mpr ⟨X.env, List.mem_cons_self, by rw [hf, z]⟩)
  have nF : a ∉ X.fs := fun hm => by
    obtain ⟨e, he, q⟩ := List.mem_filterMap.mp hm
    exact nfr (List.mem_filterMap.mpr ⟨e, List.mem_cons_of_mem _ he, q⟩)
  have S3 := J3.suite he3 hd3 na nL nF
  -- a clause's class is asked
  have ask : ∀ {x : Str} {c : Value} {np : Pos} {b : Bool} {Q : Bool → Shared → Prop}, Names X x c → PySem.W.exmOne X.K cls c = some b → (Q b { s' with heap := h3 }) →
      ∀ {E : Value → Shared → Prop}, (∀ {Q' : Value → Shared → Prop}, Q' c { s' with heap := h3 } → wpAny (model X.prog X.w) (X.A.mark (some (.ref a))) (eval (.Name x np) X.env) Q' E { s' with heap := h3 }) := fun {x c np b Q} hc hb1 hq {E Q'} q => by
    obtain ⟨hg, hdbg, hm | ⟨hm, hv, hnn⟩⟩ := hc
    · exact ld_glob (X := X.suite a ((a, oe3) :: (X.pn ++ pins))) S3 hg hm q hdbg
    · exact ld_blt (X := X.suite a ((a, oe3) :: (X.pn ++ pins))) S3 hg hm hv q hnn hdbg
  have LT : PySem.W.Looks (model X.prog X.w) h3 (typeOf (.ref a)) cls := fun A Q E s k q => wpAny_typeOf_ref (k _ _ he3) (by rw [hz3.1]; exact q)
  have go : ∀ {hds' : List ExceptHandler} {l' : List HT}, HdsM X hds' l' → wMix X.K Wout D l' cls d σ' H' →
      wpAny (model X.prog X.w) X.A (handleBy (.ref a) X.env hds') (SP X pins D) X.xe { s' with heap := h3 } := by
    intro hds' l' hk
    induction hk with
    | nil =>
      intro w
      refine wpAny_handleBy_nil ?_
      obtain ⟨k1, k2, k3, oe, vs, T, oT, ts', he, hz, hd, h1, hr⟩ := id fl3
      unfold PySem.passOn
      refine wpAny_bind (wpAny_field he hd h1 ?_)
      rw [if_neg (show ¬ ((Value.ref T == Value.none) = true) from by simp)]
      have fin : wpAny (model X.prog X.w) X.A (setFlight (.ref a) X.env.frame) (fun _ s4 => wpAny (model X.prog X.w) X.A (throw (.ref a) : Sem Flow) (SP X pins D) X.xe s4) X.xe { s' with heap := h3 } := by
        rw [hf]
        refine HandSPX.setFlight_upZ fl3 fun h4 hh4 up4 => wpAny_throw (tk _ _ ?_)
        exact ⟨a, B, sI, pins, σ', H', cls, d, rfl, J, nb, (up.trans up3).trans up4, .inr (.inr (by rw [hs]; exact hh4)), na, os, ag, w⟩
      first
        | exact wpAny_bind (wpAny_pure (wpAny_bind fin))
        | exact wpAny_bind fin
    | @cons x c ts b₀ suite np pos' hds2 l2 hc hsu r ih =>
      intro w
      obtain ⟨b, hb1, hyes, hno⟩ := w
      refine wpAny_handleBy_cons (codeAny_handlers_test ?_) (by intro q; cases q)
      have LM := PySem.W.exm_one (M := model X.prog X.w) (J3.kIn) LT hb1
      refine ask (b := b) (Q := fun _ _ => True) hc hb1 trivial (LM.here ?_)
      cases b with
      | false => exact ih (hno rfl)
      | true =>
        refine codeAny_handlers_suite (HandSPX.lands_againZ fl3 fun h4 fl4 up4 => ?_)
        have J4 : Inv X pins σ' H' { s' with heap := h4 } := J.landed nb fl4.1 ((up.trans up3).trans up4) os ag
        obtain ⟨oe4, vs4, he4, hz4, hd4⟩ := fl4.there
        have S4 := J4.suite he4 hd4 na nL nF
        refine wpAny_mono ((hsu a oe4 cls d (X.pn ++ pins) hz4 ⟨_, hd4⟩).run [] _ _ H' _ S4 (hyes rfl a na)) (fun f s6 hsp => ?_) (fun _ _ z => False.elim z)
        cases f with
        | next => obtain ⟨σ6, H6, S6, q6⟩ := hsp; exact ⟨_, _, S6.unsuite ok, q6⟩
        | brk => obtain ⟨σ6, H6, S6, q6⟩ := hsp; exact ⟨_, _, S6.unsuite ok, q6⟩
        | cont => obtain ⟨σ6, H6, S6, q6⟩ := hsp; exact ⟨_, _, S6.unsuite ok, q6⟩
        | ret u => obtain ⟨v6, σ6, H6, S6, r6, q6⟩ := hsp; exact ⟨_, _, _, S6.unsuite ok, r6, q6⟩
    | @named x n i c ts b₀ suite np pos' hds2 l2 hi hln hc hsu r ih =>
      intro w
      obtain ⟨b, hb1, hyes, hno⟩ := w
      refine wpAny_handleBy_cons (codeAny_handlers_test ?_) (by intro q; cases q)
      have LM := PySem.W.exm_one (M := model X.prog X.w) (J3.kIn) LT hb1
      refine ask (b := b) (Q := fun _ _ => True) hc hb1 trivial (LM.here ?_)
      cases b with
      | false => exact ih (hno rfl)
      | true =>
        refine codeAny_handlers_suite_as (HandSPX.lands_againZ fl3 fun h4 fl4 up4 => ?_)
        have J4 : Inv X pins σ' H' { s' with heap := h4 } := J.landed nb fl4.1 ((up.trans up3).trans up4) os ag
        obtain ⟨oe4, vs4, he4, hz4, hd4⟩ := fl4.there
        have S4 := J4.suite he4 hd4 na nL nF
        refine store_ok (X := X.suite a ((a, oe4) :: (X.pn ++ pins))) (v := .ref a) S4 hN hi (.inl hln) rfl (fun s5 S5 => ?_) (.inr hln)
        refine wpAny_mono ((hsu a oe4 cls d (X.pn ++ pins) hz4 ⟨_, hd4⟩).run [] s5 _ H' _ S5 (hyes rfl a na)) (fun f s6 hsp => ?_) (fun _ _ z => False.elim z)
        have end_ : ∀ {σ6 : St} {H6 : Hp} {Q : Shared → Prop}, Inv (X.suite a ((a, oe4) :: (X.pn ++ pins))) [] σ6 H6 s6 → (∀ s7, Inv X pins (σ6.set i none) H6 s7 → Q s7) →
            wpAny (model X.prog X.w) X.A (do bindName X.env n .none; unbindBehindTheSuite X.env n pos') (fun _ s7 => Q s7) X.xe s6 := fun {σ6 H6 Q} S6 hq => gone_ok (S6.unsuite ok) hN hi hln hq
        cases f with
        | next => obtain ⟨σ6, H6, S6, q6⟩ := hsp; exact end_ S6 fun s7 J7 => ⟨_, _, J7, q6⟩
        | brk => obtain ⟨σ6, H6, S6, q6⟩ := hsp; exact end_ S6 fun s7 J7 => ⟨_, _, J7, q6⟩
        | cont => obtain ⟨σ6, H6, S6, q6⟩ := hsp; exact end_ S6 fun s7 J7 => ⟨_, _, J7, q6⟩
        | ret u => obtain ⟨v6, σ6, H6, S6, r6, q6⟩ := hsp; exact end_ S6 fun s7 J7 => ⟨_, _, _, J7, r6, q6⟩
  exact go hh w
end
/-- a clause: without a name, and its suite; or with one, and what it gives back by the class -/
inductive HE2 where
  | pl (mt : String → Option Bool) (ms : SM)
  | nm (mt : String → Option Bool) (f : String → R PyData)
def pickM : List HE2 → String → R Out
  | [], c => .err c
  | .pl mt ms :: r, c => match mt c with
    | some true => noErr (ms [])
    | some false => pickM r c
    | none => .bad
  | .nm mt f :: r, c => match mt c with
    | some true => (match f c with
      | .ok d => .ok (.rt d)
      | _ => .bad)
    | some false => pickM r c
    | none => .bad
def tryMS (mb : SM) (hs : List HE2) : SM := fun ρ => match mb ρ with
  | .err c => pickM hs c
  | r => r
inductive HsM (X : Cx) : List ExceptHandler → List HE2 → Prop
  | nil : HsM X [] []
  | pl {x : Str} {C : Addr} {mt : String → Option Bool} {ms : SM} {b₀ : Stmt} {suite : List Stmt} {np pos' : Pos} {hds : List ExceptHandler} {l : List HE2} (hc : Names X x (.ref C))
      (hm : ∀ (c : String) (b : Bool) (A : Addr), mt c = some b → X.mg (c : Str) = some (.ref A) → PySem.W.exmOne X.K (.ref A) (.ref C) = some b)
      (hk : ∀ ρ, ms ρ = ms [])
      (hsu : ∀ (a : Addr) (oe : Obj) (cls : Value) (d : Option Addr) (pn : List (Addr × Obj)), XSs (X.suite a ((a, oe) :: pn)) We0 (b₀ :: suite) ms) (r : HsM X hds l) :
      HsM X (.ExceptHandler (some (.Name x np)) none (b₀ :: suite) pos' :: hds) (.pl mt ms :: l)
  | nm {x n : Str} {i : Nat} {C : Addr} {mt : String → Option Bool} {f : String → R PyData} {e : Expr} {rp np pos' : Pos} {hds : List ExceptHandler} {l : List HE2} (hi : X.N[i]? = some n) (hln : X.env.kindOf n = some .local) (hc : Names X x (.ref C))
      (hm : ∀ (c : String) (b : Bool) (A : Addr), mt c = some b → X.mg (c : Str) = some (.ref A) → PySem.W.exmOne X.K (.ref A) (.ref C) = some b)
      (hx : ∀ (c : String) (A : Addr), mt c = some true → X.mg (c : Str) = some (.ref A) → ExcC X.K A) (he : HEx X i e f) (r : HsM X hds l) :
      HsM X (.ExceptHandler (some (.Name x np)) (some n) [.Return (some e) rp] pos' :: hds) (.nm mt f :: l)
theorem hsM_go {X : Cx} {We : EW} : ∀ {hds : List ExceptHandler} {l : List HE2}, HsM X hds l → ∃ l2 : List HT, HdsM X hds l2 ∧
    ∀ (D : Ends) (c : String) (A : Addr) (F G : Hp) (σ' : St) (G' H' : Hp), X.mg (c : Str) = some (.ref A) → Le F G → Le G G' → Le G' H' → PoS X.K We F G (pickM l c) D → wMix X.K (WW X.mg We) D l2 (.ref A) none σ' H'
  | _, _, .nil => ⟨[], .nil, fun D c A F G σ' G' H' hA lf l1 l2 q => by
      have q' : PoS X.K We F G (.err c) D := q
      exact ⟨c, A, rfl, rfl, hA, q' σ' G' H' l1 l2⟩⟩
  | _, _, .pl (C := C) (mt := mt) (ms := ms) hc hm hk hsu r => by
    obtain ⟨l2, h2, go⟩ := hsM_go (We := We) r
    refine ⟨(.ref C, none, fun _ _ _ => tK X.K ms) :: l2, .cons hc (fun a oe cls d pn _ _ => suite_of (hsu a oe cls d pn) hk) h2, fun D c A F G σ' G' H' hA lf l1 l2 q => ?_⟩
    unfold pickM at q
    cases hmc : mt c with
    | none => rw [hmc] at q; exact q.elim
    | some b =>
      rw [hmc] at q
      refine ⟨b, hm c b A hmc hA, fun hb a _ => ?_, fun hb => ?_⟩
      · subst hb
        refine ⟨F, G', lf.trans l1, l2, PoS.step ⟨Le.refl F, l1, fun _ _ => rfl⟩ ?_⟩
        have q' : PoS X.K We F G (noErr (ms [])) D := q
        cases hms : ms [] with
        | ok o => rw [hms] at q'; cases o <;> exact q'
        | err c => rw [hms] at q'; exact q'.elim
        | bad => rw [hms] at q'; exact q'
      · subst hb
        exact go D c A F G σ' G' H' hA lf l1 l2 q
  | _, _, .nm (i := i) (n := n) (C := C) (mt := mt) (f := f) (e := e) hi hln hc hm hx he r => by
    obtain ⟨l2, h2, go⟩ := hsM_go (We := We) r
    let ts : Addr → Value → Option Addr → TS := fun a cls d D σ H => ∃ (c : String) (A : Addr) (v : PyData), cls = .ref A ∧ d = none ∧ f c = .ok v ∧ X.mg (c : Str) = some (.ref A) ∧ ExcC X.K A ∧ (i < σ.length → σ[i]? = some (some (.ref a))) ∧ ∀ w, (∀ F, Dp X.K F w v) → D.rt w H
    refine ⟨(.ref C, some i, ts) :: l2, .named hi hln hc (fun a oe cls d pn hz hd => pss_one ⟨fun pins s σ H D I q => ?_⟩) h2, fun D c A F G σ' G' H' hA lf l1 l2 q => ?_⟩
    · obtain ⟨c, A, v, rfl, rfl, hfc, hA, hE, hl, hr⟩ := q
      have li : i < σ.length := by
        have := I.len
        obtain ⟨h1, _⟩ := List.getElem?_eq_some_iff.mp hi
        have e2 : (X.suite a ((a, oe) :: pn)).N = X.N := rfl
        rw [e2] at this
        omega
      exact (ps_ret (he.run c A v hfc hA hE a oe pn hz hd)).run pins s σ H D I ⟨hl li, hr⟩
    · unfold pickM at q
      cases hmc : mt c with
      | none => rw [hmc] at q; exact q.elim
      | some b =>
        rw [hmc] at q
        refine ⟨b, hm c b A hmc hA, fun hb a ha => ?_, fun hb => ?_⟩
        · subst hb
          have q : PoS X.K We F G (match f c with
            | .ok d => .ok (.rt d)
            | _ => .bad) D := q
          cases hfc : f c with
          | err _ => rw [hfc] at q; exact q.elim
          | bad => rw [hfc] at q; exact q.elim
          | ok d =>
            rw [hfc] at q
            have q : ∀ v F' G' H', GrS F G F' G' → Le F' G' → Le G' H' → Dp X.K F' v d → D.rt v H' := q
            exact ⟨c, A, d, rfl, rfl, hfc, hA, hx c A hmc hA, fun hl => List.getElem?_set_self (by simpa using hl), fun w hw => q w F G' H' ⟨Le.refl F, l1, fun _ _ => rfl⟩ (lf.trans l1) l2 (hw F)⟩
        · subst hb
          exact go D c A F G σ' G' H' hA lf l1 l2 q
section
variable {X : Cx} {We : EW} {pos : Pos} {body : List Stmt} {h₀ : ExceptHandler} {hds : List ExceptHandler}
theorem xs_tryM {mb : SM} {l : List HE2} (hs : X.stack = X.env :: X.outer) (hf : X.env.frame = some X.env.locals) (hN : X.N.Nodup) (tk : Tk X We)
    (hb : ∀ (W : EW) (pn : List (Addr × Obj)) (xe : Value → Shared → Prop), Tk (X.tr pn xe) W → PassesOwn (model X.prog X.w) X.A X.env xe → XSs (X.tr pn xe) W body mb)
    (hh : HsM X (h₀ :: hds) l) : XS X We (.Try body (h₀ :: hds) [] [] pos) (tryMS mb l) := by
  obtain ⟨l2, h2, go⟩ := hsM_go (We := We) hh
  refine ps_imp (ps_try_mix hs hf hN tk (tb := fun W => tS X.K (EWof X W) mb) (fun W pn xe tkW hp => hb (EWof X W) pn xe (tkW.imp fun cls d σ H z => ?_) hp) h2) fun D σ H q => ?_
  · obtain ⟨c, C, rfl, rfl, hC, z⟩ := z
    exact z C hC
  · obtain ⟨ρ, F, G, r, q⟩ := q
    refine ⟨ρ, F, G, r, ?_⟩
    unfold tryMS at q
    cases hmb : mb ρ with
    | ok o => rw [hmb] at q; cases o <;> exact q
    | bad => rw [hmb] at q; exact q
    | err c =>
      rw [hmb] at q
      exact fun σ' G' H' l1 l2 C hC => go D c C F G σ' G' H' hC r.fg l1 l2 q
end
@[simp] theorem tryMS_ap (mb : SM) (hs : List HE2) (ρ : Ev) : tryMS mb hs ρ = (match mb ρ with | .err c => pickM hs c | r => r) := (rfl)
theorem hu1 {a c : Nat} (h : a + 65 < c) : a + 1 < c := by omega
end PD
namespace G
open PySem PySem.Spec PyProof.Rows L2 PD
/-! ## what each def computes -/
abbrev cLEAST_STRANDS : PyData := .int 2
abbrev cMOST_STRANDS : PyData := .int 6
abbrev cMOST_WORD : PyData := .int 40
def mtBadRows (c : String) : Option Bool := if c = "BadRows" then some true else if c = "BadStrands" then some false else if c = "BadWord" then some false else if c = "RigError" then some false else if c = "TooMany" then some false else none
def mtRigError (c : String) : Option Bool := if c = "BadRows" then some true else if c = "BadStrands" then some true else if c = "BadWord" then some true else if c = "RigError" then some true else if c = "TooMany" then some true else none
def mtTooMany (c : String) : Option Bool := if c = "BadRows" then some false else if c = "BadStrands" then some false else if c = "BadWord" then some false else if c = "RigError" then some false else if c = "TooMany" then some true else none
def b_is_whole : SM := (retS (andE (op1 (isiD .int) (vE 0)) (andE (notE (op1 (isiD .bool) (vE 0))) (chainE leD leD (vE 1) (vE 0) (vE 2)))))
def m_is_whole : List PyData → R PyData := runB 3 b_is_whole
def b_check_strands : SM := (ifS (notT (tvE (callE 3 m_is_whole (consA (vE 0) (consA (cE cLEAST_STRANDS) (consA (cE cMOST_STRANDS) nilA))))))
  (errS "BadStrands")
  nxS)
def m_check_strands : List PyData → R PyData := runB 1 b_check_strands
def l1_is_word : Ev → R PyData := lcE (itE (vE 1)) [2] (gN 2) yesT (andE (callE 3 m_is_whole (consA (vE 2) (consA (op2 subD (cE (.int 1)) (vE 0)) (consA (op2 subD (vE 0) (cE (.int 1))) nilA)))) (op2 neD (vE 2) (cE (.int 0))))
def b_is_word : SM := (seqS (ifS (orT (notT (tvE (op1 (isiD .tuple) (vE 1)))) (tvE (op2 gtD (callB lenD (consA (vE 1) nilA)) (cE cMOST_WORD))))
  (retS (cE (.bool false)))
  nxS)
  (retS (callB allD (consA l1_is_word nilA))))
def m_is_word : List PyData → R PyData := runB 3 b_is_word
def b_check_word : SM := (seqS (dropS (callE 1 m_check_strands (consA (vE 0) nilA)))
  (ifS (notT (tvE (callE 2 m_is_word (consA (vE 0) (consA (vE 1) nilA)))))
  (errS "BadWord")
  nxS))
def m_check_word : List PyData → R PyData := runB 2 b_check_word
def w1_strands_along : SM := (seqS (setLS 4 (callB list1D (consA (op2 ixD (vB 2) (op1 negD (cE (.int 1)))) nilA)))
  (seqS (setS 5 (callB absD (consA (vE 3) nilA)))
  (seqS (asgH2 (tupE (consA (op2 ixD (vB 4) (vE 5)) (consA (op2 ixD (vB 4) (op2 subD (vE 5) (cE (.int 1)))) nilA))) (setT 4 (op2 subD (vE 5) (cE (.int 1)))) (setT 4 (vE 5)))
  (seqS (frzS 4) (appS 2 (vE 4))))))
def b_strands_along : SM := (seqS (setLS 2 (lstE (consA (lrE2 (cE (.int 1)) (op2 addD (vE 0) (cE (.int 1)))) nilA)))
  (seqS (forS (itE (vE 1)) (gN 3)
  w1_strands_along)
  (seqS (frzS 2) (retS (vE 2)))))
def m_strands_along : List PyData → R PyData := runB 6 b_strands_along
def l1_ends_in : Ev → R PyData := lcE (argI range2D (consA (cE (.int 1)) (consA (op2 addD (vE 0) (cE (.int 1))) nilA))) [3] (gN 3) yesT (op2 addD (idxE (vE 2) (vE 3)) (cE (.int 1)))
def b_ends_in : SM := (seqS (setS 2 (op2 ixD (callE 2 m_strands_along (consA (vE 0) (consA (vE 1) nilA))) (op1 negD (cE (.int 1)))))
  (retS (callB tuple1D (consA l1_ends_in nilA))))
def m_ends_in : List PyData → R PyData := runB 4 b_ends_in
def b_ends_of : SM := (seqS (dropS (callE 2 m_check_word (consA (vE 0) (consA (vE 1) nilA))))
  (retS (callE 2 m_ends_in (consA (vE 0) (consA (vE 1) nilA)))))
def m_ends_of : List PyData → R PyData := runB 2 b_ends_of
def w1_sums_of : SM := (seqS (setS 5 (callB absD (consA (vE 3) nilA)))
  (seqS (setS 6 (tupE (consA (callB minD (consA (op2 ixD (vE 4) (op2 subD (vE 5) (cE (.int 1)))) (consA (op2 ixD (vE 4) (vE 5)) nilA))) (consA (callB maxD (consA (op2 ixD (vE 4) (op2 subD (vE 5) (cE (.int 1)))) (consA (op2 ixD (vE 4) (vE 5)) nilA))) nilA))))
  (putDS 2 (vE 6) (op2 addD (dgetE 2 (vE 6) (cE (.int 0))) (ifE (tvE (op2 gtD (vE 3) (cE (.int 0)))) (cE (.int 1)) (op1 negD (cE (.int 1))))))))
def b_sums_of : SM := (seqS (newDS 2 true)
  (seqS (forS (zpE2 (vE 1) (callE 2 m_strands_along (consA (vE 0) (consA (vE 1) nilA)))) (gT 2 (gsCons (gN 3) (gsCons (gN 4) gsNil)))
  w1_sums_of)
  (seqS (frzDS 2) (retDS 2))))
def m_sums_of : List PyData → R Dd := runBD 7 b_sums_of
def l1_crossed : Ev → R PyData := lcE (itE (srtTE 2)) [3] (gN 3) yesT (op2 addD (vE 3) (tupE (consA (dixE 2 (vE 3)) nilA)))
def b_crossed : SM := (seqS (dropS (callE 2 m_check_word (consA (vE 0) (consA (vE 1) nilA))))
  (seqS (callDS 2 2 m_sums_of (consA (vE 0) (consA (vE 1) nilA)))
  (retS (callB tuple1D (consA l1_crossed nilA)))))
def m_crossed : List PyData → R PyData := runB 4 b_crossed
def l1_writhe : Ev → R PyData := lcE (itE (vE 1)) [2] (gN 2) yesT (ifE (tvE (op2 gtD (vE 2) (cE (.int 0)))) (cE (.int 1)) (op1 negD (cE (.int 1))))
def b_writhe : SM := (seqS (dropS (callE 2 m_check_word (consA (vE 0) (consA (vE 1) nilA))))
  (retS (callB sumD (consA l1_writhe nilA))))
def m_writhe : List PyData → R PyData := runB 3 b_writhe
def w1_cancelled : SM := (ifS (andT (tvE (op2 gtD (callB lenD (consA (vB 2) nilA)) (cE (.int 0)))) (tvE (op2 eqD (op2 ixD (vB 2) (op1 negD (cE (.int 1)))) (op2 subD (cE (.int 0)) (vE 3)))))
  (popS 2)
  (appS 2 (vE 3)))
def b_cancelled : SM := (seqS (dropS (callE 2 m_check_word (consA (vE 0) (consA (vE 1) nilA))))
  (seqS (setLS 2 (lstE nilA))
  (seqS (forS (itE (vE 1)) (gN 3)
  w1_cancelled)
  (retS (callB tuple1D (consA (vB 2) nilA))))))
def m_cancelled : List PyData → R PyData := runB 4 b_cancelled
def l1_flat_plait : Ev → R PyData := lcE (argI range3D (consA (vE 4) (consA (vE 0) (consA (cE (.int 2)) nilA)))) [6] (gN 6) yesT (op2 mulD (vE 5) (vE 6))
def w2_flat_plait : SM := (seqS (asgS (ifE (tvE (op2 eqD (op2 modD (vE 3) (cE (.int 2))) (cE (.int 0)))) (tupE (consA (cE (.int 1)) (consA (cE (.int 1)) nilA))) (tupE (consA (cE (.int 2)) (consA (op1 negD (cE (.int 1))) nilA)))) (gT 2 (gsCons (gN 4) (gsCons (gN 5) gsNil))))
  (extS 2 l1_flat_plait))
def b_flat_plait : SM := (seqS (dropS (callE 1 m_check_strands (consA (vE 0) nilA)))
  (seqS (ifS (notT (tvE (callE 3 m_is_whole (consA (vE 1) (consA (cE (.int 0)) (consA (cE cMOST_WORD) nilA))))))
  (errS "BadRows")
  nxS)
  (seqS (setLS 2 (lstE nilA))
  (seqS (forS (argI range1D (consA (vE 1) nilA)) (gN 3)
  w2_flat_plait)
  (seqS (ifS (tvE (op2 gtD (callB lenD (consA (vB 2) nilA)) (cE cMOST_WORD)))
  (errS "TooMany")
  nxS)
  (retS (callB tuple1D (consA (vB 2) nilA))))))))
def m_flat_plait : List PyData → R PyData := runB 7 b_flat_plait
def l1_rows_till_home : Ev → R PyData := lcE (itE (vE 3)) [5] (gN 5) yesT (op2 ixD (vE 2) (op2 subD (vE 5) (cE (.int 1))))
def w2_rows_till_home : SM := (seqS (setS 3 (callB tuple1D (consA l1_rows_till_home nilA)))
  (augS 4 addI (cE (.int 1))))
def t3_rows_till_home : Ev → R Bool := (tvE (op2 neD (callB list1D (consA (vE 3) nilA)) (callB sortedD (consA (vE 3) nilA))))
def b_rows_till_home : SM := (seqS (dropS (callE 2 m_check_word (consA (vE 0) (consA (vE 1) nilA))))
  (seqS (setS 2 (callE 2 m_ends_in (consA (vE 0) (consA (vE 1) nilA))))
  (seqS (parS 3 4 (consA (vE 2) (consA (cE (.int 1)) nilA)))
  (seqS (whileM t3_rows_till_home
  w2_rows_till_home 1000000000)
  (retS (vE 4))))))
def m_rows_till_home : List PyData → R PyData := runB 6 b_rows_till_home
def w1__law_draws : SM := (ifS (tvE (op2 gtD (vE 5) (cE (.int 0))))
  (seqS (appS 2 (op2 modD (callB int1D (consA (vE 5) nilA)) (cE (.int 1009))))
  (setS 5 (op2 fdivD (vE 5) (cE (.int 1009)))))
  nxS)
def w2__law_draws : SM := (seqS (setS 5 (callB absD (consA (vE 4) nilA)))
  (seqS (setS 3 (op2 modD (callB int1D (consA (op2 addD (op2 addD (op2 mulD (vE 3) (cE (.int 48271))) (vE 5)) (cE (.int 11))) nilA)) (cE (.int 2147483647))))
  (ifS (tvE (op2 geD (vE 5) (op2 powD (cE (.int 10)) (cE (.int 18)))))
  (forS (argI range1D (consA (cE (.int 60)) nilA)) (gN 6)
  w1__law_draws)
  (appS 2 (op2 modD (op2 fdivD (callB int1D (consA (op2 addD (op2 mulD (vE 3) (cE (.int 16807))) (cE (.int 5))) nilA)) (cE (.int 3))) (cE (.int 65521)))))))
def w3__law_draws : SM := (ifS (tvE (op2 ltD (callB lenD (consA (vB 2) nilA)) (vE 1)))
  (seqS (setS 3 (op2 modD (callB int1D (consA (op2 addD (op2 addD (op2 mulD (vE 3) (cE (.int 69621))) (vE 6)) (cE (.int 1))) nilA)) (cE (.int 2147483647))))
  (appS 2 (op2 modD (op2 fdivD (callB int1D (consA (vE 3) nilA)) (cE (.int 7))) (cE (.int 65521)))))
  nxS)
def b__law_draws : SM := (seqS (setLS 2 (lstE nilA))
  (seqS (setS 3 (cE (.int 7)))
  (seqS (forS (itE (slE (vE 0) pNo (pAt (cE (.int 63))))) (gN 4)
  w2__law_draws)
  (seqS (forS (argI range1D (consA (vE 1) nilA)) (gN 6)
  w3__law_draws)
  (retS (slE (vB 2) pNo (pAt (vE 1))))))))
def m__law_draws : List PyData → R PyData := runB 7 b__law_draws
def w1__law_word : SM := (seqS (setS 6 (callB int1D (consA (op2 ixD (vE 0) (op2 modD (op2 addD (op2 addD (vE 1) (cE (.int 1))) (vE 5)) (callB lenD (consA (vE 0) nilA)))) nilA)))
  (appS 4 (op2 mulD (op2 addD (cE (.int 1)) (op2 modD (vE 6) (op2 subD (vE 2) (cE (.int 1))))) (ifE (tvE (op2 eqD (op2 modD (op2 fdivD (vE 6) (cE (.int 8))) (cE (.int 2))) (cE (.int 0)))) (cE (.int 1)) (op1 negD (cE (.int 1)))))))
def b__law_word : SM := (seqS (setLS 4 (lstE nilA))
  (seqS (forS (argI range1D (consA (op2 modD (callB int1D (consA (op2 ixD (vE 0) (op2 modD (vE 1) (callB lenD (consA (vE 0) nilA)))) nilA)) (op2 addD (vE 3) (cE (.int 1)))) nilA)) (gN 5)
  w1__law_word)
  (retS (callB tuple1D (consA (vB 4) nilA)))))
def m__law_word : List PyData → R PyData := runB 7 b__law_word
def w1__law_ends : SM := (seqS (setS 6 (callB maxD (consA (vE 5) (consA (op2 subD (cE (.int 0)) (vE 5)) nilA))))
  (setS 4 (ifE (tvE (op2 eqD (vE 4) (vE 6))) (op2 addD (vE 6) (cE (.int 1))) (ifE (tvE (op2 eqD (vE 4) (op2 addD (vE 6) (cE (.int 1))))) (vE 6) (vE 4)))))
def w2__law_ends : SM := (seqS (setS 4 (vE 3))
  (seqS (forS (itE (vE 1)) (gN 5)
  w1__law_ends)
  (appS 2 (vE 4))))
def b__law_ends : SM := (seqS (setLS 2 (lstE nilA))
  (seqS (forS (argI range2D (consA (cE (.int 1)) (consA (op2 addD (vE 0) (cE (.int 1))) nilA))) (gN 3)
  w2__law_ends)
  (retS (callB tuple1D (consA (vB 2) nilA)))))
def m__law_ends : List PyData → R PyData := runB 7 b__law_ends
def b__law_told : SM := (tryMS (retS (callE 2 m_flat_plait (consA (vE 0) (consA (vE 1) nilA)))) [(.pl mtBadRows (retS (cE (.str "rows")))), (.nm mtRigError (hIf (hIs mtTooMany) (hStr "many") (hStr "other")))])
def m__law_told : List PyData → R PyData := runB 3 b__law_told
def w1_law : SM := (ifS (tvE (op2 eqD (op2 modD (vE 7) (cE (.int 2))) (op2 subD (cE (.int 1)) (op2 modD (vE 6) (cE (.int 2))))))
  (appS 5 (ifE (tvE (op2 eqD (op2 modD (vE 6) (cE (.int 2))) (cE (.int 0)))) (vE 7) (op2 subD (cE (.int 0)) (vE 7))))
  nxS)
def w2_law : SM := (forS (argI range2D (consA (cE (.int 1)) (consA (vE 3) nilA))) (gN 7)
  w1_law)
def l3_law : Ev → R PyData := lcE (itE (vE 5)) [15] (gN 15) yesT (ifE (tvE (op2 gtD (vE 15) (cE (.int 0)))) (cE (.int 1)) (op1 negD (cE (.int 1))))
def l4_law : Ev → R PyData := lcE (itE (vE 11)) [7] (gN 7) yesT (op2 ixD (vE 10) (op2 subD (vE 7) (cE (.int 1))))
def w5_law : SM := (parS 11 12 (consA l4_law (consA (op2 addD (vE 12) (cE (.int 1))) nilA)))
def t6_law : Ev → R Bool := (orT (tvE (op2 eqD (vE 12) (cE (.int 0)))) (tvE (op2 neD (vE 11) (lrE2 (cE (.int 1)) (op2 addD (vE 3) (cE (.int 1)))))))
def l7_law : Ev → R PyData := lcE (argI range2D (consA (cE (.int 1)) (consA (vE 12) nilA))) [14] (gN 14) (tvE (op2 leD (op2 mulD (vE 14) (callB lenD (consA (vE 9) nilA))) (cE (.int 40)))) (op2 eqD (callE 2 m_ends_of (consA (vE 3) (consA (op2 mulD (vE 9) (vE 14)) nilA))) (callB tuple1D (consA (lrE2 (cE (.int 1)) (op2 addD (vE 3) (cE (.int 1)))) nilA)))
def w8_law : SM := (ifS (tvE (op2 neD (callE 2 m__law_told (consA (vE 3) (consA (vE 13) nilA))) (cE (.str "rows"))))
  (retS (cE (.bool false)))
  nxS)
def w9_law : SM := (seqS (asgS (tupE (consA (op2 addD (cE (.int 2)) (op2 modD (callB int1D (consA (op2 ixD (vE 1) (vE 2)) nilA)) (cE (.int 5)))) (consA (op2 modD (callB int1D (consA (op2 ixD (vE 1) (op2 addD (cE (.int 10)) (vE 2))) nilA)) (cE (.int 41))) nilA))) (gT 2 (gsCons (gN 3) (gsCons (gN 4) gsNil))))
  (seqS (setLS 5 (lstE nilA))
  (seqS (forS (argI range1D (consA (vE 4) nilA)) (gN 6)
  w2_law)
  (seqS (setS 8 (callE 2 m__law_told (consA (vE 3) (consA (vE 4) nilA))))
  (seqS (ifS (tvE (op2 neD (vE 8) (ifE (tvE (op2 leD (callB lenD (consA (vB 5) nilA)) (cE (.int 40)))) (callB tuple1D (consA (vB 5) nilA)) (cE (.str "many")))))
  (retS (cE (.bool false)))
  nxS)
  (seqS (frzS 5) (seqS (ifS (andT (tvE (op2 neD (vE 8) (cE (.str "many")))) (orT (andT (tvE (op2 neD (callE 2 m_cancelled (consA (vE 3) (consA (vE 8) nilA))) (vE 8))) (tvE (op2 gtD (vE 3) (cE (.int 2))))) (tvE (op2 neD (callE 2 m_writhe (consA (vE 3) (consA (vE 8) nilA))) (callB sumD (consA l3_law nilA))))))
  (retS (cE (.bool false)))
  nxS)
  (seqS (setS 9 (callE 4 m__law_word (consA (vE 1) (consA (op2 addD (cE (.int 20)) (op2 mulD (cE (.int 3)) (vE 2))) (consA (vE 3) (consA (cE (.int 12)) nilA))))))
  (seqS (parO3 false false false 10 11 12 (callE 2 m__law_ends (consA (vE 3) (consA (vE 9) nilA))) (lrE2 (cE (.int 1)) (op2 addD (vE 3) (cE (.int 1)))) (cE (.int 0)))
  (seqS (whileM t6_law
  w5_law 1000000000)
  (seqS (ifS (orT (tvE (op2 neD (callE 2 m_rows_till_home (consA (vE 3) (consA (vE 9) nilA))) (vE 12))) (andT (tvE (op2 leD (op2 mulD (vE 12) (callB lenD (consA (vE 9) nilA))) (cE (.int 40)))) (tvE (op2 neD (callE 2 m_ends_of (consA (vE 3) (consA (op2 mulD (vE 9) (vE 12)) nilA))) (callB tuple1D (consA (lrE2 (cE (.int 1)) (op2 addD (vE 3) (cE (.int 1)))) nilA))))))
  (retS (cE (.bool false)))
  nxS)
  (seqS (ifS (andT (tvE (op2 gtD (callB lenD (consA (vE 9) nilA)) (cE (.int 0)))) (tvE (callB anyD (consA l7_law nilA))))
  (retS (cE (.bool false)))
  nxS)
  (forS (itE (lstE (consA (op1 negD (cE (.int 1))) (consA (cE (.int 41)) (consA (cE (.bool true)) (consA (cE .none) (consA (cE (.str "3")) nilA))))))) (gN 13)
  w8_law)))))))))))))
def b_law : SM := (seqS (setS 1 (callE 2 m__law_draws (consA (vE 0) (consA (cE (.int 60)) nilA))))
  (seqS (forS (argI range1D (consA (cE (.int 6)) nilA)) (gN 2)
  w9_law)
  (seqS (ifS (orT (tvE (op2 neD (callE 2 m_flat_plait (consA (cE (.int 3)) (consA (cE (.int 3)) nilA))) (tupE (consA (cE (.int 1)) (consA (op1 negD (cE (.int 2))) (consA (cE (.int 1)) nilA)))))) (orT (tvE (op2 neD (callE 2 m_flat_plait (consA (cE (.int 2)) (consA (cE (.int 3)) nilA))) (tupE (consA (cE (.int 1)) (consA (cE (.int 1)) nilA))))) (orT (tvE (op2 neD (callE 2 m_flat_plait (consA (cE (.int 5)) (consA (cE (.int 2)) nilA))) (tupE (consA (cE (.int 1)) (consA (cE (.int 3)) (consA (op1 negD (cE (.int 2))) (consA (op1 negD (cE (.int 4))) nilA))))))) (tvE (op2 neD (callE 2 m_flat_plait (consA (cE (.int 6)) (consA (cE (.int 0)) nilA))) (tupE nilA))))))
  (retS (cE (.bool false)))
  nxS)
  (retS (andE (op2 eqD (callE 2 m_rows_till_home (consA (cE (.int 3)) (consA (tupE (consA (cE (.int 1)) (consA (op1 negD (cE (.int 2))) nilA))) nilA))) (cE (.int 3))) (andE (op2 eqD (callE 2 m_rows_till_home (consA (cE (.int 2)) (consA (tupE nilA) nilA))) (cE (.int 1))) (andE (op2 eqD (callE 2 m__law_told (consA (cE (.int 6)) (consA (cE (.int 17)) nilA))) (cE (.str "many"))) (andE (op2 eqD (callB lenD (consA (callE 2 m_flat_plait (consA (cE (.int 6)) (consA (cE (.int 16)) nilA))) nilA)) (cE (.int 40))) (op2 eqD (callE 2 m_crossed (consA (cE (.int 3)) (consA (callE 2 m_flat_plait (consA (cE (.int 3)) (consA (cE (.int 2)) nilA))) nilA))) (tupE (consA (tupE (consA (cE (.int 1)) (consA (cE (.int 2)) (consA (cE (.int 1)) nilA)))) (consA (tupE (consA (cE (.int 1)) (consA (cE (.int 3)) (consA (op1 negD (cE (.int 1))) nilA)))) nilA))))))))))))
def m_law : List PyData → R PyData := runB 16 b_law
end G
namespace G
open PySem PySem.Spec PyProof.Rows L2 PD PySem.W
/-! ## strands followed -/
def fol (h : Nat) (one : Int) : Nat := if h = one.natAbs then one.natAbs + 1 else if h = one.natAbs + 1 then one.natAbs else h
def endN (w : List Int) (s : Nat) : Nat := w.foldl fol s
/-- a crossing of n strands -/
def Cr (n : Nat) (one : Int) : Prop := 1 ≤ one.natAbs ∧ one.natAbs < n
theorem fol_rng {n h : Nat} {one : Int} (hc : Cr n one) (h1 : 1 ≤ h) (h2 : h ≤ n) : 1 ≤ fol h one ∧ fol h one ≤ n := by
  unfold fol
  obtain ⟨a, b⟩ := hc
  split
  · omega
  · split <;> omega
theorem fol_fol (h : Nat) (one : Int) : fol (fol h one) one = h := by
  unfold fol
  by_cases h1 : h = one.natAbs
  · simp only [if_pos h1]
    rw [if_neg (by omega), if_pos trivial]
    exact h1.symm
  · simp only [if_neg h1]
    by_cases h2 : h = one.natAbs + 1
    · simp only [if_pos h2, if_true]
      exact h2.symm
    · simp only [if_neg h2, if_neg h1]
theorem fol_inj {h k : Nat} {one : Int} (e : fol h one = fol k one) : h = k := by
  rw [← fol_fol h one, e, fol_fol]
theorem endN_rng {n : Nat} {w : List Int} (hw : ∀ x ∈ w, Cr n x) {s : Nat} (h1 : 1 ≤ s) (h2 : s ≤ n) : 1 ≤ endN w s ∧ endN w s ≤ n := by
  unfold endN
  induction w generalizing s with
  | nil => exact ⟨h1, h2⟩
  | cons x w ih =>
    have := fol_rng (hw x (by simp)) h1 h2
    exact ih (fun y hy => hw y (by simp [hy])) this.1 this.2
theorem endN_inj {w : List Int} {s t : Nat} (e : endN w s = endN w t) : s = t := by
  unfold endN at e
  induction w generalizing s t with
  | nil => exact e
  | cons x w ih => exact fol_inj (ih e)
/-- the row of strands told by where each stands -/
structure Rw (n : Nat) (row : List Nat) (pos : Nat → Nat) : Prop where
  len : row.length = n
  at' : ∀ j s, row[j]? = some s ↔ (1 ≤ s ∧ s ≤ n ∧ pos s = j + 1)
def swp (row : List Nat) (a : Nat) : List Nat := (row.set (a - 1) (row.getD a 0)).set a (row.getD (a - 1) 0)
theorem Rw.swp {n : Nat} {row : List Nat} {pos : Nat → Nat} (r : Rw n row pos) {one : Int} (hc : Cr n one) : Rw n (swp row one.natAbs) (fun s => fol (pos s) one) := by
  obtain ⟨a1, a2⟩ := hc
  have hl := r.len
  refine ⟨by unfold G.swp; rw [List.length_set, List.length_set]; exact hl, fun j s => ?_⟩
  have g1 : row[one.natAbs]? = some (row.getD one.natAbs 0) := by
    rw [List.getD_eq_getElem?_getD, List.getElem?_eq_getElem (by omega)]
    rfl
  have g2 : row[one.natAbs - 1]? = some (row.getD (one.natAbs - 1) 0) := by
    rw [List.getD_eq_getElem?_getD, List.getElem?_eq_getElem (by omega)]
    rfl
  unfold G.swp
  by_cases h1 : j = one.natAbs
  · subst h1
    rw [List.getElem?_set_self (by rw [List.length_set]; omega), ← g2, r.at']
    unfold fol
    constructor
    · rintro ⟨b1, b2, b3⟩
      refine ⟨b1, b2, ?_⟩
      rw [if_pos (by omega)]
    · rintro ⟨b1, b2, b3⟩
      refine ⟨b1, b2, ?_⟩
      split at b3
      · omega
      · split at b3 <;> omega
  · rw [List.getElem?_set_ne (fun z => h1 z.symm)]
    by_cases h2 : j = one.natAbs - 1
    · subst h2
      rw [List.getElem?_set_self (by omega), ← g1, r.at']
      unfold fol
      constructor
      · rintro ⟨b1, b2, b3⟩
        refine ⟨b1, b2, ?_⟩
        rw [if_neg (by omega), if_pos (by omega)]
        omega
      · rintro ⟨b1, b2, b3⟩
        refine ⟨b1, b2, ?_⟩
        split at b3
        · omega
        · split at b3 <;> omega
    · rw [List.getElem?_set_ne (fun z => h2 z.symm), r.at']
      unfold fol
      constructor
      · rintro ⟨b1, b2, b3⟩
        refine ⟨b1, b2, ?_⟩
        rw [if_neg (by omega), if_neg (by omega)]
        exact b3
      · rintro ⟨b1, b2, b3⟩
        refine ⟨b1, b2, ?_⟩
        split at b3
        · omega
        · split at b3 <;> omega
def row0 (n : Nat) : List Nat := (List.range n).map (· + 1)
theorem rw0 (n : Nat) : Rw n (row0 n) (fun s => s) := by
  refine ⟨by unfold row0; rw [List.length_map, List.length_range], fun j s => ?_⟩
  unfold row0
  rw [List.getElem?_map]
  by_cases h : j < n
  · rw [List.getElem?_range h]
    show some (j + 1) = some s ↔ _
    constructor
    · intro e
      cases e
      omega
    · rintro ⟨a, b, c⟩
      rw [c]
  · rw [List.getElem?_eq_none (by rw [List.length_range]; omega)]
    constructor
    · intro e; cases e
    · rintro ⟨a, b, c⟩; omega
/-- the rows one after the other -/
def rowsN (row : List Nat) : List Int → List (List Nat)
  | [] => [row]
  | x :: w => row :: rowsN (swp row x.natAbs) w
def lastN (row : List Nat) : List Int → List Nat
  | [] => row
  | x :: w => lastN (swp row x.natAbs) w
theorem lastN_rw {n : Nat} {row : List Nat} {pos : Nat → Nat} {w : List Int} (r : Rw n row pos) (hw : ∀ x ∈ w, Cr n x) : Rw n (lastN row w) (fun s => endN w (pos s)) := by
  induction w generalizing row pos with
  | nil => exact r
  | cons x w ih => exact ih (r.swp (hw x (by simp))) fun y hy => hw y (by simp [hy])
def encR (row : List Nat) : PyData := .list (row.map fun s => .int (s : Nat))
def encN (ns : List Nat) : List PyData := ns.map fun s => .int (s : Nat)
theorem row_at {row : List Nat} {k : Nat} (h : k < row.length) : ixD (.list (encN row)) (.int (k : Nat)) = .ok (.int (row.getD k 0 : Nat)) := by
  refine ix_list ?_
  unfold encN
  rw [atN, List.getElem?_map, List.getElem?_eq_getElem h, List.getD_eq_getElem?_getD, List.getElem?_eq_getElem h]
  rfl
end G
namespace G
open PySem PySem.Spec PyProof.Rows L2 PD PySem.W
theorem lr_row {n : Nat} (hn : n ≤ 1000) (ma mb : Ev → R PyData) (ρ : Ev) (h1 : ma ρ = .ok (.int 1)) (h2 : mb ρ = .ok (.int ((n : Int) + 1))) : lrE2 ma mb ρ = .ok (.list (encN (row0 n))) := by
  unfold lrE2
  rw [h1, bind_ok, h2, bind_ok]
  show (if smallI 1 ∧ smallI ((n : Int) + 1) ∧ (n : Int) + 1 - 1 ≤ 16777216 then R.ok (PyData.list (rangeL 1 1 ((n : Int) + 1 - 1).toNat)) else .bad) = _
  rw [if_pos (by unfold smallI; omega), rangeL_map2, show ((n : Int) + 1 - 1).toNat = n by omega]
  unfold encN row0
  rw [List.map_map]
  refine congrArg (fun l => R.ok (PyData.list l)) (List.map_congr_left fun k _ => ?_)
  show PyData.int (1 + (k : Int)) = .int ((k + 1 : Nat) : Int)
  rw [show (1 + (k : Int)) = ((k + 1 : Nat) : Int) by omega]
theorem swp_len (row : List Nat) (a : Nat) : (swp row a).length = row.length := by unfold swp; rw [List.length_set, List.length_set]
theorem encN_len (ns : List Nat) : (encN ns).length = ns.length := List.length_map _
theorem encN_set (ns : List Nat) (i v : Nat) : (encN ns).set i (.int (v : Nat)) = encN (ns.set i v) := by
  unfold encN
  rw [List.map_set]
theorem setT_ok {i : Nat} {mk : Ev → R PyData} {d : PyData} {ρ : Ev} {k : Nat} {xs : List PyData} (h1 : mk ρ = .ok (.int (k : Nat))) (h2 : ρ[i]? = some (.lo xs)) (h : k < xs.length) : setT i mk d ρ = .ok (ρ.set i (.lo (xs.set k d))) := by
  unfold setT
  rw [h1]
  show ((getLo ρ i).bind fun xs => match ixN xs.length ((k : Nat) : Int) with
    | some j => R.ok (ρ.set i (.lo (xs.set j d)))
    | none => .bad) = _
  rw [getLo_ap, h2, ofL_lo, bind_ok]
  have : ixN xs.length ((k : Nat) : Int) = some k := by
    unfold ixN
    rw [if_pos (by omega), if_pos (by omega)]
    rfl
  rw [this]
theorem along_step {n : Nat} {row : List Nat} {one : Int} (hl : row.length = n) (hn : n ≤ 6) (hc : Cr n one) (s0 s1 x4 x5 : Sl) (rs : List PyData) (hr : rs.length < 100) :
    w1_strands_along [s0, s1, .lo (rs ++ [.list (encN row)]), .d (.int one), x4, x5] = .ok (.nx [s0, s1, .lo (rs ++ [.list (encN row)] ++ [.list (encN (swp row one.natAbs))]), .d (.int one), .d (.list (encN (swp row one.natAbs))), .d (.int (one.natAbs : Nat))]) := by
  obtain ⟨c1, c2⟩ := hc
  have i1 : ixD (.list (rs ++ [.list (encN row)])) (.int (-1)) = .ok (.list (encN row)) := ix_end
  have i2 := row_at (row := row) (k := one.natAbs) (by omega)
  have i3 := row_at (row := row) (k := one.natAbs - 1) (by omega)
  have a1 : absD [.int one] = .ok (.int (one.natAbs : Nat)) := rfl
  have e1 : ((one.natAbs : Nat) : Int) - 1 = ((one.natAbs - 1 : Nat) : Int) := by omega
  have hlen : (rs ++ [.list (encN row)] : List PyData).length < SZ := by
    rw [List.length_append]
    exact Nat.lt_of_lt_of_le (show rs.length + 1 < 102 by omega) (by decide)
  unfold w1_strands_along
  simp only [seqS_ap, setS_ap, setLS_ap, asgS_ap, ifS_ap, forS_ap, itE_ap, argI_ap, callE_ap, callB_ap, consA_ap, nilA_ap, op2_ap, op1_ap, tvE_ap, andT_ap, orT_ap, notT_ap, andE_ap, orE_ap, notE_ap, ifE_ap, chainE_ap, slE_ap, pAt_ap, pNo_ap, intD_ap, vE_ap, vB_ap, cE_ap, tupE_ap, lstE_ap, retS_ap, retNS_ap, nxS_ap, errS_ap, dropS_ap, frzS_ap, appS_ap, getLo_ap, augS_ap, List.getElem?_cons_zero, List.getElem?_cons_succ, ofS_d, ofB_d, ofB_lo, ofL_lo, ofF_lo, ofF_d, bind_ok, bind_err, boolD_ap, iteR_t, iteR_f, iteR_err, kT_ap, List.set_cons_succ, List.set_cons_zero, thenS_nx, thenS_rt, thenS_err, thenS_bk, thenS_ct, oListD_ap, iterD_list, iterD_tuple, isi_ap, add_ii, sub_ii, neg_i, lt_ii, gt_ii, le_ii, ge_ii, int1_i, isNone_none, notNone_none, outR_nx, outR_rt, outR_err, List.length_cons, List.length_nil, if_true, zl0, zl1, zl2, zl3, zl4, zl5, zl6, zl7, zl8, zl9, zl10, zl11, zl12, zl13, ql1, ql2, ql3, ql4, ql5, Bool.not_true, Bool.not_false, gN_ap, gT_tuple, gsCons_ap, gsNil_ap, PD.len_tuple, PD.len_list, tuple1_list, tuple1_tuple, list1_list, list1_tuple, rev_list, rev_tuple, i1, a1, e1, i2, i3, asgH2_ap]
  rw [setT_ok (k := one.natAbs - 1) (xs := encN row) (by simp only [seqS_ap, setS_ap, setLS_ap, asgS_ap, ifS_ap, forS_ap, itE_ap, argI_ap, callE_ap, callB_ap, consA_ap, nilA_ap, op2_ap, op1_ap, tvE_ap, andT_ap, orT_ap, notT_ap, andE_ap, orE_ap, notE_ap, ifE_ap, chainE_ap, slE_ap, pAt_ap, pNo_ap, intD_ap, vE_ap, vB_ap, cE_ap, tupE_ap, lstE_ap, retS_ap, retNS_ap, nxS_ap, errS_ap, dropS_ap, frzS_ap, appS_ap, getLo_ap, augS_ap, List.getElem?_cons_zero, List.getElem?_cons_succ, ofS_d, ofB_d, ofB_lo, ofL_lo, ofF_lo, ofF_d, bind_ok, bind_err, boolD_ap, iteR_t, iteR_f, iteR_err, kT_ap, List.set_cons_succ, List.set_cons_zero, thenS_nx, thenS_rt, thenS_err, thenS_bk, thenS_ct, oListD_ap, iterD_list, iterD_tuple, isi_ap, add_ii, sub_ii, neg_i, lt_ii, gt_ii, le_ii, ge_ii, int1_i, isNone_none, notNone_none, outR_nx, outR_rt, outR_err, List.length_cons, List.length_nil, if_true, zl0, zl1, zl2, zl3, zl4, zl5, zl6, zl7, zl8, zl9, zl10, zl11, zl12, zl13, ql1, ql2, ql3, ql4, ql5, Bool.not_true, Bool.not_false, gN_ap, gT_tuple, gsCons_ap, gsNil_ap, PD.len_tuple, PD.len_list, tuple1_list, tuple1_tuple, list1_list, list1_tuple, rev_list, rev_tuple, e1]) rfl (by rw [encN_len]; omega)]
  simp only [bind_ok, List.set_cons_succ, List.set_cons_zero]
  rw [setT_ok (k := one.natAbs) (xs := (encN row).set (one.natAbs - 1) (.int (row.getD one.natAbs 0 : Nat))) (by simp only [seqS_ap, setS_ap, setLS_ap, asgS_ap, ifS_ap, forS_ap, itE_ap, argI_ap, callE_ap, callB_ap, consA_ap, nilA_ap, op2_ap, op1_ap, tvE_ap, andT_ap, orT_ap, notT_ap, andE_ap, orE_ap, notE_ap, ifE_ap, chainE_ap, slE_ap, pAt_ap, pNo_ap, intD_ap, vE_ap, vB_ap, cE_ap, tupE_ap, lstE_ap, retS_ap, retNS_ap, nxS_ap, errS_ap, dropS_ap, frzS_ap, appS_ap, getLo_ap, augS_ap, List.getElem?_cons_zero, List.getElem?_cons_succ, ofS_d, ofB_d, ofB_lo, ofL_lo, ofF_lo, ofF_d, bind_ok, bind_err, boolD_ap, iteR_t, iteR_f, iteR_err, kT_ap, List.set_cons_succ, List.set_cons_zero, thenS_nx, thenS_rt, thenS_err, thenS_bk, thenS_ct, oListD_ap, iterD_list, iterD_tuple, isi_ap, add_ii, sub_ii, neg_i, lt_ii, gt_ii, le_ii, ge_ii, int1_i, isNone_none, notNone_none, outR_nx, outR_rt, outR_err, List.length_cons, List.length_nil, if_true, zl0, zl1, zl2, zl3, zl4, zl5, zl6, zl7, zl8, zl9, zl10, zl11, zl12, zl13, ql1, ql2, ql3, ql4, ql5, Bool.not_true, Bool.not_false, gN_ap, gT_tuple, gsCons_ap, gsNil_ap, PD.len_tuple, PD.len_list, tuple1_list, tuple1_tuple, list1_list, list1_tuple, rev_list, rev_tuple]) rfl (by rw [List.length_set, encN_len]; omega)]
  simp only [bind_ok, List.set_cons_succ, List.set_cons_zero]
  rw [encN_set, encN_set]
  simp only [seqS_ap, setS_ap, setLS_ap, asgS_ap, ifS_ap, forS_ap, itE_ap, argI_ap, callE_ap, callB_ap, consA_ap, nilA_ap, op2_ap, op1_ap, tvE_ap, andT_ap, orT_ap, notT_ap, andE_ap, orE_ap, notE_ap, ifE_ap, chainE_ap, slE_ap, pAt_ap, pNo_ap, intD_ap, vE_ap, vB_ap, cE_ap, tupE_ap, lstE_ap, retS_ap, retNS_ap, nxS_ap, errS_ap, dropS_ap, frzS_ap, appS_ap, getLo_ap, augS_ap, List.getElem?_cons_zero, List.getElem?_cons_succ, ofS_d, ofB_d, ofB_lo, ofL_lo, ofF_lo, ofF_d, bind_ok, bind_err, boolD_ap, iteR_t, iteR_f, iteR_err, kT_ap, List.set_cons_succ, List.set_cons_zero, thenS_nx, thenS_rt, thenS_err, thenS_bk, thenS_ct, oListD_ap, iterD_list, iterD_tuple, isi_ap, add_ii, sub_ii, neg_i, lt_ii, gt_ii, le_ii, ge_ii, int1_i, isNone_none, notNone_none, outR_nx, outR_rt, outR_err, List.length_cons, List.length_nil, if_true, zl0, zl1, zl2, zl3, zl4, zl5, zl6, zl7, zl8, zl9, zl10, zl11, zl12, zl13, ql1, ql2, ql3, ql4, ql5, Bool.not_true, Bool.not_false, gN_ap, gT_tuple, gsCons_ap, gsNil_ap, PD.len_tuple, PD.len_list, tuple1_list, tuple1_tuple, list1_list, list1_tuple, rev_list, rev_tuple, hlen]
  rfl
end G
namespace G
open PySem PySem.Spec PyProof.Rows L2 PD PySem.W
def encRows (rs : List (List Nat)) : List PyData := rs.map fun r => .list (encN r)
theorem along_loop {n : Nat} (hn : n ≤ 6) (s0 s1 : Sl) : ∀ (w : List Int) (row : List Nat) (rs : List PyData) (x3 x4 x5 : Sl), row.length = n → (∀ x ∈ w, Cr n x) → rs.length + w.length < 100 →
    ∃ y3 y4 y5, forG (gN 3) w1_strands_along (w.map .int) [s0, s1, .lo (rs ++ [.list (encN row)]), x3, x4, x5] = .ok (.nx [s0, s1, .lo (rs ++ encRows (rowsN row w)), y3, y4, y5])
  | [], row, rs, x3, x4, x5, _, _, _ => ⟨x3, x4, x5, rfl⟩
  | x :: w, row, rs, x3, x4, x5, hl, hw, hr => by
    have hx := hw x (by simp)
    have st := along_step hl hn hx s0 s1 x4 x5 rs (by simp at hr; omega)
    obtain ⟨y3, y4, y5, e⟩ := along_loop hn s0 s1 w (swp row x.natAbs) (rs ++ [.list (encN row)]) (.d (.int x)) (.d (.list (encN (swp row x.natAbs)))) (.d (.int (x.natAbs : Nat))) (by rw [swp_len]; exact hl) (fun y hy => hw y (by simp [hy])) (by simp at hr ⊢; omega)
    refine ⟨y3, y4, y5, ?_⟩
    rw [List.map_cons, forG_nx (by rw [gN_ap, bind_ok]; exact st), e]
    rw [show rs ++ encRows (rowsN row (x :: w)) = rs ++ [.list (encN row)] ++ encRows (rowsN (swp row x.natAbs) w) by
      rw [List.append_assoc]
      rfl]
theorem row0_len (n : Nat) : (row0 n).length = n := by unfold row0; rw [List.length_map, List.length_range]
theorem e_along {n : Nat} (hn : n ≤ 6) {w : List Int} (hw : ∀ x ∈ w, Cr n x) (hl : w.length ≤ 40) : m_strands_along [.int (n : Nat), .tuple (w.map .int)] = .ok (.list (encRows (rowsN (row0 n) w))) := by
  obtain ⟨y3, y4, y5, e⟩ := along_loop hn (.d (.int (n : Nat))) (.d (.tuple (w.map .int))) w (row0 n) [] .un .un .un (row0_len n) hw (by show 0 + w.length < 100; omega)
  have l1 := lr_row (n := n) (by omega) (cE (.int 1)) (op2 addD (vE 0) (cE (.int 1))) [.d (.int (n : Nat)), .d (.tuple (w.map .int)), .un, .un, .un, .un] rfl rfl
  unfold m_strands_along
  rw [runB_ap]
  unfold b_strands_along
  rw [show (List.map Sl.d [PyData.int (n : Nat), .tuple (w.map .int)] ++ List.replicate (6 - [PyData.int (n : Nat), .tuple (w.map .int)].length) Sl.un) = [.d (.int (n : Nat)), .d (.tuple (w.map .int)), .un, .un, .un, .un] from rfl]
  simp only [seqS_ap, setS_ap, setLS_ap, asgS_ap, ifS_ap, forS_ap, itE_ap, argI_ap, callE_ap, callB_ap, consA_ap, nilA_ap, op2_ap, op1_ap, tvE_ap, andT_ap, orT_ap, notT_ap, andE_ap, orE_ap, notE_ap, ifE_ap, chainE_ap, slE_ap, pAt_ap, pNo_ap, intD_ap, vE_ap, vB_ap, cE_ap, tupE_ap, lstE_ap, retS_ap, retNS_ap, nxS_ap, errS_ap, dropS_ap, frzS_ap, appS_ap, getLo_ap, augS_ap, List.getElem?_cons_zero, List.getElem?_cons_succ, ofS_d, ofB_d, ofB_lo, ofL_lo, ofF_lo, ofF_d, bind_ok, bind_err, boolD_ap, iteR_t, iteR_f, iteR_err, kT_ap, List.set_cons_succ, List.set_cons_zero, thenS_nx, thenS_rt, thenS_err, thenS_bk, thenS_ct, oListD_ap, iterD_list, iterD_tuple, isi_ap, add_ii, sub_ii, neg_i, lt_ii, gt_ii, le_ii, ge_ii, int1_i, isNone_none, notNone_none, outR_nx, outR_rt, outR_err, List.length_cons, List.length_nil, if_true, zl0, zl1, zl2, zl3, zl4, zl5, zl6, zl7, zl8, zl9, zl10, zl11, zl12, zl13, ql1, ql2, ql3, ql4, ql5, Bool.not_true, Bool.not_false, gN_ap, gT_tuple, gsCons_ap, gsNil_ap, PD.len_tuple, PD.len_list, tuple1_list, tuple1_tuple, list1_list, list1_tuple, rev_list, rev_tuple, l1]
  rw [show ([.list (encN (row0 n))] : List PyData) = [] ++ [.list (encN (row0 n))] from rfl, e]
  simp only [seqS_ap, setS_ap, setLS_ap, asgS_ap, ifS_ap, forS_ap, itE_ap, argI_ap, callE_ap, callB_ap, consA_ap, nilA_ap, op2_ap, op1_ap, tvE_ap, andT_ap, orT_ap, notT_ap, andE_ap, orE_ap, notE_ap, ifE_ap, chainE_ap, slE_ap, pAt_ap, pNo_ap, intD_ap, vE_ap, vB_ap, cE_ap, tupE_ap, lstE_ap, retS_ap, retNS_ap, nxS_ap, errS_ap, dropS_ap, frzS_ap, appS_ap, getLo_ap, augS_ap, List.getElem?_cons_zero, List.getElem?_cons_succ, ofS_d, ofB_d, ofB_lo, ofL_lo, ofF_lo, ofF_d, bind_ok, bind_err, boolD_ap, iteR_t, iteR_f, iteR_err, kT_ap, List.set_cons_succ, List.set_cons_zero, thenS_nx, thenS_rt, thenS_err, thenS_bk, thenS_ct, oListD_ap, iterD_list, iterD_tuple, isi_ap, add_ii, sub_ii, neg_i, lt_ii, gt_ii, le_ii, ge_ii, int1_i, isNone_none, notNone_none, outR_nx, outR_rt, outR_err, List.length_cons, List.length_nil, if_true, zl0, zl1, zl2, zl3, zl4, zl5, zl6, zl7, zl8, zl9, zl10, zl11, zl12, zl13, ql1, ql2, ql3, ql4, ql5, Bool.not_true, Bool.not_false, gN_ap, gT_tuple, gsCons_ap, gsNil_ap, PD.len_tuple, PD.len_list, tuple1_list, tuple1_tuple, list1_list, list1_tuple, rev_list, rev_tuple]
  rfl
theorem rows_last : ∀ (row : List Nat) (w : List Int), ∃ l, rowsN row w = l ++ [lastN row w]
  | row, [] => ⟨[], rfl⟩
  | row, x :: w => by
    obtain ⟨l, e⟩ := rows_last (swp row x.natAbs) w
    exact ⟨row :: l, by show row :: rowsN (swp row x.natAbs) w = _; rw [e]; rfl⟩
/-- the places at which all strands end -/
def endsL (n : Nat) (w : List Int) : List Nat := (row0 n).map (endN w)
theorem e_ends_in {n : Nat} (hn : n ≤ 6) {w : List Int} (hw : ∀ x ∈ w, Cr n x) (hl : w.length ≤ 40) : m_ends_in [.int (n : Nat), .tuple (w.map .int)] = .ok (.tuple (encN (endsL n w))) := by
  have a1 := e_along hn hw hl
  obtain ⟨l, hlast⟩ := rows_last (row0 n) w
  have i1 : ixD (.list (encRows (rowsN (row0 n) w))) (.int (-1)) = .ok (.list (encN (lastN (row0 n) w))) := by
    rw [hlast]
    unfold encRows
    rw [List.map_append]
    exact ix_end
  have hrw := lastN_rw (rw0 n) hw
  have r2 : range2D [.int 1, .int ((n : Int) + 1)] = .ok ((row0 n).map fun k : Nat => PyData.int (k : Nat)) := by
    have := range2N (a := 1) (n := n + 1) (by decide) (by omega)
    rw [show ((n + 1 : Nat) : Int) = (n : Int) + 1 by omega] at this
    refine this.trans (congrArg R.ok ?_)
    unfold row0
    rw [List.map_map]
    refine List.map_congr_left fun k _ => ?_
    show PyData.int ((1 + k : Nat) : Int) = .int ((k + 1 : Nat) : Int)
    rw [Nat.add_comm]
  have l1 : l1_ends_in [.d (.int (n : Nat)), .d (.tuple (w.map .int)), .d (.list (encN (lastN (row0 n) w))), .un] = .ok (.list (encN (endsL n w))) := by
    unfold l1_ends_in
    have := lcE_all (mi := argI range2D (consA (cE (.int 1)) (consA (op2 addD (vE 0) (cE (.int 1))) nilA))) (vs := [3]) (g := gN 3) (e := op2 addD (idxE (vE 2) (vE 3)) (cE (.int 1))) (ρ := [.d (.int (n : Nat)), .d (.tuple (w.map .int)), .d (.list (encN (lastN (row0 n) w))), .un])
      (enc := fun k : Nat => PyData.int (k : Nat)) (f := fun s => PyData.int ((endN w s : Nat) : Int)) (row0 n) (by simp only [seqS_ap, setS_ap, setLS_ap, asgS_ap, ifS_ap, forS_ap, itE_ap, argI_ap, callE_ap, callB_ap, consA_ap, nilA_ap, op2_ap, op1_ap, tvE_ap, andT_ap, orT_ap, notT_ap, andE_ap, orE_ap, notE_ap, ifE_ap, chainE_ap, slE_ap, pAt_ap, pNo_ap, intD_ap, vE_ap, vB_ap, cE_ap, tupE_ap, lstE_ap, retS_ap, retNS_ap, nxS_ap, errS_ap, dropS_ap, frzS_ap, appS_ap, getLo_ap, augS_ap, List.getElem?_cons_zero, List.getElem?_cons_succ, ofS_d, ofB_d, ofB_lo, ofL_lo, ofF_lo, ofF_d, bind_ok, bind_err, boolD_ap, iteR_t, iteR_f, iteR_err, kT_ap, List.set_cons_succ, List.set_cons_zero, thenS_nx, thenS_rt, thenS_err, thenS_bk, thenS_ct, oListD_ap, iterD_list, iterD_tuple, isi_ap, add_ii, sub_ii, neg_i, lt_ii, gt_ii, le_ii, ge_ii, int1_i, isNone_none, notNone_none, outR_nx, outR_rt, outR_err, List.length_cons, List.length_nil, if_true, zl0, zl1, zl2, zl3, zl4, zl5, zl6, zl7, zl8, zl9, zl10, zl11, zl12, zl13, ql1, ql2, ql3, ql4, ql5, Bool.not_true, Bool.not_false, gN_ap, gT_tuple, gsCons_ap, gsNil_ap, PD.len_tuple, PD.len_list, tuple1_list, tuple1_tuple, list1_list, list1_tuple, rev_list, rev_tuple, r2]) (by rw [row0_len]; exact Nat.le_of_lt (Nat.lt_of_le_of_lt hn (by decide))) ?_
    · rw [this]
      unfold endsL encN
      rw [List.map_map]
      rfl
    · intro s hs
      have hs2 : 1 ≤ s ∧ s ≤ n := by
        unfold row0 at hs
        obtain ⟨k, hk, rfl⟩ := List.mem_map.mp hs
        have := List.mem_range.mp hk
        omega
      have hp := endN_rng hw hs2.1 hs2.2
      have hfi : (lastN (row0 n) w).findIdx? (fun y => decide (y = s)) = some (endN w s - 1) := by
        have h1 := (hrw.at' (endN w s - 1) s).mpr ⟨hs2.1, hs2.2, by omega⟩
        rw [List.findIdx?_eq_some_iff_getElem]
        obtain ⟨hlt, he⟩ := List.getElem?_eq_some_iff.mp h1
        refine ⟨hlt, decide_eq_true he, fun j hj => ?_⟩
        have hjl : j < (lastN (row0 n) w).length := by omega
        intro hd
        have hd := of_decide_eq_true hd
        have h2 := (hrw.at' j s).mp (by rw [List.getElem?_eq_getElem hjl, hd])
        omega
      have ix : indexD (encN (lastN (row0 n) w)) (.int (s : Nat)) = .ok (.int ((endN w s - 1 : Nat) : Int)) := by
        have := index_t (α := Int) (by decide) ((s : Nat) : Int) ((lastN (row0 n) w).map fun y : Nat => ((y : Nat) : Int)) (j := endN w s - 1) (by
          rw [List.findIdx?_map]
          refine (congrArg (fun p => (lastN (row0 n) w).findIdx? p) ?_).trans hfi
          funext y
          exact decide_eq_decide.mpr (by show ((y : Nat) : Int) = ((s : Nat) : Int) ↔ y = s; omega))
        rw [List.map_map] at this
        exact this
      refine ⟨_, gN_ap .., ?_⟩
      rw [show (wipeE [Sl.d (.int (n : Nat)), .d (.tuple (w.map .int)), .d (.list (encN (lastN (row0 n) w))), .un] [3]).set 3 (.d (.int (s : Nat))) = [.d (.int (n : Nat)), .d (.tuple (w.map .int)), .d (.list (encN (lastN (row0 n) w))), .d (.int (s : Nat))] from rfl]
      simp only [seqS_ap, setS_ap, setLS_ap, asgS_ap, ifS_ap, forS_ap, itE_ap, argI_ap, callE_ap, callB_ap, consA_ap, nilA_ap, op2_ap, op1_ap, tvE_ap, andT_ap, orT_ap, notT_ap, andE_ap, orE_ap, notE_ap, ifE_ap, chainE_ap, slE_ap, pAt_ap, pNo_ap, intD_ap, vE_ap, vB_ap, cE_ap, tupE_ap, lstE_ap, retS_ap, retNS_ap, nxS_ap, errS_ap, dropS_ap, frzS_ap, appS_ap, getLo_ap, augS_ap, List.getElem?_cons_zero, List.getElem?_cons_succ, ofS_d, ofB_d, ofB_lo, ofL_lo, ofF_lo, ofF_d, bind_ok, bind_err, boolD_ap, iteR_t, iteR_f, iteR_err, kT_ap, List.set_cons_succ, List.set_cons_zero, thenS_nx, thenS_rt, thenS_err, thenS_bk, thenS_ct, oListD_ap, iterD_list, iterD_tuple, isi_ap, add_ii, sub_ii, neg_i, lt_ii, gt_ii, le_ii, ge_ii, int1_i, isNone_none, notNone_none, outR_nx, outR_rt, outR_err, List.length_cons, List.length_nil, if_true, zl0, zl1, zl2, zl3, zl4, zl5, zl6, zl7, zl8, zl9, zl10, zl11, zl12, zl13, ql1, ql2, ql3, ql4, ql5, Bool.not_true, Bool.not_false, gN_ap, gT_tuple, gsCons_ap, gsNil_ap, PD.len_tuple, PD.len_list, tuple1_list, tuple1_tuple, list1_list, list1_tuple, rev_list, rev_tuple, idxE_ap]
      show ((indexD (encN (lastN (row0 n) w)) (.int (s : Nat))).bind fun x => addD x (.int 1)) = _
      rw [ix, bind_ok]
      show R.ok (PyData.int (((endN w s - 1 : Nat) : Int) + 1)) = _
      rw [show ((endN w s - 1 : Nat) : Int) + 1 = ((endN w s : Nat) : Int) by omega]
  unfold m_ends_in
  rw [runB_ap]
  unfold b_ends_in
  rw [show (List.map Sl.d [PyData.int (n : Nat), .tuple (w.map .int)] ++ List.replicate (4 - [PyData.int (n : Nat), .tuple (w.map .int)].length) Sl.un) = [.d (.int (n : Nat)), .d (.tuple (w.map .int)), .un, .un] from rfl]
  simp only [seqS_ap, setS_ap, setLS_ap, asgS_ap, ifS_ap, forS_ap, itE_ap, argI_ap, callE_ap, callB_ap, consA_ap, nilA_ap, op2_ap, op1_ap, tvE_ap, andT_ap, orT_ap, notT_ap, andE_ap, orE_ap, notE_ap, ifE_ap, chainE_ap, slE_ap, pAt_ap, pNo_ap, intD_ap, vE_ap, vB_ap, cE_ap, tupE_ap, lstE_ap, retS_ap, retNS_ap, nxS_ap, errS_ap, dropS_ap, frzS_ap, appS_ap, getLo_ap, augS_ap, List.getElem?_cons_zero, List.getElem?_cons_succ, ofS_d, ofB_d, ofB_lo, ofL_lo, ofF_lo, ofF_d, bind_ok, bind_err, boolD_ap, iteR_t, iteR_f, iteR_err, kT_ap, List.set_cons_succ, List.set_cons_zero, thenS_nx, thenS_rt, thenS_err, thenS_bk, thenS_ct, oListD_ap, iterD_list, iterD_tuple, isi_ap, add_ii, sub_ii, neg_i, lt_ii, gt_ii, le_ii, ge_ii, int1_i, isNone_none, notNone_none, outR_nx, outR_rt, outR_err, List.length_cons, List.length_nil, if_true, zl0, zl1, zl2, zl3, zl4, zl5, zl6, zl7, zl8, zl9, zl10, zl11, zl12, zl13, ql1, ql2, ql3, ql4, ql5, Bool.not_true, Bool.not_false, gN_ap, gT_tuple, gsCons_ap, gsNil_ap, PD.len_tuple, PD.len_list, tuple1_list, tuple1_tuple, list1_list, list1_tuple, rev_list, rev_tuple, a1, i1, l1]
end G
namespace G
open PySem PySem.Spec PyProof.Rows L2 PD PySem.W
/-- a word of n strands -/
structure Wd (n : Nat) (w : List Int) : Prop where
  l : w.length ≤ 40
  c : ∀ x ∈ w, Cr n x
theorem e_whole (i a b : Int) : m_is_whole [.int i, .int a, .int b] = .ok (.bool (decide (a ≤ i) && decide (i ≤ b))) := whole_ok (.int i) a b
theorem e_check_strands {n : Nat} (h2 : 2 ≤ n) (h6 : n ≤ 6) : m_check_strands [.int (n : Nat)] = .ok .none := by
  have w1 : m_is_whole [.int (n : Nat), cLEAST_STRANDS, cMOST_STRANDS] = .ok (.bool true) := by
    refine (e_whole (n : Nat) 2 6).trans ?_
    rw [decide_eq_true (by omega), decide_eq_true (by omega)]
    rfl
  unfold m_check_strands
  rw [runB_ap]
  unfold b_check_strands
  rw [show (List.map Sl.d [PyData.int (n : Nat)] ++ List.replicate (1 - [PyData.int (n : Nat)].length) Sl.un) = [.d (.int (n : Nat))] from rfl]
  simp only [seqS_ap, setS_ap, setLS_ap, asgS_ap, ifS_ap, forS_ap, itE_ap, argI_ap, callE_ap, callB_ap, consA_ap, nilA_ap, op2_ap, op1_ap, tvE_ap, andT_ap, orT_ap, notT_ap, andE_ap, orE_ap, notE_ap, ifE_ap, chainE_ap, slE_ap, pAt_ap, pNo_ap, intD_ap, vE_ap, vB_ap, cE_ap, tupE_ap, lstE_ap, retS_ap, retNS_ap, nxS_ap, errS_ap, dropS_ap, frzS_ap, appS_ap, getLo_ap, augS_ap, List.getElem?_cons_zero, List.getElem?_cons_succ, ofS_d, ofB_d, ofB_lo, ofL_lo, ofF_lo, ofF_d, bind_ok, bind_err, boolD_ap, iteR_t, iteR_f, iteR_err, kT_ap, List.set_cons_succ, List.set_cons_zero, thenS_nx, thenS_rt, thenS_err, thenS_bk, thenS_ct, oListD_ap, iterD_list, iterD_tuple, isi_ap, add_ii, sub_ii, neg_i, lt_ii, gt_ii, le_ii, ge_ii, int1_i, isNone_none, notNone_none, outR_nx, outR_rt, outR_err, List.length_cons, List.length_nil, if_true, zl0, zl1, zl2, zl3, zl4, zl5, zl6, zl7, zl8, zl9, zl10, zl11, zl12, zl13, ql1, ql2, ql3, ql4, ql5, Bool.not_true, Bool.not_false, gN_ap, gT_tuple, gsCons_ap, gsNil_ap, PD.len_tuple, PD.len_list, tuple1_list, tuple1_tuple, list1_list, list1_tuple, rev_list, rev_tuple, w1]
theorem e_is_word {n : Nat} {w : List Int} (hw : Wd n w) : m_is_word [.int (n : Nat), .tuple (w.map .int)] = .ok (.bool true) := by
  have hl := hw.l
  have i1 : isiB .tuple (.tuple (w.map .int)) = true := rfl
  have l1 : lenD [.tuple (w.map .int)] = .ok (.int (w.length : Nat)) := by rw [PD.len_tuple, List.length_map]
  have g1 : gtD (.int (w.length : Nat)) cMOST_WORD = .ok (.bool false) := by
    show gtD (.int (w.length : Nat)) (.int 40) = _
    rw [gt_ii, decide_eq_false (by omega)]
  have l2 : l1_is_word [.d (.int (n : Nat)), .d (.tuple (w.map .int)), .un] = .ok (.list (w.map fun _ => .bool true)) := by
    unfold l1_is_word
    refine lcE_all (enc := PyData.int) (f := fun _ => .bool true) w ?_ ?_ ?_
    · simp only [seqS_ap, setS_ap, setLS_ap, asgS_ap, ifS_ap, forS_ap, itE_ap, argI_ap, callE_ap, callB_ap, consA_ap, nilA_ap, op2_ap, op1_ap, tvE_ap, andT_ap, orT_ap, notT_ap, andE_ap, orE_ap, notE_ap, ifE_ap, chainE_ap, slE_ap, pAt_ap, pNo_ap, intD_ap, vE_ap, vB_ap, cE_ap, tupE_ap, lstE_ap, retS_ap, retNS_ap, nxS_ap, errS_ap, dropS_ap, frzS_ap, appS_ap, getLo_ap, augS_ap, List.getElem?_cons_zero, List.getElem?_cons_succ, ofS_d, ofB_d, ofB_lo, ofL_lo, ofF_lo, ofF_d, bind_ok, bind_err, boolD_ap, iteR_t, iteR_f, iteR_err, kT_ap, List.set_cons_succ, List.set_cons_zero, thenS_nx, thenS_rt, thenS_err, thenS_bk, thenS_ct, oListD_ap, iterD_list, iterD_tuple, isi_ap, add_ii, sub_ii, neg_i, lt_ii, gt_ii, le_ii, ge_ii, int1_i, isNone_none, notNone_none, outR_nx, outR_rt, outR_err, List.length_cons, List.length_nil, if_true, zl0, zl1, zl2, zl3, zl4, zl5, zl6, zl7, zl8, zl9, zl10, zl11, zl12, zl13, ql1, ql2, ql3, ql4, ql5, Bool.not_true, Bool.not_false, gN_ap, gT_tuple, gsCons_ap, gsNil_ap, PD.len_tuple, PD.len_list, tuple1_list, tuple1_tuple, list1_list, list1_tuple, rev_list, rev_tuple]
    · exact Nat.le_of_lt (Nat.lt_of_le_of_lt hl (by decide))
    · intro x hx
      obtain ⟨c1, c2⟩ := hw.c x hx
      have w1 : m_is_whole [.int x, .int (1 - (n : Int)), .int ((n : Int) - 1)] = .ok (.bool true) := by
        rw [e_whole, decide_eq_true (by omega), decide_eq_true (by omega)]
        rfl
      have n1 : neD (.int x) (.int 0) = .ok (.bool true) := by rw [int_ne, decide_eq_false (by omega)]; rfl
      refine ⟨_, gN_ap .., ?_⟩
      rw [show (wipeE [Sl.d (.int (n : Nat)), .d (.tuple (w.map .int)), .un] [2]).set 2 (.d (.int x)) = [.d (.int (n : Nat)), .d (.tuple (w.map .int)), .d (.int x)] from rfl]
      simp only [seqS_ap, setS_ap, setLS_ap, asgS_ap, ifS_ap, forS_ap, itE_ap, argI_ap, callE_ap, callB_ap, consA_ap, nilA_ap, op2_ap, op1_ap, tvE_ap, andT_ap, orT_ap, notT_ap, andE_ap, orE_ap, notE_ap, ifE_ap, chainE_ap, slE_ap, pAt_ap, pNo_ap, intD_ap, vE_ap, vB_ap, cE_ap, tupE_ap, lstE_ap, retS_ap, retNS_ap, nxS_ap, errS_ap, dropS_ap, frzS_ap, appS_ap, getLo_ap, augS_ap, List.getElem?_cons_zero, List.getElem?_cons_succ, ofS_d, ofB_d, ofB_lo, ofL_lo, ofF_lo, ofF_d, bind_ok, bind_err, boolD_ap, iteR_t, iteR_f, iteR_err, kT_ap, List.set_cons_succ, List.set_cons_zero, thenS_nx, thenS_rt, thenS_err, thenS_bk, thenS_ct, oListD_ap, iterD_list, iterD_tuple, isi_ap, add_ii, sub_ii, neg_i, lt_ii, gt_ii, le_ii, ge_ii, int1_i, isNone_none, notNone_none, outR_nx, outR_rt, outR_err, List.length_cons, List.length_nil, if_true, zl0, zl1, zl2, zl3, zl4, zl5, zl6, zl7, zl8, zl9, zl10, zl11, zl12, zl13, ql1, ql2, ql3, ql4, ql5, Bool.not_true, Bool.not_false, gN_ap, gT_tuple, gsCons_ap, gsNil_ap, PD.len_tuple, PD.len_list, tuple1_list, tuple1_tuple, list1_list, list1_tuple, rev_list, rev_tuple, w1, n1]
  have al : allD [.list (w.map fun _ => PyData.bool true)] = .ok (.bool true) := by
    have := all_f (fun _ : Int => true) w
    rw [this, show w.all (fun _ => true) = true from List.all_eq_true.mpr fun _ _ => rfl]
  unfold m_is_word
  rw [runB_ap]
  unfold b_is_word
  rw [show (List.map Sl.d [PyData.int (n : Nat), .tuple (w.map .int)] ++ List.replicate (3 - [PyData.int (n : Nat), .tuple (w.map .int)].length) Sl.un) = [.d (.int (n : Nat)), .d (.tuple (w.map .int)), .un] from rfl]
  simp only [seqS_ap, setS_ap, setLS_ap, asgS_ap, ifS_ap, forS_ap, itE_ap, argI_ap, callE_ap, callB_ap, consA_ap, nilA_ap, op2_ap, op1_ap, tvE_ap, andT_ap, orT_ap, notT_ap, andE_ap, orE_ap, notE_ap, ifE_ap, chainE_ap, slE_ap, pAt_ap, pNo_ap, intD_ap, vE_ap, vB_ap, cE_ap, tupE_ap, lstE_ap, retS_ap, retNS_ap, nxS_ap, errS_ap, dropS_ap, frzS_ap, appS_ap, getLo_ap, augS_ap, List.getElem?_cons_zero, List.getElem?_cons_succ, ofS_d, ofB_d, ofB_lo, ofL_lo, ofF_lo, ofF_d, bind_ok, bind_err, boolD_ap, iteR_t, iteR_f, iteR_err, kT_ap, List.set_cons_succ, List.set_cons_zero, thenS_nx, thenS_rt, thenS_err, thenS_bk, thenS_ct, oListD_ap, iterD_list, iterD_tuple, isi_ap, add_ii, sub_ii, neg_i, lt_ii, gt_ii, le_ii, ge_ii, int1_i, isNone_none, notNone_none, outR_nx, outR_rt, outR_err, List.length_cons, List.length_nil, if_true, zl0, zl1, zl2, zl3, zl4, zl5, zl6, zl7, zl8, zl9, zl10, zl11, zl12, zl13, ql1, ql2, ql3, ql4, ql5, Bool.not_true, Bool.not_false, gN_ap, gT_tuple, gsCons_ap, gsNil_ap, PD.len_tuple, PD.len_list, tuple1_list, tuple1_tuple, list1_list, list1_tuple, rev_list, rev_tuple, i1, l1, g1, l2, al]
theorem e_check_word {n : Nat} (h2 : 2 ≤ n) (h6 : n ≤ 6) {w : List Int} (hw : Wd n w) : m_check_word [.int (n : Nat), .tuple (w.map .int)] = .ok .none := by
  have c1 := e_check_strands h2 h6
  have c2 := e_is_word hw
  unfold m_check_word
  rw [runB_ap]
  unfold b_check_word
  rw [show (List.map Sl.d [PyData.int (n : Nat), .tuple (w.map .int)] ++ List.replicate (2 - [PyData.int (n : Nat), .tuple (w.map .int)].length) Sl.un) = [.d (.int (n : Nat)), .d (.tuple (w.map .int))] from rfl]
  simp only [seqS_ap, setS_ap, setLS_ap, asgS_ap, ifS_ap, forS_ap, itE_ap, argI_ap, callE_ap, callB_ap, consA_ap, nilA_ap, op2_ap, op1_ap, tvE_ap, andT_ap, orT_ap, notT_ap, andE_ap, orE_ap, notE_ap, ifE_ap, chainE_ap, slE_ap, pAt_ap, pNo_ap, intD_ap, vE_ap, vB_ap, cE_ap, tupE_ap, lstE_ap, retS_ap, retNS_ap, nxS_ap, errS_ap, dropS_ap, frzS_ap, appS_ap, getLo_ap, augS_ap, List.getElem?_cons_zero, List.getElem?_cons_succ, ofS_d, ofB_d, ofB_lo, ofL_lo, ofF_lo, ofF_d, bind_ok, bind_err, boolD_ap, iteR_t, iteR_f, iteR_err, kT_ap, List.set_cons_succ, List.set_cons_zero, thenS_nx, thenS_rt, thenS_err, thenS_bk, thenS_ct, oListD_ap, iterD_list, iterD_tuple, isi_ap, add_ii, sub_ii, neg_i, lt_ii, gt_ii, le_ii, ge_ii, int1_i, isNone_none, notNone_none, outR_nx, outR_rt, outR_err, List.length_cons, List.length_nil, if_true, zl0, zl1, zl2, zl3, zl4, zl5, zl6, zl7, zl8, zl9, zl10, zl11, zl12, zl13, ql1, ql2, ql3, ql4, ql5, Bool.not_true, Bool.not_false, gN_ap, gT_tuple, gsCons_ap, gsNil_ap, PD.len_tuple, PD.len_list, tuple1_list, tuple1_tuple, list1_list, list1_tuple, rev_list, rev_tuple, c1, c2]
theorem e_ends_of {n : Nat} (h2 : 2 ≤ n) (h6 : n ≤ 6) {w : List Int} (hw : Wd n w) : m_ends_of [.int (n : Nat), .tuple (w.map .int)] = .ok (.tuple (encN (endsL n w))) := by
  have c1 := e_check_word h2 h6 hw
  have c2 := e_ends_in h6 hw.c hw.l
  unfold m_ends_of
  rw [runB_ap]
  unfold b_ends_of
  rw [show (List.map Sl.d [PyData.int (n : Nat), .tuple (w.map .int)] ++ List.replicate (2 - [PyData.int (n : Nat), .tuple (w.map .int)].length) Sl.un) = [.d (.int (n : Nat)), .d (.tuple (w.map .int))] from rfl]
  simp only [seqS_ap, setS_ap, setLS_ap, asgS_ap, ifS_ap, forS_ap, itE_ap, argI_ap, callE_ap, callB_ap, consA_ap, nilA_ap, op2_ap, op1_ap, tvE_ap, andT_ap, orT_ap, notT_ap, andE_ap, orE_ap, notE_ap, ifE_ap, chainE_ap, slE_ap, pAt_ap, pNo_ap, intD_ap, vE_ap, vB_ap, cE_ap, tupE_ap, lstE_ap, retS_ap, retNS_ap, nxS_ap, errS_ap, dropS_ap, frzS_ap, appS_ap, getLo_ap, augS_ap, List.getElem?_cons_zero, List.getElem?_cons_succ, ofS_d, ofB_d, ofB_lo, ofL_lo, ofF_lo, ofF_d, bind_ok, bind_err, boolD_ap, iteR_t, iteR_f, iteR_err, kT_ap, List.set_cons_succ, List.set_cons_zero, thenS_nx, thenS_rt, thenS_err, thenS_bk, thenS_ct, oListD_ap, iterD_list, iterD_tuple, isi_ap, add_ii, sub_ii, neg_i, lt_ii, gt_ii, le_ii, ge_ii, int1_i, isNone_none, notNone_none, outR_nx, outR_rt, outR_err, List.length_cons, List.length_nil, if_true, zl0, zl1, zl2, zl3, zl4, zl5, zl6, zl7, zl8, zl9, zl10, zl11, zl12, zl13, ql1, ql2, ql3, ql4, ql5, Bool.not_true, Bool.not_false, gN_ap, gT_tuple, gsCons_ap, gsNil_ap, PD.len_tuple, PD.len_list, tuple1_list, tuple1_tuple, list1_list, list1_tuple, rev_list, rev_tuple, c1, c2]
/-! ## the law follows each strand by itself -/
end G
namespace G
open PySem PySem.Spec PyProof.Rows L2 PD PySem.W
theorem follow_step (h : Nat) (one : Int) (s0 s1 s2 s3 x5 x6 : Sl) : (gN 5 (.int one) [s0, s1, s2, s3, .d (.int (h : Nat)), x5, x6]).bind w1__law_ends = .ok (.nx [s0, s1, s2, s3, .d (.int (fol h one : Nat)), .d (.int one), .d (.int (one.natAbs : Nat))]) := by
  have m1 : maxD [.int one, .int (0 - one)] = .ok (.int (one.natAbs : Nat)) := by
    rw [max_ii]
    exact congrArg (fun z => R.ok (PyData.int z)) (by omega)
  have q1 := int_eq (h : Nat) (one.natAbs : Nat)
  have q2 := int_eq (h : Nat) ((one.natAbs : Nat) + 1)
  rw [gN_ap, bind_ok]
  unfold w1__law_ends fol
  by_cases c1 : h = one.natAbs
  · rw [decide_eq_true (by omega)] at q1
    rw [if_pos c1]
    simp only [seqS_ap, setS_ap, setLS_ap, asgS_ap, ifS_ap, forS_ap, itE_ap, argI_ap, callE_ap, callB_ap, consA_ap, nilA_ap, op2_ap, op1_ap, tvE_ap, andT_ap, orT_ap, notT_ap, andE_ap, orE_ap, notE_ap, ifE_ap, chainE_ap, slE_ap, pAt_ap, pNo_ap, intD_ap, vE_ap, vB_ap, cE_ap, tupE_ap, lstE_ap, retS_ap, retNS_ap, nxS_ap, errS_ap, dropS_ap, frzS_ap, appS_ap, getLo_ap, augS_ap, List.getElem?_cons_zero, List.getElem?_cons_succ, ofS_d, ofB_d, ofB_lo, ofL_lo, ofF_lo, ofF_d, bind_ok, bind_err, boolD_ap, iteR_t, iteR_f, iteR_err, kT_ap, List.set_cons_succ, List.set_cons_zero, thenS_nx, thenS_rt, thenS_err, thenS_bk, thenS_ct, oListD_ap, iterD_list, iterD_tuple, isi_ap, add_ii, sub_ii, neg_i, lt_ii, gt_ii, le_ii, ge_ii, int1_i, isNone_none, notNone_none, outR_nx, outR_rt, outR_err, List.length_cons, List.length_nil, if_true, zl0, zl1, zl2, zl3, zl4, zl5, zl6, zl7, zl8, zl9, zl10, zl11, zl12, zl13, ql1, ql2, ql3, ql4, ql5, Bool.not_true, Bool.not_false, gN_ap, gT_tuple, gsCons_ap, gsNil_ap, PD.len_tuple, PD.len_list, tuple1_list, tuple1_tuple, list1_list, list1_tuple, rev_list, rev_tuple, m1, q1]
    rfl
  · rw [decide_eq_false (by omega)] at q1
    rw [if_neg c1]
    by_cases c2 : h = one.natAbs + 1
    · rw [decide_eq_true (by omega)] at q2
      rw [if_pos c2]
      simp only [seqS_ap, setS_ap, setLS_ap, asgS_ap, ifS_ap, forS_ap, itE_ap, argI_ap, callE_ap, callB_ap, consA_ap, nilA_ap, op2_ap, op1_ap, tvE_ap, andT_ap, orT_ap, notT_ap, andE_ap, orE_ap, notE_ap, ifE_ap, chainE_ap, slE_ap, pAt_ap, pNo_ap, intD_ap, vE_ap, vB_ap, cE_ap, tupE_ap, lstE_ap, retS_ap, retNS_ap, nxS_ap, errS_ap, dropS_ap, frzS_ap, appS_ap, getLo_ap, augS_ap, List.getElem?_cons_zero, List.getElem?_cons_succ, ofS_d, ofB_d, ofB_lo, ofL_lo, ofF_lo, ofF_d, bind_ok, bind_err, boolD_ap, iteR_t, iteR_f, iteR_err, kT_ap, List.set_cons_succ, List.set_cons_zero, thenS_nx, thenS_rt, thenS_err, thenS_bk, thenS_ct, oListD_ap, iterD_list, iterD_tuple, isi_ap, add_ii, sub_ii, neg_i, lt_ii, gt_ii, le_ii, ge_ii, int1_i, isNone_none, notNone_none, outR_nx, outR_rt, outR_err, List.length_cons, List.length_nil, if_true, zl0, zl1, zl2, zl3, zl4, zl5, zl6, zl7, zl8, zl9, zl10, zl11, zl12, zl13, ql1, ql2, ql3, ql4, ql5, Bool.not_true, Bool.not_false, gN_ap, gT_tuple, gsCons_ap, gsNil_ap, PD.len_tuple, PD.len_list, tuple1_list, tuple1_tuple, list1_list, list1_tuple, rev_list, rev_tuple, m1, q1, q2]
    · rw [decide_eq_false (by omega)] at q2
      rw [if_neg c2]
      simp only [seqS_ap, setS_ap, setLS_ap, asgS_ap, ifS_ap, forS_ap, itE_ap, argI_ap, callE_ap, callB_ap, consA_ap, nilA_ap, op2_ap, op1_ap, tvE_ap, andT_ap, orT_ap, notT_ap, andE_ap, orE_ap, notE_ap, ifE_ap, chainE_ap, slE_ap, pAt_ap, pNo_ap, intD_ap, vE_ap, vB_ap, cE_ap, tupE_ap, lstE_ap, retS_ap, retNS_ap, nxS_ap, errS_ap, dropS_ap, frzS_ap, appS_ap, getLo_ap, augS_ap, List.getElem?_cons_zero, List.getElem?_cons_succ, ofS_d, ofB_d, ofB_lo, ofL_lo, ofF_lo, ofF_d, bind_ok, bind_err, boolD_ap, iteR_t, iteR_f, iteR_err, kT_ap, List.set_cons_succ, List.set_cons_zero, thenS_nx, thenS_rt, thenS_err, thenS_bk, thenS_ct, oListD_ap, iterD_list, iterD_tuple, isi_ap, add_ii, sub_ii, neg_i, lt_ii, gt_ii, le_ii, ge_ii, int1_i, isNone_none, notNone_none, outR_nx, outR_rt, outR_err, List.length_cons, List.length_nil, if_true, zl0, zl1, zl2, zl3, zl4, zl5, zl6, zl7, zl8, zl9, zl10, zl11, zl12, zl13, ql1, ql2, ql3, ql4, ql5, Bool.not_true, Bool.not_false, gN_ap, gT_tuple, gsCons_ap, gsNil_ap, PD.len_tuple, PD.len_list, tuple1_list, tuple1_tuple, list1_list, list1_tuple, rev_list, rev_tuple, m1, q1, q2]
theorem follow (s0 s1 s2 s3 : Sl) : ∀ (w : List Int) (h : Nat) (x5 x6 : Sl), ∃ y5 y6, forG (gN 5) w1__law_ends (w.map .int) [s0, s1, s2, s3, .d (.int (h : Nat)), x5, x6] = .ok (.nx [s0, s1, s2, s3, .d (.int (endN w h : Nat)), y5, y6])
  | [], h, x5, x6 => ⟨x5, x6, rfl⟩
  | x :: w, h, x5, x6 => by
    obtain ⟨y5, y6, e⟩ := follow s0 s1 s2 s3 w (fol h x) (.d (.int x)) (.d (.int (x.natAbs : Nat)))
    exact ⟨y5, y6, by rw [List.map_cons, forG_nx (follow_step h x s0 s1 s2 s3 x5 x6), e]; rfl⟩
theorem ends_loop (w : List Int) (s0 : Sl) : ∀ (ss : List Nat) (rs : List Nat) (x3 x4 x5 x6 : Sl), rs.length + ss.length < 100 → ∃ y3 y4 y5 y6, forG (gN 3) w2__law_ends (ss.map fun k : Nat => PyData.int (k : Nat)) [s0, .d (.tuple (w.map .int)), .lo (encN rs), x3, x4, x5, x6] = .ok (.nx [s0, .d (.tuple (w.map .int)), .lo (encN (rs ++ ss.map (endN w))), y3, y4, y5, y6])
  | [], rs, x3, x4, x5, x6, _ => ⟨x3, x4, x5, x6, by rw [List.map_nil, List.map_nil, List.append_nil]; rfl⟩
  | s :: ss, rs, x3, x4, x5, x6, hl => by
    have hl' : rs.length + (ss.length + 1) < 100 := hl
    obtain ⟨y5, y6, e⟩ := follow s0 (.d (.tuple (w.map .int))) (.lo (encN rs)) (.d (.int (s : Nat))) w s x5 x6
    have st : (gN 3 (.int (s : Nat)) [s0, .d (.tuple (w.map .int)), .lo (encN rs), x3, x4, x5, x6]).bind w2__law_ends = .ok (.nx [s0, .d (.tuple (w.map .int)), .lo (encN (rs ++ [endN w s])), .d (.int (s : Nat)), .d (.int (endN w s : Nat)), y5, y6]) := by
      have hlen : (encN rs).length < SZ := by rw [encN_len]; exact Nat.lt_of_lt_of_le (show rs.length < 100 by omega) (by decide)
      rw [gN_ap, bind_ok]
      unfold w2__law_ends
      simp only [seqS_ap, setS_ap, setLS_ap, asgS_ap, ifS_ap, forS_ap, itE_ap, argI_ap, callE_ap, callB_ap, consA_ap, nilA_ap, op2_ap, op1_ap, tvE_ap, andT_ap, orT_ap, notT_ap, andE_ap, orE_ap, notE_ap, ifE_ap, chainE_ap, slE_ap, pAt_ap, pNo_ap, intD_ap, vE_ap, vB_ap, cE_ap, tupE_ap, lstE_ap, retS_ap, retNS_ap, nxS_ap, errS_ap, dropS_ap, frzS_ap, appS_ap, getLo_ap, augS_ap, List.getElem?_cons_zero, List.getElem?_cons_succ, ofS_d, ofB_d, ofB_lo, ofL_lo, ofF_lo, ofF_d, bind_ok, bind_err, boolD_ap, iteR_t, iteR_f, iteR_err, kT_ap, List.set_cons_succ, List.set_cons_zero, thenS_nx, thenS_rt, thenS_err, thenS_bk, thenS_ct, oListD_ap, iterD_list, iterD_tuple, isi_ap, add_ii, sub_ii, neg_i, lt_ii, gt_ii, le_ii, ge_ii, int1_i, isNone_none, notNone_none, outR_nx, outR_rt, outR_err, List.length_cons, List.length_nil, if_true, zl0, zl1, zl2, zl3, zl4, zl5, zl6, zl7, zl8, zl9, zl10, zl11, zl12, zl13, ql1, ql2, ql3, ql4, ql5, Bool.not_true, Bool.not_false, gN_ap, gT_tuple, gsCons_ap, gsNil_ap, PD.len_tuple, PD.len_list, tuple1_list, tuple1_tuple, list1_list, list1_tuple, rev_list, rev_tuple, e, if_pos hlen]
      unfold encN
      rw [List.map_append]
      rfl
    obtain ⟨z3, z4, z5, z6, e2⟩ := ends_loop w s0 ss (rs ++ [endN w s]) (.d (.int (s : Nat))) (.d (.int (endN w s : Nat))) y5 y6 (by rw [List.length_append]; show rs.length + 1 + ss.length < 100; omega)
    refine ⟨z3, z4, z5, z6, ?_⟩
    rw [List.map_cons, forG_nx st, e2, List.map_cons, List.append_assoc]
    rfl
theorem r2_row {n : Nat} (hn : n ≤ 6) : range2D [.int 1, .int ((n : Int) + 1)] = .ok ((row0 n).map fun k : Nat => PyData.int (k : Nat)) := by
  have := range2N (a := 1) (n := n + 1) (by decide) (by omega)
  rw [show ((n + 1 : Nat) : Int) = (n : Int) + 1 by omega] at this
  refine this.trans (congrArg R.ok ?_)
  unfold row0
  rw [List.map_map]
  refine List.map_congr_left fun k _ => ?_
  show PyData.int ((1 + k : Nat) : Int) = .int ((k + 1 : Nat) : Int)
  rw [Nat.add_comm]
theorem e_law_ends {n : Nat} (hn : n ≤ 6) (w : List Int) : m__law_ends [.int (n : Nat), .tuple (w.map .int)] = .ok (.tuple (encN (endsL n w))) := by
  obtain ⟨y3, y4, y5, y6, e⟩ := ends_loop w (.d (.int (n : Nat))) (row0 n) [] .un .un .un .un (by rw [row0_len]; show 0 + n < 100; omega)
  have r2 := r2_row hn
  unfold m__law_ends
  rw [runB_ap]
  unfold b__law_ends
  rw [show (List.map Sl.d [PyData.int (n : Nat), .tuple (w.map .int)] ++ List.replicate (7 - [PyData.int (n : Nat), .tuple (w.map .int)].length) Sl.un) = [.d (.int (n : Nat)), .d (.tuple (w.map .int)), .un, .un, .un, .un, .un] from rfl]
  simp only [seqS_ap, setS_ap, setLS_ap, asgS_ap, ifS_ap, forS_ap, itE_ap, argI_ap, callE_ap, callB_ap, consA_ap, nilA_ap, op2_ap, op1_ap, tvE_ap, andT_ap, orT_ap, notT_ap, andE_ap, orE_ap, notE_ap, ifE_ap, chainE_ap, slE_ap, pAt_ap, pNo_ap, intD_ap, vE_ap, vB_ap, cE_ap, tupE_ap, lstE_ap, retS_ap, retNS_ap, nxS_ap, errS_ap, dropS_ap, frzS_ap, appS_ap, getLo_ap, augS_ap, List.getElem?_cons_zero, List.getElem?_cons_succ, ofS_d, ofB_d, ofB_lo, ofL_lo, ofF_lo, ofF_d, bind_ok, bind_err, boolD_ap, iteR_t, iteR_f, iteR_err, kT_ap, List.set_cons_succ, List.set_cons_zero, thenS_nx, thenS_rt, thenS_err, thenS_bk, thenS_ct, oListD_ap, iterD_list, iterD_tuple, isi_ap, add_ii, sub_ii, neg_i, lt_ii, gt_ii, le_ii, ge_ii, int1_i, isNone_none, notNone_none, outR_nx, outR_rt, outR_err, List.length_cons, List.length_nil, if_true, zl0, zl1, zl2, zl3, zl4, zl5, zl6, zl7, zl8, zl9, zl10, zl11, zl12, zl13, ql1, ql2, ql3, ql4, ql5, Bool.not_true, Bool.not_false, gN_ap, gT_tuple, gsCons_ap, gsNil_ap, PD.len_tuple, PD.len_list, tuple1_list, tuple1_tuple, list1_list, list1_tuple, rev_list, rev_tuple, r2]
  rw [show ([] : List PyData) = encN [] from rfl, e]
  simp only [seqS_ap, setS_ap, setLS_ap, asgS_ap, ifS_ap, forS_ap, itE_ap, argI_ap, callE_ap, callB_ap, consA_ap, nilA_ap, op2_ap, op1_ap, tvE_ap, andT_ap, orT_ap, notT_ap, andE_ap, orE_ap, notE_ap, ifE_ap, chainE_ap, slE_ap, pAt_ap, pNo_ap, intD_ap, vE_ap, vB_ap, cE_ap, tupE_ap, lstE_ap, retS_ap, retNS_ap, nxS_ap, errS_ap, dropS_ap, frzS_ap, appS_ap, getLo_ap, augS_ap, List.getElem?_cons_zero, List.getElem?_cons_succ, ofS_d, ofB_d, ofB_lo, ofL_lo, ofF_lo, ofF_d, bind_ok, bind_err, boolD_ap, iteR_t, iteR_f, iteR_err, kT_ap, List.set_cons_succ, List.set_cons_zero, thenS_nx, thenS_rt, thenS_err, thenS_bk, thenS_ct, oListD_ap, iterD_list, iterD_tuple, isi_ap, add_ii, sub_ii, neg_i, lt_ii, gt_ii, le_ii, ge_ii, int1_i, isNone_none, notNone_none, outR_nx, outR_rt, outR_err, List.length_cons, List.length_nil, if_true, zl0, zl1, zl2, zl3, zl4, zl5, zl6, zl7, zl8, zl9, zl10, zl11, zl12, zl13, ql1, ql2, ql3, ql4, ql5, Bool.not_true, Bool.not_false, gN_ap, gT_tuple, gsCons_ap, gsNil_ap, PD.len_tuple, PD.len_list, tuple1_list, tuple1_tuple, list1_list, list1_tuple, rev_list, rev_tuple]
  rfl
/-! ## again and again -/
def iterN (w : List Int) : Nat → Nat → Nat
  | 0, s => s
  | k + 1, s => endN w (iterN w k s)
def here (n : Nat) (w : List Int) (k : Nat) : List Nat := (row0 n).map (iterN w k)
theorem iterN_rng {n : Nat} {w : List Int} (hw : ∀ x ∈ w, Cr n x) {s : Nat} (h1 : 1 ≤ s) (h2 : s ≤ n) : ∀ k, 1 ≤ iterN w k s ∧ iterN w k s ≤ n
  | 0 => ⟨h1, h2⟩
  | k + 1 => by
    have := iterN_rng hw h1 h2 k
    exact endN_rng hw this.1 this.2
theorem row0_mem {n s : Nat} : s ∈ row0 n ↔ 1 ≤ s ∧ s ≤ n := by
  unfold row0
  constructor
  · intro h
    obtain ⟨k, hk, rfl⟩ := List.mem_map.mp h
    have := List.mem_range.mp hk
    omega
  · intro h
    exact List.mem_map.mpr ⟨s - 1, List.mem_range.mpr (by omega), by omega⟩
theorem row0_at {n s : Nat} (h1 : 1 ≤ s) (h2 : s ≤ n) : (row0 n)[s - 1]? = some s := ((rw0 n).at' (s - 1) s).mpr ⟨h1, h2, by omega⟩
theorem endsL_at {n : Nat} {w : List Int} {s : Nat} (h1 : 1 ≤ s) (h2 : s ≤ n) : (endsL n w)[s - 1]? = some (endN w s) := by
  unfold endsL
  rw [List.getElem?_map, row0_at h1 h2]
  rfl
theorem endN_app (w v : List Int) (s : Nat) : endN (w ++ v) s = endN v (endN w s) := List.foldl_append
/-- a word again and again -/
def rep (w : List Int) : Nat → List Int
  | 0 => []
  | k + 1 => rep w k ++ w
theorem endN_rep (w : List Int) (k s : Nat) : endN (rep w k) s = iterN w k s := by
  induction k with
  | zero => rfl
  | succ k ih =>
    show endN (rep w k ++ w) s = endN w (iterN w k s)
    rw [endN_app, ih]
theorem endsL_rep (n : Nat) (w : List Int) (k : Nat) : endsL n (rep w k) = here n w k := List.map_congr_left fun s _ => endN_rep w k s
end G
namespace G
open PySem PySem.Spec PyProof.Rows L2 PD PySem.W
theorem nd_le : ∀ (m : Nat) (l : List Nat), l.Nodup → (∀ x ∈ l, 1 ≤ x ∧ x ≤ m) → l.length ≤ m
  | 0, l, _, h => by
    cases l with
    | nil => exact Nat.le_refl _
    | cons x l => have := h x (by simp); omega
  | m + 1, l, hn, h => by
    have h1 : (l.erase (m + 1)).length ≤ m := nd_le m _ (hn.erase _) fun x hx => by
      have h2 := (List.Nodup.mem_erase_iff hn).mp hx
      have h3 := h x h2.2
      have := h2.1
      omega
    have h4 : l.length ≤ (l.erase (m + 1)).length + 1 := by
      by_cases hm : m + 1 ∈ l
      · rw [List.length_erase_of_mem hm]; omega
      · rw [List.erase_of_not_mem hm]; omega
    omega
theorem iterN_inj {w : List Int} : ∀ (k : Nat) {s t : Nat}, iterN w k s = iterN w k t → s = t
  | 0, _, _, h => h
  | k + 1, _, _, h => iterN_inj k (endN_inj h)
theorem iterN_add (w : List Int) (a b s : Nat) : iterN w (a + b) s = iterN w a (iterN w b s) := by
  induction a with
  | zero => rw [Nat.zero_add]; rfl
  | succ a ih =>
    rw [show a + 1 + b = (a + b) + 1 by omega]
    show endN w (iterN w (a + b) s) = endN w (iterN w a (iterN w b s))
    rw [ih]
theorem iterN_mul {w : List Int} {d s : Nat} (h : iterN w d s = s) : ∀ m, iterN w (d * m) s = s
  | 0 => rfl
  | m + 1 => by rw [Nat.mul_succ, iterN_add, h, iterN_mul h m]
theorem orbit {n : Nat} {w : List Int} (hw : ∀ x ∈ w, Cr n x) {s : Nat} (h1 : 1 ≤ s) (h2 : s ≤ n) : ∃ d, 1 ≤ d ∧ d ≤ n ∧ iterN w d s = s := by
  refine Classical.byContradiction fun hno => ?_
  have hne : ∀ d, 1 ≤ d → d ≤ n → iterN w d s ≠ s := fun d a b e => hno ⟨d, a, b, e⟩
  have hnd : ((List.range (n + 1)).map fun k => iterN w k s).Nodup := by
    refine List.pairwise_map.mpr ((List.pairwise_lt_range (n := n + 1)).imp_of_mem fun {i j} hi hj hij e => ?_)
    have hj' := List.mem_range.mp hj
    have e2 : iterN w i (iterN w (j - i) s) = iterN w i s := by rw [← iterN_add, show i + (j - i) = j by omega, ← e]
    exact hne (j - i) (by omega) (by omega) (iterN_inj i e2)
  have := nd_le n _ hnd fun x hx => by
    obtain ⟨k, _, rfl⟩ := List.mem_map.mp hx
    exact iterN_rng hw h1 h2 k
  rw [List.length_map, List.length_range] at this
  omega
theorem home60 {n : Nat} (hn : n ≤ 6) {w : List Int} (hw : ∀ x ∈ w, Cr n x) {s : Nat} (h1 : 1 ≤ s) (h2 : s ≤ n) : iterN w 60 s = s := by
  obtain ⟨d, a, b, e⟩ := orbit hw h1 h2
  have hd : d * (60 / d) = 60 := by
    have : d = 1 ∨ d = 2 ∨ d = 3 ∨ d = 4 ∨ d = 5 ∨ d = 6 := by omega
    rcases this with rfl | rfl | rfl | rfl | rfl | rfl <;> decide
  rw [← hd]
  exact iterN_mul e _
theorem here60 {n : Nat} (hn : n ≤ 6) {w : List Int} (hw : ∀ x ∈ w, Cr n x) : here n w 60 = row0 n := by
  unfold here
  have : (row0 n).map (iterN w 60) = (row0 n).map fun s => s := List.map_congr_left fun s hs => by
    have := row0_mem.mp hs
    exact home60 hn hw this.1 this.2
  rw [this, List.map_id']
theorem least_k {P : Nat → Prop} : ∀ (m : Nat), 1 ≤ m → P m → ∃ k, 1 ≤ k ∧ k ≤ m ∧ P k ∧ ∀ j, 1 ≤ j → j < k → ¬ P j
  | m, h1, hP => by
    induction m using Nat.strongRecOn with
    | _ m ih =>
      by_cases c : ∃ j, 1 ≤ j ∧ j < m ∧ P j
      · obtain ⟨j, a, b, hj⟩ := c
        obtain ⟨k, k1, k2, k3, k4⟩ := ih j b a hj
        exact ⟨k, k1, by omega, k3, k4⟩
      · exact ⟨m, h1, Nat.le_refl _, hP, fun j a b hj => c ⟨j, a, b, hj⟩⟩
theorem kap {n : Nat} (hn : n ≤ 6) {w : List Int} (hw : ∀ x ∈ w, Cr n x) : ∃ k, 1 ≤ k ∧ k ≤ 60 ∧ here n w k = row0 n ∧ ∀ j, 1 ≤ j → j < k → here n w j ≠ row0 n :=
  least_k (P := fun k => here n w k = row0 n) 60 (by decide) (here60 hn hw)
theorem row0_pw (n : Nat) : (row0 n).Pairwise (· < ·) := List.pairwise_map.mpr ((List.pairwise_lt_range (n := n)).imp fun h => by omega)
theorem here_nd (n : Nat) (w : List Int) (k : Nat) : (here n w k).Nodup := List.pairwise_map.mpr ((row0_pw n).imp fun h e => by have := iterN_inj k e; omega)
theorem here_perm {n : Nat} (hn : n ≤ 6) {w : List Int} (hw : ∀ x ∈ w, Cr n x) (k : Nat) : (row0 n).Perm (here n w k) := by
  refine (List.perm_ext_iff_of_nodup ((row0_pw n).imp fun h => by omega) (here_nd n w k)).mpr fun s => ?_
  rw [row0_mem]
  unfold here
  constructor
  · intro h
    refine List.mem_map.mpr ⟨iterN w (59 * k) s, row0_mem.mpr (iterN_rng hw h.1 h.2 _), ?_⟩
    rw [← iterN_add, show k + 59 * k = 60 * k by omega]
    exact iterN_mul (home60 hn hw h.1 h.2) k
  · intro h
    obtain ⟨t, ht, rfl⟩ := List.mem_map.mp h
    have := row0_mem.mp ht
    exact iterN_rng hw this.1 this.2 k
theorem sort_here {n : Nat} (hn : n ≤ 6) {w : List Int} (hw : ∀ x ∈ w, Cr n x) (k : Nat) : sortedD [.tuple (encN (here n w k))] = .ok (.list (encN (row0 n))) := by
  have := srt_int
  have e := sortT_t (α := Int) (by decide) ((here n w k).map fun y : Nat => ((y : Nat) : Int)) (by rw [List.length_map]; unfold here; rw [List.length_map, row0_len]; exact Nat.le_of_lt (Nat.lt_of_le_of_lt hn (by decide)))
  have u : sortO ((here n w k).map fun y : Nat => ((y : Nat) : Int)) = (row0 n).map fun y : Nat => ((y : Nat) : Int) :=
    sortO_uniq ((here_perm hn hw k).map _) (List.pairwise_map.mpr ((row0_pw n).imp fun {a b} h => by
      show decide (((b : Nat) : Int) < ((a : Nat) : Int)) = false
      exact decide_eq_false (by omega)))
  rw [u, List.map_map, List.map_map] at e
  exact e
end G
namespace G
open PySem PySem.Spec PyProof.Rows L2 PD PySem.W
theorem enc_inj {a b : List Nat} (h : (a.map fun y : Nat => ((y : Nat) : Int)) = b.map fun y : Nat => ((y : Nat) : Int)) : a = b := by
  induction a generalizing b with
  | nil => cases b with
    | nil => rfl
    | cons y b => cases h
  | cons x a ih => cases b with
    | nil => cases h
    | cons y b =>
      rw [List.map_cons, List.map_cons] at h
      injection h with h1 h2
      rw [show x = y by omega, ih h2]
theorem ne_rows (a b : List Nat) : neD (.list (encN a)) (.list (encN b)) = .ok (.bool (!decide (a = b))) := by
  have := ne_t (α := List Int) (by decide) (a.map fun y : Nat => ((y : Nat) : Int)) (b.map fun y : Nat => ((y : Nat) : Int))
  have e : ∀ l : List Nat, (Datum.toD (l.map fun y : Nat => ((y : Nat) : Int)) : PyData) = .list (encN l) := fun l => congrArg PyData.list (by rw [List.map_map]; rfl)
  rw [e, e] at this
  rw [this]
  exact congrArg (fun c => R.ok (PyData.bool (!c))) (decide_eq_decide.mpr ⟨enc_inj, fun h => by rw [h]⟩)
theorem ne_tups (a b : List Nat) : neD (.tuple (encN a)) (.tuple (encN b)) = .ok (.bool (!decide (a = b))) := by
  have := ne_t (α := Tup Int) (by decide) ⟨a.map fun y : Nat => ((y : Nat) : Int)⟩ ⟨b.map fun y : Nat => ((y : Nat) : Int)⟩
  have e : ∀ l : List Nat, (Datum.toD (Tup.mk (l.map fun y : Nat => ((y : Nat) : Int))) : PyData) = .tuple (encN l) := fun l => congrArg PyData.tuple (by rw [List.map_map]; rfl)
  rw [e, e] at this
  rw [this]
  exact congrArg (fun c => R.ok (PyData.bool (!c))) (decide_eq_decide.mpr ⟨fun h => enc_inj (Tup.mk.inj h), fun h => by rw [h]⟩)
theorem eq_tups (a b : List Nat) : eqD (.tuple (encN a)) (.tuple (encN b)) = .ok (.bool (decide (a = b))) := by
  have := eq_t (α := Tup Int) (by decide) ⟨a.map fun y : Nat => ((y : Nat) : Int)⟩ ⟨b.map fun y : Nat => ((y : Nat) : Int)⟩
  have e : ∀ l : List Nat, (Datum.toD (Tup.mk (l.map fun y : Nat => ((y : Nat) : Int))) : PyData) = .tuple (encN l) := fun l => congrArg PyData.tuple (by rw [List.map_map]; rfl)
  rw [e, e] at this
  rw [this]
  exact congrArg (fun c => R.ok (PyData.bool c)) (decide_eq_decide.mpr ⟨fun h => enc_inj (Tup.mk.inj h), fun h => by rw [h]⟩)
theorem here_succ (n : Nat) (w : List Int) (k : Nat) : here n w (k + 1) = (here n w k).map (endN w) := by
  unfold here
  rw [List.map_map]
  rfl
theorem here_len (n : Nat) (w : List Int) (k : Nat) : (here n w k).length = n := by unfold here; rw [List.length_map, row0_len]
theorem here_rng {n : Nat} {w : List Int} (hw : ∀ x ∈ w, Cr n x) {k s : Nat} (h : s ∈ here n w k) : 1 ≤ s ∧ s ≤ n := by
  unfold here at h
  obtain ⟨t, ht, rfl⟩ := List.mem_map.mp h
  have := row0_mem.mp ht
  exact iterN_rng hw this.1 this.2 k
theorem ends_ix {n : Nat} {w : List Int} {s : Nat} (h1 : 1 ≤ s) (h2 : s ≤ n) : ixD (.tuple (encN (endsL n w))) (.int (((s : Nat) : Int) - 1)) = .ok (.int (endN w s : Nat)) := by
  rw [show ((s : Nat) : Int) - 1 = ((s - 1 : Nat) : Int) by omega]
  refine ix_tuple ?_
  unfold encN
  rw [atN, List.getElem?_map, endsL_at h1 h2]
  rfl
theorem e_home {n : Nat} (h2 : 2 ≤ n) (h6 : n ≤ 6) {w : List Int} (hw : Wd n w) {κ : Nat} (k1 : 1 ≤ κ) (k60 : κ ≤ 60) (kh : here n w κ = row0 n) (kmin : ∀ j, 1 ≤ j → j < κ → here n w j ≠ row0 n) : m_rows_till_home [.int (n : Nat), .tuple (w.map .int)] = .ok (.int (κ : Nat)) := by
  have c1 := e_check_word h2 h6 hw
  have c2 := e_ends_in h6 hw.c hw.l
  obtain ⟨ρ', e1, x5, rfl⟩ := whileM_inv (c := t3_rows_till_home) (b := w2_rows_till_home)
    (I := fun m ρ => ∃ (k : Nat) (x5 : Sl), 1 ≤ k ∧ k ≤ κ ∧ m = κ - k ∧ ρ = [.d (.int (n : Nat)), .d (.tuple (w.map .int)), .d (.tuple (encN (endsL n w))), .d (.tuple (encN (here n w k))), .d (.int (k : Nat)), x5])
    (Q := fun ρ => ∃ x5 : Sl, ρ = [.d (.int (n : Nat)), .d (.tuple (w.map .int)), .d (.tuple (encN (endsL n w))), .d (.tuple (encN (here n w κ))), .d (.int (κ : Nat)), x5])
    (fun m ρ hI => by
      obtain ⟨k, x5, hk1, hk2, hm, rfl⟩ := hI
      have l1 : list1D [.tuple (encN (here n w k))] = .ok (.list (encN (here n w k))) := rfl
      have s1 := sort_here h6 hw.c k
      have n1 := ne_rows (here n w k) (row0 n)
      have ht : t3_rows_till_home [.d (.int (n : Nat)), .d (.tuple (w.map .int)), .d (.tuple (encN (endsL n w))), .d (.tuple (encN (here n w k))), .d (.int (k : Nat)), x5] = .ok (!decide (here n w k = row0 n)) := by
        unfold t3_rows_till_home
        simp only [seqS_ap, setS_ap, setLS_ap, asgS_ap, ifS_ap, forS_ap, itE_ap, argI_ap, callE_ap, callB_ap, consA_ap, nilA_ap, op2_ap, op1_ap, tvE_ap, andT_ap, orT_ap, notT_ap, andE_ap, orE_ap, notE_ap, ifE_ap, chainE_ap, slE_ap, pAt_ap, pNo_ap, intD_ap, vE_ap, vB_ap, cE_ap, tupE_ap, lstE_ap, retS_ap, retNS_ap, nxS_ap, errS_ap, dropS_ap, frzS_ap, appS_ap, getLo_ap, augS_ap, List.getElem?_cons_zero, List.getElem?_cons_succ, ofS_d, ofB_d, ofB_lo, ofL_lo, ofF_lo, ofF_d, bind_ok, bind_err, boolD_ap, iteR_t, iteR_f, iteR_err, kT_ap, List.set_cons_succ, List.set_cons_zero, thenS_nx, thenS_rt, thenS_err, thenS_bk, thenS_ct, oListD_ap, iterD_list, iterD_tuple, isi_ap, add_ii, sub_ii, neg_i, lt_ii, gt_ii, le_ii, ge_ii, int1_i, isNone_none, notNone_none, outR_nx, outR_rt, outR_err, List.length_cons, List.length_nil, if_true, zl0, zl1, zl2, zl3, zl4, zl5, zl6, zl7, zl8, zl9, zl10, zl11, zl12, zl13, ql1, ql2, ql3, ql4, ql5, Bool.not_true, Bool.not_false, gN_ap, gT_tuple, gsCons_ap, gsNil_ap, PD.len_tuple, PD.len_list, tuple1_list, tuple1_tuple, list1_list, list1_tuple, rev_list, rev_tuple, l1, s1, n1]
      rw [ht]
      by_cases c : here n w k = row0 n
      · rw [decide_eq_true c]
        have : k = κ := Classical.byContradiction fun z => kmin k hk1 (by omega) c
        subst this
        exact .inl ⟨rfl, x5, rfl⟩
      · rw [decide_eq_false c]
        have hlt : k < κ := by
          refine Classical.byContradiction fun z => c ?_
          rw [show k = κ by omega]
          exact kh
        have ll : l1_rows_till_home [.d (.int (n : Nat)), .d (.tuple (w.map .int)), .d (.tuple (encN (endsL n w))), .d (.tuple (encN (here n w k))), .d (.int (k : Nat)), x5] = .ok (.list (encN (here n w (k + 1)))) := by
          unfold l1_rows_till_home
          rw [here_succ]
          have := lcE_all (mi := itE (vE 3)) (vs := [5]) (g := gN 5) (e := op2 ixD (vE 2) (op2 subD (vE 5) (cE (.int 1)))) (ρ := [.d (.int (n : Nat)), .d (.tuple (w.map .int)), .d (.tuple (encN (endsL n w))), .d (.tuple (encN (here n w k))), .d (.int (k : Nat)), x5])
            (enc := fun y : Nat => PyData.int (y : Nat)) (f := fun y => PyData.int ((endN w y : Nat) : Int)) (here n w k) (by simp only [seqS_ap, setS_ap, setLS_ap, asgS_ap, ifS_ap, forS_ap, itE_ap, argI_ap, callE_ap, callB_ap, consA_ap, nilA_ap, op2_ap, op1_ap, tvE_ap, andT_ap, orT_ap, notT_ap, andE_ap, orE_ap, notE_ap, ifE_ap, chainE_ap, slE_ap, pAt_ap, pNo_ap, intD_ap, vE_ap, vB_ap, cE_ap, tupE_ap, lstE_ap, retS_ap, retNS_ap, nxS_ap, errS_ap, dropS_ap, frzS_ap, appS_ap, getLo_ap, augS_ap, List.getElem?_cons_zero, List.getElem?_cons_succ, ofS_d, ofB_d, ofB_lo, ofL_lo, ofF_lo, ofF_d, bind_ok, bind_err, boolD_ap, iteR_t, iteR_f, iteR_err, kT_ap, List.set_cons_succ, List.set_cons_zero, thenS_nx, thenS_rt, thenS_err, thenS_bk, thenS_ct, oListD_ap, iterD_list, iterD_tuple, isi_ap, add_ii, sub_ii, neg_i, lt_ii, gt_ii, le_ii, ge_ii, int1_i, isNone_none, notNone_none, outR_nx, outR_rt, outR_err, List.length_cons, List.length_nil, if_true, zl0, zl1, zl2, zl3, zl4, zl5, zl6, zl7, zl8, zl9, zl10, zl11, zl12, zl13, ql1, ql2, ql3, ql4, ql5, Bool.not_true, Bool.not_false, gN_ap, gT_tuple, gsCons_ap, gsNil_ap, PD.len_tuple, PD.len_list, tuple1_list, tuple1_tuple, list1_list, list1_tuple, rev_list, rev_tuple]; rfl) (by rw [here_len]; exact Nat.le_of_lt (Nat.lt_of_le_of_lt h6 (by decide))) fun s hs => by
              have hr := here_rng hw.c hs
              have ix := ends_ix (w := w) hr.1 hr.2
              refine ⟨_, gN_ap .., ?_⟩
              rw [show (wipeE [Sl.d (.int (n : Nat)), .d (.tuple (w.map .int)), .d (.tuple (encN (endsL n w))), .d (.tuple (encN (here n w k))), .d (.int (k : Nat)), x5] [5]).set 5 (.d (.int (s : Nat))) = [.d (.int (n : Nat)), .d (.tuple (w.map .int)), .d (.tuple (encN (endsL n w))), .d (.tuple (encN (here n w k))), .d (.int (k : Nat)), .d (.int (s : Nat))] from rfl]
              simp only [seqS_ap, setS_ap, setLS_ap, asgS_ap, ifS_ap, forS_ap, itE_ap, argI_ap, callE_ap, callB_ap, consA_ap, nilA_ap, op2_ap, op1_ap, tvE_ap, andT_ap, orT_ap, notT_ap, andE_ap, orE_ap, notE_ap, ifE_ap, chainE_ap, slE_ap, pAt_ap, pNo_ap, intD_ap, vE_ap, vB_ap, cE_ap, tupE_ap, lstE_ap, retS_ap, retNS_ap, nxS_ap, errS_ap, dropS_ap, frzS_ap, appS_ap, getLo_ap, augS_ap, List.getElem?_cons_zero, List.getElem?_cons_succ, ofS_d, ofB_d, ofB_lo, ofL_lo, ofF_lo, ofF_d, bind_ok, bind_err, boolD_ap, iteR_t, iteR_f, iteR_err, kT_ap, List.set_cons_succ, List.set_cons_zero, thenS_nx, thenS_rt, thenS_err, thenS_bk, thenS_ct, oListD_ap, iterD_list, iterD_tuple, isi_ap, add_ii, sub_ii, neg_i, lt_ii, gt_ii, le_ii, ge_ii, int1_i, isNone_none, notNone_none, outR_nx, outR_rt, outR_err, List.length_cons, List.length_nil, if_true, zl0, zl1, zl2, zl3, zl4, zl5, zl6, zl7, zl8, zl9, zl10, zl11, zl12, zl13, ql1, ql2, ql3, ql4, ql5, Bool.not_true, Bool.not_false, gN_ap, gT_tuple, gsCons_ap, gsNil_ap, PD.len_tuple, PD.len_list, tuple1_list, tuple1_tuple, list1_list, list1_tuple, rev_list, rev_tuple, ix]
          rw [this]
          unfold encN
          rw [List.map_map]
          rfl
        refine .inr ⟨rfl, [.d (.int (n : Nat)), .d (.tuple (w.map .int)), .d (.tuple (encN (endsL n w))), .d (.tuple (encN (here n w (k + 1)))), .d (.int ((k + 1 : Nat) : Int)), x5], κ - (k + 1), ?_, by omega, k + 1, x5, by omega, by omega, rfl, rfl⟩
        unfold w2_rows_till_home
        simp only [seqS_ap, setS_ap, setLS_ap, asgS_ap, ifS_ap, forS_ap, itE_ap, argI_ap, callE_ap, callB_ap, consA_ap, nilA_ap, op2_ap, op1_ap, tvE_ap, andT_ap, orT_ap, notT_ap, andE_ap, orE_ap, notE_ap, ifE_ap, chainE_ap, slE_ap, pAt_ap, pNo_ap, intD_ap, vE_ap, vB_ap, cE_ap, tupE_ap, lstE_ap, retS_ap, retNS_ap, nxS_ap, errS_ap, dropS_ap, frzS_ap, appS_ap, getLo_ap, augS_ap, List.getElem?_cons_zero, List.getElem?_cons_succ, ofS_d, ofB_d, ofB_lo, ofL_lo, ofF_lo, ofF_d, bind_ok, bind_err, boolD_ap, iteR_t, iteR_f, iteR_err, kT_ap, List.set_cons_succ, List.set_cons_zero, thenS_nx, thenS_rt, thenS_err, thenS_bk, thenS_ct, oListD_ap, iterD_list, iterD_tuple, isi_ap, add_ii, sub_ii, neg_i, lt_ii, gt_ii, le_ii, ge_ii, int1_i, isNone_none, notNone_none, outR_nx, outR_rt, outR_err, List.length_cons, List.length_nil, if_true, zl0, zl1, zl2, zl3, zl4, zl5, zl6, zl7, zl8, zl9, zl10, zl11, zl12, zl13, ql1, ql2, ql3, ql4, ql5, Bool.not_true, Bool.not_false, gN_ap, gT_tuple, gsCons_ap, gsNil_ap, PD.len_tuple, PD.len_list, tuple1_list, tuple1_tuple, list1_list, list1_tuple, rev_list, rev_tuple, ll, addI_ii]
        rfl)
    1000000000 (κ - 1) [.d (.int (n : Nat)), .d (.tuple (w.map .int)), .d (.tuple (encN (endsL n w))), .d (.tuple (encN (endsL n w))), .d (.int 1), .un] (by omega) ⟨1, .un, Nat.le_refl _, k1, rfl, rfl⟩
  unfold m_rows_till_home
  rw [runB_ap]
  unfold b_rows_till_home
  rw [show (List.map Sl.d [PyData.int (n : Nat), .tuple (w.map .int)] ++ List.replicate (6 - [PyData.int (n : Nat), .tuple (w.map .int)].length) Sl.un) = [.d (.int (n : Nat)), .d (.tuple (w.map .int)), .un, .un, .un, .un] from rfl]
  rw [nx_seq (ρ' := [.d (.int (n : Nat)), .d (.tuple (w.map .int)), .un, .un, .un, .un]) (by simp only [seqS_ap, setS_ap, setLS_ap, asgS_ap, ifS_ap, forS_ap, itE_ap, argI_ap, callE_ap, callB_ap, consA_ap, nilA_ap, op2_ap, op1_ap, tvE_ap, andT_ap, orT_ap, notT_ap, andE_ap, orE_ap, notE_ap, ifE_ap, chainE_ap, slE_ap, pAt_ap, pNo_ap, intD_ap, vE_ap, vB_ap, cE_ap, tupE_ap, lstE_ap, retS_ap, retNS_ap, nxS_ap, errS_ap, dropS_ap, frzS_ap, appS_ap, getLo_ap, augS_ap, List.getElem?_cons_zero, List.getElem?_cons_succ, ofS_d, ofB_d, ofB_lo, ofL_lo, ofF_lo, ofF_d, bind_ok, bind_err, boolD_ap, iteR_t, iteR_f, iteR_err, kT_ap, List.set_cons_succ, List.set_cons_zero, thenS_nx, thenS_rt, thenS_err, thenS_bk, thenS_ct, oListD_ap, iterD_list, iterD_tuple, isi_ap, add_ii, sub_ii, neg_i, lt_ii, gt_ii, le_ii, ge_ii, int1_i, isNone_none, notNone_none, outR_nx, outR_rt, outR_err, List.length_cons, List.length_nil, if_true, zl0, zl1, zl2, zl3, zl4, zl5, zl6, zl7, zl8, zl9, zl10, zl11, zl12, zl13, ql1, ql2, ql3, ql4, ql5, Bool.not_true, Bool.not_false, gN_ap, gT_tuple, gsCons_ap, gsNil_ap, PD.len_tuple, PD.len_list, tuple1_list, tuple1_tuple, list1_list, list1_tuple, rev_list, rev_tuple, c1])]
  rw [nx_seq (ρ' := [.d (.int (n : Nat)), .d (.tuple (w.map .int)), .d (.tuple (encN (endsL n w))), .un, .un, .un]) (by simp only [seqS_ap, setS_ap, setLS_ap, asgS_ap, ifS_ap, forS_ap, itE_ap, argI_ap, callE_ap, callB_ap, consA_ap, nilA_ap, op2_ap, op1_ap, tvE_ap, andT_ap, orT_ap, notT_ap, andE_ap, orE_ap, notE_ap, ifE_ap, chainE_ap, slE_ap, pAt_ap, pNo_ap, intD_ap, vE_ap, vB_ap, cE_ap, tupE_ap, lstE_ap, retS_ap, retNS_ap, nxS_ap, errS_ap, dropS_ap, frzS_ap, appS_ap, getLo_ap, augS_ap, List.getElem?_cons_zero, List.getElem?_cons_succ, ofS_d, ofB_d, ofB_lo, ofL_lo, ofF_lo, ofF_d, bind_ok, bind_err, boolD_ap, iteR_t, iteR_f, iteR_err, kT_ap, List.set_cons_succ, List.set_cons_zero, thenS_nx, thenS_rt, thenS_err, thenS_bk, thenS_ct, oListD_ap, iterD_list, iterD_tuple, isi_ap, add_ii, sub_ii, neg_i, lt_ii, gt_ii, le_ii, ge_ii, int1_i, isNone_none, notNone_none, outR_nx, outR_rt, outR_err, List.length_cons, List.length_nil, if_true, zl0, zl1, zl2, zl3, zl4, zl5, zl6, zl7, zl8, zl9, zl10, zl11, zl12, zl13, ql1, ql2, ql3, ql4, ql5, Bool.not_true, Bool.not_false, gN_ap, gT_tuple, gsCons_ap, gsNil_ap, PD.len_tuple, PD.len_list, tuple1_list, tuple1_tuple, list1_list, list1_tuple, rev_list, rev_tuple, c2])]
  rw [nx_seq (parS_ap 3 4 _ _ (.tuple (encN (endsL n w))) (.int 1) (by simp only [seqS_ap, setS_ap, setLS_ap, asgS_ap, ifS_ap, forS_ap, itE_ap, argI_ap, callE_ap, callB_ap, consA_ap, nilA_ap, op2_ap, op1_ap, tvE_ap, andT_ap, orT_ap, notT_ap, andE_ap, orE_ap, notE_ap, ifE_ap, chainE_ap, slE_ap, pAt_ap, pNo_ap, intD_ap, vE_ap, vB_ap, cE_ap, tupE_ap, lstE_ap, retS_ap, retNS_ap, nxS_ap, errS_ap, dropS_ap, frzS_ap, appS_ap, getLo_ap, augS_ap, List.getElem?_cons_zero, List.getElem?_cons_succ, ofS_d, ofB_d, ofB_lo, ofL_lo, ofF_lo, ofF_d, bind_ok, bind_err, boolD_ap, iteR_t, iteR_f, iteR_err, kT_ap, List.set_cons_succ, List.set_cons_zero, thenS_nx, thenS_rt, thenS_err, thenS_bk, thenS_ct, oListD_ap, iterD_list, iterD_tuple, isi_ap, add_ii, sub_ii, neg_i, lt_ii, gt_ii, le_ii, ge_ii, int1_i, isNone_none, notNone_none, outR_nx, outR_rt, outR_err, List.length_cons, List.length_nil, if_true, zl0, zl1, zl2, zl3, zl4, zl5, zl6, zl7, zl8, zl9, zl10, zl11, zl12, zl13, ql1, ql2, ql3, ql4, ql5, Bool.not_true, Bool.not_false, gN_ap, gT_tuple, gsCons_ap, gsNil_ap, PD.len_tuple, PD.len_list, tuple1_list, tuple1_tuple, list1_list, list1_tuple, rev_list, rev_tuple]))]
  simp only [List.set_cons_succ, List.set_cons_zero]
  rw [nx_seq e1]
  simp only [seqS_ap, setS_ap, setLS_ap, asgS_ap, ifS_ap, forS_ap, itE_ap, argI_ap, callE_ap, callB_ap, consA_ap, nilA_ap, op2_ap, op1_ap, tvE_ap, andT_ap, orT_ap, notT_ap, andE_ap, orE_ap, notE_ap, ifE_ap, chainE_ap, slE_ap, pAt_ap, pNo_ap, intD_ap, vE_ap, vB_ap, cE_ap, tupE_ap, lstE_ap, retS_ap, retNS_ap, nxS_ap, errS_ap, dropS_ap, frzS_ap, appS_ap, getLo_ap, augS_ap, List.getElem?_cons_zero, List.getElem?_cons_succ, ofS_d, ofB_d, ofB_lo, ofL_lo, ofF_lo, ofF_d, bind_ok, bind_err, boolD_ap, iteR_t, iteR_f, iteR_err, kT_ap, List.set_cons_succ, List.set_cons_zero, thenS_nx, thenS_rt, thenS_err, thenS_bk, thenS_ct, oListD_ap, iterD_list, iterD_tuple, isi_ap, add_ii, sub_ii, neg_i, lt_ii, gt_ii, le_ii, ge_ii, int1_i, isNone_none, notNone_none, outR_nx, outR_rt, outR_err, List.length_cons, List.length_nil, if_true, zl0, zl1, zl2, zl3, zl4, zl5, zl6, zl7, zl8, zl9, zl10, zl11, zl12, zl13, ql1, ql2, ql3, ql4, ql5, Bool.not_true, Bool.not_false, gN_ap, gT_tuple, gsCons_ap, gsNil_ap, PD.len_tuple, PD.len_list, tuple1_list, tuple1_tuple, list1_list, list1_tuple, rev_list, rev_tuple]
end G
namespace G
open PySem PySem.Spec PyProof.Rows L2 PD PySem.W
theorem rng_get {n m : Nat} {x : PyData} (h : ((List.range n).map fun k : Nat => PyData.int k)[m]? = some x) : m < n ∧ x = .int (m : Nat) := by
  rw [List.getElem?_map] at h
  by_cases c : m < n
  · rw [List.getElem?_range c] at h
    cases h
    exact ⟨c, rfl⟩
  · rw [List.getElem?_eq_none (by rw [List.length_range]; omega)] at h
    cases h
theorem e_word {ds : List Int} (hl : ds.length = 60) (hd : ∀ x ∈ ds, Draw x) (a : Nat) {n : Nat} (h2 : 2 ≤ n) (h6 : n ≤ 6) :
    ∃ w : List Int, m__law_word [.list (ds.map .int), .int (a : Nat), .int (n : Nat), .int 12] = .ok (.tuple (w.map .int)) ∧ w.length ≤ 12 ∧ ∀ x ∈ w, Cr n x := by
  have ln : lenD [.list (ds.map .int)] = .ok (.int ((60 : Nat) : Int)) := by rw [PD.len_list, List.length_map, hl]
  have m1 : modD (.int (a : Nat)) (.int ((60 : Nat) : Int)) = .ok (.int ((a % 60 : Nat) : Int)) := modN (by decide)
  have d1 := drw hl hd (i := a % 60) (Nat.mod_lt _ (by decide))
  have m2 : modD (.int (dN ds (a % 60) : Nat)) (.int (12 + 1)) = .ok (.int ((dN ds (a % 60) % 13 : Nat) : Int)) := modN (n := 13) (by decide)
  have hc : dN ds (a % 60) % 13 ≤ 12 := by have := Nat.mod_lt (dN ds (a % 60)) (show 0 < 13 by decide); omega
  generalize dN ds (a % 60) % 13 = c at *
  have r1 : range1D [.int (c : Nat)] = .ok _ := rangeN (n := c) (by omega)
  obtain ⟨ρ', e1, w, x5, x6, hw1, hw2, rfl⟩ := forG_inv (g := gN 5) (b := w1__law_word) (I := fun m ρ => ∃ (w : List Int) (x5 x6 : Sl), w.length = m ∧ (∀ x ∈ w, Cr n x) ∧ ρ = [.d (.list (ds.map .int)), .d (.int (a : Nat)), .d (.int (n : Nat)), .d (.int 12), .lo (w.map .int), x5, x6])
    ((List.range c).map fun k : Nat => PyData.int k) [.d (.list (ds.map .int)), .d (.int (a : Nat)), .d (.int (n : Nat)), .d (.int 12), .lo [], .un, .un] ⟨[], .un, .un, rfl, fun x hx => (by cases hx), rfl⟩
    (fun m x hx ρ hI => by
      obtain ⟨hm, rfl⟩ := rng_get hx
      obtain ⟨w, x5, x6, hw1, hw2, rfl⟩ := hI
      have m3 : modD (.int ((a : Int) + 1 + (m : Int))) (.int ((60 : Nat) : Int)) = .ok (.int (((a + 1 + m) % 60 : Nat) : Int)) := modN (k := a + 1 + m) (by decide)
      have d2 := drw hl hd (i := (a + 1 + m) % 60) (Nat.mod_lt _ (by decide))
      generalize dN ds ((a + 1 + m) % 60) = D at *
      have en : ((n : Nat) : Int) - 1 = ((n - 1 : Nat) : Int) := by omega
      have m4 : modD (.int (D : Nat)) (.int ((n - 1 : Nat) : Int)) = .ok (.int ((D % (n - 1) : Nat) : Int)) := modN (by omega)
      have hmod := Nat.mod_lt D (show 0 < n - 1 by omega)
      have f1 : fdivD (.int (D : Nat)) (.int 8) = .ok (.int ((D / 8 : Nat) : Int)) := fdivN D (g := 8) (by decide) (by decide)
      have m5 : modD (.int ((D / 8 : Nat) : Int)) (.int 2) = .ok (.int ((D / 8 % 2 : Nat) : Int)) := modN (n := 2) (by decide)
      have q1 := int_eq ((D / 8 % 2 : Nat) : Int) 0
      have hlen : (w.map PyData.int).length < SZ := by rw [List.length_map]; exact Nat.lt_of_lt_of_le (show w.length < 13 by omega) (by decide)
      have p1 : mulD (.int (1 + ((D % (n - 1) : Nat) : Int))) (.int 1) = .ok (.int ((1 + ((D % (n - 1) : Nat) : Int)) * 1)) := mul_ii (.inr (by decide))
      have p2 : mulD (.int (1 + ((D % (n - 1) : Nat) : Int))) (.int (-1)) = .ok (.int ((1 + ((D % (n - 1) : Nat) : Int)) * (-1))) := mul_ii (.inr (by decide))
      by_cases cc : ((D / 8 % 2 : Nat) : Int) = 0
      · rw [decide_eq_true cc] at q1
        refine ⟨_, ?_, w ++ [(1 + ((D % (n - 1) : Nat) : Int)) * 1], .d (.int (m : Nat)), .d (.int (D : Nat)), by rw [List.length_append, hw1]; rfl, fun x hx => ?_, rfl⟩
        · rw [gN_ap, bind_ok]
          unfold w1__law_word
          simp only [seqS_ap, setS_ap, setLS_ap, asgS_ap, ifS_ap, forS_ap, itE_ap, argI_ap, callE_ap, callB_ap, consA_ap, nilA_ap, op2_ap, op1_ap, tvE_ap, andT_ap, orT_ap, notT_ap, andE_ap, orE_ap, notE_ap, ifE_ap, chainE_ap, slE_ap, pAt_ap, pNo_ap, intD_ap, vE_ap, vB_ap, cE_ap, tupE_ap, lstE_ap, retS_ap, retNS_ap, nxS_ap, errS_ap, dropS_ap, frzS_ap, appS_ap, getLo_ap, augS_ap, List.getElem?_cons_zero, List.getElem?_cons_succ, ofS_d, ofB_d, ofB_lo, ofL_lo, ofF_lo, ofF_d, bind_ok, bind_err, boolD_ap, iteR_t, iteR_f, iteR_err, kT_ap, List.set_cons_succ, List.set_cons_zero, thenS_nx, thenS_rt, thenS_err, thenS_bk, thenS_ct, oListD_ap, iterD_list, iterD_tuple, isi_ap, add_ii, sub_ii, neg_i, lt_ii, gt_ii, le_ii, ge_ii, int1_i, isNone_none, notNone_none, outR_nx, outR_rt, outR_err, List.length_cons, List.length_nil, if_true, zl0, zl1, zl2, zl3, zl4, zl5, zl6, zl7, zl8, zl9, zl10, zl11, zl12, zl13, ql1, ql2, ql3, ql4, ql5, Bool.not_true, Bool.not_false, gN_ap, gT_tuple, gsCons_ap, gsNil_ap, PD.len_tuple, PD.len_list, tuple1_list, tuple1_tuple, list1_list, list1_tuple, rev_list, rev_tuple, ln, m3, d2, en, m4, f1, m5, q1, p1, if_pos hlen]
          rw [List.map_append]
          rfl
        · rcases List.mem_append.mp hx with hx | hx
          · exact hw2 x hx
          · rw [List.mem_singleton.mp hx]
            constructor <;> omega
      · rw [decide_eq_false cc] at q1
        refine ⟨_, ?_, w ++ [(1 + ((D % (n - 1) : Nat) : Int)) * (-1)], .d (.int (m : Nat)), .d (.int (D : Nat)), by rw [List.length_append, hw1]; rfl, fun x hx => ?_, rfl⟩
        · rw [gN_ap, bind_ok]
          unfold w1__law_word
          simp only [seqS_ap, setS_ap, setLS_ap, asgS_ap, ifS_ap, forS_ap, itE_ap, argI_ap, callE_ap, callB_ap, consA_ap, nilA_ap, op2_ap, op1_ap, tvE_ap, andT_ap, orT_ap, notT_ap, andE_ap, orE_ap, notE_ap, ifE_ap, chainE_ap, slE_ap, pAt_ap, pNo_ap, intD_ap, vE_ap, vB_ap, cE_ap, tupE_ap, lstE_ap, retS_ap, retNS_ap, nxS_ap, errS_ap, dropS_ap, frzS_ap, appS_ap, getLo_ap, augS_ap, List.getElem?_cons_zero, List.getElem?_cons_succ, ofS_d, ofB_d, ofB_lo, ofL_lo, ofF_lo, ofF_d, bind_ok, bind_err, boolD_ap, iteR_t, iteR_f, iteR_err, kT_ap, List.set_cons_succ, List.set_cons_zero, thenS_nx, thenS_rt, thenS_err, thenS_bk, thenS_ct, oListD_ap, iterD_list, iterD_tuple, isi_ap, add_ii, sub_ii, neg_i, lt_ii, gt_ii, le_ii, ge_ii, int1_i, isNone_none, notNone_none, outR_nx, outR_rt, outR_err, List.length_cons, List.length_nil, if_true, zl0, zl1, zl2, zl3, zl4, zl5, zl6, zl7, zl8, zl9, zl10, zl11, zl12, zl13, ql1, ql2, ql3, ql4, ql5, Bool.not_true, Bool.not_false, gN_ap, gT_tuple, gsCons_ap, gsNil_ap, PD.len_tuple, PD.len_list, tuple1_list, tuple1_tuple, list1_list, list1_tuple, rev_list, rev_tuple, ln, m3, d2, en, m4, f1, m5, q1, p2, if_pos hlen]
          rw [List.map_append]
          rfl
        · rcases List.mem_append.mp hx with hx | hx
          · exact hw2 x hx
          · rw [List.mem_singleton.mp hx]
            constructor <;> omega)
  rw [List.length_map, List.length_range] at hw1
  refine ⟨w, ?_, by omega, hw2⟩
  unfold m__law_word
  rw [runB_ap]
  unfold b__law_word
  rw [show (List.map Sl.d [PyData.list (ds.map .int), .int (a : Nat), .int (n : Nat), .int 12] ++ List.replicate (7 - [PyData.list (ds.map .int), .int (a : Nat), .int (n : Nat), .int 12].length) Sl.un) = [.d (.list (ds.map .int)), .d (.int (a : Nat)), .d (.int (n : Nat)), .d (.int 12), .un, .un, .un] from rfl]
  simp only [seqS_ap, setS_ap, setLS_ap, asgS_ap, ifS_ap, forS_ap, itE_ap, argI_ap, callE_ap, callB_ap, consA_ap, nilA_ap, op2_ap, op1_ap, tvE_ap, andT_ap, orT_ap, notT_ap, andE_ap, orE_ap, notE_ap, ifE_ap, chainE_ap, slE_ap, pAt_ap, pNo_ap, intD_ap, vE_ap, vB_ap, cE_ap, tupE_ap, lstE_ap, retS_ap, retNS_ap, nxS_ap, errS_ap, dropS_ap, frzS_ap, appS_ap, getLo_ap, augS_ap, List.getElem?_cons_zero, List.getElem?_cons_succ, ofS_d, ofB_d, ofB_lo, ofL_lo, ofF_lo, ofF_d, bind_ok, bind_err, boolD_ap, iteR_t, iteR_f, iteR_err, kT_ap, List.set_cons_succ, List.set_cons_zero, thenS_nx, thenS_rt, thenS_err, thenS_bk, thenS_ct, oListD_ap, iterD_list, iterD_tuple, isi_ap, add_ii, sub_ii, neg_i, lt_ii, gt_ii, le_ii, ge_ii, int1_i, isNone_none, notNone_none, outR_nx, outR_rt, outR_err, List.length_cons, List.length_nil, if_true, zl0, zl1, zl2, zl3, zl4, zl5, zl6, zl7, zl8, zl9, zl10, zl11, zl12, zl13, ql1, ql2, ql3, ql4, ql5, Bool.not_true, Bool.not_false, gN_ap, gT_tuple, gsCons_ap, gsNil_ap, PD.len_tuple, PD.len_list, tuple1_list, tuple1_tuple, list1_list, list1_tuple, rev_list, rev_tuple, ln, m1, d1, m2, r1, e1]
end G
namespace G
open PySem PySem.Spec PyProof.Rows L2 PD PySem.W
def pL1 : SM := (asgS (tupE (consA (op2 addD (cE (.int 2)) (op2 modD (callB int1D (consA (op2 ixD (vE 1) (vE 2)) nilA)) (cE (.int 5)))) (consA (op2 modD (callB int1D (consA (op2 ixD (vE 1) (op2 addD (cE (.int 10)) (vE 2))) nilA)) (cE (.int 41))) nilA))) (gT 2 (gsCons (gN 3) (gsCons (gN 4) gsNil))))
def pL2 : SM := (setLS 5 (lstE nilA))
def pL3 : SM := (forS (argI range1D (consA (vE 4) nilA)) (gN 6)
  w2_law)
def pL4 : SM := (setS 8 (callE 2 m__law_told (consA (vE 3) (consA (vE 4) nilA))))
def pL5 : SM := (ifS (tvE (op2 neD (vE 8) (ifE (tvE (op2 leD (callB lenD (consA (vB 5) nilA)) (cE (.int 40)))) (callB tuple1D (consA (vB 5) nilA)) (cE (.str "many")))))
  (retS (cE (.bool false)))
  nxS)
def pL6 : SM := (frzS 5)
def pL7 : SM := (ifS (andT (tvE (op2 neD (vE 8) (cE (.str "many")))) (orT (andT (tvE (op2 neD (callE 2 m_cancelled (consA (vE 3) (consA (vE 8) nilA))) (vE 8))) (tvE (op2 gtD (vE 3) (cE (.int 2))))) (tvE (op2 neD (callE 2 m_writhe (consA (vE 3) (consA (vE 8) nilA))) (callB sumD (consA l3_law nilA))))))
  (retS (cE (.bool false)))
  nxS)
def pL8 : SM := (setS 9 (callE 4 m__law_word (consA (vE 1) (consA (op2 addD (cE (.int 20)) (op2 mulD (cE (.int 3)) (vE 2))) (consA (vE 3) (consA (cE (.int 12)) nilA))))))
def pL9 : SM := (parO3 false false false 10 11 12 (callE 2 m__law_ends (consA (vE 3) (consA (vE 9) nilA))) (lrE2 (cE (.int 1)) (op2 addD (vE 3) (cE (.int 1)))) (cE (.int 0)))
def pL10 : SM := (whileM t6_law
  w5_law 1000000000)
def pL11 : SM := (ifS (orT (tvE (op2 neD (callE 2 m_rows_till_home (consA (vE 3) (consA (vE 9) nilA))) (vE 12))) (andT (tvE (op2 leD (op2 mulD (vE 12) (callB lenD (consA (vE 9) nilA))) (cE (.int 40)))) (tvE (op2 neD (callE 2 m_ends_of (consA (vE 3) (consA (op2 mulD (vE 9) (vE 12)) nilA))) (callB tuple1D (consA (lrE2 (cE (.int 1)) (op2 addD (vE 3) (cE (.int 1)))) nilA))))))
  (retS (cE (.bool false)))
  nxS)
def pL12 : SM := (ifS (andT (tvE (op2 gtD (callB lenD (consA (vE 9) nilA)) (cE (.int 0)))) (tvE (callB anyD (consA l7_law nilA))))
  (retS (cE (.bool false)))
  nxS)
def pL13 : SM := (forS (itE (lstE (consA (op1 negD (cE (.int 1))) (consA (cE (.int 41)) (consA (cE (.bool true)) (consA (cE .none) (consA (cE (.str "3")) nilA))))))) (gN 13)
  w8_law)
theorem w9_law_eq : w9_law = seqS pL1 (seqS pL2 (seqS pL3 (seqS pL4 (seqS pL5 (seqS pL6 (seqS pL7 (seqS pL8 (seqS pL9 (seqS pL10 (seqS pL11 (seqS pL12 pL13))))))))))) := rfl
def flM : SM := seqS pL2 (seqS pL3 (seqS pL4 (seqS pL5 (seqS pL6 pL7))))
def flO (s r k : Nat) : Sl := match flM [.un, .un, .un, .d (.int (s : Nat)), .d (.int (r : Nat)), .un, .un, .un, .un, .un, .un, .un, .un, .un, .un, .un] with
  | .ok (.nx ρ) => ρ.getD k .un
  | _ => .un
abbrev FlOk (s r : Nat) : Prop := ∀ s0 s1 s2 s5 s6 s7 s8 s9 s10 s11 s12 s13 s14 s15 : Sl, flM [s0, s1, s2, .d (.int (s : Nat)), .d (.int (r : Nat)), s5, s6, s7, s8, s9, s10, s11, s12, s13, s14, s15] = .ok (.nx [s0, s1, s2, .d (.int (s : Nat)), .d (.int (r : Nat)), flO s r 5, (if r = 0 then s6 else flO s r 6), (if r = 0 then s7 else flO s r 7), flO s r 8, s9, s10, s11, s12, s13, s14, s15])
theorem fl_2_0 : FlOk 2 0 := fun s0 s1 s2 s5 s6 s7 s8 s9 s10 s11 s12 s13 s14 s15 => by kernel_rfl
theorem fl_2_1 : FlOk 2 1 := fun s0 s1 s2 s5 s6 s7 s8 s9 s10 s11 s12 s13 s14 s15 => by kernel_rfl
theorem fl_2_2 : FlOk 2 2 := fun s0 s1 s2 s5 s6 s7 s8 s9 s10 s11 s12 s13 s14 s15 => by kernel_rfl
theorem fl_2_3 : FlOk 2 3 := fun s0 s1 s2 s5 s6 s7 s8 s9 s10 s11 s12 s13 s14 s15 => by kernel_rfl
theorem fl_2_4 : FlOk 2 4 := fun s0 s1 s2 s5 s6 s7 s8 s9 s10 s11 s12 s13 s14 s15 => by kernel_rfl
theorem fl_2_5 : FlOk 2 5 := fun s0 s1 s2 s5 s6 s7 s8 s9 s10 s11 s12 s13 s14 s15 => by kernel_rfl
theorem fl_2_6 : FlOk 2 6 := fun s0 s1 s2 s5 s6 s7 s8 s9 s10 s11 s12 s13 s14 s15 => by kernel_rfl
theorem fl_2_7 : FlOk 2 7 := fun s0 s1 s2 s5 s6 s7 s8 s9 s10 s11 s12 s13 s14 s15 => by kernel_rfl
theorem fl_2_8 : FlOk 2 8 := fun s0 s1 s2 s5 s6 s7 s8 s9 s10 s11 s12 s13 s14 s15 => by kernel_rfl
theorem fl_2_9 : FlOk 2 9 := fun s0 s1 s2 s5 s6 s7 s8 s9 s10 s11 s12 s13 s14 s15 => by kernel_rfl
theorem fl_2_10 : FlOk 2 10 := fun s0 s1 s2 s5 s6 s7 s8 s9 s10 s11 s12 s13 s14 s15 => by kernel_rfl
theorem fl_2_11 : FlOk 2 11 := fun s0 s1 s2 s5 s6 s7 s8 s9 s10 s11 s12 s13 s14 s15 => by kernel_rfl
theorem fl_2_12 : FlOk 2 12 := fun s0 s1 s2 s5 s6 s7 s8 s9 s10 s11 s12 s13 s14 s15 => by kernel_rfl
theorem fl_2_13 : FlOk 2 13 := fun s0 s1 s2 s5 s6 s7 s8 s9 s10 s11 s12 s13 s14 s15 => by kernel_rfl
theorem fl_2_14 : FlOk 2 14 := fun s0 s1 s2 s5 s6 s7 s8 s9 s10 s11 s12 s13 s14 s15 => by kernel_rfl
theorem fl_2_15 : FlOk 2 15 := fun s0 s1 s2 s5 s6 s7 s8 s9 s10 s11 s12 s13 s14 s15 => by kernel_rfl
theorem fl_2_16 : FlOk 2 16 := fun s0 s1 s2 s5 s6 s7 s8 s9 s10 s11 s12 s13 s14 s15 => by kernel_rfl
theorem fl_2_17 : FlOk 2 17 := fun s0 s1 s2 s5 s6 s7 s8 s9 s10 s11 s12 s13 s14 s15 => by kernel_rfl
theorem fl_2_18 : FlOk 2 18 := fun s0 s1 s2 s5 s6 s7 s8 s9 s10 s11 s12 s13 s14 s15 => by kernel_rfl
theorem fl_2_19 : FlOk 2 19 := fun s0 s1 s2 s5 s6 s7 s8 s9 s10 s11 s12 s13 s14 s15 => by kernel_rfl
theorem fl_2_20 : FlOk 2 20 := fun s0 s1 s2 s5 s6 s7 s8 s9 s10 s11 s12 s13 s14 s15 => by kernel_rfl
theorem fl_2_21 : FlOk 2 21 := fun s0 s1 s2 s5 s6 s7 s8 s9 s10 s11 s12 s13 s14 s15 => by kernel_rfl
theorem fl_2_22 : FlOk 2 22 := fun s0 s1 s2 s5 s6 s7 s8 s9 s10 s11 s12 s13 s14 s15 => by kernel_rfl
theorem fl_2_23 : FlOk 2 23 := fun s0 s1 s2 s5 s6 s7 s8 s9 s10 s11 s12 s13 s14 s15 => by kernel_rfl
theorem fl_2_24 : FlOk 2 24 := fun s0 s1 s2 s5 s6 s7 s8 s9 s10 s11 s12 s13 s14 s15 => by kernel_rfl
theorem fl_2_25 : FlOk 2 25 := fun s0 s1 s2 s5 s6 s7 s8 s9 s10 s11 s12 s13 s14 s15 => by kernel_rfl
theorem fl_2_26 : FlOk 2 26 := fun s0 s1 s2 s5 s6 s7 s8 s9 s10 s11 s12 s13 s14 s15 => by kernel_rfl
theorem fl_2_27 : FlOk 2 27 := fun s0 s1 s2 s5 s6 s7 s8 s9 s10 s11 s12 s13 s14 s15 => by kernel_rfl
theorem fl_2_28 : FlOk 2 28 := fun s0 s1 s2 s5 s6 s7 s8 s9 s10 s11 s12 s13 s14 s15 => by kernel_rfl
theorem fl_2_29 : FlOk 2 29 := fun s0 s1 s2 s5 s6 s7 s8 s9 s10 s11 s12 s13 s14 s15 => by kernel_rfl
theorem fl_2_30 : FlOk 2 30 := fun s0 s1 s2 s5 s6 s7 s8 s9 s10 s11 s12 s13 s14 s15 => by kernel_rfl
theorem fl_2_31 : FlOk 2 31 := fun s0 s1 s2 s5 s6 s7 s8 s9 s10 s11 s12 s13 s14 s15 => by kernel_rfl
theorem fl_2_32 : FlOk 2 32 := fun s0 s1 s2 s5 s6 s7 s8 s9 s10 s11 s12 s13 s14 s15 => by kernel_rfl
theorem fl_2_33 : FlOk 2 33 := fun s0 s1 s2 s5 s6 s7 s8 s9 s10 s11 s12 s13 s14 s15 => by kernel_rfl
theorem fl_2_34 : FlOk 2 34 := fun s0 s1 s2 s5 s6 s7 s8 s9 s10 s11 s12 s13 s14 s15 => by kernel_rfl
theorem fl_2_35 : FlOk 2 35 := fun s0 s1 s2 s5 s6 s7 s8 s9 s10 s11 s12 s13 s14 s15 => by kernel_rfl
theorem fl_2_36 : FlOk 2 36 := fun s0 s1 s2 s5 s6 s7 s8 s9 s10 s11 s12 s13 s14 s15 => by kernel_rfl
theorem fl_2_37 : FlOk 2 37 := fun s0 s1 s2 s5 s6 s7 s8 s9 s10 s11 s12 s13 s14 s15 => by kernel_rfl
theorem fl_2_38 : FlOk 2 38 := fun s0 s1 s2 s5 s6 s7 s8 s9 s10 s11 s12 s13 s14 s15 => by kernel_rfl
theorem fl_2_39 : FlOk 2 39 := fun s0 s1 s2 s5 s6 s7 s8 s9 s10 s11 s12 s13 s14 s15 => by kernel_rfl
theorem fl_2_40 : FlOk 2 40 := fun s0 s1 s2 s5 s6 s7 s8 s9 s10 s11 s12 s13 s14 s15 => by kernel_rfl
theorem fl_3_0 : FlOk 3 0 := fun s0 s1 s2 s5 s6 s7 s8 s9 s10 s11 s12 s13 s14 s15 => by kernel_rfl
theorem fl_3_1 : FlOk 3 1 := fun s0 s1 s2 s5 s6 s7 s8 s9 s10 s11 s12 s13 s14 s15 => by kernel_rfl
theorem fl_3_2 : FlOk 3 2 := fun s0 s1 s2 s5 s6 s7 s8 s9 s10 s11 s12 s13 s14 s15 => by kernel_rfl
theorem fl_3_3 : FlOk 3 3 := fun s0 s1 s2 s5 s6 s7 s8 s9 s10 s11 s12 s13 s14 s15 => by kernel_rfl
theorem fl_3_4 : FlOk 3 4 := fun s0 s1 s2 s5 s6 s7 s8 s9 s10 s11 s12 s13 s14 s15 => by kernel_rfl
theorem fl_3_5 : FlOk 3 5 := fun s0 s1 s2 s5 s6 s7 s8 s9 s10 s11 s12 s13 s14 s15 => by kernel_rfl
theorem fl_3_6 : FlOk 3 6 := fun s0 s1 s2 s5 s6 s7 s8 s9 s10 s11 s12 s13 s14 s15 => by kernel_rfl
theorem fl_3_7 : FlOk 3 7 := fun s0 s1 s2 s5 s6 s7 s8 s9 s10 s11 s12 s13 s14 s15 => by kernel_rfl
theorem fl_3_8 : FlOk 3 8 := fun s0 s1 s2 s5 s6 s7 s8 s9 s10 s11 s12 s13 s14 s15 => by kernel_rfl
theorem fl_3_9 : FlOk 3 9 := fun s0 s1 s2 s5 s6 s7 s8 s9 s10 s11 s12 s13 s14 s15 => by kernel_rfl
theorem fl_3_10 : FlOk 3 10 := fun s0 s1 s2 s5 s6 s7 s8 s9 s10 s11 s12 s13 s14 s15 => by kernel_rfl
theorem fl_3_11 : FlOk 3 11 := fun s0 s1 s2 s5 s6 s7 s8 s9 s10 s11 s12 s13 s14 s15 => by kernel_rfl
theorem fl_3_12 : FlOk 3 12 := fun s0 s1 s2 s5 s6 s7 s8 s9 s10 s11 s12 s13 s14 s15 => by kernel_rfl
theorem fl_3_13 : FlOk 3 13 := fun s0 s1 s2 s5 s6 s7 s8 s9 s10 s11 s12 s13 s14 s15 => by kernel_rfl
theorem fl_3_14 : FlOk 3 14 := fun s0 s1 s2 s5 s6 s7 s8 s9 s10 s11 s12 s13 s14 s15 => by kernel_rfl
theorem fl_3_15 : FlOk 3 15 := fun s0 s1 s2 s5 s6 s7 s8 s9 s10 s11 s12 s13 s14 s15 => by kernel_rfl
theorem fl_3_16 : FlOk 3 16 := fun s0 s1 s2 s5 s6 s7 s8 s9 s10 s11 s12 s13 s14 s15 => by kernel_rfl
theorem fl_3_17 : FlOk 3 17 := fun s0 s1 s2 s5 s6 s7 s8 s9 s10 s11 s12 s13 s14 s15 => by kernel_rfl
theorem fl_3_18 : FlOk 3 18 := fun s0 s1 s2 s5 s6 s7 s8 s9 s10 s11 s12 s13 s14 s15 => by kernel_rfl
theorem fl_3_19 : FlOk 3 19 := fun s0 s1 s2 s5 s6 s7 s8 s9 s10 s11 s12 s13 s14 s15 => by kernel_rfl
theorem fl_3_20 : FlOk 3 20 := fun s0 s1 s2 s5 s6 s7 s8 s9 s10 s11 s12 s13 s14 s15 => by kernel_rfl
theorem fl_3_21 : FlOk 3 21 := fun s0 s1 s2 s5 s6 s7 s8 s9 s10 s11 s12 s13 s14 s15 => by kernel_rfl
theorem fl_3_22 : FlOk 3 22 := fun s0 s1 s2 s5 s6 s7 s8 s9 s10 s11 s12 s13 s14 s15 => by kernel_rfl
theorem fl_3_23 : FlOk 3 23 := fun s0 s1 s2 s5 s6 s7 s8 s9 s10 s11 s12 s13 s14 s15 => by kernel_rfl
theorem fl_3_24 : FlOk 3 24 := fun s0 s1 s2 s5 s6 s7 s8 s9 s10 s11 s12 s13 s14 s15 => by kernel_rfl
theorem fl_3_25 : FlOk 3 25 := fun s0 s1 s2 s5 s6 s7 s8 s9 s10 s11 s12 s13 s14 s15 => by kernel_rfl
theorem fl_3_26 : FlOk 3 26 := fun s0 s1 s2 s5 s6 s7 s8 s9 s10 s11 s12 s13 s14 s15 => by kernel_rfl
theorem fl_3_27 : FlOk 3 27 := fun s0 s1 s2 s5 s6 s7 s8 s9 s10 s11 s12 s13 s14 s15 => by kernel_rfl
theorem fl_3_28 : FlOk 3 28 := fun s0 s1 s2 s5 s6 s7 s8 s9 s10 s11 s12 s13 s14 s15 => by kernel_rfl
theorem fl_3_29 : FlOk 3 29 := fun s0 s1 s2 s5 s6 s7 s8 s9 s10 s11 s12 s13 s14 s15 => by kernel_rfl
theorem fl_3_30 : FlOk 3 30 := fun s0 s1 s2 s5 s6 s7 s8 s9 s10 s11 s12 s13 s14 s15 => by kernel_rfl
theorem fl_3_31 : FlOk 3 31 := fun s0 s1 s2 s5 s6 s7 s8 s9 s10 s11 s12 s13 s14 s15 => by kernel_rfl
theorem fl_3_32 : FlOk 3 32 := fun s0 s1 s2 s5 s6 s7 s8 s9 s10 s11 s12 s13 s14 s15 => by kernel_rfl
theorem fl_3_33 : FlOk 3 33 := fun s0 s1 s2 s5 s6 s7 s8 s9 s10 s11 s12 s13 s14 s15 => by kernel_rfl
theorem fl_3_34 : FlOk 3 34 := fun s0 s1 s2 s5 s6 s7 s8 s9 s10 s11 s12 s13 s14 s15 => by kernel_rfl
theorem fl_3_35 : FlOk 3 35 := fun s0 s1 s2 s5 s6 s7 s8 s9 s10 s11 s12 s13 s14 s15 => by kernel_rfl
theorem fl_3_36 : FlOk 3 36 := fun s0 s1 s2 s5 s6 s7 s8 s9 s10 s11 s12 s13 s14 s15 => by kernel_rfl
theorem fl_3_37 : FlOk 3 37 := fun s0 s1 s2 s5 s6 s7 s8 s9 s10 s11 s12 s13 s14 s15 => by kernel_rfl
theorem fl_3_38 : FlOk 3 38 := fun s0 s1 s2 s5 s6 s7 s8 s9 s10 s11 s12 s13 s14 s15 => by kernel_rfl
theorem fl_3_39 : FlOk 3 39 := fun s0 s1 s2 s5 s6 s7 s8 s9 s10 s11 s12 s13 s14 s15 => by kernel_rfl
theorem fl_3_40 : FlOk 3 40 := fun s0 s1 s2 s5 s6 s7 s8 s9 s10 s11 s12 s13 s14 s15 => by kernel_rfl
theorem fl_4_0 : FlOk 4 0 := fun s0 s1 s2 s5 s6 s7 s8 s9 s10 s11 s12 s13 s14 s15 => by kernel_rfl
theorem fl_4_1 : FlOk 4 1 := fun s0 s1 s2 s5 s6 s7 s8 s9 s10 s11 s12 s13 s14 s15 => by kernel_rfl
theorem fl_4_2 : FlOk 4 2 := fun s0 s1 s2 s5 s6 s7 s8 s9 s10 s11 s12 s13 s14 s15 => by kernel_rfl
theorem fl_4_3 : FlOk 4 3 := fun s0 s1 s2 s5 s6 s7 s8 s9 s10 s11 s12 s13 s14 s15 => by kernel_rfl
theorem fl_4_4 : FlOk 4 4 := fun s0 s1 s2 s5 s6 s7 s8 s9 s10 s11 s12 s13 s14 s15 => by kernel_rfl
theorem fl_4_5 : FlOk 4 5 := fun s0 s1 s2 s5 s6 s7 s8 s9 s10 s11 s12 s13 s14 s15 => by kernel_rfl
theorem fl_4_6 : FlOk 4 6 := fun s0 s1 s2 s5 s6 s7 s8 s9 s10 s11 s12 s13 s14 s15 => by kernel_rfl
theorem fl_4_7 : FlOk 4 7 := fun s0 s1 s2 s5 s6 s7 s8 s9 s10 s11 s12 s13 s14 s15 => by kernel_rfl
theorem fl_4_8 : FlOk 4 8 := fun s0 s1 s2 s5 s6 s7 s8 s9 s10 s11 s12 s13 s14 s15 => by kernel_rfl
theorem fl_4_9 : FlOk 4 9 := fun s0 s1 s2 s5 s6 s7 s8 s9 s10 s11 s12 s13 s14 s15 => by kernel_rfl
theorem fl_4_10 : FlOk 4 10 := fun s0 s1 s2 s5 s6 s7 s8 s9 s10 s11 s12 s13 s14 s15 => by kernel_rfl
theorem fl_4_11 : FlOk 4 11 := fun s0 s1 s2 s5 s6 s7 s8 s9 s10 s11 s12 s13 s14 s15 => by kernel_rfl
theorem fl_4_12 : FlOk 4 12 := fun s0 s1 s2 s5 s6 s7 s8 s9 s10 s11 s12 s13 s14 s15 => by kernel_rfl
theorem fl_4_13 : FlOk 4 13 := fun s0 s1 s2 s5 s6 s7 s8 s9 s10 s11 s12 s13 s14 s15 => by kernel_rfl
theorem fl_4_14 : FlOk 4 14 := fun s0 s1 s2 s5 s6 s7 s8 s9 s10 s11 s12 s13 s14 s15 => by kernel_rfl
theorem fl_4_15 : FlOk 4 15 := fun s0 s1 s2 s5 s6 s7 s8 s9 s10 s11 s12 s13 s14 s15 => by kernel_rfl
theorem fl_4_16 : FlOk 4 16 := fun s0 s1 s2 s5 s6 s7 s8 s9 s10 s11 s12 s13 s14 s15 => by kernel_rfl
theorem fl_4_17 : FlOk 4 17 := fun s0 s1 s2 s5 s6 s7 s8 s9 s10 s11 s12 s13 s14 s15 => by kernel_rfl
theorem fl_4_18 : FlOk 4 18 := fun s0 s1 s2 s5 s6 s7 s8 s9 s10 s11 s12 s13 s14 s15 => by kernel_rfl
theorem fl_4_19 : FlOk 4 19 := fun s0 s1 s2 s5 s6 s7 s8 s9 s10 s11 s12 s13 s14 s15 => by kernel_rfl
theorem fl_4_20 : FlOk 4 20 := fun s0 s1 s2 s5 s6 s7 s8 s9 s10 s11 s12 s13 s14 s15 => by kernel_rfl
theorem fl_4_21 : FlOk 4 21 := fun s0 s1 s2 s5 s6 s7 s8 s9 s10 s11 s12 s13 s14 s15 => by kernel_rfl
theorem fl_4_22 : FlOk 4 22 := fun s0 s1 s2 s5 s6 s7 s8 s9 s10 s11 s12 s13 s14 s15 => by kernel_rfl
theorem fl_4_23 : FlOk 4 23 := fun s0 s1 s2 s5 s6 s7 s8 s9 s10 s11 s12 s13 s14 s15 => by kernel_rfl
theorem fl_4_24 : FlOk 4 24 := fun s0 s1 s2 s5 s6 s7 s8 s9 s10 s11 s12 s13 s14 s15 => by kernel_rfl
theorem fl_4_25 : FlOk 4 25 := fun s0 s1 s2 s5 s6 s7 s8 s9 s10 s11 s12 s13 s14 s15 => by kernel_rfl
theorem fl_4_26 : FlOk 4 26 := fun s0 s1 s2 s5 s6 s7 s8 s9 s10 s11 s12 s13 s14 s15 => by kernel_rfl
theorem fl_4_27 : FlOk 4 27 := fun s0 s1 s2 s5 s6 s7 s8 s9 s10 s11 s12 s13 s14 s15 => by kernel_rfl
theorem fl_4_28 : FlOk 4 28 := fun s0 s1 s2 s5 s6 s7 s8 s9 s10 s11 s12 s13 s14 s15 => by kernel_rfl
theorem fl_4_29 : FlOk 4 29 := fun s0 s1 s2 s5 s6 s7 s8 s9 s10 s11 s12 s13 s14 s15 => by kernel_rfl
theorem fl_4_30 : FlOk 4 30 := fun s0 s1 s2 s5 s6 s7 s8 s9 s10 s11 s12 s13 s14 s15 => by kernel_rfl
theorem fl_4_31 : FlOk 4 31 := fun s0 s1 s2 s5 s6 s7 s8 s9 s10 s11 s12 s13 s14 s15 => by kernel_rfl
theorem fl_4_32 : FlOk 4 32 := fun s0 s1 s2 s5 s6 s7 s8 s9 s10 s11 s12 s13 s14 s15 => by kernel_rfl
theorem fl_4_33 : FlOk 4 33 := fun s0 s1 s2 s5 s6 s7 s8 s9 s10 s11 s12 s13 s14 s15 => by kernel_rfl
theorem fl_4_34 : FlOk 4 34 := fun s0 s1 s2 s5 s6 s7 s8 s9 s10 s11 s12 s13 s14 s15 => by kernel_rfl
theorem fl_4_35 : FlOk 4 35 := fun s0 s1 s2 s5 s6 s7 s8 s9 s10 s11 s12 s13 s14 s15 => by kernel_rfl
theorem fl_4_36 : FlOk 4 36 := fun s0 s1 s2 s5 s6 s7 s8 s9 s10 s11 s12 s13 s14 s15 => by kernel_rfl
theorem fl_4_37 : FlOk 4 37 := fun s0 s1 s2 s5 s6 s7 s8 s9 s10 s11 s12 s13 s14 s15 => by kernel_rfl
theorem fl_4_38 : FlOk 4 38 := fun s0 s1 s2 s5 s6 s7 s8 s9 s10 s11 s12 s13 s14 s15 => by kernel_rfl
theorem fl_4_39 : FlOk 4 39 := fun s0 s1 s2 s5 s6 s7 s8 s9 s10 s11 s12 s13 s14 s15 => by kernel_rfl
theorem fl_4_40 : FlOk 4 40 := fun s0 s1 s2 s5 s6 s7 s8 s9 s10 s11 s12 s13 s14 s15 => by kernel_rfl
theorem fl_5_0 : FlOk 5 0 := fun s0 s1 s2 s5 s6 s7 s8 s9 s10 s11 s12 s13 s14 s15 => by kernel_rfl
theorem fl_5_1 : FlOk 5 1 := fun s0 s1 s2 s5 s6 s7 s8 s9 s10 s11 s12 s13 s14 s15 => by kernel_rfl
theorem fl_5_2 : FlOk 5 2 := fun s0 s1 s2 s5 s6 s7 s8 s9 s10 s11 s12 s13 s14 s15 => by kernel_rfl
theorem fl_5_3 : FlOk 5 3 := fun s0 s1 s2 s5 s6 s7 s8 s9 s10 s11 s12 s13 s14 s15 => by kernel_rfl
theorem fl_5_4 : FlOk 5 4 := fun s0 s1 s2 s5 s6 s7 s8 s9 s10 s11 s12 s13 s14 s15 => by kernel_rfl
theorem fl_5_5 : FlOk 5 5 := fun s0 s1 s2 s5 s6 s7 s8 s9 s10 s11 s12 s13 s14 s15 => by kernel_rfl
theorem fl_5_6 : FlOk 5 6 := fun s0 s1 s2 s5 s6 s7 s8 s9 s10 s11 s12 s13 s14 s15 => by kernel_rfl
theorem fl_5_7 : FlOk 5 7 := fun s0 s1 s2 s5 s6 s7 s8 s9 s10 s11 s12 s13 s14 s15 => by kernel_rfl
theorem fl_5_8 : FlOk 5 8 := fun s0 s1 s2 s5 s6 s7 s8 s9 s10 s11 s12 s13 s14 s15 => by kernel_rfl
theorem fl_5_9 : FlOk 5 9 := fun s0 s1 s2 s5 s6 s7 s8 s9 s10 s11 s12 s13 s14 s15 => by kernel_rfl
theorem fl_5_10 : FlOk 5 10 := fun s0 s1 s2 s5 s6 s7 s8 s9 s10 s11 s12 s13 s14 s15 => by kernel_rfl
theorem fl_5_11 : FlOk 5 11 := fun s0 s1 s2 s5 s6 s7 s8 s9 s10 s11 s12 s13 s14 s15 => by kernel_rfl
theorem fl_5_12 : FlOk 5 12 := fun s0 s1 s2 s5 s6 s7 s8 s9 s10 s11 s12 s13 s14 s15 => by kernel_rfl
theorem fl_5_13 : FlOk 5 13 := fun s0 s1 s2 s5 s6 s7 s8 s9 s10 s11 s12 s13 s14 s15 => by kernel_rfl
theorem fl_5_14 : FlOk 5 14 := fun s0 s1 s2 s5 s6 s7 s8 s9 s10 s11 s12 s13 s14 s15 => by kernel_rfl
theorem fl_5_15 : FlOk 5 15 := fun s0 s1 s2 s5 s6 s7 s8 s9 s10 s11 s12 s13 s14 s15 => by kernel_rfl
theorem fl_5_16 : FlOk 5 16 := fun s0 s1 s2 s5 s6 s7 s8 s9 s10 s11 s12 s13 s14 s15 => by kernel_rfl
theorem fl_5_17 : FlOk 5 17 := fun s0 s1 s2 s5 s6 s7 s8 s9 s10 s11 s12 s13 s14 s15 => by kernel_rfl
theorem fl_5_18 : FlOk 5 18 := fun s0 s1 s2 s5 s6 s7 s8 s9 s10 s11 s12 s13 s14 s15 => by kernel_rfl
theorem fl_5_19 : FlOk 5 19 := fun s0 s1 s2 s5 s6 s7 s8 s9 s10 s11 s12 s13 s14 s15 => by kernel_rfl
theorem fl_5_20 : FlOk 5 20 := fun s0 s1 s2 s5 s6 s7 s8 s9 s10 s11 s12 s13 s14 s15 => by kernel_rfl
theorem fl_5_21 : FlOk 5 21 := fun s0 s1 s2 s5 s6 s7 s8 s9 s10 s11 s12 s13 s14 s15 => by kernel_rfl
theorem fl_5_22 : FlOk 5 22 := fun s0 s1 s2 s5 s6 s7 s8 s9 s10 s11 s12 s13 s14 s15 => by kernel_rfl
theorem fl_5_23 : FlOk 5 23 := fun s0 s1 s2 s5 s6 s7 s8 s9 s10 s11 s12 s13 s14 s15 => by kernel_rfl
theorem fl_5_24 : FlOk 5 24 := fun s0 s1 s2 s5 s6 s7 s8 s9 s10 s11 s12 s13 s14 s15 => by kernel_rfl
theorem fl_5_25 : FlOk 5 25 := fun s0 s1 s2 s5 s6 s7 s8 s9 s10 s11 s12 s13 s14 s15 => by kernel_rfl
theorem fl_5_26 : FlOk 5 26 := fun s0 s1 s2 s5 s6 s7 s8 s9 s10 s11 s12 s13 s14 s15 => by kernel_rfl
theorem fl_5_27 : FlOk 5 27 := fun s0 s1 s2 s5 s6 s7 s8 s9 s10 s11 s12 s13 s14 s15 => by kernel_rfl
theorem fl_5_28 : FlOk 5 28 := fun s0 s1 s2 s5 s6 s7 s8 s9 s10 s11 s12 s13 s14 s15 => by kernel_rfl
theorem fl_5_29 : FlOk 5 29 := fun s0 s1 s2 s5 s6 s7 s8 s9 s10 s11 s12 s13 s14 s15 => by kernel_rfl
theorem fl_5_30 : FlOk 5 30 := fun s0 s1 s2 s5 s6 s7 s8 s9 s10 s11 s12 s13 s14 s15 => by kernel_rfl
theorem fl_5_31 : FlOk 5 31 := fun s0 s1 s2 s5 s6 s7 s8 s9 s10 s11 s12 s13 s14 s15 => by kernel_rfl
theorem fl_5_32 : FlOk 5 32 := fun s0 s1 s2 s5 s6 s7 s8 s9 s10 s11 s12 s13 s14 s15 => by kernel_rfl
theorem fl_5_33 : FlOk 5 33 := fun s0 s1 s2 s5 s6 s7 s8 s9 s10 s11 s12 s13 s14 s15 => by kernel_rfl
theorem fl_5_34 : FlOk 5 34 := fun s0 s1 s2 s5 s6 s7 s8 s9 s10 s11 s12 s13 s14 s15 => by kernel_rfl
theorem fl_5_35 : FlOk 5 35 := fun s0 s1 s2 s5 s6 s7 s8 s9 s10 s11 s12 s13 s14 s15 => by kernel_rfl
theorem fl_5_36 : FlOk 5 36 := fun s0 s1 s2 s5 s6 s7 s8 s9 s10 s11 s12 s13 s14 s15 => by kernel_rfl
theorem fl_5_37 : FlOk 5 37 := fun s0 s1 s2 s5 s6 s7 s8 s9 s10 s11 s12 s13 s14 s15 => by kernel_rfl
theorem fl_5_38 : FlOk 5 38 := fun s0 s1 s2 s5 s6 s7 s8 s9 s10 s11 s12 s13 s14 s15 => by kernel_rfl
theorem fl_5_39 : FlOk 5 39 := fun s0 s1 s2 s5 s6 s7 s8 s9 s10 s11 s12 s13 s14 s15 => by kernel_rfl
theorem fl_5_40 : FlOk 5 40 := fun s0 s1 s2 s5 s6 s7 s8 s9 s10 s11 s12 s13 s14 s15 => by kernel_rfl
theorem fl_6_0 : FlOk 6 0 := fun s0 s1 s2 s5 s6 s7 s8 s9 s10 s11 s12 s13 s14 s15 => by kernel_rfl
theorem fl_6_1 : FlOk 6 1 := fun s0 s1 s2 s5 s6 s7 s8 s9 s10 s11 s12 s13 s14 s15 => by kernel_rfl
theorem fl_6_2 : FlOk 6 2 := fun s0 s1 s2 s5 s6 s7 s8 s9 s10 s11 s12 s13 s14 s15 => by kernel_rfl
theorem fl_6_3 : FlOk 6 3 := fun s0 s1 s2 s5 s6 s7 s8 s9 s10 s11 s12 s13 s14 s15 => by kernel_rfl
theorem fl_6_4 : FlOk 6 4 := fun s0 s1 s2 s5 s6 s7 s8 s9 s10 s11 s12 s13 s14 s15 => by kernel_rfl
theorem fl_6_5 : FlOk 6 5 := fun s0 s1 s2 s5 s6 s7 s8 s9 s10 s11 s12 s13 s14 s15 => by kernel_rfl
theorem fl_6_6 : FlOk 6 6 := fun s0 s1 s2 s5 s6 s7 s8 s9 s10 s11 s12 s13 s14 s15 => by kernel_rfl
theorem fl_6_7 : FlOk 6 7 := fun s0 s1 s2 s5 s6 s7 s8 s9 s10 s11 s12 s13 s14 s15 => by kernel_rfl
theorem fl_6_8 : FlOk 6 8 := fun s0 s1 s2 s5 s6 s7 s8 s9 s10 s11 s12 s13 s14 s15 => by kernel_rfl
theorem fl_6_9 : FlOk 6 9 := fun s0 s1 s2 s5 s6 s7 s8 s9 s10 s11 s12 s13 s14 s15 => by kernel_rfl
theorem fl_6_10 : FlOk 6 10 := fun s0 s1 s2 s5 s6 s7 s8 s9 s10 s11 s12 s13 s14 s15 => by kernel_rfl
theorem fl_6_11 : FlOk 6 11 := fun s0 s1 s2 s5 s6 s7 s8 s9 s10 s11 s12 s13 s14 s15 => by kernel_rfl
theorem fl_6_12 : FlOk 6 12 := fun s0 s1 s2 s5 s6 s7 s8 s9 s10 s11 s12 s13 s14 s15 => by kernel_rfl
theorem fl_6_13 : FlOk 6 13 := fun s0 s1 s2 s5 s6 s7 s8 s9 s10 s11 s12 s13 s14 s15 => by kernel_rfl
theorem fl_6_14 : FlOk 6 14 := fun s0 s1 s2 s5 s6 s7 s8 s9 s10 s11 s12 s13 s14 s15 => by kernel_rfl
theorem fl_6_15 : FlOk 6 15 := fun s0 s1 s2 s5 s6 s7 s8 s9 s10 s11 s12 s13 s14 s15 => by kernel_rfl
theorem fl_6_16 : FlOk 6 16 := fun s0 s1 s2 s5 s6 s7 s8 s9 s10 s11 s12 s13 s14 s15 => by kernel_rfl
theorem fl_6_17 : FlOk 6 17 := fun s0 s1 s2 s5 s6 s7 s8 s9 s10 s11 s12 s13 s14 s15 => by kernel_rfl
theorem fl_6_18 : FlOk 6 18 := fun s0 s1 s2 s5 s6 s7 s8 s9 s10 s11 s12 s13 s14 s15 => by kernel_rfl
theorem fl_6_19 : FlOk 6 19 := fun s0 s1 s2 s5 s6 s7 s8 s9 s10 s11 s12 s13 s14 s15 => by kernel_rfl
theorem fl_6_20 : FlOk 6 20 := fun s0 s1 s2 s5 s6 s7 s8 s9 s10 s11 s12 s13 s14 s15 => by kernel_rfl
theorem fl_6_21 : FlOk 6 21 := fun s0 s1 s2 s5 s6 s7 s8 s9 s10 s11 s12 s13 s14 s15 => by kernel_rfl
theorem fl_6_22 : FlOk 6 22 := fun s0 s1 s2 s5 s6 s7 s8 s9 s10 s11 s12 s13 s14 s15 => by kernel_rfl
theorem fl_6_23 : FlOk 6 23 := fun s0 s1 s2 s5 s6 s7 s8 s9 s10 s11 s12 s13 s14 s15 => by kernel_rfl
theorem fl_6_24 : FlOk 6 24 := fun s0 s1 s2 s5 s6 s7 s8 s9 s10 s11 s12 s13 s14 s15 => by kernel_rfl
theorem fl_6_25 : FlOk 6 25 := fun s0 s1 s2 s5 s6 s7 s8 s9 s10 s11 s12 s13 s14 s15 => by kernel_rfl
theorem fl_6_26 : FlOk 6 26 := fun s0 s1 s2 s5 s6 s7 s8 s9 s10 s11 s12 s13 s14 s15 => by kernel_rfl
theorem fl_6_27 : FlOk 6 27 := fun s0 s1 s2 s5 s6 s7 s8 s9 s10 s11 s12 s13 s14 s15 => by kernel_rfl
theorem fl_6_28 : FlOk 6 28 := fun s0 s1 s2 s5 s6 s7 s8 s9 s10 s11 s12 s13 s14 s15 => by kernel_rfl
theorem fl_6_29 : FlOk 6 29 := fun s0 s1 s2 s5 s6 s7 s8 s9 s10 s11 s12 s13 s14 s15 => by kernel_rfl
theorem fl_6_30 : FlOk 6 30 := fun s0 s1 s2 s5 s6 s7 s8 s9 s10 s11 s12 s13 s14 s15 => by kernel_rfl
theorem fl_6_31 : FlOk 6 31 := fun s0 s1 s2 s5 s6 s7 s8 s9 s10 s11 s12 s13 s14 s15 => by kernel_rfl
theorem fl_6_32 : FlOk 6 32 := fun s0 s1 s2 s5 s6 s7 s8 s9 s10 s11 s12 s13 s14 s15 => by kernel_rfl
theorem fl_6_33 : FlOk 6 33 := fun s0 s1 s2 s5 s6 s7 s8 s9 s10 s11 s12 s13 s14 s15 => by kernel_rfl
theorem fl_6_34 : FlOk 6 34 := fun s0 s1 s2 s5 s6 s7 s8 s9 s10 s11 s12 s13 s14 s15 => by kernel_rfl
theorem fl_6_35 : FlOk 6 35 := fun s0 s1 s2 s5 s6 s7 s8 s9 s10 s11 s12 s13 s14 s15 => by kernel_rfl
theorem fl_6_36 : FlOk 6 36 := fun s0 s1 s2 s5 s6 s7 s8 s9 s10 s11 s12 s13 s14 s15 => by kernel_rfl
theorem fl_6_37 : FlOk 6 37 := fun s0 s1 s2 s5 s6 s7 s8 s9 s10 s11 s12 s13 s14 s15 => by kernel_rfl
theorem fl_6_38 : FlOk 6 38 := fun s0 s1 s2 s5 s6 s7 s8 s9 s10 s11 s12 s13 s14 s15 => by kernel_rfl
theorem fl_6_39 : FlOk 6 39 := fun s0 s1 s2 s5 s6 s7 s8 s9 s10 s11 s12 s13 s14 s15 => by kernel_rfl
theorem fl_6_40 : FlOk 6 40 := fun s0 s1 s2 s5 s6 s7 s8 s9 s10 s11 s12 s13 s14 s15 => by kernel_rfl
theorem fl_2 : ∀ r, r ≤ 40 → FlOk 2 r
  | 0, _ => fl_2_0
  | 1, _ => fl_2_1
  | 2, _ => fl_2_2
  | 3, _ => fl_2_3
  | 4, _ => fl_2_4
  | 5, _ => fl_2_5
  | 6, _ => fl_2_6
  | 7, _ => fl_2_7
  | 8, _ => fl_2_8
  | 9, _ => fl_2_9
  | 10, _ => fl_2_10
  | 11, _ => fl_2_11
  | 12, _ => fl_2_12
  | 13, _ => fl_2_13
  | 14, _ => fl_2_14
  | 15, _ => fl_2_15
  | 16, _ => fl_2_16
  | 17, _ => fl_2_17
  | 18, _ => fl_2_18
  | 19, _ => fl_2_19
  | 20, _ => fl_2_20
  | 21, _ => fl_2_21
  | 22, _ => fl_2_22
  | 23, _ => fl_2_23
  | 24, _ => fl_2_24
  | 25, _ => fl_2_25
  | 26, _ => fl_2_26
  | 27, _ => fl_2_27
  | 28, _ => fl_2_28
  | 29, _ => fl_2_29
  | 30, _ => fl_2_30
  | 31, _ => fl_2_31
  | 32, _ => fl_2_32
  | 33, _ => fl_2_33
  | 34, _ => fl_2_34
  | 35, _ => fl_2_35
  | 36, _ => fl_2_36
  | 37, _ => fl_2_37
  | 38, _ => fl_2_38
  | 39, _ => fl_2_39
  | 40, _ => fl_2_40
  | n + 41, h => absurd h (by omega)
theorem fl_3 : ∀ r, r ≤ 40 → FlOk 3 r
  | 0, _ => fl_3_0
  | 1, _ => fl_3_1
  | 2, _ => fl_3_2
  | 3, _ => fl_3_3
  | 4, _ => fl_3_4
  | 5, _ => fl_3_5
  | 6, _ => fl_3_6
  | 7, _ => fl_3_7
  | 8, _ => fl_3_8
  | 9, _ => fl_3_9
  | 10, _ => fl_3_10
  | 11, _ => fl_3_11
  | 12, _ => fl_3_12
  | 13, _ => fl_3_13
  | 14, _ => fl_3_14
  | 15, _ => fl_3_15
  | 16, _ => fl_3_16
  | 17, _ => fl_3_17
  | 18, _ => fl_3_18
  | 19, _ => fl_3_19
  | 20, _ => fl_3_20
  | 21, _ => fl_3_21
  | 22, _ => fl_3_22
  | 23, _ => fl_3_23
  | 24, _ => fl_3_24
  | 25, _ => fl_3_25
  | 26, _ => fl_3_26
  | 27, _ => fl_3_27
  | 28, _ => fl_3_28
  | 29, _ => fl_3_29
  | 30, _ => fl_3_30
  | 31, _ => fl_3_31
  | 32, _ => fl_3_32
  | 33, _ => fl_3_33
  | 34, _ => fl_3_34
  | 35, _ => fl_3_35
  | 36, _ => fl_3_36
  | 37, _ => fl_3_37
  | 38, _ => fl_3_38
  | 39, _ => fl_3_39
  | 40, _ => fl_3_40
  | n + 41, h => absurd h (by omega)
theorem fl_4 : ∀ r, r ≤ 40 → FlOk 4 r
  | 0, _ => fl_4_0
  | 1, _ => fl_4_1
  | 2, _ => fl_4_2
  | 3, _ => fl_4_3
  | 4, _ => fl_4_4
  | 5, _ => fl_4_5
  | 6, _ => fl_4_6
  | 7, _ => fl_4_7
  | 8, _ => fl_4_8
  | 9, _ => fl_4_9
  | 10, _ => fl_4_10
  | 11, _ => fl_4_11
  | 12, _ => fl_4_12
  | 13, _ => fl_4_13
  | 14, _ => fl_4_14
  | 15, _ => fl_4_15
  | 16, _ => fl_4_16
  | 17, _ => fl_4_17
  | 18, _ => fl_4_18
  | 19, _ => fl_4_19
  | 20, _ => fl_4_20
  | 21, _ => fl_4_21
  | 22, _ => fl_4_22
  | 23, _ => fl_4_23
  | 24, _ => fl_4_24
  | 25, _ => fl_4_25
  | 26, _ => fl_4_26
  | 27, _ => fl_4_27
  | 28, _ => fl_4_28
  | 29, _ => fl_4_29
  | 30, _ => fl_4_30
  | 31, _ => fl_4_31
  | 32, _ => fl_4_32
  | 33, _ => fl_4_33
  | 34, _ => fl_4_34
  | 35, _ => fl_4_35
  | 36, _ => fl_4_36
  | 37, _ => fl_4_37
  | 38, _ => fl_4_38
  | 39, _ => fl_4_39
  | 40, _ => fl_4_40
  | n + 41, h => absurd h (by omega)
theorem fl_5 : ∀ r, r ≤ 40 → FlOk 5 r
  | 0, _ => fl_5_0
  | 1, _ => fl_5_1
  | 2, _ => fl_5_2
  | 3, _ => fl_5_3
  | 4, _ => fl_5_4
  | 5, _ => fl_5_5
  | 6, _ => fl_5_6
  | 7, _ => fl_5_7
  | 8, _ => fl_5_8
  | 9, _ => fl_5_9
  | 10, _ => fl_5_10
  | 11, _ => fl_5_11
  | 12, _ => fl_5_12
  | 13, _ => fl_5_13
  | 14, _ => fl_5_14
  | 15, _ => fl_5_15
  | 16, _ => fl_5_16
  | 17, _ => fl_5_17
  | 18, _ => fl_5_18
  | 19, _ => fl_5_19
  | 20, _ => fl_5_20
  | 21, _ => fl_5_21
  | 22, _ => fl_5_22
  | 23, _ => fl_5_23
  | 24, _ => fl_5_24
  | 25, _ => fl_5_25
  | 26, _ => fl_5_26
  | 27, _ => fl_5_27
  | 28, _ => fl_5_28
  | 29, _ => fl_5_29
  | 30, _ => fl_5_30
  | 31, _ => fl_5_31
  | 32, _ => fl_5_32
  | 33, _ => fl_5_33
  | 34, _ => fl_5_34
  | 35, _ => fl_5_35
  | 36, _ => fl_5_36
  | 37, _ => fl_5_37
  | 38, _ => fl_5_38
  | 39, _ => fl_5_39
  | 40, _ => fl_5_40
  | n + 41, h => absurd h (by omega)
theorem fl_6 : ∀ r, r ≤ 40 → FlOk 6 r
  | 0, _ => fl_6_0
  | 1, _ => fl_6_1
  | 2, _ => fl_6_2
  | 3, _ => fl_6_3
  | 4, _ => fl_6_4
  | 5, _ => fl_6_5
  | 6, _ => fl_6_6
  | 7, _ => fl_6_7
  | 8, _ => fl_6_8
  | 9, _ => fl_6_9
  | 10, _ => fl_6_10
  | 11, _ => fl_6_11
  | 12, _ => fl_6_12
  | 13, _ => fl_6_13
  | 14, _ => fl_6_14
  | 15, _ => fl_6_15
  | 16, _ => fl_6_16
  | 17, _ => fl_6_17
  | 18, _ => fl_6_18
  | 19, _ => fl_6_19
  | 20, _ => fl_6_20
  | 21, _ => fl_6_21
  | 22, _ => fl_6_22
  | 23, _ => fl_6_23
  | 24, _ => fl_6_24
  | 25, _ => fl_6_25
  | 26, _ => fl_6_26
  | 27, _ => fl_6_27
  | 28, _ => fl_6_28
  | 29, _ => fl_6_29
  | 30, _ => fl_6_30
  | 31, _ => fl_6_31
  | 32, _ => fl_6_32
  | 33, _ => fl_6_33
  | 34, _ => fl_6_34
  | 35, _ => fl_6_35
  | 36, _ => fl_6_36
  | 37, _ => fl_6_37
  | 38, _ => fl_6_38
  | 39, _ => fl_6_39
  | 40, _ => fl_6_40
  | n + 41, h => absurd h (by omega)
theorem flat {s r : Nat} (h2 : 2 ≤ s) (h6 : s ≤ 6) (hr : r ≤ 40) : FlOk s r := by
  have : s = 2 ∨ s = 3 ∨ s = 4 ∨ s = 5 ∨ s = 6 := by omega
  rcases this with rfl | rfl | rfl | rfl | rfl
  · exact fl_2 r hr
  · exact fl_3 r hr
  · exact fl_4 r hr
  · exact fl_5 r hr
  · exact fl_6 r hr
end G
namespace G
open PySem PySem.Spec PyProof.Rows L2 PD PySem.W
/-! ## the law's turn: a drawn word -/
theorem row_list {n : Nat} (hn : n ≤ 6) (s0 s1 s2 s4 s5 s6 s7 s8 s9 s10 s11 s12 s13 s14 s15 : Sl) : lrE2 (cE (.int 1)) (op2 addD (vE 3) (cE (.int 1))) [s0, s1, s2, .d (.int (n : Nat)), s4, s5, s6, s7, s8, s9, s10, s11, s12, s13, s14, s15] = .ok (.list (encN (row0 n))) :=
  lr_row (n := n) (by omega) _ _ _ rfl rfl
theorem here_ix {n : Nat} {w : List Int} {s : Nat} (h1 : 1 ≤ s) (h2 : s ≤ n) : ixD (.tuple (encN (endsL n w))) (.int (((s : Nat) : Int) - 1)) = .ok (.int (endN w s : Nat)) := ends_ix h1 h2
/-- the law's own walk round -/
theorem e_round {n : Nat} (h6 : n ≤ 6) {w : List Int} (hw : Wd n w) {κ : Nat} (k1 : 1 ≤ κ) (k60 : κ ≤ 60) (kh : here n w κ = row0 n) (kmin : ∀ j, 1 ≤ j → j < κ → here n w j ≠ row0 n) (s0 s1 s2 s4 s5 s6 s7 s8 s9 s13 s14 s15 : Sl) :
    ∃ t7, whileM t6_law w5_law 1000000000 [s0, s1, s2, .d (.int (n : Nat)), s4, s5, s6, s7, s8, s9, .d (.tuple (encN (endsL n w))), .d (.list (encN (row0 n))), .d (.int 0), s13, s14, s15] = .ok (.nx [s0, s1, s2, .d (.int (n : Nat)), s4, s5, s6, t7, s8, s9, .d (.tuple (encN (endsL n w))), .d (.list (encN (row0 n))), .d (.int (κ : Nat)), s13, s14, s15]) := by
  obtain ⟨ρ', e1, t7, rfl⟩ := whileM_inv (c := t6_law) (b := w5_law)
    (I := fun m ρ => ∃ (k : Nat) (t7 : Sl), k ≤ κ ∧ m = κ - k ∧ ρ = [s0, s1, s2, .d (.int (n : Nat)), s4, s5, s6, t7, s8, s9, .d (.tuple (encN (endsL n w))), .d (.list (encN (here n w k))), .d (.int (k : Nat)), s13, s14, s15])
    (Q := fun ρ => ∃ t7 : Sl, ρ = [s0, s1, s2, .d (.int (n : Nat)), s4, s5, s6, t7, s8, s9, .d (.tuple (encN (endsL n w))), .d (.list (encN (row0 n))), .d (.int (κ : Nat)), s13, s14, s15])
    (fun m ρ hI => by
      obtain ⟨k, t7, hk2, hm, rfl⟩ := hI
      have rl := row_list (n := n) h6 s0 s1 s2 s4 s5 s6 t7 s8 s9 (.d (.tuple (encN (endsL n w)))) (.d (.list (encN (here n w k)))) (.d (.int (k : Nat))) s13 s14 s15
      have q0 := int_eq (k : Nat) 0
      have n1 := ne_rows (here n w k) (row0 n)
      have go : here n w k ≠ row0 n ∨ k = 0 → k < κ ∧ t6_law [s0, s1, s2, .d (.int (n : Nat)), s4, s5, s6, t7, s8, s9, .d (.tuple (encN (endsL n w))), .d (.list (encN (here n w k))), .d (.int (k : Nat)), s13, s14, s15] = .ok true := fun hh => by
        refine ⟨?_, ?_⟩
        · rcases hh with hh | hh
          · refine Classical.byContradiction fun z => hh ?_
            rw [show k = κ by omega]
            exact kh
          · omega
        · unfold t6_law
          by_cases c0 : k = 0
          · rw [decide_eq_true (by omega)] at q0
            simp only [seqS_ap, setS_ap, setLS_ap, asgS_ap, ifS_ap, forS_ap, itE_ap, argI_ap, callE_ap, callB_ap, consA_ap, nilA_ap, op2_ap, op1_ap, tvE_ap, andT_ap, orT_ap, notT_ap, andE_ap, orE_ap, notE_ap, ifE_ap, chainE_ap, slE_ap, pAt_ap, pNo_ap, intD_ap, vE_ap, vB_ap, cE_ap, tupE_ap, lstE_ap, retS_ap, retNS_ap, nxS_ap, errS_ap, dropS_ap, frzS_ap, appS_ap, getLo_ap, augS_ap, List.getElem?_cons_zero, List.getElem?_cons_succ, ofS_d, ofB_d, ofB_lo, ofL_lo, ofF_lo, ofF_d, bind_ok, bind_err, boolD_ap, iteR_t, iteR_f, iteR_err, kT_ap, List.set_cons_succ, List.set_cons_zero, thenS_nx, thenS_rt, thenS_err, thenS_bk, thenS_ct, oListD_ap, iterD_list, iterD_tuple, isi_ap, add_ii, sub_ii, neg_i, lt_ii, gt_ii, le_ii, ge_ii, int1_i, isNone_none, notNone_none, outR_nx, outR_rt, outR_err, List.length_cons, List.length_nil, if_true, zl0, zl1, zl2, zl3, zl4, zl5, zl6, zl7, zl8, zl9, zl10, zl11, zl12, zl13, ql1, ql2, ql3, ql4, ql5, Bool.not_true, Bool.not_false, gN_ap, gT_tuple, gsCons_ap, gsNil_ap, PD.len_tuple, PD.len_list, tuple1_list, tuple1_tuple, list1_list, list1_tuple, rev_list, rev_tuple, q0]
          · rw [decide_eq_false (by omega)] at q0
            rcases hh with hh | hh
            · rw [decide_eq_false hh] at n1
              simp only [seqS_ap, setS_ap, setLS_ap, asgS_ap, ifS_ap, forS_ap, itE_ap, argI_ap, callE_ap, callB_ap, consA_ap, nilA_ap, op2_ap, op1_ap, tvE_ap, andT_ap, orT_ap, notT_ap, andE_ap, orE_ap, notE_ap, ifE_ap, chainE_ap, slE_ap, pAt_ap, pNo_ap, intD_ap, vE_ap, vB_ap, cE_ap, tupE_ap, lstE_ap, retS_ap, retNS_ap, nxS_ap, errS_ap, dropS_ap, frzS_ap, appS_ap, getLo_ap, augS_ap, List.getElem?_cons_zero, List.getElem?_cons_succ, ofS_d, ofB_d, ofB_lo, ofL_lo, ofF_lo, ofF_d, bind_ok, bind_err, boolD_ap, iteR_t, iteR_f, iteR_err, kT_ap, List.set_cons_succ, List.set_cons_zero, thenS_nx, thenS_rt, thenS_err, thenS_bk, thenS_ct, oListD_ap, iterD_list, iterD_tuple, isi_ap, add_ii, sub_ii, neg_i, lt_ii, gt_ii, le_ii, ge_ii, int1_i, isNone_none, notNone_none, outR_nx, outR_rt, outR_err, List.length_cons, List.length_nil, if_true, zl0, zl1, zl2, zl3, zl4, zl5, zl6, zl7, zl8, zl9, zl10, zl11, zl12, zl13, ql1, ql2, ql3, ql4, ql5, Bool.not_true, Bool.not_false, gN_ap, gT_tuple, gsCons_ap, gsNil_ap, PD.len_tuple, PD.len_list, tuple1_list, tuple1_tuple, list1_list, list1_tuple, rev_list, rev_tuple, q0, rl, n1]
            · exact absurd hh c0
      by_cases c : here n w k ≠ row0 n ∨ k = 0
      · obtain ⟨hlt, ht⟩ := go c
        have ll : l4_law [s0, s1, s2, .d (.int (n : Nat)), s4, s5, s6, t7, s8, s9, .d (.tuple (encN (endsL n w))), .d (.list (encN (here n w k))), .d (.int (k : Nat)), s13, s14, s15] = .ok (.list (encN (here n w (k + 1)))) := by
          unfold l4_law
          rw [here_succ]
          have := lcE_all (mi := itE (vE 11)) (vs := [7]) (g := gN 7) (e := op2 ixD (vE 10) (op2 subD (vE 7) (cE (.int 1)))) (ρ := [s0, s1, s2, .d (.int (n : Nat)), s4, s5, s6, t7, s8, s9, .d (.tuple (encN (endsL n w))), .d (.list (encN (here n w k))), .d (.int (k : Nat)), s13, s14, s15])
            (enc := fun y : Nat => PyData.int (y : Nat)) (f := fun y => PyData.int ((endN w y : Nat) : Int)) (here n w k) (by simp only [seqS_ap, setS_ap, setLS_ap, asgS_ap, ifS_ap, forS_ap, itE_ap, argI_ap, callE_ap, callB_ap, consA_ap, nilA_ap, op2_ap, op1_ap, tvE_ap, andT_ap, orT_ap, notT_ap, andE_ap, orE_ap, notE_ap, ifE_ap, chainE_ap, slE_ap, pAt_ap, pNo_ap, intD_ap, vE_ap, vB_ap, cE_ap, tupE_ap, lstE_ap, retS_ap, retNS_ap, nxS_ap, errS_ap, dropS_ap, frzS_ap, appS_ap, getLo_ap, augS_ap, List.getElem?_cons_zero, List.getElem?_cons_succ, ofS_d, ofB_d, ofB_lo, ofL_lo, ofF_lo, ofF_d, bind_ok, bind_err, boolD_ap, iteR_t, iteR_f, iteR_err, kT_ap, List.set_cons_succ, List.set_cons_zero, thenS_nx, thenS_rt, thenS_err, thenS_bk, thenS_ct, oListD_ap, iterD_list, iterD_tuple, isi_ap, add_ii, sub_ii, neg_i, lt_ii, gt_ii, le_ii, ge_ii, int1_i, isNone_none, notNone_none, outR_nx, outR_rt, outR_err, List.length_cons, List.length_nil, if_true, zl0, zl1, zl2, zl3, zl4, zl5, zl6, zl7, zl8, zl9, zl10, zl11, zl12, zl13, ql1, ql2, ql3, ql4, ql5, Bool.not_true, Bool.not_false, gN_ap, gT_tuple, gsCons_ap, gsNil_ap, PD.len_tuple, PD.len_list, tuple1_list, tuple1_tuple, list1_list, list1_tuple, rev_list, rev_tuple]; rfl) (by rw [here_len]; exact Nat.le_of_lt (Nat.lt_of_le_of_lt h6 (by decide))) fun s hs => by
              have hr := here_rng hw.c hs
              have ix := ends_ix (w := w) hr.1 hr.2
              refine ⟨_, gN_ap .., ?_⟩
              rw [show (wipeE [s0, s1, s2, .d (.int (n : Nat)), s4, s5, s6, t7, s8, s9, .d (.tuple (encN (endsL n w))), .d (.list (encN (here n w k))), .d (.int (k : Nat)), s13, s14, s15] [7]).set 7 (.d (.int (s : Nat))) = [s0, s1, s2, .d (.int (n : Nat)), s4, s5, s6, .d (.int (s : Nat)), s8, s9, .d (.tuple (encN (endsL n w))), .d (.list (encN (here n w k))), .d (.int (k : Nat)), s13, s14, s15] from rfl]
              simp only [seqS_ap, setS_ap, setLS_ap, asgS_ap, ifS_ap, forS_ap, itE_ap, argI_ap, callE_ap, callB_ap, consA_ap, nilA_ap, op2_ap, op1_ap, tvE_ap, andT_ap, orT_ap, notT_ap, andE_ap, orE_ap, notE_ap, ifE_ap, chainE_ap, slE_ap, pAt_ap, pNo_ap, intD_ap, vE_ap, vB_ap, cE_ap, tupE_ap, lstE_ap, retS_ap, retNS_ap, nxS_ap, errS_ap, dropS_ap, frzS_ap, appS_ap, getLo_ap, augS_ap, List.getElem?_cons_zero, List.getElem?_cons_succ, ofS_d, ofB_d, ofB_lo, ofL_lo, ofF_lo, ofF_d, bind_ok, bind_err, boolD_ap, iteR_t, iteR_f, iteR_err, kT_ap, List.set_cons_succ, List.set_cons_zero, thenS_nx, thenS_rt, thenS_err, thenS_bk, thenS_ct, oListD_ap, iterD_list, iterD_tuple, isi_ap, add_ii, sub_ii, neg_i, lt_ii, gt_ii, le_ii, ge_ii, int1_i, isNone_none, notNone_none, outR_nx, outR_rt, outR_err, List.length_cons, List.length_nil, if_true, zl0, zl1, zl2, zl3, zl4, zl5, zl6, zl7, zl8, zl9, zl10, zl11, zl12, zl13, ql1, ql2, ql3, ql4, ql5, Bool.not_true, Bool.not_false, gN_ap, gT_tuple, gsCons_ap, gsNil_ap, PD.len_tuple, PD.len_list, tuple1_list, tuple1_tuple, list1_list, list1_tuple, rev_list, rev_tuple, ix]
          rw [this]
          unfold encN
          rw [List.map_map]
          rfl
        refine .inr ⟨ht, _, κ - (k + 1), parS_ap 11 12 _ _ (.list (encN (here n w (k + 1)))) (.int ((k + 1 : Nat) : Int)) (by simp only [seqS_ap, setS_ap, setLS_ap, asgS_ap, ifS_ap, forS_ap, itE_ap, argI_ap, callE_ap, callB_ap, consA_ap, nilA_ap, op2_ap, op1_ap, tvE_ap, andT_ap, orT_ap, notT_ap, andE_ap, orE_ap, notE_ap, ifE_ap, chainE_ap, slE_ap, pAt_ap, pNo_ap, intD_ap, vE_ap, vB_ap, cE_ap, tupE_ap, lstE_ap, retS_ap, retNS_ap, nxS_ap, errS_ap, dropS_ap, frzS_ap, appS_ap, getLo_ap, augS_ap, List.getElem?_cons_zero, List.getElem?_cons_succ, ofS_d, ofB_d, ofB_lo, ofL_lo, ofF_lo, ofF_d, bind_ok, bind_err, boolD_ap, iteR_t, iteR_f, iteR_err, kT_ap, List.set_cons_succ, List.set_cons_zero, thenS_nx, thenS_rt, thenS_err, thenS_bk, thenS_ct, oListD_ap, iterD_list, iterD_tuple, isi_ap, add_ii, sub_ii, neg_i, lt_ii, gt_ii, le_ii, ge_ii, int1_i, isNone_none, notNone_none, outR_nx, outR_rt, outR_err, List.length_cons, List.length_nil, if_true, zl0, zl1, zl2, zl3, zl4, zl5, zl6, zl7, zl8, zl9, zl10, zl11, zl12, zl13, ql1, ql2, ql3, ql4, ql5, Bool.not_true, Bool.not_false, gN_ap, gT_tuple, gsCons_ap, gsNil_ap, PD.len_tuple, PD.len_list, tuple1_list, tuple1_tuple, list1_list, list1_tuple, rev_list, rev_tuple, ll]; rfl), by omega, k + 1, t7, by omega, rfl, rfl⟩
      · have hc : here n w k = row0 n := Classical.byContradiction fun z => c (.inl z)
        have h0 : k ≠ 0 := fun z => c (.inr z)
        have : k = κ := Classical.byContradiction fun z => kmin k (by omega) (by omega) hc
        subst this
        refine .inl ⟨?_, t7, by rw [hc]⟩
        rw [decide_eq_false (by omega)] at q0
        rw [decide_eq_true hc] at n1
        unfold t6_law
        simp only [seqS_ap, setS_ap, setLS_ap, asgS_ap, ifS_ap, forS_ap, itE_ap, argI_ap, callE_ap, callB_ap, consA_ap, nilA_ap, op2_ap, op1_ap, tvE_ap, andT_ap, orT_ap, notT_ap, andE_ap, orE_ap, notE_ap, ifE_ap, chainE_ap, slE_ap, pAt_ap, pNo_ap, intD_ap, vE_ap, vB_ap, cE_ap, tupE_ap, lstE_ap, retS_ap, retNS_ap, nxS_ap, errS_ap, dropS_ap, frzS_ap, appS_ap, getLo_ap, augS_ap, List.getElem?_cons_zero, List.getElem?_cons_succ, ofS_d, ofB_d, ofB_lo, ofL_lo, ofF_lo, ofF_d, bind_ok, bind_err, boolD_ap, iteR_t, iteR_f, iteR_err, kT_ap, List.set_cons_succ, List.set_cons_zero, thenS_nx, thenS_rt, thenS_err, thenS_bk, thenS_ct, oListD_ap, iterD_list, iterD_tuple, isi_ap, add_ii, sub_ii, neg_i, lt_ii, gt_ii, le_ii, ge_ii, int1_i, isNone_none, notNone_none, outR_nx, outR_rt, outR_err, List.length_cons, List.length_nil, if_true, zl0, zl1, zl2, zl3, zl4, zl5, zl6, zl7, zl8, zl9, zl10, zl11, zl12, zl13, ql1, ql2, ql3, ql4, ql5, Bool.not_true, Bool.not_false, gN_ap, gT_tuple, gsCons_ap, gsNil_ap, PD.len_tuple, PD.len_list, tuple1_list, tuple1_tuple, list1_list, list1_tuple, rev_list, rev_tuple, q0, rl, n1])
    1000000000 κ [s0, s1, s2, .d (.int (n : Nat)), s4, s5, s6, s7, s8, s9, .d (.tuple (encN (endsL n w))), .d (.list (encN (row0 n))), .d (.int 0), s13, s14, s15] (by omega) ⟨0, s7, by omega, rfl, by unfold here; rw [show (row0 n).map (iterN w 0) = row0 n from List.map_id' _]; rfl⟩
  exact ⟨t7, e1⟩
end G
namespace G
open PySem PySem.Spec PyProof.Rows L2 PD PySem.W
theorem rep_flat (w : List Int) (k : Nat) : (List.replicate k (w.map PyData.int)).flatten = (rep w k).map PyData.int := by
  induction k with
  | zero => rfl
  | succ k ih =>
    show (List.replicate (k + 1) (w.map PyData.int)).flatten = (rep w k ++ w).map PyData.int
    rw [List.replicate_succ', List.flatten_append, ih, List.map_append]
    simp
theorem rep_len (w : List Int) (k : Nat) : (rep w k).length = k * w.length := by
  induction k with
  | zero => show 0 = 0 * w.length; rw [Nat.zero_mul]
  | succ k ih =>
    show (rep w k ++ w).length = _
    rw [List.length_append, ih, Nat.add_mul, Nat.one_mul]
theorem rep_mem {w : List Int} {k : Nat} {x : Int} (h : x ∈ rep w k) : x ∈ w := by
  induction k with
  | zero => cases h
  | succ k ih =>
    rcases List.mem_append.mp (show x ∈ rep w k ++ w from h) with h | h
    · exact ih h
    · exact h
theorem mul_w (w : List Int) {k : Nat} (hk : k ≤ 60) (hl : w.length ≤ 12) : mulD (.tuple (w.map .int)) (.int (k : Nat)) = .ok (.tuple ((rep w k).map .int)) := by
  show (if ((k : Nat) : Int).natAbs < 4611686018427387904 ∧ ((k : Nat) : Int) ≤ 1000 ∧ (w.map PyData.int).length ≤ 1000 then R.ok (PyData.tuple (List.replicate ((k : Nat) : Int).toNat (w.map PyData.int)).flatten) else .bad) = _
  rw [if_pos ⟨by omega, by omega, by rw [List.length_map]; omega⟩, Int.toNat_natCast, rep_flat]
theorem wd_rep {n : Nat} {w : List Int} (hc : ∀ x ∈ w, Cr n x) {k : Nat} (h : k * w.length ≤ 40) : Wd n (rep w k) := ⟨by rw [rep_len]; exact h, fun x hx => hc x (rep_mem hx)⟩
theorem told_rows {n : Nat} (h2 : 2 ≤ n) (h6 : n ≤ 6) : m__law_told [.int (n : Nat), .int (-1)] = .ok (.str "rows") ∧ m__law_told [.int (n : Nat), .int 41] = .ok (.str "rows") ∧ m__law_told [.int (n : Nat), .bool true] = .ok (.str "rows") ∧ m__law_told [.int (n : Nat), .none] = .ok (.str "rows") ∧ m__law_told [.int (n : Nat), .str "3"] = .ok (.str "rows") := by
  have : n = 2 ∨ n = 3 ∨ n = 4 ∨ n = 5 ∨ n = 6 := by omega
  rcases this with rfl | rfl | rfl | rfl | rfl <;> exact ⟨by kernel_rfl, by kernel_rfl, by kernel_rfl, by kernel_rfl, by kernel_rfl⟩
theorem seq_assoc (a b c : SM) : seqS (seqS a b) c = seqS a (seqS b c) := by
  funext ρ
  unfold seqS
  cases a ρ with
  | ok o => cases o <;> rfl
  | err c => rfl
  | bad => rfl
theorem fl_seq {ρ ρ' : Ev} {q : SM} (h : flM ρ = .ok (.nx ρ')) : seqS pL2 (seqS pL3 (seqS pL4 (seqS pL5 (seqS pL6 (seqS pL7 q))))) ρ = q ρ' := by
  have e : seqS flM q ρ = q ρ' := nx_seq h
  rw [← e]
  unfold flM
  rw [seq_assoc, seq_assoc, seq_assoc, seq_assoc, seq_assoc]
theorem turn_ok {ds : List Int} (hl : ds.length = 60) (hd : ∀ x ∈ ds, Draw x) {t : Nat} (ht : t < 6) (s0 s2 s3 s4 s5 s6 s7 s8 s9 s10 s11 s12 s13 s14 s15 : Sl) : ∃ u2 u3 u4 u5 u6 u7 u8 u9 u10 u11 u12 u13 u14 u15, (gN 2 (.int (t : Nat)) [s0, .d (.list (ds.map .int)), s2, s3, s4, s5, s6, s7, s8, s9, s10, s11, s12, s13, s14, s15]).bind w9_law = .ok (.nx [s0, .d (.list (ds.map .int)), u2, u3, u4, u5, u6, u7, u8, u9, u10, u11, u12, u13, u14, u15]) := by
  have g1 := drw hl hd (i := t) (by omega)
  have g2 : ixD (.list (ds.map .int)) (.int (10 + (t : Int))) = .ok (.int (dN ds (10 + t))) := drw hl hd (i := 10 + t) (by omega)
  have m1 : modD (.int (dN ds t : Nat)) (.int 5) = .ok (.int ((dN ds t % 5 : Nat) : Int)) := modN (n := 5) (by decide)
  have m2 : modD (.int (dN ds (10 + t) : Nat)) (.int 41) = .ok (.int ((dN ds (10 + t) % 41 : Nat) : Int)) := modN (n := 41) (by decide)
  have b1 := Nat.mod_lt (dN ds t) (show 0 < 5 by decide)
  have b2 := Nat.mod_lt (dN ds (10 + t)) (show 0 < 41 by decide)
  obtain ⟨n, hn⟩ : ∃ n, n = 2 + dN ds t % 5 := ⟨_, rfl⟩
  have en : (2 : Int) + ((dN ds t % 5 : Nat) : Int) = ((n : Nat) : Int) := by omega
  have h2 : 2 ≤ n := by omega
  have h6 : n ≤ 6 := by omega
  generalize dN ds (10 + t) % 41 = r at *
  have e1 : pL1 [s0, .d (.list (ds.map .int)), .d (.int (t : Nat)), s3, s4, s5, s6, s7, s8, s9, s10, s11, s12, s13, s14, s15] = .ok (.nx [s0, .d (.list (ds.map .int)), .d (.int (t : Nat)), .d (.int (n : Nat)), .d (.int (r : Nat)), s5, s6, s7, s8, s9, s10, s11, s12, s13, s14, s15]) := by
    unfold pL1
    simp only [seqS_ap, setS_ap, setLS_ap, asgS_ap, ifS_ap, forS_ap, itE_ap, argI_ap, callE_ap, callB_ap, consA_ap, nilA_ap, op2_ap, op1_ap, tvE_ap, andT_ap, orT_ap, notT_ap, andE_ap, orE_ap, notE_ap, ifE_ap, chainE_ap, slE_ap, pAt_ap, pNo_ap, intD_ap, vE_ap, vB_ap, cE_ap, tupE_ap, lstE_ap, retS_ap, retNS_ap, nxS_ap, errS_ap, dropS_ap, frzS_ap, appS_ap, getLo_ap, augS_ap, List.getElem?_cons_zero, List.getElem?_cons_succ, ofS_d, ofB_d, ofB_lo, ofL_lo, ofF_lo, ofF_d, bind_ok, bind_err, boolD_ap, iteR_t, iteR_f, iteR_err, kT_ap, List.set_cons_succ, List.set_cons_zero, thenS_nx, thenS_rt, thenS_err, thenS_bk, thenS_ct, oListD_ap, iterD_list, iterD_tuple, isi_ap, add_ii, sub_ii, neg_i, lt_ii, gt_ii, le_ii, ge_ii, int1_i, isNone_none, notNone_none, outR_nx, outR_rt, outR_err, List.length_cons, List.length_nil, if_true, zl0, zl1, zl2, zl3, zl4, zl5, zl6, zl7, zl8, zl9, zl10, zl11, zl12, zl13, ql1, ql2, ql3, ql4, ql5, Bool.not_true, Bool.not_false, gN_ap, gT_tuple, gsCons_ap, gsNil_ap, PD.len_tuple, PD.len_list, tuple1_list, tuple1_tuple, list1_list, list1_tuple, rev_list, rev_tuple, g1, g2, m1, m2, en]
  have fl := flat h2 h6 (show r ≤ 40 by omega) s0 (.d (.list (ds.map .int))) (.d (.int (t : Nat))) s5 s6 s7 s8 s9 s10 s11 s12 s13 s14 s15
  obtain ⟨w, ew, hw1, hw2⟩ := e_word hl hd (20 + 3 * t) h2 h6
  have hw : Wd n w := ⟨by omega, hw2⟩
  obtain ⟨κ, k1, k60, kh, kmin⟩ := kap h6 hw2
  have le := e_law_ends h6 w
  have p3 : mulD (.int 3) (.int (t : Nat)) = .ok (.int (3 * (t : Int))) := mul_ii (.inl (by decide))
  have ea : (20 : Int) + 3 * (t : Int) = ((20 + 3 * t : Nat) : Int) := by omega
  generalize hO5 : flO n r 5 = o5 at fl
  generalize hO8 : flO n r 8 = o8 at fl
  generalize (if r = 0 then s6 else flO n r 6) = o6 at fl
  generalize (if r = 0 then s7 else flO n r 7) = o7 at fl
  have e8 : pL8 [s0, .d (.list (ds.map .int)), .d (.int (t : Nat)), .d (.int (n : Nat)), .d (.int (r : Nat)), o5, o6, o7, o8, s9, s10, s11, s12, s13, s14, s15] = .ok (.nx [s0, .d (.list (ds.map .int)), .d (.int (t : Nat)), .d (.int (n : Nat)), .d (.int (r : Nat)), o5, o6, o7, o8, .d (.tuple (w.map .int)), s10, s11, s12, s13, s14, s15]) := by
    unfold pL8
    simp only [seqS_ap, setS_ap, setLS_ap, asgS_ap, ifS_ap, forS_ap, itE_ap, argI_ap, callE_ap, callB_ap, consA_ap, nilA_ap, op2_ap, op1_ap, tvE_ap, andT_ap, orT_ap, notT_ap, andE_ap, orE_ap, notE_ap, ifE_ap, chainE_ap, slE_ap, pAt_ap, pNo_ap, intD_ap, vE_ap, vB_ap, cE_ap, tupE_ap, lstE_ap, retS_ap, retNS_ap, nxS_ap, errS_ap, dropS_ap, frzS_ap, appS_ap, getLo_ap, augS_ap, List.getElem?_cons_zero, List.getElem?_cons_succ, ofS_d, ofB_d, ofB_lo, ofL_lo, ofF_lo, ofF_d, bind_ok, bind_err, boolD_ap, iteR_t, iteR_f, iteR_err, kT_ap, List.set_cons_succ, List.set_cons_zero, thenS_nx, thenS_rt, thenS_err, thenS_bk, thenS_ct, oListD_ap, iterD_list, iterD_tuple, isi_ap, add_ii, sub_ii, neg_i, lt_ii, gt_ii, le_ii, ge_ii, int1_i, isNone_none, notNone_none, outR_nx, outR_rt, outR_err, List.length_cons, List.length_nil, if_true, zl0, zl1, zl2, zl3, zl4, zl5, zl6, zl7, zl8, zl9, zl10, zl11, zl12, zl13, ql1, ql2, ql3, ql4, ql5, Bool.not_true, Bool.not_false, gN_ap, gT_tuple, gsCons_ap, gsNil_ap, PD.len_tuple, PD.len_list, tuple1_list, tuple1_tuple, list1_list, list1_tuple, rev_list, rev_tuple, p3, ea, ew]
  have rl := row_list (n := n) h6 s0 (.d (.list (ds.map .int))) (.d (.int (t : Nat))) (.d (.int (r : Nat))) o5 o6 o7 o8 (.d (.tuple (w.map .int))) s10 s11 s12 s13 s14 s15
  have e9 : pL9 [s0, .d (.list (ds.map .int)), .d (.int (t : Nat)), .d (.int (n : Nat)), .d (.int (r : Nat)), o5, o6, o7, o8, .d (.tuple (w.map .int)), s10, s11, s12, s13, s14, s15] = .ok (.nx [s0, .d (.list (ds.map .int)), .d (.int (t : Nat)), .d (.int (n : Nat)), .d (.int (r : Nat)), o5, o6, o7, o8, .d (.tuple (w.map .int)), .d (.tuple (encN (endsL n w))), .d (.list (encN (row0 n))), .d (.int 0), s13, s14, s15]) := by
    unfold pL9
    exact parO3_ap false false false 10 11 12 _ _ _ _ (.tuple (encN (endsL n w))) (.list (encN (row0 n))) (.int 0) (.d (.tuple (encN (endsL n w)))) (.d (.list (encN (row0 n)))) (.d (.int 0)) (by simp only [seqS_ap, setS_ap, setLS_ap, asgS_ap, ifS_ap, forS_ap, itE_ap, argI_ap, callE_ap, callB_ap, consA_ap, nilA_ap, op2_ap, op1_ap, tvE_ap, andT_ap, orT_ap, notT_ap, andE_ap, orE_ap, notE_ap, ifE_ap, chainE_ap, slE_ap, pAt_ap, pNo_ap, intD_ap, vE_ap, vB_ap, cE_ap, tupE_ap, lstE_ap, retS_ap, retNS_ap, nxS_ap, errS_ap, dropS_ap, frzS_ap, appS_ap, getLo_ap, augS_ap, List.getElem?_cons_zero, List.getElem?_cons_succ, ofS_d, ofB_d, ofB_lo, ofL_lo, ofF_lo, ofF_d, bind_ok, bind_err, boolD_ap, iteR_t, iteR_f, iteR_err, kT_ap, List.set_cons_succ, List.set_cons_zero, thenS_nx, thenS_rt, thenS_err, thenS_bk, thenS_ct, oListD_ap, iterD_list, iterD_tuple, isi_ap, add_ii, sub_ii, neg_i, lt_ii, gt_ii, le_ii, ge_ii, int1_i, isNone_none, notNone_none, outR_nx, outR_rt, outR_err, List.length_cons, List.length_nil, if_true, zl0, zl1, zl2, zl3, zl4, zl5, zl6, zl7, zl8, zl9, zl10, zl11, zl12, zl13, ql1, ql2, ql3, ql4, ql5, Bool.not_true, Bool.not_false, gN_ap, gT_tuple, gsCons_ap, gsNil_ap, PD.len_tuple, PD.len_list, tuple1_list, tuple1_tuple, list1_list, list1_tuple, rev_list, rev_tuple, le]) rl (by simp only [seqS_ap, setS_ap, setLS_ap, asgS_ap, ifS_ap, forS_ap, itE_ap, argI_ap, callE_ap, callB_ap, consA_ap, nilA_ap, op2_ap, op1_ap, tvE_ap, andT_ap, orT_ap, notT_ap, andE_ap, orE_ap, notE_ap, ifE_ap, chainE_ap, slE_ap, pAt_ap, pNo_ap, intD_ap, vE_ap, vB_ap, cE_ap, tupE_ap, lstE_ap, retS_ap, retNS_ap, nxS_ap, errS_ap, dropS_ap, frzS_ap, appS_ap, getLo_ap, augS_ap, List.getElem?_cons_zero, List.getElem?_cons_succ, ofS_d, ofB_d, ofB_lo, ofL_lo, ofF_lo, ofF_d, bind_ok, bind_err, boolD_ap, iteR_t, iteR_f, iteR_err, kT_ap, List.set_cons_succ, List.set_cons_zero, thenS_nx, thenS_rt, thenS_err, thenS_bk, thenS_ct, oListD_ap, iterD_list, iterD_tuple, isi_ap, add_ii, sub_ii, neg_i, lt_ii, gt_ii, le_ii, ge_ii, int1_i, isNone_none, notNone_none, outR_nx, outR_rt, outR_err, List.length_cons, List.length_nil, if_true, zl0, zl1, zl2, zl3, zl4, zl5, zl6, zl7, zl8, zl9, zl10, zl11, zl12, zl13, ql1, ql2, ql3, ql4, ql5, Bool.not_true, Bool.not_false, gN_ap, gT_tuple, gsCons_ap, gsNil_ap, PD.len_tuple, PD.len_list, tuple1_list, tuple1_tuple, list1_list, list1_tuple, rev_list, rev_tuple]) rfl rfl rfl
  obtain ⟨t7, e10⟩ := e_round h6 hw k1 k60 kh kmin s0 (.d (.list (ds.map .int))) (.d (.int (t : Nat))) (.d (.int (r : Nat))) o5 o6 o7 o8 (.d (.tuple (w.map .int))) s13 s14 s15
  have rl2 := row_list (n := n) h6 s0 (.d (.list (ds.map .int))) (.d (.int (t : Nat))) (.d (.int (r : Nat))) o5 o6 t7 o8 (.d (.tuple (w.map .int))) (.d (.tuple (encN (endsL n w)))) (.d (.list (encN (row0 n)))) (.d (.int (κ : Nat))) s13 s14 s15
  have hm := e_home h2 h6 hw k1 k60 kh kmin
  have nk : neD (.int (κ : Nat)) (.int (κ : Nat)) = .ok (.bool false) := ne_self rfl
  have lw : lenD [.tuple (w.map .int)] = .ok (.int (w.length : Nat)) := by rw [PD.len_tuple, List.length_map]
  have mk : mulD (.int (κ : Nat)) (.int (w.length : Nat)) = .ok (.int ((κ * w.length : Nat) : Int)) := mulN _ _ (by omega)
  have lk : leD (.int ((κ * w.length : Nat) : Int)) (.int 40) = .ok (.bool (decide (κ * w.length ≤ 40))) := by
    rw [le_ii]
    exact congrArg (fun b => R.ok (PyData.bool b)) (decide_eq_decide.mpr (by omega))
  have mw := mul_w w k60 hw1
  have t1 : tuple1D [.list (encN (row0 n))] = .ok (.tuple (encN (row0 n))) := rfl
  have e11 : pL11 [s0, .d (.list (ds.map .int)), .d (.int (t : Nat)), .d (.int (n : Nat)), .d (.int (r : Nat)), o5, o6, t7, o8, .d (.tuple (w.map .int)), .d (.tuple (encN (endsL n w))), .d (.list (encN (row0 n))), .d (.int (κ : Nat)), s13, s14, s15] = .ok (.nx [s0, .d (.list (ds.map .int)), .d (.int (t : Nat)), .d (.int (n : Nat)), .d (.int (r : Nat)), o5, o6, t7, o8, .d (.tuple (w.map .int)), .d (.tuple (encN (endsL n w))), .d (.list (encN (row0 n))), .d (.int (κ : Nat)), s13, s14, s15]) := by
    unfold pL11
    by_cases c : κ * w.length ≤ 40
    · have eo := e_ends_of h2 h6 (wd_rep hw2 c)
      rw [endsL_rep, kh] at eo
      have nt := ne_tups (row0 n) (row0 n)
      rw [decide_eq_true rfl] at nt
      rw [decide_eq_true c] at lk
      simp only [seqS_ap, setS_ap, setLS_ap, asgS_ap, ifS_ap, forS_ap, itE_ap, argI_ap, callE_ap, callB_ap, consA_ap, nilA_ap, op2_ap, op1_ap, tvE_ap, andT_ap, orT_ap, notT_ap, andE_ap, orE_ap, notE_ap, ifE_ap, chainE_ap, slE_ap, pAt_ap, pNo_ap, intD_ap, vE_ap, vB_ap, cE_ap, tupE_ap, lstE_ap, retS_ap, retNS_ap, nxS_ap, errS_ap, dropS_ap, frzS_ap, appS_ap, getLo_ap, augS_ap, List.getElem?_cons_zero, List.getElem?_cons_succ, ofS_d, ofB_d, ofB_lo, ofL_lo, ofF_lo, ofF_d, bind_ok, bind_err, boolD_ap, iteR_t, iteR_f, iteR_err, kT_ap, List.set_cons_succ, List.set_cons_zero, thenS_nx, thenS_rt, thenS_err, thenS_bk, thenS_ct, oListD_ap, iterD_list, iterD_tuple, isi_ap, add_ii, sub_ii, neg_i, lt_ii, gt_ii, le_ii, ge_ii, int1_i, isNone_none, notNone_none, outR_nx, outR_rt, outR_err, List.length_cons, List.length_nil, if_true, zl0, zl1, zl2, zl3, zl4, zl5, zl6, zl7, zl8, zl9, zl10, zl11, zl12, zl13, ql1, ql2, ql3, ql4, ql5, Bool.not_true, Bool.not_false, gN_ap, gT_tuple, gsCons_ap, gsNil_ap, PD.len_tuple, PD.len_list, tuple1_list, tuple1_tuple, list1_list, list1_tuple, rev_list, rev_tuple, hm, nk, lw, mk, lk, mw, eo, rl2, t1, nt]
    · rw [decide_eq_false c] at lk
      simp only [seqS_ap, setS_ap, setLS_ap, asgS_ap, ifS_ap, forS_ap, itE_ap, argI_ap, callE_ap, callB_ap, consA_ap, nilA_ap, op2_ap, op1_ap, tvE_ap, andT_ap, orT_ap, notT_ap, andE_ap, orE_ap, notE_ap, ifE_ap, chainE_ap, slE_ap, pAt_ap, pNo_ap, intD_ap, vE_ap, vB_ap, cE_ap, tupE_ap, lstE_ap, retS_ap, retNS_ap, nxS_ap, errS_ap, dropS_ap, frzS_ap, appS_ap, getLo_ap, augS_ap, List.getElem?_cons_zero, List.getElem?_cons_succ, ofS_d, ofB_d, ofB_lo, ofL_lo, ofF_lo, ofF_d, bind_ok, bind_err, boolD_ap, iteR_t, iteR_f, iteR_err, kT_ap, List.set_cons_succ, List.set_cons_zero, thenS_nx, thenS_rt, thenS_err, thenS_bk, thenS_ct, oListD_ap, iterD_list, iterD_tuple, isi_ap, add_ii, sub_ii, neg_i, lt_ii, gt_ii, le_ii, ge_ii, int1_i, isNone_none, notNone_none, outR_nx, outR_rt, outR_err, List.length_cons, List.length_nil, if_true, zl0, zl1, zl2, zl3, zl4, zl5, zl6, zl7, zl8, zl9, zl10, zl11, zl12, zl13, ql1, ql2, ql3, ql4, ql5, Bool.not_true, Bool.not_false, gN_ap, gT_tuple, gsCons_ap, gsNil_ap, PD.len_tuple, PD.len_list, tuple1_list, tuple1_tuple, list1_list, list1_tuple, rev_list, rev_tuple, hm, nk, lw, mk, lk]
  have rk : range2D [.int 1, .int (κ : Nat)] = .ok ((List.range (κ - 1)).map fun k : Nat => PyData.int ((1 + k : Nat) : Int)) := range2N (a := 1) (n := κ) (by decide) (by omega)
  have l7 : l7_law [s0, .d (.list (ds.map .int)), .d (.int (t : Nat)), .d (.int (n : Nat)), .d (.int (r : Nat)), o5, o6, t7, o8, .d (.tuple (w.map .int)), .d (.tuple (encN (endsL n w))), .d (.list (encN (row0 n))), .d (.int (κ : Nat)), s13, s14, s15] = .ok (.list (((List.range (κ - 1)).filter fun k => decide ((1 + k) * w.length ≤ 40)).map fun _ => .bool false)) := by
    unfold l7_law
    refine lcE_of (enc := fun k : Nat => PyData.int ((1 + k : Nat) : Int)) (p := fun k => decide ((1 + k) * w.length ≤ 40)) (f := fun _ => .bool false) (List.range (κ - 1)) (by simp only [seqS_ap, setS_ap, setLS_ap, asgS_ap, ifS_ap, forS_ap, itE_ap, argI_ap, callE_ap, callB_ap, consA_ap, nilA_ap, op2_ap, op1_ap, tvE_ap, andT_ap, orT_ap, notT_ap, andE_ap, orE_ap, notE_ap, ifE_ap, chainE_ap, slE_ap, pAt_ap, pNo_ap, intD_ap, vE_ap, vB_ap, cE_ap, tupE_ap, lstE_ap, retS_ap, retNS_ap, nxS_ap, errS_ap, dropS_ap, frzS_ap, appS_ap, getLo_ap, augS_ap, List.getElem?_cons_zero, List.getElem?_cons_succ, ofS_d, ofB_d, ofB_lo, ofL_lo, ofF_lo, ofF_d, bind_ok, bind_err, boolD_ap, iteR_t, iteR_f, iteR_err, kT_ap, List.set_cons_succ, List.set_cons_zero, thenS_nx, thenS_rt, thenS_err, thenS_bk, thenS_ct, oListD_ap, iterD_list, iterD_tuple, isi_ap, add_ii, sub_ii, neg_i, lt_ii, gt_ii, le_ii, ge_ii, int1_i, isNone_none, notNone_none, outR_nx, outR_rt, outR_err, List.length_cons, List.length_nil, if_true, zl0, zl1, zl2, zl3, zl4, zl5, zl6, zl7, zl8, zl9, zl10, zl11, zl12, zl13, ql1, ql2, ql3, ql4, ql5, Bool.not_true, Bool.not_false, gN_ap, gT_tuple, gsCons_ap, gsNil_ap, PD.len_tuple, PD.len_list, tuple1_list, tuple1_tuple, list1_list, list1_tuple, rev_list, rev_tuple, rk]) (by rw [List.length_range]; exact Nat.le_of_lt (Nat.lt_of_le_of_lt (show κ - 1 ≤ 60 by omega) (by decide))) fun k hk => ?_
    have hk := List.mem_range.mp hk
    have mk2 : mulD (.int ((1 + k : Nat) : Int)) (.int (w.length : Nat)) = .ok (.int (((1 + k) * w.length : Nat) : Int)) := mulN _ _ (by omega)
    have lk2 : leD (.int (((1 + k) * w.length : Nat) : Int)) (.int 40) = .ok (.bool (decide ((1 + k) * w.length ≤ 40))) := by
      rw [le_ii]
      exact congrArg (fun b => R.ok (PyData.bool b)) (decide_eq_decide.mpr (by omega))
    have mw2 := mul_w w (k := 1 + k) (by omega) hw1
    have rl3 := row_list (n := n) h6 s0 (.d (.list (ds.map .int))) (.d (.int (t : Nat))) (.d (.int (r : Nat))) o5 o6 t7 o8 (.d (.tuple (w.map .int))) (.d (.tuple (encN (endsL n w)))) (.d (.list (encN (row0 n)))) (.d (.int (κ : Nat))) s13 (.d (.int ((1 + k : Nat) : Int))) s15
    refine ⟨[s0, .d (.list (ds.map .int)), .d (.int (t : Nat)), .d (.int (n : Nat)), .d (.int (r : Nat)), o5, o6, t7, o8, .d (.tuple (w.map .int)), .d (.tuple (encN (endsL n w))), .d (.list (encN (row0 n))), .d (.int (κ : Nat)), s13, .d (.int ((1 + k : Nat) : Int)), s15], rfl, ?_, fun hp => ?_⟩
    · simp only [seqS_ap, setS_ap, setLS_ap, asgS_ap, ifS_ap, forS_ap, itE_ap, argI_ap, callE_ap, callB_ap, consA_ap, nilA_ap, op2_ap, op1_ap, tvE_ap, andT_ap, orT_ap, notT_ap, andE_ap, orE_ap, notE_ap, ifE_ap, chainE_ap, slE_ap, pAt_ap, pNo_ap, intD_ap, vE_ap, vB_ap, cE_ap, tupE_ap, lstE_ap, retS_ap, retNS_ap, nxS_ap, errS_ap, dropS_ap, frzS_ap, appS_ap, getLo_ap, augS_ap, List.getElem?_cons_zero, List.getElem?_cons_succ, ofS_d, ofB_d, ofB_lo, ofL_lo, ofF_lo, ofF_d, bind_ok, bind_err, boolD_ap, iteR_t, iteR_f, iteR_err, kT_ap, List.set_cons_succ, List.set_cons_zero, thenS_nx, thenS_rt, thenS_err, thenS_bk, thenS_ct, oListD_ap, iterD_list, iterD_tuple, isi_ap, add_ii, sub_ii, neg_i, lt_ii, gt_ii, le_ii, ge_ii, int1_i, isNone_none, notNone_none, outR_nx, outR_rt, outR_err, List.length_cons, List.length_nil, if_true, zl0, zl1, zl2, zl3, zl4, zl5, zl6, zl7, zl8, zl9, zl10, zl11, zl12, zl13, ql1, ql2, ql3, ql4, ql5, Bool.not_true, Bool.not_false, gN_ap, gT_tuple, gsCons_ap, gsNil_ap, PD.len_tuple, PD.len_list, tuple1_list, tuple1_tuple, list1_list, list1_tuple, rev_list, rev_tuple, lw, mk2, lk2]
    · have hp := of_decide_eq_true hp
      have eo := e_ends_of h2 h6 (wd_rep hw2 hp)
      rw [endsL_rep] at eo
      have nt := eq_tups (here n w (1 + k)) (row0 n)
      rw [decide_eq_false (kmin (1 + k) (by omega) (by omega))] at nt
      simp only [seqS_ap, setS_ap, setLS_ap, asgS_ap, ifS_ap, forS_ap, itE_ap, argI_ap, callE_ap, callB_ap, consA_ap, nilA_ap, op2_ap, op1_ap, tvE_ap, andT_ap, orT_ap, notT_ap, andE_ap, orE_ap, notE_ap, ifE_ap, chainE_ap, slE_ap, pAt_ap, pNo_ap, intD_ap, vE_ap, vB_ap, cE_ap, tupE_ap, lstE_ap, retS_ap, retNS_ap, nxS_ap, errS_ap, dropS_ap, frzS_ap, appS_ap, getLo_ap, augS_ap, List.getElem?_cons_zero, List.getElem?_cons_succ, ofS_d, ofB_d, ofB_lo, ofL_lo, ofF_lo, ofF_d, bind_ok, bind_err, boolD_ap, iteR_t, iteR_f, iteR_err, kT_ap, List.set_cons_succ, List.set_cons_zero, thenS_nx, thenS_rt, thenS_err, thenS_bk, thenS_ct, oListD_ap, iterD_list, iterD_tuple, isi_ap, add_ii, sub_ii, neg_i, lt_ii, gt_ii, le_ii, ge_ii, int1_i, isNone_none, notNone_none, outR_nx, outR_rt, outR_err, List.length_cons, List.length_nil, if_true, zl0, zl1, zl2, zl3, zl4, zl5, zl6, zl7, zl8, zl9, zl10, zl11, zl12, zl13, ql1, ql2, ql3, ql4, ql5, Bool.not_true, Bool.not_false, gN_ap, gT_tuple, gsCons_ap, gsNil_ap, PD.len_tuple, PD.len_list, tuple1_list, tuple1_tuple, list1_list, list1_tuple, rev_list, rev_tuple, mw2, eo, rl3, t1, nt]
  have an : anyD [.list (((List.range (κ - 1)).filter fun k => decide ((1 + k) * w.length ≤ 40)).map fun _ => PyData.bool false)] = .ok (.bool false) := by
    rw [any_f (fun _ => false), show (List.filter (fun k => decide ((1 + k) * w.length ≤ 40)) (List.range (κ - 1))).any (fun _ => false) = false from List.any_eq_false.mpr fun _ _ => Bool.false_ne_true]
  have gl : gtD (.int (w.length : Nat)) (.int 0) = .ok (.bool (decide ((0 : Int) < (w.length : Nat)))) := gt_ii
  have e12 : pL12 [s0, .d (.list (ds.map .int)), .d (.int (t : Nat)), .d (.int (n : Nat)), .d (.int (r : Nat)), o5, o6, t7, o8, .d (.tuple (w.map .int)), .d (.tuple (encN (endsL n w))), .d (.list (encN (row0 n))), .d (.int (κ : Nat)), s13, s14, s15] = .ok (.nx [s0, .d (.list (ds.map .int)), .d (.int (t : Nat)), .d (.int (n : Nat)), .d (.int (r : Nat)), o5, o6, t7, o8, .d (.tuple (w.map .int)), .d (.tuple (encN (endsL n w))), .d (.list (encN (row0 n))), .d (.int (κ : Nat)), s13, s14, s15]) := by
    unfold pL12
    cases hb : decide ((0 : Int) < (w.length : Nat)) with
    | true =>
      rw [hb] at gl
      simp only [seqS_ap, setS_ap, setLS_ap, asgS_ap, ifS_ap, forS_ap, itE_ap, argI_ap, callE_ap, callB_ap, consA_ap, nilA_ap, op2_ap, op1_ap, tvE_ap, andT_ap, orT_ap, notT_ap, andE_ap, orE_ap, notE_ap, ifE_ap, chainE_ap, slE_ap, pAt_ap, pNo_ap, intD_ap, vE_ap, vB_ap, cE_ap, tupE_ap, lstE_ap, retS_ap, retNS_ap, nxS_ap, errS_ap, dropS_ap, frzS_ap, appS_ap, getLo_ap, augS_ap, List.getElem?_cons_zero, List.getElem?_cons_succ, ofS_d, ofB_d, ofB_lo, ofL_lo, ofF_lo, ofF_d, bind_ok, bind_err, boolD_ap, iteR_t, iteR_f, iteR_err, kT_ap, List.set_cons_succ, List.set_cons_zero, thenS_nx, thenS_rt, thenS_err, thenS_bk, thenS_ct, oListD_ap, iterD_list, iterD_tuple, isi_ap, add_ii, sub_ii, neg_i, lt_ii, gt_ii, le_ii, ge_ii, int1_i, isNone_none, notNone_none, outR_nx, outR_rt, outR_err, List.length_cons, List.length_nil, if_true, zl0, zl1, zl2, zl3, zl4, zl5, zl6, zl7, zl8, zl9, zl10, zl11, zl12, zl13, ql1, ql2, ql3, ql4, ql5, Bool.not_true, Bool.not_false, gN_ap, gT_tuple, gsCons_ap, gsNil_ap, PD.len_tuple, PD.len_list, tuple1_list, tuple1_tuple, list1_list, list1_tuple, rev_list, rev_tuple, lw, gl, l7, an]
    | false =>
      rw [hb] at gl
      simp only [seqS_ap, setS_ap, setLS_ap, asgS_ap, ifS_ap, forS_ap, itE_ap, argI_ap, callE_ap, callB_ap, consA_ap, nilA_ap, op2_ap, op1_ap, tvE_ap, andT_ap, orT_ap, notT_ap, andE_ap, orE_ap, notE_ap, ifE_ap, chainE_ap, slE_ap, pAt_ap, pNo_ap, intD_ap, vE_ap, vB_ap, cE_ap, tupE_ap, lstE_ap, retS_ap, retNS_ap, nxS_ap, errS_ap, dropS_ap, frzS_ap, appS_ap, getLo_ap, augS_ap, List.getElem?_cons_zero, List.getElem?_cons_succ, ofS_d, ofB_d, ofB_lo, ofL_lo, ofF_lo, ofF_d, bind_ok, bind_err, boolD_ap, iteR_t, iteR_f, iteR_err, kT_ap, List.set_cons_succ, List.set_cons_zero, thenS_nx, thenS_rt, thenS_err, thenS_bk, thenS_ct, oListD_ap, iterD_list, iterD_tuple, isi_ap, add_ii, sub_ii, neg_i, lt_ii, gt_ii, le_ii, ge_ii, int1_i, isNone_none, notNone_none, outR_nx, outR_rt, outR_err, List.length_cons, List.length_nil, if_true, zl0, zl1, zl2, zl3, zl4, zl5, zl6, zl7, zl8, zl9, zl10, zl11, zl12, zl13, ql1, ql2, ql3, ql4, ql5, Bool.not_true, Bool.not_false, gN_ap, gT_tuple, gsCons_ap, gsNil_ap, PD.len_tuple, PD.len_list, tuple1_list, tuple1_tuple, list1_list, list1_tuple, rev_list, rev_tuple, lw, gl]
  obtain ⟨w1, w2, w3, w4, w5⟩ := told_rows h2 h6
  have nr : neD (.str "rows") (.str "rows") = .ok (.bool false) := ne_self rfl
  have st : ∀ (d : PyData) (x13 : Sl), m__law_told [.int (n : Nat), d] = .ok (.str "rows") → (gN 13 d [s0, .d (.list (ds.map .int)), .d (.int (t : Nat)), .d (.int (n : Nat)), .d (.int (r : Nat)), o5, o6, t7, o8, .d (.tuple (w.map .int)), .d (.tuple (encN (endsL n w))), .d (.list (encN (row0 n))), .d (.int (κ : Nat)), x13, s14, s15]).bind w8_law = .ok (.nx [s0, .d (.list (ds.map .int)), .d (.int (t : Nat)), .d (.int (n : Nat)), .d (.int (r : Nat)), o5, o6, t7, o8, .d (.tuple (w.map .int)), .d (.tuple (encN (endsL n w))), .d (.list (encN (row0 n))), .d (.int (κ : Nat)), .d d, s14, s15]) := fun d x13 h => by
    rw [gN_ap, bind_ok]
    unfold w8_law
    simp only [seqS_ap, setS_ap, setLS_ap, asgS_ap, ifS_ap, forS_ap, itE_ap, argI_ap, callE_ap, callB_ap, consA_ap, nilA_ap, op2_ap, op1_ap, tvE_ap, andT_ap, orT_ap, notT_ap, andE_ap, orE_ap, notE_ap, ifE_ap, chainE_ap, slE_ap, pAt_ap, pNo_ap, intD_ap, vE_ap, vB_ap, cE_ap, tupE_ap, lstE_ap, retS_ap, retNS_ap, nxS_ap, errS_ap, dropS_ap, frzS_ap, appS_ap, getLo_ap, augS_ap, List.getElem?_cons_zero, List.getElem?_cons_succ, ofS_d, ofB_d, ofB_lo, ofL_lo, ofF_lo, ofF_d, bind_ok, bind_err, boolD_ap, iteR_t, iteR_f, iteR_err, kT_ap, List.set_cons_succ, List.set_cons_zero, thenS_nx, thenS_rt, thenS_err, thenS_bk, thenS_ct, oListD_ap, iterD_list, iterD_tuple, isi_ap, add_ii, sub_ii, neg_i, lt_ii, gt_ii, le_ii, ge_ii, int1_i, isNone_none, notNone_none, outR_nx, outR_rt, outR_err, List.length_cons, List.length_nil, if_true, zl0, zl1, zl2, zl3, zl4, zl5, zl6, zl7, zl8, zl9, zl10, zl11, zl12, zl13, ql1, ql2, ql3, ql4, ql5, Bool.not_true, Bool.not_false, gN_ap, gT_tuple, gsCons_ap, gsNil_ap, PD.len_tuple, PD.len_list, tuple1_list, tuple1_tuple, list1_list, list1_tuple, rev_list, rev_tuple, h, nr]
  have e13 : pL13 [s0, .d (.list (ds.map .int)), .d (.int (t : Nat)), .d (.int (n : Nat)), .d (.int (r : Nat)), o5, o6, t7, o8, .d (.tuple (w.map .int)), .d (.tuple (encN (endsL n w))), .d (.list (encN (row0 n))), .d (.int (κ : Nat)), s13, s14, s15] = .ok (.nx [s0, .d (.list (ds.map .int)), .d (.int (t : Nat)), .d (.int (n : Nat)), .d (.int (r : Nat)), o5, o6, t7, o8, .d (.tuple (w.map .int)), .d (.tuple (encN (endsL n w))), .d (.list (encN (row0 n))), .d (.int (κ : Nat)), .d (.str "3"), s14, s15]) := by
    unfold pL13
    simp only [seqS_ap, setS_ap, setLS_ap, asgS_ap, ifS_ap, forS_ap, itE_ap, argI_ap, callE_ap, callB_ap, consA_ap, nilA_ap, op2_ap, op1_ap, tvE_ap, andT_ap, orT_ap, notT_ap, andE_ap, orE_ap, notE_ap, ifE_ap, chainE_ap, slE_ap, pAt_ap, pNo_ap, intD_ap, vE_ap, vB_ap, cE_ap, tupE_ap, lstE_ap, retS_ap, retNS_ap, nxS_ap, errS_ap, dropS_ap, frzS_ap, appS_ap, getLo_ap, augS_ap, List.getElem?_cons_zero, List.getElem?_cons_succ, ofS_d, ofB_d, ofB_lo, ofL_lo, ofF_lo, ofF_d, bind_ok, bind_err, boolD_ap, iteR_t, iteR_f, iteR_err, kT_ap, List.set_cons_succ, List.set_cons_zero, thenS_nx, thenS_rt, thenS_err, thenS_bk, thenS_ct, oListD_ap, iterD_list, iterD_tuple, isi_ap, add_ii, sub_ii, neg_i, lt_ii, gt_ii, le_ii, ge_ii, int1_i, isNone_none, notNone_none, outR_nx, outR_rt, outR_err, List.length_cons, List.length_nil, if_true, zl0, zl1, zl2, zl3, zl4, zl5, zl6, zl7, zl8, zl9, zl10, zl11, zl12, zl13, ql1, ql2, ql3, ql4, ql5, Bool.not_true, Bool.not_false, gN_ap, gT_tuple, gsCons_ap, gsNil_ap, PD.len_tuple, PD.len_list, tuple1_list, tuple1_tuple, list1_list, list1_tuple, rev_list, rev_tuple]
    rw [forG_nx (st _ _ w1), forG_nx (st _ _ w2), forG_nx (st _ _ w3), forG_nx (st _ _ w4), forG_nx (st _ _ w5), forG_nil]
  refine ⟨.d (.int (t : Nat)), .d (.int (n : Nat)), .d (.int (r : Nat)), o5, o6, t7, o8, .d (.tuple (w.map .int)), .d (.tuple (encN (endsL n w))), .d (.list (encN (row0 n))), .d (.int (κ : Nat)), .d (.str "3"), s14, s15, ?_⟩
  rw [gN_ap, bind_ok, w9_law_eq]
  simp only [List.set_cons_succ, List.set_cons_zero]
  rw [nx_seq e1]
  show seqS pL2 (seqS pL3 (seqS pL4 (seqS pL5 (seqS pL6 (seqS pL7 (seqS pL8 (seqS pL9 (seqS pL10 (seqS pL11 (seqS pL12 pL13)))))))))) _ = _
  rw [fl_seq fl, nx_seq e8, nx_seq e9, nx_seq (show pL10 _ = _ from e10), nx_seq e11, nx_seq e12, e13]
end G
namespace G
open PySem PySem.Spec PyProof.Rows L2 PD PySem.W
theorem c_1 : m_flat_plait [.int 3, .int 3] = .ok (.tuple [.int 1, .int (-2), .int 1]) := by kernel_rfl
theorem c_2 : m_flat_plait [.int 2, .int 3] = .ok (.tuple [.int 1, .int 1]) := by kernel_rfl
theorem c_3 : m_flat_plait [.int 5, .int 2] = .ok (.tuple [.int 1, .int 3, .int (-2), .int (-4)]) := by kernel_rfl
theorem c_4 : m_flat_plait [.int 6, .int 0] = .ok (.tuple []) := by kernel_rfl
theorem c_5 : m_rows_till_home [.int 3, .tuple [.int 1, .int (-2)]] = .ok (.int 3) :=
  e_home (n := 3) (w := [1, -2]) (κ := 3) (by decide) (by decide) ⟨by decide, fun x hx => by
    rcases List.mem_cons.mp hx with rfl | hx
    · exact ⟨by decide, by decide⟩
    · rw [List.mem_singleton.mp hx]; exact ⟨by decide, by decide⟩⟩ (by decide) (by decide) (by decide) (fun j a b => by
    have : j = 1 ∨ j = 2 := by omega
    rcases this with rfl | rfl <;> decide)
theorem c_6 : m_rows_till_home [.int 2, .tuple []] = .ok (.int 1) :=
  e_home (n := 2) (w := []) (κ := 1) (by decide) (by decide) ⟨by decide, fun x hx => by cases hx⟩ (by decide) (by decide) (by decide) (fun j a b => by omega)
theorem c_7 : m__law_told [.int 6, .int 17] = .ok (.str "many") := by kernel_rfl
def p16 : PyData := match m_flat_plait [.int 6, .int 16] with | .ok d => d | _ => .none
theorem c_8 : m_flat_plait [.int 6, .int 16] = .ok p16 := by kernel_rfl
theorem c_9 : lenD [p16] = .ok (.int 40) := by kernel_rfl
theorem c_10 : m_flat_plait [.int 3, .int 2] = .ok (.tuple [.int 1, .int (-2)]) := by kernel_rfl
def dc : Dd := ⟨true, [(.tuple [.int 1, .int 2], .int 1), (.tuple [.int 1, .int 3], .int (-1))]⟩
theorem c_s : srtTD dc = .ok (.list [.tuple [.int 1, .int 2], .tuple [.int 1, .int 3]]) := by
  have u : sortO ([((1 : Int), (2 : Int)), (1, 3)] : List (Int × Int)) = [(1, 2), (1, 3)] := sortO_uniq (List.Perm.refl _) (by decide)
  have e : ((([((1 : Int), (2 : Int)), (1, 3)] : List (Int × Int)).map Datum.toD).mergeSort dLe) = (sortO ([((1 : Int), (2 : Int)), (1, 3)] : List (Int × Int))).map Datum.toD := sort_map _
  rw [u] at e
  unfold srtTD
  rw [if_pos ⟨rfl, by kernel_rfl⟩]
  exact congrArg (fun l => R.ok (PyData.list l)) e
theorem c_l : l1_crossed [.d (.int 3), .d (.tuple [.int 1, .int (-2)]), .df dc, .un] = .ok (.list [.tuple [.int 1, .int 2, .int 1], .tuple [.int 1, .int 3, .int (-1)]]) := by
  have hi : itE (srtTE 2) [.d (.int 3), .d (.tuple [.int 1, .int (-2)]), .df dc, .un] = .ok [.tuple [.int 1, .int 2], .tuple [.int 1, .int 3]] := by
    show (srtTD dc).bind iterD = _
    rw [c_s]
    rfl
  unfold l1_crossed lcE
  rw [hi]
  kernel_rfl
theorem c_11 : m_crossed [.int 3, .tuple [.int 1, .int (-2)]] = .ok (.tuple [.tuple [.int 1, .int 2, .int 1], .tuple [.int 1, .int 3, .int (-1)]]) := by
  unfold m_crossed
  rw [runB_ap]
  unfold b_crossed
  rw [show (List.map Sl.d [PyData.int 3, .tuple [.int 1, .int (-2)]] ++ List.replicate (4 - [PyData.int 3, .tuple [.int 1, .int (-2)]].length) Sl.un) = [.d (.int 3), .d (.tuple [.int 1, .int (-2)]), .un, .un] from rfl]
  rw [nx_seq (ρ' := [.d (.int 3), .d (.tuple [.int 1, .int (-2)]), .un, .un]) (by kernel_rfl)]
  rw [nx_seq (ρ' := [.d (.int 3), .d (.tuple [.int 1, .int (-2)]), .df dc, .un]) (by kernel_rfl)]
  simp only [seqS_ap, setS_ap, setLS_ap, asgS_ap, ifS_ap, forS_ap, itE_ap, argI_ap, callE_ap, callB_ap, consA_ap, nilA_ap, op2_ap, op1_ap, tvE_ap, andT_ap, orT_ap, notT_ap, andE_ap, orE_ap, notE_ap, ifE_ap, chainE_ap, slE_ap, pAt_ap, pNo_ap, intD_ap, vE_ap, vB_ap, cE_ap, tupE_ap, lstE_ap, retS_ap, retNS_ap, nxS_ap, errS_ap, dropS_ap, frzS_ap, appS_ap, getLo_ap, augS_ap, List.getElem?_cons_zero, List.getElem?_cons_succ, ofS_d, ofB_d, ofB_lo, ofL_lo, ofF_lo, ofF_d, bind_ok, bind_err, boolD_ap, iteR_t, iteR_f, iteR_err, kT_ap, List.set_cons_succ, List.set_cons_zero, thenS_nx, thenS_rt, thenS_err, thenS_bk, thenS_ct, oListD_ap, iterD_list, iterD_tuple, isi_ap, add_ii, sub_ii, neg_i, lt_ii, gt_ii, le_ii, ge_ii, int1_i, isNone_none, notNone_none, outR_nx, outR_rt, outR_err, List.length_cons, List.length_nil, if_true, zl0, zl1, zl2, zl3, zl4, zl5, zl6, zl7, zl8, zl9, zl10, zl11, zl12, zl13, ql1, ql2, ql3, ql4, ql5, Bool.not_true, Bool.not_false, gN_ap, gT_tuple, gsCons_ap, gsNil_ap, PD.len_tuple, PD.len_list, tuple1_list, tuple1_tuple, list1_list, list1_tuple, rev_list, rev_tuple, c_l]
theorem law_true : ∀ ns : List Int, ns.length ≤ 63 → m_law [.list (ns.map .int)] = .ok (.bool true) := fun ns hns => by
  obtain ⟨ds, hd, hl, hb⟩ := draws_ok ns hns 60 (by decide)
  have hdr : m__law_draws [.list (ns.map .int), .int 60] = .ok (.list (ds.map .int)) := hd
  have r6 : range1D [.int 6] = .ok ((List.range 6).map fun k : Nat => PyData.int k) := rangeN (n := 6) (by decide)
  obtain ⟨ρ1, e1, t2, t3, t4, t5, t6, t7, t8, t9, t10, t11, t12, t13, t14, t15, rfl⟩ := forG_all (g := gN 2) (b := w9_law) (I := fun ρ => ∃ t2 t3 t4 t5 t6 t7 t8 t9 t10 t11 t12 t13 t14 t15, ρ = [.d (.list (ns.map .int)), .d (.list (ds.map .int)), t2, t3, t4, t5, t6, t7, t8, t9, t10, t11, t12, t13, t14, t15])
    ((List.range 6).map fun k : Nat => PyData.int k) [.d (.list (ns.map .int)), .d (.list (ds.map .int)), .un, .un, .un, .un, .un, .un, .un, .un, .un, .un, .un, .un, .un, .un] ⟨_, _, _, _, _, _, _, _, _, _, _, _, _, _, rfl⟩ fun x hx ρ hI => by
      obtain ⟨t2, t3, t4, t5, t6, t7, t8, t9, t10, t11, t12, t13, t14, t15, rfl⟩ := hI
      obtain ⟨t, ht, rfl⟩ := List.mem_map.mp hx
      obtain ⟨u2, u3, u4, u5, u6, u7, u8, u9, u10, u11, u12, u13, u14, u15, e⟩ := turn_ok hl hb (List.mem_range.mp ht) (.d (.list (ns.map .int))) t2 t3 t4 t5 t6 t7 t8 t9 t10 t11 t12 t13 t14 t15
      exact ⟨_, e, _, _, _, _, _, _, _, _, _, _, _, _, _, _, rfl⟩
  have n1 : neD (.tuple [.int 1, .int (-2), .int 1]) (.tuple [.int 1, .int (-2), .int 1]) = .ok (.bool false) := ne_self rfl
  have n2 : neD (.tuple [.int 1, .int 1]) (.tuple [.int 1, .int 1]) = .ok (.bool false) := ne_self rfl
  have n3 : neD (.tuple [.int 1, .int 3, .int (-2), .int (-4)]) (.tuple [.int 1, .int 3, .int (-2), .int (-4)]) = .ok (.bool false) := ne_self rfl
  have n4 : neD (.tuple []) (.tuple []) = .ok (.bool false) := ne_self rfl
  have q1 : eqD (.int 3) (.int 3) = .ok (.bool true) := eq_self rfl
  have q2 : eqD (.int 1) (.int 1) = .ok (.bool true) := eq_self rfl
  have q3 : eqD (.str "many") (.str "many") = .ok (.bool true) := eq_self rfl
  have q4 : eqD (.int 40) (.int 40) = .ok (.bool true) := eq_self rfl
  have q5 : eqD (.tuple [.tuple [.int 1, .int 2, .int 1], .tuple [.int 1, .int 3, .int (-1)]]) (.tuple [.tuple [.int 1, .int 2, .int 1], .tuple [.int 1, .int 3, .int (-1)]]) = .ok (.bool true) := eq_self rfl
  unfold m_law
  rw [runB_ap]
  unfold b_law
  rw [show (List.map Sl.d [PyData.list (ns.map .int)] ++ List.replicate (16 - [PyData.list (ns.map .int)].length) Sl.un) = [.d (.list (ns.map .int)), .un, .un, .un, .un, .un, .un, .un, .un, .un, .un, .un, .un, .un, .un, .un] from rfl]
  simp only [seqS_ap, setS_ap, setLS_ap, asgS_ap, ifS_ap, forS_ap, itE_ap, argI_ap, callE_ap, callB_ap, consA_ap, nilA_ap, op2_ap, op1_ap, tvE_ap, andT_ap, orT_ap, notT_ap, andE_ap, orE_ap, notE_ap, ifE_ap, chainE_ap, slE_ap, pAt_ap, pNo_ap, intD_ap, vE_ap, vB_ap, cE_ap, tupE_ap, lstE_ap, retS_ap, retNS_ap, nxS_ap, errS_ap, dropS_ap, frzS_ap, appS_ap, getLo_ap, augS_ap, List.getElem?_cons_zero, List.getElem?_cons_succ, ofS_d, ofB_d, ofB_lo, ofL_lo, ofF_lo, ofF_d, bind_ok, bind_err, boolD_ap, iteR_t, iteR_f, iteR_err, kT_ap, List.set_cons_succ, List.set_cons_zero, thenS_nx, thenS_rt, thenS_err, thenS_bk, thenS_ct, oListD_ap, iterD_list, iterD_tuple, isi_ap, add_ii, sub_ii, neg_i, lt_ii, gt_ii, le_ii, ge_ii, int1_i, isNone_none, notNone_none, outR_nx, outR_rt, outR_err, List.length_cons, List.length_nil, if_true, zl0, zl1, zl2, zl3, zl4, zl5, zl6, zl7, zl8, zl9, zl10, zl11, zl12, zl13, ql1, ql2, ql3, ql4, ql5, Bool.not_true, Bool.not_false, gN_ap, gT_tuple, gsCons_ap, gsNil_ap, PD.len_tuple, PD.len_list, tuple1_list, tuple1_tuple, list1_list, list1_tuple, rev_list, rev_tuple, hdr, r6, e1, c_1, c_2, c_3, c_4, c_5, c_6, c_7, c_8, c_9, c_10, c_11, n1, n2, n3, n4, q1, q2, q3, q4, q5]
end G
namespace G
open PySem PySem.Spec PyProof.Rows L2 PD
/-! ## the text by its places -/
def topS (i : Nat) : Stmt := PySem.Challenge.pw_rigwright_k11_whole_flat_plaits.main.body.getD i (.Pass ⟨0, 0, 0, 0⟩)
abbrev s_is_whole : Stmt := topS 7
theorem sc_is_whole : FnScope ["value", "least", "most"] ["value", "least", "most"] (defScope s_is_whole) := ⟨rfl, rfl, rfl, by decide +kernel, rfl, by decide +kernel, by decide +kernel⟩
abbrev s_check_strands : Stmt := topS 12
theorem sc_check_strands : FnScope ["strands"] ["strands"] (defScope s_check_strands) := ⟨rfl, rfl, rfl, by decide +kernel, rfl, by decide +kernel, by decide +kernel⟩
abbrev s_is_word : Stmt := topS 13
theorem sc_is_word : FnScope ["strands", "value", "one"] ["strands", "value"] (defScope s_is_word) := ⟨rfl, rfl, rfl, by decide +kernel, rfl, by decide +kernel, by decide +kernel⟩
abbrev s_check_word : Stmt := topS 14
theorem sc_check_word : FnScope ["strands", "word"] ["strands", "word"] (defScope s_check_word) := ⟨rfl, rfl, rfl, by decide +kernel, rfl, by decide +kernel, by decide +kernel⟩
abbrev s_strands_along : Stmt := topS 15
theorem sc_strands_along : FnScope ["strands", "word", "rows", "one", "row", "at"] ["strands", "word"] (defScope s_strands_along) := ⟨rfl, rfl, rfl, by decide +kernel, rfl, by decide +kernel, by decide +kernel⟩
abbrev s_ends_in : Stmt := topS 16
theorem sc_ends_in : FnScope ["strands", "word", "last", "strand"] ["strands", "word"] (defScope s_ends_in) := ⟨rfl, rfl, rfl, by decide +kernel, rfl, by decide +kernel, by decide +kernel⟩
abbrev s_ends_of : Stmt := topS 17
theorem sc_ends_of : FnScope ["strands", "word"] ["strands", "word"] (defScope s_ends_of) := ⟨rfl, rfl, rfl, by decide +kernel, rfl, by decide +kernel, by decide +kernel⟩
abbrev s_sums_of : Stmt := topS 18
theorem sc_sums_of : FnScope ["strands", "word", "sums", "one", "row", "at", "pair"] ["strands", "word"] (defScope s_sums_of) := ⟨rfl, rfl, rfl, by decide +kernel, rfl, by decide +kernel, by decide +kernel⟩
abbrev s_crossed : Stmt := topS 19
theorem sc_crossed : FnScope ["strands", "word", "sums", "pair"] ["strands", "word"] (defScope s_crossed) := ⟨rfl, rfl, rfl, by decide +kernel, rfl, by decide +kernel, by decide +kernel⟩
abbrev s_writhe : Stmt := topS 20
theorem sc_writhe : FnScope ["strands", "word", "one"] ["strands", "word"] (defScope s_writhe) := ⟨rfl, rfl, rfl, by decide +kernel, rfl, by decide +kernel, by decide +kernel⟩
abbrev s_cancelled : Stmt := topS 21
theorem sc_cancelled : FnScope ["strands", "word", "found", "one"] ["strands", "word"] (defScope s_cancelled) := ⟨rfl, rfl, rfl, by decide +kernel, rfl, by decide +kernel, by decide +kernel⟩
abbrev s_flat_plait : Stmt := topS 22
theorem sc_flat_plait : FnScope ["strands", "rows", "word", "row", "first", "sign", "one"] ["strands", "rows"] (defScope s_flat_plait) := ⟨rfl, rfl, rfl, by decide +kernel, rfl, by decide +kernel, by decide +kernel⟩
abbrev s_rows_till_home : Stmt := topS 23
theorem sc_rows_till_home : FnScope ["strands", "word", "ends", "here", "count", "one"] ["strands", "word"] (defScope s_rows_till_home) := ⟨rfl, rfl, rfl, by decide +kernel, rfl, by decide +kernel, by decide +kernel⟩
abbrev s__law_draws : Stmt := topS 25
theorem sc__law_draws : FnScope ["script", "many", "draws", "seed", "cell", "number", "k"] ["script", "many"] (defScope s__law_draws) := ⟨rfl, rfl, rfl, by decide +kernel, rfl, by decide +kernel, by decide +kernel⟩
abbrev s__law_word : Stmt := topS 26
theorem sc__law_word : FnScope ["draws", "at", "strands", "many", "found", "k", "draw"] ["draws", "at", "strands", "many"] (defScope s__law_word) := ⟨rfl, rfl, rfl, by decide +kernel, rfl, by decide +kernel, by decide +kernel⟩
abbrev s__law_ends : Stmt := topS 27
theorem sc__law_ends : FnScope ["strands", "word", "found", "strand", "here", "one", "at"] ["strands", "word"] (defScope s__law_ends) := ⟨rfl, rfl, rfl, by decide +kernel, rfl, by decide +kernel, by decide +kernel⟩
abbrev s__law_told : Stmt := topS 28
theorem sc__law_told : FnScope ["strands", "rows", "e"] ["strands", "rows"] (defScope s__law_told) := ⟨rfl, rfl, rfl, by decide +kernel, rfl, by decide +kernel, by decide +kernel⟩
abbrev s_law : Stmt := topS 29
theorem sc_law : FnScope ["script", "draws", "turn", "strands", "rows", "due", "row", "place", "told", "word", "ends", "here", "count", "wrong", "k", "one"] ["script"] (defScope s_law) := ⟨rfl, rfl, rfl, by decide +kernel, rfl, by decide +kernel, by decide +kernel⟩
/-! ## what the top has left -/
structure Tx (K : PySem.W.Frag) (mg : Str → Option Value) where
  nabs : mg "abs" = none
  nall : mg "all" = none
  nany : mg "any" = none
  nbool : mg "bool" = none
  nint : mg "int" = none
  nisinstance : mg "isinstance" = none
  nlen : mg "len" = none
  nlist : mg "list" = none
  nmax : mg "max" = none
  nmin : mg "min" = none
  nrange : mg "range" = none
  nsorted : mg "sorted" = none
  nsum : mg "sum" = none
  ntuple : mg "tuple" = none
  nzip : mg "zip" = none
  uLEAST_STRANDS : Value
  gLEAST_STRANDS : mg "LEAST_STRANDS" = some uLEAST_STRANDS
  rLEAST_STRANDS : RelV (V.int 2) uLEAST_STRANDS
  dLEAST_STRANDS : ∀ F, Dp K F (V.int 2) cLEAST_STRANDS
  uMOST_STRANDS : Value
  gMOST_STRANDS : mg "MOST_STRANDS" = some uMOST_STRANDS
  rMOST_STRANDS : RelV (V.int 6) uMOST_STRANDS
  dMOST_STRANDS : ∀ F, Dp K F (V.int 6) cMOST_STRANDS
  uMOST_WORD : Value
  gMOST_WORD : mg "MOST_WORD" = some uMOST_WORD
  rMOST_WORD : RelV (V.int 40) uMOST_WORD
  dMOST_WORD : ∀ F, Dp K F (V.int 40) cMOST_WORD
  CBadRows : Addr
  gBadRows : mg "BadRows" = some (.ref CBadRows)
  xBadRows : PySem.W.excIn K CBadRows [.type "ValueError", .type "Exception", .type "BaseException", .type "object"] "ValueError.__new__" = true
  kBadRows : PySem.W.keepIn K (.ref CBadRows) = true
  qBadRows : PySem.W.subIn K (.ref CBadRows) (.type "BaseException") = some true
  tBadRows : PySem.W.typeIn K (.ref CBadRows) = some (.type "type")
  CBadStrands : Addr
  gBadStrands : mg "BadStrands" = some (.ref CBadStrands)
  xBadStrands : PySem.W.excIn K CBadStrands [.type "ValueError", .type "Exception", .type "BaseException", .type "object"] "ValueError.__new__" = true
  kBadStrands : PySem.W.keepIn K (.ref CBadStrands) = true
  qBadStrands : PySem.W.subIn K (.ref CBadStrands) (.type "BaseException") = some true
  tBadStrands : PySem.W.typeIn K (.ref CBadStrands) = some (.type "type")
  CBadWord : Addr
  gBadWord : mg "BadWord" = some (.ref CBadWord)
  xBadWord : PySem.W.excIn K CBadWord [.type "ValueError", .type "Exception", .type "BaseException", .type "object"] "ValueError.__new__" = true
  kBadWord : PySem.W.keepIn K (.ref CBadWord) = true
  qBadWord : PySem.W.subIn K (.ref CBadWord) (.type "BaseException") = some true
  tBadWord : PySem.W.typeIn K (.ref CBadWord) = some (.type "type")
  CRigError : Addr
  gRigError : mg "RigError" = some (.ref CRigError)
  xRigError : PySem.W.excIn K CRigError [.type "ValueError", .type "Exception", .type "BaseException", .type "object"] "ValueError.__new__" = true
  kRigError : PySem.W.keepIn K (.ref CRigError) = true
  qRigError : PySem.W.subIn K (.ref CRigError) (.type "BaseException") = some true
  tRigError : PySem.W.typeIn K (.ref CRigError) = some (.type "type")
  CTooMany : Addr
  gTooMany : mg "TooMany" = some (.ref CTooMany)
  xTooMany : PySem.W.excIn K CTooMany [.type "ValueError", .type "Exception", .type "BaseException", .type "object"] "ValueError.__new__" = true
  kTooMany : PySem.W.keepIn K (.ref CTooMany) = true
  qTooMany : PySem.W.subIn K (.ref CTooMany) (.type "BaseException") = some true
  tTooMany : PySem.W.typeIn K (.ref CTooMany) = some (.type "type")
  iBadRows : PySem.W.isClsIn K CBadRows = true
  sBadRows_BadRows : PySem.W.subIn K (.ref CBadRows) (.ref CBadRows) = some true
  sBadStrands_BadRows : PySem.W.subIn K (.ref CBadStrands) (.ref CBadRows) = some false
  sBadWord_BadRows : PySem.W.subIn K (.ref CBadWord) (.ref CBadRows) = some false
  sRigError_BadRows : PySem.W.subIn K (.ref CRigError) (.ref CBadRows) = some false
  sTooMany_BadRows : PySem.W.subIn K (.ref CTooMany) (.ref CBadRows) = some false
  iRigError : PySem.W.isClsIn K CRigError = true
  sBadRows_RigError : PySem.W.subIn K (.ref CBadRows) (.ref CRigError) = some true
  sBadStrands_RigError : PySem.W.subIn K (.ref CBadStrands) (.ref CRigError) = some true
  sBadWord_RigError : PySem.W.subIn K (.ref CBadWord) (.ref CRigError) = some true
  sRigError_RigError : PySem.W.subIn K (.ref CRigError) (.ref CRigError) = some true
  sTooMany_RigError : PySem.W.subIn K (.ref CTooMany) (.ref CRigError) = some true
  iTooMany : PySem.W.isClsIn K CTooMany = true
  sBadRows_TooMany : PySem.W.subIn K (.ref CBadRows) (.ref CTooMany) = some false
  sBadStrands_TooMany : PySem.W.subIn K (.ref CBadStrands) (.ref CTooMany) = some false
  sBadWord_TooMany : PySem.W.subIn K (.ref CBadWord) (.ref CTooMany) = some false
  sRigError_TooMany : PySem.W.subIn K (.ref CRigError) (.ref CTooMany) = some false
  sTooMany_TooMany : PySem.W.subIn K (.ref CTooMany) (.ref CTooMany) = some true
  eBadRows : ExcC K CBadRows
  eBadStrands : ExcC K CBadStrands
  eBadWord : ExcC K CBadWord
  eRigError : ExcC K CRigError
  eTooMany : ExcC K CTooMany
  a_is_whole : Addr
  d_is_whole : FuncData
  f_is_whole : Fun K "is_whole" "is_whole" s_is_whole a_is_whole d_is_whole
  g_is_whole : mg "is_whole" = some (.ref a_is_whole)
  b_is_whole : Binds K d_is_whole ["value", "least", "most"] []
  a_check_strands : Addr
  d_check_strands : FuncData
  f_check_strands : Fun K "check_strands" "check_strands" s_check_strands a_check_strands d_check_strands
  g_check_strands : mg "check_strands" = some (.ref a_check_strands)
  b_check_strands : Binds K d_check_strands ["strands"] []
  a_is_word : Addr
  d_is_word : FuncData
  f_is_word : Fun K "is_word" "is_word" s_is_word a_is_word d_is_word
  g_is_word : mg "is_word" = some (.ref a_is_word)
  b_is_word : Binds K d_is_word ["strands", "value"] []
  a_check_word : Addr
  d_check_word : FuncData
  f_check_word : Fun K "check_word" "check_word" s_check_word a_check_word d_check_word
  g_check_word : mg "check_word" = some (.ref a_check_word)
  b_check_word : Binds K d_check_word ["strands", "word"] []
  a_strands_along : Addr
  d_strands_along : FuncData
  f_strands_along : Fun K "strands_along" "strands_along" s_strands_along a_strands_along d_strands_along
  g_strands_along : mg "strands_along" = some (.ref a_strands_along)
  b_strands_along : Binds K d_strands_along ["strands", "word"] []
  a_ends_in : Addr
  d_ends_in : FuncData
  f_ends_in : Fun K "ends_in" "ends_in" s_ends_in a_ends_in d_ends_in
  g_ends_in : mg "ends_in" = some (.ref a_ends_in)
  b_ends_in : Binds K d_ends_in ["strands", "word"] []
  a_ends_of : Addr
  d_ends_of : FuncData
  f_ends_of : Fun K "ends_of" "ends_of" s_ends_of a_ends_of d_ends_of
  g_ends_of : mg "ends_of" = some (.ref a_ends_of)
  b_ends_of : Binds K d_ends_of ["strands", "word"] []
  a_sums_of : Addr
  d_sums_of : FuncData
  f_sums_of : Fun K "sums_of" "sums_of" s_sums_of a_sums_of d_sums_of
  g_sums_of : mg "sums_of" = some (.ref a_sums_of)
  b_sums_of : Binds K d_sums_of ["strands", "word"] []
  a_crossed : Addr
  d_crossed : FuncData
  f_crossed : Fun K "crossed" "crossed" s_crossed a_crossed d_crossed
  g_crossed : mg "crossed" = some (.ref a_crossed)
  b_crossed : Binds K d_crossed ["strands", "word"] []
  a_writhe : Addr
  d_writhe : FuncData
  f_writhe : Fun K "writhe" "writhe" s_writhe a_writhe d_writhe
  g_writhe : mg "writhe" = some (.ref a_writhe)
  b_writhe : Binds K d_writhe ["strands", "word"] []
  a_cancelled : Addr
  d_cancelled : FuncData
  f_cancelled : Fun K "cancelled" "cancelled" s_cancelled a_cancelled d_cancelled
  g_cancelled : mg "cancelled" = some (.ref a_cancelled)
  b_cancelled : Binds K d_cancelled ["strands", "word"] []
  a_flat_plait : Addr
  d_flat_plait : FuncData
  f_flat_plait : Fun K "flat_plait" "flat_plait" s_flat_plait a_flat_plait d_flat_plait
  g_flat_plait : mg "flat_plait" = some (.ref a_flat_plait)
  b_flat_plait : Binds K d_flat_plait ["strands", "rows"] []
  a_rows_till_home : Addr
  d_rows_till_home : FuncData
  f_rows_till_home : Fun K "rows_till_home" "rows_till_home" s_rows_till_home a_rows_till_home d_rows_till_home
  g_rows_till_home : mg "rows_till_home" = some (.ref a_rows_till_home)
  b_rows_till_home : Binds K d_rows_till_home ["strands", "word"] []
  a__law_draws : Addr
  d__law_draws : FuncData
  f__law_draws : Fun K "_law_draws" "_law_draws" s__law_draws a__law_draws d__law_draws
  g__law_draws : mg "_law_draws" = some (.ref a__law_draws)
  b__law_draws : Binds K d__law_draws ["script", "many"] []
  a__law_word : Addr
  d__law_word : FuncData
  f__law_word : Fun K "_law_word" "_law_word" s__law_word a__law_word d__law_word
  g__law_word : mg "_law_word" = some (.ref a__law_word)
  b__law_word : Binds K d__law_word ["draws", "at", "strands", "many"] []
  a__law_ends : Addr
  d__law_ends : FuncData
  f__law_ends : Fun K "_law_ends" "_law_ends" s__law_ends a__law_ends d__law_ends
  g__law_ends : mg "_law_ends" = some (.ref a__law_ends)
  b__law_ends : Binds K d__law_ends ["strands", "word"] []
  a__law_told : Addr
  d__law_told : FuncData
  f__law_told : Fun K "_law_told" "_law_told" s__law_told a__law_told d__law_told
  g__law_told : mg "_law_told" = some (.ref a__law_told)
  b__law_told : Binds K d__law_told ["strands", "rows"] []
  a_law : Addr
  d_law : FuncData
  f_law : Fun K "law" "law" s_law a_law d_law
  g_law : mg "law" = some (.ref a_law)
  b_law : Binds K d_law ["script"] []
theorem mtBadRows_ok {K : PySem.W.Frag} {mg : Str → Option Value} (T : Tx K mg) (c : String) (b : Bool) (A : Addr) (h : mtBadRows c = some b) (hA : mg (c : Str) = some (.ref A)) : PySem.W.exmOne K (.ref A) (.ref T.CBadRows) = some b := by
  unfold mtBadRows at h
  split at h
  · rename_i e; subst e; have z := hA.symm.trans T.gBadRows; cases z; cases h; exact exm_ok T.qBadRows T.iBadRows T.tBadRows T.sBadRows_BadRows
  split at h
  · rename_i e; subst e; have z := hA.symm.trans T.gBadStrands; cases z; cases h; exact exm_ok T.qBadRows T.iBadRows T.tBadRows T.sBadStrands_BadRows
  split at h
  · rename_i e; subst e; have z := hA.symm.trans T.gBadWord; cases z; cases h; exact exm_ok T.qBadRows T.iBadRows T.tBadRows T.sBadWord_BadRows
  split at h
  · rename_i e; subst e; have z := hA.symm.trans T.gRigError; cases z; cases h; exact exm_ok T.qBadRows T.iBadRows T.tBadRows T.sRigError_BadRows
  split at h
  · rename_i e; subst e; have z := hA.symm.trans T.gTooMany; cases z; cases h; exact exm_ok T.qBadRows T.iBadRows T.tBadRows T.sTooMany_BadRows
  cases h
theorem mtRigError_ok {K : PySem.W.Frag} {mg : Str → Option Value} (T : Tx K mg) (c : String) (b : Bool) (A : Addr) (h : mtRigError c = some b) (hA : mg (c : Str) = some (.ref A)) : PySem.W.exmOne K (.ref A) (.ref T.CRigError) = some b := by
  unfold mtRigError at h
  split at h
  · rename_i e; subst e; have z := hA.symm.trans T.gBadRows; cases z; cases h; exact exm_ok T.qRigError T.iRigError T.tRigError T.sBadRows_RigError
  split at h
  · rename_i e; subst e; have z := hA.symm.trans T.gBadStrands; cases z; cases h; exact exm_ok T.qRigError T.iRigError T.tRigError T.sBadStrands_RigError
  split at h
  · rename_i e; subst e; have z := hA.symm.trans T.gBadWord; cases z; cases h; exact exm_ok T.qRigError T.iRigError T.tRigError T.sBadWord_RigError
  split at h
  · rename_i e; subst e; have z := hA.symm.trans T.gRigError; cases z; cases h; exact exm_ok T.qRigError T.iRigError T.tRigError T.sRigError_RigError
  split at h
  · rename_i e; subst e; have z := hA.symm.trans T.gTooMany; cases z; cases h; exact exm_ok T.qRigError T.iRigError T.tRigError T.sTooMany_RigError
  cases h
theorem mtTooMany_ok {K : PySem.W.Frag} {mg : Str → Option Value} (T : Tx K mg) (c : String) (b : Bool) (A : Addr) (h : mtTooMany c = some b) (hA : mg (c : Str) = some (.ref A)) : PySem.W.exmOne K (.ref A) (.ref T.CTooMany) = some b := by
  unfold mtTooMany at h
  split at h
  · rename_i e; subst e; have z := hA.symm.trans T.gBadRows; cases z; cases h; exact exm_ok T.qTooMany T.iTooMany T.tTooMany T.sBadRows_TooMany
  split at h
  · rename_i e; subst e; have z := hA.symm.trans T.gBadStrands; cases z; cases h; exact exm_ok T.qTooMany T.iTooMany T.tTooMany T.sBadStrands_TooMany
  split at h
  · rename_i e; subst e; have z := hA.symm.trans T.gBadWord; cases z; cases h; exact exm_ok T.qTooMany T.iTooMany T.tTooMany T.sBadWord_TooMany
  split at h
  · rename_i e; subst e; have z := hA.symm.trans T.gRigError; cases z; cases h; exact exm_ok T.qTooMany T.iTooMany T.tTooMany T.sRigError_TooMany
  split at h
  · rename_i e; subst e; have z := hA.symm.trans T.gTooMany; cases z; cases h; exact exm_ok T.qTooMany T.iTooMany T.tTooMany T.sTooMany_TooMany
  cases h
theorem xkRigError_ok {K : PySem.W.Frag} {mg : Str → Option Value} (T : Tx K mg) (c : String) (A : Addr) (h : mtRigError c = some true) (hA : mg (c : Str) = some (.ref A)) : ExcC K A := by
  unfold mtRigError at h
  split at h
  · rename_i e; subst e; have z := hA.symm.trans T.gBadRows; cases z; exact T.eBadRows
  split at h
  · rename_i e; subst e; have z := hA.symm.trans T.gBadStrands; cases z; exact T.eBadStrands
  split at h
  · rename_i e; subst e; have z := hA.symm.trans T.gBadWord; cases z; exact T.eBadWord
  split at h
  · rename_i e; subst e; have z := hA.symm.trans T.gRigError; cases z; exact T.eRigError
  split at h
  · rename_i e; subst e; have z := hA.symm.trans T.gTooMany; cases z; exact T.eTooMany
  cases h
theorem ktTooMany_ok {K : PySem.W.Frag} {mg : Str → Option Value} (T : Tx K mg) (c : String) (b : Bool) (A : Addr) (h : mtTooMany c = some b) (hA : mg (c : Str) = some (.ref A)) : PySem.W.kitOne K (.ref A) (.ref T.CTooMany) = some b := by
  unfold mtTooMany at h
  split at h
  · rename_i e; subst e; have z := hA.symm.trans T.gBadRows; cases z; cases h; exact kit_ok T.iTooMany T.tTooMany T.sBadRows_TooMany T.sTooMany_TooMany
  split at h
  · rename_i e; subst e; have z := hA.symm.trans T.gBadStrands; cases z; cases h; exact kit_ok T.iTooMany T.tTooMany T.sBadStrands_TooMany T.sTooMany_TooMany
  split at h
  · rename_i e; subst e; have z := hA.symm.trans T.gBadWord; cases z; cases h; exact kit_ok T.iTooMany T.tTooMany T.sBadWord_TooMany T.sTooMany_TooMany
  split at h
  · rename_i e; subst e; have z := hA.symm.trans T.gRigError; cases z; cases h; exact kit_ok T.iTooMany T.tTooMany T.sRigError_TooMany T.sTooMany_TooMany
  split at h
  · rename_i e; subst e; have z := hA.symm.trans T.gTooMany; cases z; cases h; exact kit_ok T.iTooMany T.tTooMany T.sTooMany_TooMany T.sTooMany_TooMany
  cases h
section
variable {P : Program} {w : World} {K : PySem.W.Frag} {mg : Str → Option Value} {base : Heap}
theorem ok_is_whole (T : Tx K mg) : FnP P w K mg base 1 T.a_is_whole T.d_is_whole ["value", "least", "most"] m_is_whole := by
  refine fnP_of (N := ["value", "least", "most"]) (k := 0) (st := s_is_whole) (b := b_is_whole) T.f_is_whole sc_is_whole ?_
  intro cdv A outer s H E We hr tk hp
  have hu := hr.units
  have hv := hu65_of hr
  refine xss_one ?_
  · refine xs_ret ?_
    · refine xe_and ?_ ?_
      · refine xe_isi .int (by rfl) T.nisinstance (by rfl) T.nint (by decide +kernel) ?_ (hn := by decide) (hd := by decide) (hs1 := by rfl) (hs2 := by rfl) (hpl := by rfl)
        · refine xeB ?_
          · exact xe_var (i := 0) rfl (.inl rfl) (hd := by decide) (hcd := by decide)
      · refine xe_and ?_ ?_
        · refine xe_not ?_
          · refine xe_isi .bool (by rfl) T.nisinstance (by rfl) T.nbool (by decide +kernel) ?_ (hn := by decide) (hd := by decide) (hs1 := by rfl) (hs2 := by rfl) (hpl := by rfl)
            · refine xeB ?_
              · exact xe_var (i := 0) rfl (.inl rfl) (hd := by decide) (hcd := by decide)
        · refine xe_one ?_
          · refine xe_chain leD_p leD_p (opx_le (by exact hu)) (opx_le (by exact hu)) ?_ ?_ ?_ (hm := by with_unfolding_all rfl)
            · refine xeB ?_
              · exact xe_var (i := 1) rfl (.inl rfl) (hd := by decide) (hcd := by decide)
            · refine xeB ?_
              · exact xe_var (i := 0) rfl (.inl rfl) (hd := by decide) (hcd := by decide)
            · refine xeB ?_
              · exact xe_var (i := 2) rfl (.inl rfl) (hd := by decide) (hcd := by decide)
theorem ok_check_strands (T : Tx K mg) : FnP P w K mg base 2 T.a_check_strands T.d_check_strands ["strands"] m_check_strands := by
  refine fnP_of (N := ["strands"]) (k := 1) (st := s_check_strands) (b := b_check_strands) T.f_check_strands sc_check_strands ?_
  intro cdv A outer s H E We hr tk hp
  have hu := hr.units
  have hv := hu65_of hr
  refine xss_one ?_
  · refine xs_if ?_ ?_ ?_
    · refine xt_not ?_
      · refine xt_val ?_ (he := by intro _; rfl)
        · refine xe_call (ps := ["value", "least", "most"]) (ok_is_whole T) (by exact hr.mono (by decide)) (by rfl) T.g_is_whole T.f_is_whole.kp T.b_is_whole tk ?_ (hdb := by decide) (he := by rfl) (hpl := by rfl)
          · refine xa_cons ?_ ?_ (hs := by rfl)
            · exact xe_var (i := 0) rfl (.inl rfl) (hd := by decide) (hcd := by decide)
            · refine xa_cons ?_ ?_ (hs := by rfl)
              · exact xe_glob (by rfl) T.gLEAST_STRANDS T.rLEAST_STRANDS (fun _ => T.dLEAST_STRANDS _) (hdb := by decide)
              · refine xa_cons ?_ ?_ (hs := by rfl)
                · exact xe_glob (by rfl) T.gMOST_STRANDS T.rMOST_STRANDS (fun _ => T.dMOST_STRANDS _) (hdb := by decide)
                · exact xa_nil
    · refine xss_one ?_
      · exact xs_raise rfl tk PySem.F.excBase_ValueError T.xBadStrands T.gBadStrands T.kBadStrands (raises_own T.qBadStrands T.tBadStrands) rfl (hdb := by decide)
    · exact xss_nil
theorem ok_is_word (T : Tx K mg) : FnP P w K mg base 2 T.a_is_word T.d_is_word ["strands", "value"] m_is_word := by
  refine fnP_of (N := ["strands", "value", "one"]) (k := 1) (st := s_is_word) (b := b_is_word) T.f_is_word sc_is_word ?_
  intro cdv A outer s H E We hr tk hp
  have hu := hr.units
  have hv := hu65_of hr
  refine xss_cons ?_ ?_
  · refine xs_if ?_ ?_ ?_
    · refine xt_w ?_
      · refine xw_or ?_ ?_
        · refine xt_not ?_
          · refine xt_val ?_ (he := by intro _; rfl)
            · refine xe_isi .tuple (by rfl) T.nisinstance (by rfl) T.ntuple (by decide +kernel) ?_ (hn := by decide) (hd := by decide) (hs1 := by rfl) (hs2 := by rfl) (hpl := by rfl)
              · refine xeB ?_
                · exact xe_var (i := 1) rfl (.inl rfl) (hd := by decide) (hcd := by decide)
        · refine xw_or1 ?_
          · refine xt_cmp gtD_p (opx_gt (by exact hu)) (nomark _) ?_ ?_
            · refine xeB ?_
              · refine xe_callB lenD_p cb_len (by rfl) T.nlen PySem.boot_len ?_ (hn := by decide) (hdb := by decide) (he := by rfl) (hpl := by rfl)
                · refine xab_cons ?_ ?_ (hs := by rfl)
                  · refine xeB ?_
                    · exact xe_var (i := 1) rfl (.inl rfl) (hd := by decide) (hcd := by decide)
                  · exact xab_nil
            · refine xeB ?_
              · exact xe_glob (by rfl) T.gMOST_WORD T.rMOST_WORD (fun _ => T.dMOST_WORD _) (hdb := by decide)
    · refine xss_one ?_
      · refine xs_ret ?_
        · exact xe_bool
    · exact xss_nil
  · refine xss_one ?_
    · refine xs_ret ?_
      · refine xe_callB allD_p (cb_all rfl) (by rfl) T.nall (by decide +kernel) ?_ (hn := by decide) (hdb := by decide) (he := by rfl) (hpl := by rfl)
        · refine xab_cons ?_ ?_ (hs := by rfl)
          · refine xfB ?_
            · refine xf_lc rfl sc_is_word.nd (own := [("one", 2)]) (ts := [2]) ?_ (blkOk_by (N := ["strands", "value", "one"]) (sc := defScope s_is_word) (own := [("one", 2)]) (by decide +kernel)) (by decide) ?_ ?_ ?_ (hs := by intro _; rfl)
              · refine xi_any ?_
                · exact xe_var (i := 1) rfl (.inl rfl) (hd := by decide) (hcd := by decide)
              · intro _ _ _ _ _
                exact xg_name (i := 2) sc_is_word.nd rfl (.inl rfl) (hf := by first | exact .inl rfl | exact .inr rfl | assumption)
              · intro _ _ _ _ _
                exact xts_nil
              · intro _ _ _ _ _
                refine xe_and ?_ ?_
                · refine xe_call (ps := ["value", "least", "most"]) (ok_is_whole T) (by exact hr.mono (by decide)) (by rfl) T.g_is_whole T.f_is_whole.kp T.b_is_whole tk0 ?_ (hdb := by decide) (he := by rfl) (hpl := by rfl)
                  · refine xa_cons ?_ ?_ (hs := by rfl)
                    · exact xe_var (i := 2) rfl (.inl rfl) (hd := by decide) (hcd := by decide)
                    · refine xa_cons ?_ ?_ (hs := by rfl)
                      · refine xe_op subD_p opx_sub ?_ ?_
                        · refine xeB ?_
                          · exact xe_int
                        · refine xeB ?_
                          · exact xe_var (i := 0) rfl (.inr (.inl rfl)) (hd := by decide) (hcd := by decide)
                      · refine xa_cons ?_ ?_ (hs := by rfl)
                        · refine xe_op subD_p opx_sub ?_ ?_
                          · refine xeB ?_
                            · exact xe_var (i := 0) rfl (.inr (.inl rfl)) (hd := by decide) (hcd := by decide)
                          · refine xeB ?_
                            · exact xe_int
                        · exact xa_nil
                · refine xe_one ?_
                  · refine xe_cmp neD_p (opx_ne (by exact hu)) (nomark _) ?_ ?_
                    · refine xeB ?_
                      · exact xe_var (i := 2) rfl (.inl rfl) (hd := by decide) (hcd := by decide)
                    · refine xeB ?_
                      · exact xe_int
          · exact xab_nil
theorem ok_check_word (T : Tx K mg) : FnP P w K mg base 3 T.a_check_word T.d_check_word ["strands", "word"] m_check_word := by
  refine fnP_of (N := ["strands", "word"]) (k := 2) (st := s_check_word) (b := b_check_word) T.f_check_word sc_check_word ?_
  intro cdv A outer s H E We hr tk hp
  have hu := hr.units
  have hv := hu65_of hr
  refine xss_cons ?_ ?_
  · refine xs_expr ?_ (hs := by rfl)
    · refine xe_call (ps := ["strands"]) (ok_check_strands T) (by exact hr.mono (by decide)) (by rfl) T.g_check_strands T.f_check_strands.kp T.b_check_strands tk ?_ (hdb := by decide) (he := by rfl) (hpl := by rfl)
      · refine xa_cons ?_ ?_ (hs := by rfl)
        · exact xe_var (i := 0) rfl (.inl rfl) (hd := by decide) (hcd := by decide)
        · exact xa_nil
  · refine xss_one ?_
    · refine xs_if ?_ ?_ ?_
      · refine xt_not ?_
        · refine xt_val ?_ (he := by intro _; rfl)
          · refine xe_call (ps := ["strands", "value"]) (ok_is_word T) (by exact hr.mono (by decide)) (by rfl) T.g_is_word T.f_is_word.kp T.b_is_word tk ?_ (hdb := by decide) (he := by rfl) (hpl := by rfl)
            · refine xa_cons ?_ ?_ (hs := by rfl)
              · exact xe_var (i := 0) rfl (.inl rfl) (hd := by decide) (hcd := by decide)
              · refine xa_cons ?_ ?_ (hs := by rfl)
                · exact xe_var (i := 1) rfl (.inl rfl) (hd := by decide) (hcd := by decide)
                · exact xa_nil
      · refine xss_one ?_
        · exact xs_raise rfl tk PySem.F.excBase_ValueError T.xBadWord T.gBadWord T.kBadWord (raises_own T.qBadWord T.tBadWord) rfl (hdb := by decide)
      · exact xss_nil
theorem ok_strands_along (T : Tx K mg) : FnP P w K mg base 1 T.a_strands_along T.d_strands_along ["strands", "word"] m_strands_along := by
  refine fnP_of (N := ["strands", "word", "rows", "one", "row", "at"]) (k := 0) (st := s_strands_along) (b := b_strands_along) T.f_strands_along sc_strands_along ?_
  intro cdv A outer s H E We hr tk hp
  have hu := hr.units
  have hv := hu65_of hr
  refine xss_cons ?_ ?_
  · refine xs_setL (i := 2) sc_strands_along.nd rfl (.inl rfl) ?_ (hs := by rfl) (hf := by first | exact .inl rfl | exact .inr rfl | assumption)
    · refine xf_lst ?_
      · refine xa_cons ?_ ?_ (hs := by rfl)
        · refine xfE ?_
          · refine xf_lr2 rfl (by rfl) T.nlist (by rfl) T.nrange ?_ ?_ (by rfl) (by rfl) (by rfl) (by rfl)
            · exact xe_int
            · refine xe_op addD_p opx_add ?_ ?_
              · refine xeB ?_
                · exact xe_var (i := 0) rfl (.inl rfl) (hd := by decide) (hcd := by decide)
              · refine xeB ?_
                · exact xe_int
        · exact xa_nil
  · refine xss_cons ?_ ?_
    · refine xs_for (ts := [3]) hp rfl ?_ (xg_name (i := 3) sc_strands_along.nd rfl (.inl rfl) (hf := by first | exact .inl rfl | exact .inr rfl | assumption)) gN_p ?_ (hs := by intro _; rfl)
      · refine xi_any ?_
        · exact xe_var (i := 1) rfl (.inl rfl) (hd := by decide) (hcd := by decide)
      · refine xss_cons ?_ ?_
        · refine xs_setL (i := 4) sc_strands_along.nd rfl (.inl rfl) ?_ (hs := by rfl) (hf := by first | exact .inl rfl | exact .inr rfl | assumption)
          · refine xf_callTy list1D_p cb_list (by rfl) T.nlist (by decide +kernel) ?_ (hn := by decide) (hdb := by decide) (he := by rfl) (hpl := by rfl)
            · refine xab_cons ?_ ?_ (hs := by rfl)
              · refine xeB ?_
                · refine xe_ix ?_ ?_ (hs := by intro _ _; rfl)
                  · exact xb_var (i := 2) rfl (.inl rfl) (hd := by decide) (hcd := by decide)
                  · refine xeB ?_
                    · refine xe_un negD_p unx_neg ?_
                      · refine xeB ?_
                        · exact xe_int
              · exact xab_nil
        · refine xss_cons ?_ ?_
          · refine xs_set (i := 5) sc_strands_along.nd rfl (.inl rfl) ?_ (hs := by rfl) (hf := by first | exact .inl rfl | exact .inr rfl | assumption)
            · refine xe_callB absD_p cb_abs (by rfl) T.nabs (by decide +kernel) ?_ (hn := by decide) (hdb := by decide) (he := by rfl) (hpl := by rfl)
              · refine xab_cons ?_ ?_ (hs := by rfl)
                · refine xeB ?_
                  · exact xe_var (i := 3) rfl (.inl rfl) (hd := by decide) (hcd := by decide)
                · exact xab_nil
          · refine xss_cons ?_ ?_
            · refine xs_asgH2 rfl ?_ ?_ ?_ (okG_t _ _) (okG_t _ _) (by rfl) (by rfl) (by rfl) (by rfl) (by rfl) (by rfl) (by rfl)
              · refine xe_tup ?_
                · refine xa_cons ?_ ?_ (hs := by rfl)
                  · refine xe_ix ?_ ?_ (hs := by intro _ _; rfl)
                    · exact xb_var (i := 4) rfl (.inl rfl) (hd := by decide) (hcd := by decide)
                    · refine xeB ?_
                      · exact xe_var (i := 5) rfl (.inl rfl) (hd := by decide) (hcd := by decide)
                  · refine xa_cons ?_ ?_ (hs := by rfl)
                    · refine xe_ix ?_ ?_ (hs := by intro _ _; rfl)
                      · exact xb_var (i := 4) rfl (.inl rfl) (hd := by decide) (hcd := by decide)
                      · refine xeB ?_
                        · refine xe_op subD_p opx_sub ?_ ?_
                          · refine xeB ?_
                            · exact xe_var (i := 5) rfl (.inl rfl) (hd := by decide) (hcd := by decide)
                          · refine xeB ?_
                            · exact xe_int
                    · exact xa_nil
              · exact xgh_sub (We := We) (i := 4) (hps := pg_sub (pv 4) (xeB (xe_op subD_p opx_sub (xeB (xe_var (i := 5) rfl (.inl rfl) (hd := by decide) (hcd := by decide))) (xeB xe_int))) set_list)
              · exact xgh_sub (We := We) (i := 4) (hps := pg_sub (pv 4) (xeB (xe_var (i := 5) rfl (.inl rfl) (hd := by decide) (hcd := by decide))) set_list)
            · refine xss_frz 4 ?_
              · refine xss_one ?_
                · refine xs_append (i := 2) rfl (.inl rfl) ?_ (hd := by decide) (hcd := by decide) (hbase := by rfl) (hfew := by rfl) (hline := by rfl) (hs := by rfl) (hplain := by rfl) (hsw := by rfl)
                  · exact xe_var (i := 4) rfl (.inl rfl) (hd := by decide) (hcd := by decide)
    · refine xss_frz 2 ?_
      · refine xss_one ?_
        · refine xs_ret ?_
          · exact xe_var (i := 2) rfl (.inl rfl) (hd := by decide) (hcd := by decide)
theorem ok_ends_in (T : Tx K mg) : FnP P w K mg base 2 T.a_ends_in T.d_ends_in ["strands", "word"] m_ends_in := by
  refine fnP_of (N := ["strands", "word", "last", "strand"]) (k := 1) (st := s_ends_in) (b := b_ends_in) T.f_ends_in sc_ends_in ?_
  intro cdv A outer s H E We hr tk hp
  have hu := hr.units
  have hv := hu65_of hr
  refine xss_cons ?_ ?_
  · refine xs_set (i := 2) sc_ends_in.nd rfl (.inr rfl) ?_ (hs := by rfl) (hf := by first | exact .inl rfl | exact .inr rfl | assumption)
    · refine xe_ix ?_ ?_ (hs := by intro _ _; rfl)
      · refine xeB ?_
        · refine xe_call (ps := ["strands", "word"]) (ok_strands_along T) (by exact hr.mono (by decide)) (by rfl) T.g_strands_along T.f_strands_along.kp T.b_strands_along tk ?_ (hdb := by decide) (he := by rfl) (hpl := by rfl)
          · refine xa_cons ?_ ?_ (hs := by rfl)
            · exact xe_var (i := 0) rfl (.inl rfl) (hd := by decide) (hcd := by decide)
            · refine xa_cons ?_ ?_ (hs := by rfl)
              · exact xe_var (i := 1) rfl (.inl rfl) (hd := by decide) (hcd := by decide)
              · exact xa_nil
      · refine xeB ?_
        · refine xe_un negD_p unx_neg ?_
          · refine xeB ?_
            · exact xe_int
  · refine xss_one ?_
    · refine xs_ret ?_
      · refine xe_callTy tuple1D_p cb_tuple (by rfl) T.ntuple (by decide +kernel) ?_ (hn := by decide) (hdb := by decide) (he := by rfl) (hpl := by rfl)
        · refine xab_cons ?_ ?_ (hs := by rfl)
          · refine xfB ?_
            · refine xf_lc rfl sc_ends_in.nd (own := [("strand", 3)]) (ts := [3]) ?_ (blkOk_by (N := ["strands", "word", "last", "strand"]) (sc := defScope s_ends_in) (own := [("strand", 3)]) (by decide +kernel)) (by decide) ?_ ?_ ?_ (hs := by intro _; rfl)
              · refine xi_range2 (by rfl) T.nrange ?_ (hs := by rfl) (hs2 := by rfl)
                · refine xa_cons ?_ ?_ (hs := by rfl)
                  · exact xe_int
                  · refine xa_cons ?_ ?_ (hs := by rfl)
                    · refine xe_op addD_p opx_add ?_ ?_
                      · refine xeB ?_
                        · exact xe_var (i := 0) rfl (.inl rfl) (hd := by decide) (hcd := by decide)
                      · refine xeB ?_
                        · exact xe_int
                    · exact xa_nil
              · intro _ _ _ _ _
                exact xg_name (i := 3) sc_ends_in.nd rfl (.inl rfl) (hf := by first | exact .inl rfl | exact .inr rfl | assumption)
              · intro _ _ _ _ _
                exact xts_nil
              · intro _ _ _ _ _
                refine xe_op addD_p opx_add ?_ ?_
                · refine xeB ?_
                  · refine xe_index (by exact hv) ?_ ?_ (hbase := by rfl) (hfew := by rfl) (hline := by rfl) (hs := by rfl) (hplain := by rfl)
                    · refine xeB ?_
                      · exact xe_var (i := 2) rfl (.inr (.inl rfl)) (hd := by decide) (hcd := by decide)
                    · refine xeB ?_
                      · exact xe_var (i := 3) rfl (.inl rfl) (hd := by decide) (hcd := by decide)
                · refine xeB ?_
                  · exact xe_int
          · exact xab_nil
theorem ok_ends_of (T : Tx K mg) : FnP P w K mg base 4 T.a_ends_of T.d_ends_of ["strands", "word"] m_ends_of := by
  refine fnP_of (N := ["strands", "word"]) (k := 3) (st := s_ends_of) (b := b_ends_of) T.f_ends_of sc_ends_of ?_
  intro cdv A outer s H E We hr tk hp
  have hu := hr.units
  have hv := hu65_of hr
  refine xss_cons ?_ ?_
  · refine xs_expr ?_ (hs := by rfl)
    · refine xe_call (ps := ["strands", "word"]) (ok_check_word T) (by exact hr.mono (by decide)) (by rfl) T.g_check_word T.f_check_word.kp T.b_check_word tk ?_ (hdb := by decide) (he := by rfl) (hpl := by rfl)
      · refine xa_cons ?_ ?_ (hs := by rfl)
        · exact xe_var (i := 0) rfl (.inl rfl) (hd := by decide) (hcd := by decide)
        · refine xa_cons ?_ ?_ (hs := by rfl)
          · exact xe_var (i := 1) rfl (.inl rfl) (hd := by decide) (hcd := by decide)
          · exact xa_nil
  · refine xss_one ?_
    · refine xs_ret ?_
      · refine xe_call (ps := ["strands", "word"]) (ok_ends_in T) (by exact hr.mono (by decide)) (by rfl) T.g_ends_in T.f_ends_in.kp T.b_ends_in tk ?_ (hdb := by decide) (he := by rfl) (hpl := by rfl)
        · refine xa_cons ?_ ?_ (hs := by rfl)
          · exact xe_var (i := 0) rfl (.inl rfl) (hd := by decide) (hcd := by decide)
          · refine xa_cons ?_ ?_ (hs := by rfl)
            · exact xe_var (i := 1) rfl (.inl rfl) (hd := by decide) (hcd := by decide)
            · exact xa_nil
theorem ok_sums_of (T : Tx K mg) : FnPd P w K mg base 2 T.a_sums_of T.d_sums_of ["strands", "word"] m_sums_of := by
  refine fnPd_of (N := ["strands", "word", "sums", "one", "row", "at", "pair"]) (k := 1) (st := s_sums_of) (b := b_sums_of) T.f_sums_of sc_sums_of ?_
  intro cdv A outer s H E We hr tk hp
  have hu := hr.units
  have hv := hu65_of hr
  refine xss_cons ?_ ?_
  · exact xs_newT (n := 2) sc_sums_of.nd rfl (.inl rfl) (by rfl) (by first | exact .inl rfl | exact .inr rfl | assumption)
  · refine xss_cons ?_ ?_
    · refine xs_for (ts := [3, 4]) hp rfl ?_ (xg_tup rfl (xgs_cons (xg_name (i := 3) sc_sums_of.nd rfl (.inl rfl) (hf := by first | exact .inl rfl | exact .inr rfl | assumption)) (xgs_cons (xg_name (i := 4) sc_sums_of.nd rfl (.inl rfl) (hf := by first | exact .inl rfl | exact .inr rfl | assumption)) xgs_nil (hs := by rfl)) (hs := by rfl)) (hn := by rfl) (hst := by rfl)) (gT_p (gsCons_p gN_p (gsCons_p gN_p gsNil_p))) ?_ (hs := by intro _; rfl)
      · refine xi_zip2 (by rfl) T.nzip ?_ ?_ (by rfl) (by rfl) (by rfl)
        · exact xe_var (i := 1) rfl (.inl rfl) (hd := by decide) (hcd := by decide)
        · refine xe_call (ps := ["strands", "word"]) (ok_strands_along T) (by exact hr.mono (by decide)) (by rfl) T.g_strands_along T.f_strands_along.kp T.b_strands_along tk ?_ (hdb := by decide) (he := by rfl) (hpl := by rfl)
          · refine xa_cons ?_ ?_ (hs := by rfl)
            · exact xe_var (i := 0) rfl (.inl rfl) (hd := by decide) (hcd := by decide)
            · refine xa_cons ?_ ?_ (hs := by rfl)
              · exact xe_var (i := 1) rfl (.inl rfl) (hd := by decide) (hcd := by decide)
              · exact xa_nil
      · refine xss_cons ?_ ?_
        · refine xs_set (i := 5) sc_sums_of.nd rfl (.inl rfl) ?_ (hs := by rfl) (hf := by first | exact .inl rfl | exact .inr rfl | assumption)
          · refine xe_callB absD_p cb_abs (by rfl) T.nabs (by decide +kernel) ?_ (hn := by decide) (hdb := by decide) (he := by rfl) (hpl := by rfl)
            · refine xab_cons ?_ ?_ (hs := by rfl)
              · refine xeB ?_
                · exact xe_var (i := 3) rfl (.inl rfl) (hd := by decide) (hcd := by decide)
              · exact xab_nil
        · refine xss_cons ?_ ?_
          · refine xs_set (i := 6) sc_sums_of.nd rfl (.inl rfl) ?_ (hs := by rfl) (hf := by first | exact .inl rfl | exact .inr rfl | assumption)
            · refine xe_tup ?_
              · refine xa_cons ?_ ?_ (hs := by rfl)
                · refine xe_callB minD_p (cb_min rfl (by exact hu)) (by rfl) T.nmin (by decide +kernel) ?_ (hn := by decide) (hdb := by decide) (he := by rfl) (hpl := by rfl)
                  · refine xab_cons ?_ ?_ (hs := by rfl)
                    · refine xeB ?_
                      · refine xe_ix ?_ ?_ (hs := by intro _ _; rfl)
                        · refine xeB ?_
                          · exact xe_var (i := 4) rfl (.inl rfl) (hd := by decide) (hcd := by decide)
                        · refine xeB ?_
                          · refine xe_op subD_p opx_sub ?_ ?_
                            · refine xeB ?_
                              · exact xe_var (i := 5) rfl (.inl rfl) (hd := by decide) (hcd := by decide)
                            · refine xeB ?_
                              · exact xe_int
                    · refine xab_cons ?_ ?_ (hs := by rfl)
                      · refine xeB ?_
                        · refine xe_ix ?_ ?_ (hs := by intro _ _; rfl)
                          · refine xeB ?_
                            · exact xe_var (i := 4) rfl (.inl rfl) (hd := by decide) (hcd := by decide)
                          · refine xeB ?_
                            · exact xe_var (i := 5) rfl (.inl rfl) (hd := by decide) (hcd := by decide)
                      · exact xab_nil
                · refine xa_cons ?_ ?_ (hs := by rfl)
                  · refine xe_callB maxD_p (cb_max rfl (by exact hu)) (by rfl) T.nmax (by decide +kernel) ?_ (hn := by decide) (hdb := by decide) (he := by rfl) (hpl := by rfl)
                    · refine xab_cons ?_ ?_ (hs := by rfl)
                      · refine xeB ?_
                        · refine xe_ix ?_ ?_ (hs := by intro _ _; rfl)
                          · refine xeB ?_
                            · exact xe_var (i := 4) rfl (.inl rfl) (hd := by decide) (hcd := by decide)
                          · refine xeB ?_
                            · refine xe_op subD_p opx_sub ?_ ?_
                              · refine xeB ?_
                                · exact xe_var (i := 5) rfl (.inl rfl) (hd := by decide) (hcd := by decide)
                              · refine xeB ?_
                                · exact xe_int
                      · refine xab_cons ?_ ?_ (hs := by rfl)
                        · refine xeB ?_
                          · refine xe_ix ?_ ?_ (hs := by intro _ _; rfl)
                            · refine xeB ?_
                              · exact xe_var (i := 4) rfl (.inl rfl) (hd := by decide) (hcd := by decide)
                            · refine xeB ?_
                              · exact xe_var (i := 5) rfl (.inl rfl) (hd := by decide) (hcd := by decide)
                        · exact xab_nil
                  · exact xa_nil
          · refine xss_one ?_
            · refine xs_put (n := 2) (by exact hu1 hv) rfl (.inl rfl) (by decide) (by decide) ?_ ?_ (by rfl)
              · exact xe_var (i := 6) rfl (.inl rfl) (hd := by decide) (hcd := by decide)
              · refine xe_op addD_p opx_add ?_ ?_
                · refine xeB ?_
                  · refine xe_dget (n := 2) (by exact hu1 hv) rfl (.inl rfl) (by decide) (by decide) ?_ ?_ ⟨by rfl, by rfl, by rfl, by rfl⟩
                    · exact xe_var (i := 6) rfl (.inl rfl) (hd := by decide) (hcd := by decide)
                    · exact xe_int
                · refine xeB ?_
                  · refine xe_if ?_ ?_ ?_
                    · refine xt_cmp gtD_p (opx_gt (by exact hu)) (nomark _) ?_ ?_
                      · refine xeB ?_
                        · exact xe_var (i := 3) rfl (.inl rfl) (hd := by decide) (hcd := by decide)
                      · refine xeB ?_
                        · exact xe_int
                    · exact xe_int
                    · refine xe_un negD_p unx_neg ?_
                      · refine xeB ?_
                        · exact xe_int
    · refine xss_frzD 2 ?_
      · refine xss_one ?_
        · exact xs_retD (n := 2) rfl (.inl rfl) (by decide) (by decide)
theorem ok_crossed (T : Tx K mg) : FnP P w K mg base 4 T.a_crossed T.d_crossed ["strands", "word"] m_crossed := by
  refine fnP_of (N := ["strands", "word", "sums", "pair"]) (k := 3) (st := s_crossed) (b := b_crossed) T.f_crossed sc_crossed ?_
  intro cdv A outer s H E We hr tk hp
  have hu := hr.units
  have hv := hu65_of hr
  refine xss_cons ?_ ?_
  · refine xs_expr ?_ (hs := by rfl)
    · refine xe_call (ps := ["strands", "word"]) (ok_check_word T) (by exact hr.mono (by decide)) (by rfl) T.g_check_word T.f_check_word.kp T.b_check_word tk ?_ (hdb := by decide) (he := by rfl) (hpl := by rfl)
      · refine xa_cons ?_ ?_ (hs := by rfl)
        · exact xe_var (i := 0) rfl (.inl rfl) (hd := by decide) (hcd := by decide)
        · refine xa_cons ?_ ?_ (hs := by rfl)
          · exact xe_var (i := 1) rfl (.inl rfl) (hd := by decide) (hcd := by decide)
          · exact xa_nil
  · refine xss_cons ?_ ?_
    · refine xs_callD (i := 2) (ps := ["strands", "word"]) (ok_sums_of T) (by exact hr.mono (by decide)) (by rfl) T.g_sums_of T.f_sums_of.kp T.b_sums_of tk ?_ (by decide) (by rfl) (by rfl) sc_crossed.nd rfl (.inr rfl) (by rfl) (by first | exact .inl rfl | exact .inr rfl | assumption)
      · refine xa_cons ?_ ?_ (hs := by rfl)
        · exact xe_var (i := 0) rfl (.inl rfl) (hd := by decide) (hcd := by decide)
        · refine xa_cons ?_ ?_ (hs := by rfl)
          · exact xe_var (i := 1) rfl (.inl rfl) (hd := by decide) (hcd := by decide)
          · exact xa_nil
    · refine xss_one ?_
      · refine xs_ret ?_
        · refine xe_callTy tuple1D_p cb_tuple (by rfl) T.ntuple (by decide +kernel) ?_ (hn := by decide) (hdb := by decide) (he := by rfl) (hpl := by rfl)
          · refine xab_cons ?_ ?_ (hs := by rfl)
            · refine xfB ?_
              · refine xf_lc rfl sc_crossed.nd (own := [("pair", 3)]) (ts := [3]) ?_ (blkOk_by (N := ["strands", "word", "sums", "pair"]) (sc := defScope s_crossed) (own := [("pair", 3)]) (by decide +kernel)) (by decide) ?_ ?_ ?_ (hs := by intro _; rfl)
                · refine xi_any ?_
                  · refine xfE ?_
                    · exact xf_sortT (n := 2) rfl (by exact hv) rfl (.inr (.inl rfl)) (by decide) (by decide) (by rfl) T.nsorted (by rfl) (by rfl)
                · intro _ _ _ _ _
                  exact xg_name (i := 3) sc_crossed.nd rfl (.inl rfl) (hf := by first | exact .inl rfl | exact .inr rfl | assumption)
                · intro _ _ _ _ _
                  exact xts_nil
                · intro _ _ _ _ _
                  refine xe_op addD_p opx_add ?_ ?_
                  · refine xeB ?_
                    · exact xe_var (i := 3) rfl (.inl rfl) (hd := by decide) (hcd := by decide)
                  · refine xeB ?_
                    · refine xe_tup ?_
                      · refine xa_cons ?_ ?_ (hs := by rfl)
                        · refine xe_dix (n := 2) (by exact hu1 hv) rfl (.inr (.inl rfl)) (by decide) (by decide) ?_ (by intro _ _; rfl)
                          · exact xe_var (i := 3) rfl (.inl rfl) (hd := by decide) (hcd := by decide)
                        · exact xa_nil
            · exact xab_nil
theorem ok_writhe (T : Tx K mg) : FnP P w K mg base 4 T.a_writhe T.d_writhe ["strands", "word"] m_writhe := by
  refine fnP_of (N := ["strands", "word", "one"]) (k := 3) (st := s_writhe) (b := b_writhe) T.f_writhe sc_writhe ?_
  intro cdv A outer s H E We hr tk hp
  have hu := hr.units
  have hv := hu65_of hr
  refine xss_cons ?_ ?_
  · refine xs_expr ?_ (hs := by rfl)
    · refine xe_call (ps := ["strands", "word"]) (ok_check_word T) (by exact hr.mono (by decide)) (by rfl) T.g_check_word T.f_check_word.kp T.b_check_word tk ?_ (hdb := by decide) (he := by rfl) (hpl := by rfl)
      · refine xa_cons ?_ ?_ (hs := by rfl)
        · exact xe_var (i := 0) rfl (.inl rfl) (hd := by decide) (hcd := by decide)
        · refine xa_cons ?_ ?_ (hs := by rfl)
          · exact xe_var (i := 1) rfl (.inl rfl) (hd := by decide) (hcd := by decide)
          · exact xa_nil
  · refine xss_one ?_
    · refine xs_ret ?_
      · refine xe_callB sumD_p (cb_sum rfl) (by rfl) T.nsum (by decide +kernel) ?_ (hn := by decide) (hdb := by decide) (he := by rfl) (hpl := by rfl)
        · refine xab_cons ?_ ?_ (hs := by rfl)
          · refine xfB ?_
            · refine xf_lc rfl sc_writhe.nd (own := [("one", 2)]) (ts := [2]) ?_ (blkOk_by (N := ["strands", "word", "one"]) (sc := defScope s_writhe) (own := [("one", 2)]) (by decide +kernel)) (by decide) ?_ ?_ ?_ (hs := by intro _; rfl)
              · refine xi_any ?_
                · exact xe_var (i := 1) rfl (.inl rfl) (hd := by decide) (hcd := by decide)
              · intro _ _ _ _ _
                exact xg_name (i := 2) sc_writhe.nd rfl (.inl rfl) (hf := by first | exact .inl rfl | exact .inr rfl | assumption)
              · intro _ _ _ _ _
                exact xts_nil
              · intro _ _ _ _ _
                refine xe_if ?_ ?_ ?_
                · refine xt_cmp gtD_p (opx_gt (by exact hu)) (nomark _) ?_ ?_
                  · refine xeB ?_
                    · exact xe_var (i := 2) rfl (.inl rfl) (hd := by decide) (hcd := by decide)
                  · refine xeB ?_
                    · exact xe_int
                · exact xe_int
                · refine xe_un negD_p unx_neg ?_
                  · refine xeB ?_
                    · exact xe_int
          · exact xab_nil
theorem ok_cancelled (T : Tx K mg) : FnP P w K mg base 4 T.a_cancelled T.d_cancelled ["strands", "word"] m_cancelled := by
  refine fnP_of (N := ["strands", "word", "found", "one"]) (k := 3) (st := s_cancelled) (b := b_cancelled) T.f_cancelled sc_cancelled ?_
  intro cdv A outer s H E We hr tk hp
  have hu := hr.units
  have hv := hu65_of hr
  refine xss_cons ?_ ?_
  · refine xs_expr ?_ (hs := by rfl)
    · refine xe_call (ps := ["strands", "word"]) (ok_check_word T) (by exact hr.mono (by decide)) (by rfl) T.g_check_word T.f_check_word.kp T.b_check_word tk ?_ (hdb := by decide) (he := by rfl) (hpl := by rfl)
      · refine xa_cons ?_ ?_ (hs := by rfl)
        · exact xe_var (i := 0) rfl (.inl rfl) (hd := by decide) (hcd := by decide)
        · refine xa_cons ?_ ?_ (hs := by rfl)
          · exact xe_var (i := 1) rfl (.inl rfl) (hd := by decide) (hcd := by decide)
          · exact xa_nil
  · refine xss_cons ?_ ?_
    · refine xs_setL (i := 2) sc_cancelled.nd rfl (.inl rfl) ?_ (hs := by rfl) (hf := by first | exact .inl rfl | exact .inr rfl | assumption)
      · refine xf_lst ?_
        · exact xa_nil
    · refine xss_cons ?_ ?_
      · refine xs_for (ts := [3]) hp rfl ?_ (xg_name (i := 3) sc_cancelled.nd rfl (.inl rfl) (hf := by first | exact .inl rfl | exact .inr rfl | assumption)) gN_p ?_ (hs := by intro _; rfl)
        · refine xi_any ?_
          · exact xe_var (i := 1) rfl (.inl rfl) (hd := by decide) (hcd := by decide)
        · refine xss_one ?_
          · refine xs_if ?_ ?_ ?_
            · refine xt_w ?_
              · refine xw_and ?_ ?_
                · refine xt_cmp gtD_p (opx_gt (by exact hu)) (nomark _) ?_ ?_
                  · refine xeB ?_
                    · refine xe_callB lenD_p cb_len (by rfl) T.nlen PySem.boot_len ?_ (hn := by decide) (hdb := by decide) (he := by rfl) (hpl := by rfl)
                      · refine xab_cons ?_ ?_ (hs := by rfl)
                        · exact xb_var (i := 2) rfl (.inl rfl) (hd := by decide) (hcd := by decide)
                        · exact xab_nil
                  · refine xeB ?_
                    · exact xe_int
                · refine xw_and1 ?_
                  · refine xt_cmp eqD_p (opx_eq (by exact hu)) (nomark _) ?_ ?_
                    · refine xeB ?_
                      · refine xe_ix ?_ ?_ (hs := by intro _ _; rfl)
                        · exact xb_var (i := 2) rfl (.inl rfl) (hd := by decide) (hcd := by decide)
                        · refine xeB ?_
                          · refine xe_un negD_p unx_neg ?_
                            · refine xeB ?_
                              · exact xe_int
                    · refine xeB ?_
                      · refine xe_op subD_p opx_sub ?_ ?_
                        · refine xeB ?_
                          · exact xe_int
                        · refine xeB ?_
                          · exact xe_var (i := 3) rfl (.inl rfl) (hd := by decide) (hcd := by decide)
            · refine xss_one ?_
              · exact xs_pop (i := 2) rfl (.inl rfl) (hd := by decide) (hcd := by decide) (hbase := by rfl) (hline := by rfl) (hsw := by rfl)
            · refine xss_one ?_
              · refine xs_append (i := 2) rfl (.inl rfl) ?_ (hd := by decide) (hcd := by decide) (hbase := by rfl) (hfew := by rfl) (hline := by rfl) (hs := by rfl) (hplain := by rfl) (hsw := by rfl)
                · exact xe_var (i := 3) rfl (.inl rfl) (hd := by decide) (hcd := by decide)
      · refine xss_one ?_
        · refine xs_ret ?_
          · refine xe_callTy tuple1D_p cb_tuple (by rfl) T.ntuple (by decide +kernel) ?_ (hn := by decide) (hdb := by decide) (he := by rfl) (hpl := by rfl)
            · refine xab_cons ?_ ?_ (hs := by rfl)
              · exact xb_var (i := 2) rfl (.inl rfl) (hd := by decide) (hcd := by decide)
              · exact xab_nil
theorem ok_flat_plait (T : Tx K mg) : FnP P w K mg base 3 T.a_flat_plait T.d_flat_plait ["strands", "rows"] m_flat_plait := by
  refine fnP_of (N := ["strands", "rows", "word", "row", "first", "sign", "one"]) (k := 2) (st := s_flat_plait) (b := b_flat_plait) T.f_flat_plait sc_flat_plait ?_
  intro cdv A outer s H E We hr tk hp
  have hu := hr.units
  have hv := hu65_of hr
  refine xss_cons ?_ ?_
  · refine xs_expr ?_ (hs := by rfl)
    · refine xe_call (ps := ["strands"]) (ok_check_strands T) (by exact hr.mono (by decide)) (by rfl) T.g_check_strands T.f_check_strands.kp T.b_check_strands tk ?_ (hdb := by decide) (he := by rfl) (hpl := by rfl)
      · refine xa_cons ?_ ?_ (hs := by rfl)
        · exact xe_var (i := 0) rfl (.inl rfl) (hd := by decide) (hcd := by decide)
        · exact xa_nil
  · refine xss_cons ?_ ?_
    · refine xs_if ?_ ?_ ?_
      · refine xt_not ?_
        · refine xt_val ?_ (he := by intro _; rfl)
          · refine xe_call (ps := ["value", "least", "most"]) (ok_is_whole T) (by exact hr.mono (by decide)) (by rfl) T.g_is_whole T.f_is_whole.kp T.b_is_whole tk ?_ (hdb := by decide) (he := by rfl) (hpl := by rfl)
            · refine xa_cons ?_ ?_ (hs := by rfl)
              · exact xe_var (i := 1) rfl (.inl rfl) (hd := by decide) (hcd := by decide)
              · refine xa_cons ?_ ?_ (hs := by rfl)
                · exact xe_int
                · refine xa_cons ?_ ?_ (hs := by rfl)
                  · exact xe_glob (by rfl) T.gMOST_WORD T.rMOST_WORD (fun _ => T.dMOST_WORD _) (hdb := by decide)
                  · exact xa_nil
      · refine xss_one ?_
        · exact xs_raise rfl tk PySem.F.excBase_ValueError T.xBadRows T.gBadRows T.kBadRows (raises_own T.qBadRows T.tBadRows) rfl (hdb := by decide)
      · exact xss_nil
    · refine xss_cons ?_ ?_
      · refine xs_setL (i := 2) sc_flat_plait.nd rfl (.inl rfl) ?_ (hs := by rfl) (hf := by first | exact .inl rfl | exact .inr rfl | assumption)
        · refine xf_lst ?_
          · exact xa_nil
      · refine xss_cons ?_ ?_
        · refine xs_for (ts := [3]) hp rfl ?_ (xg_name (i := 3) sc_flat_plait.nd rfl (.inl rfl) (hf := by first | exact .inl rfl | exact .inr rfl | assumption)) gN_p ?_ (hs := by intro _; rfl)
          · refine xi_range1 (by rfl) T.nrange ?_ (hs := by rfl)
            · refine xa_cons ?_ ?_ (hs := by rfl)
              · exact xe_var (i := 1) rfl (.inl rfl) (hd := by decide) (hcd := by decide)
              · exact xa_nil
          · refine xss_cons ?_ ?_
            · refine xs_asg (ts := [4, 5]) ?_ (xg_tup rfl (xgs_cons (xg_name (i := 4) sc_flat_plait.nd rfl (.inl rfl) (hf := by first | exact .inl rfl | exact .inr rfl | assumption)) (xgs_cons (xg_name (i := 5) sc_flat_plait.nd rfl (.inr rfl) (hf := by first | exact .inl rfl | exact .inr rfl | assumption)) xgs_nil (hs := by rfl)) (hs := by rfl)) (hn := by rfl) (hst := by rfl)) (gT_p (gsCons_p gN_p (gsCons_p gN_p gsNil_p))) (hs := by rfl) (hw := by rfl) (h1 := by rfl)
              · refine xe_if ?_ ?_ ?_
                · refine xt_cmp eqD_p (opx_eq (by exact hu)) (nomark _) ?_ ?_
                  · refine xeB ?_
                    · refine xe_op modD_p opx_mod ?_ ?_
                      · refine xeB ?_
                        · exact xe_var (i := 3) rfl (.inl rfl) (hd := by decide) (hcd := by decide)
                      · refine xeB ?_
                        · exact xe_int
                  · refine xeB ?_
                    · exact xe_int
                · refine xe_tup ?_
                  · refine xa_cons ?_ ?_ (hs := by rfl)
                    · exact xe_int
                    · refine xa_cons ?_ ?_ (hs := by rfl)
                      · exact xe_int
                      · exact xa_nil
                · refine xe_tup ?_
                  · refine xa_cons ?_ ?_ (hs := by rfl)
                    · exact xe_int
                    · refine xa_cons ?_ ?_ (hs := by rfl)
                      · refine xe_un negD_p unx_neg ?_
                        · refine xeB ?_
                          · exact xe_int
                      · exact xa_nil
            · refine xss_one ?_
              · refine xs_extend (i := 2) rfl (.inl rfl) ?_ (hd := by decide) (hcd := by decide) (hbase := by rfl) (hfew := by rfl) (hline := by rfl) (hs := by rfl) (hplain := by rfl) (hsw := by rfl)
                · refine xf_lc rfl sc_flat_plait.nd (own := [("one", 6)]) (ts := [6]) ?_ (blkOk_by (N := ["strands", "rows", "word", "row", "first", "sign", "one"]) (sc := defScope s_flat_plait) (own := [("one", 6)]) (by decide +kernel)) (by decide) ?_ ?_ ?_ (hs := by intro _; rfl)
                  · refine xi_range3 (by rfl) T.nrange ?_ (hs := by rfl) (hpl := by rfl)
                    · refine xa_cons ?_ ?_ (hs := by rfl)
                      · exact xe_var (i := 4) rfl (.inl rfl) (hd := by decide) (hcd := by decide)
                      · refine xa_cons ?_ ?_ (hs := by rfl)
                        · exact xe_var (i := 0) rfl (.inl rfl) (hd := by decide) (hcd := by decide)
                        · refine xa_cons ?_ ?_ (hs := by rfl)
                          · exact xe_int
                          · exact xa_nil
                  · intro _ _ _ _ _
                    exact xg_name (i := 6) sc_flat_plait.nd rfl (.inl rfl) (hf := by first | exact .inl rfl | exact .inr rfl | assumption)
                  · intro _ _ _ _ _
                    exact xts_nil
                  · intro _ _ _ _ _
                    refine xe_op mulD_p opx_mul ?_ ?_
                    · refine xeB ?_
                      · exact xe_var (i := 5) rfl (.inr (.inl rfl)) (hd := by decide) (hcd := by decide)
                    · refine xeB ?_
                      · exact xe_var (i := 6) rfl (.inl rfl) (hd := by decide) (hcd := by decide)
        · refine xss_cons ?_ ?_
          · refine xs_if ?_ ?_ ?_
            · refine xt_cmp gtD_p (opx_gt (by exact hu)) (nomark _) ?_ ?_
              · refine xeB ?_
                · refine xe_callB lenD_p cb_len (by rfl) T.nlen PySem.boot_len ?_ (hn := by decide) (hdb := by decide) (he := by rfl) (hpl := by rfl)
                  · refine xab_cons ?_ ?_ (hs := by rfl)
                    · exact xb_var (i := 2) rfl (.inl rfl) (hd := by decide) (hcd := by decide)
                    · exact xab_nil
              · refine xeB ?_
                · exact xe_glob (by rfl) T.gMOST_WORD T.rMOST_WORD (fun _ => T.dMOST_WORD _) (hdb := by decide)
            · refine xss_one ?_
              · exact xs_raise rfl tk PySem.F.excBase_ValueError T.xTooMany T.gTooMany T.kTooMany (raises_own T.qTooMany T.tTooMany) rfl (hdb := by decide)
            · exact xss_nil
          · refine xss_one ?_
            · refine xs_ret ?_
              · refine xe_callTy tuple1D_p cb_tuple (by rfl) T.ntuple (by decide +kernel) ?_ (hn := by decide) (hdb := by decide) (he := by rfl) (hpl := by rfl)
                · refine xab_cons ?_ ?_ (hs := by rfl)
                  · exact xb_var (i := 2) rfl (.inl rfl) (hd := by decide) (hcd := by decide)
                  · exact xab_nil
theorem ok_rows_till_home (T : Tx K mg) : FnP P w K mg base 4 T.a_rows_till_home T.d_rows_till_home ["strands", "word"] m_rows_till_home := by
  refine fnP_of (N := ["strands", "word", "ends", "here", "count", "one"]) (k := 3) (st := s_rows_till_home) (b := b_rows_till_home) T.f_rows_till_home sc_rows_till_home ?_
  intro cdv A outer s H E We hr tk hp
  have hu := hr.units
  have hv := hu65_of hr
  refine xss_cons ?_ ?_
  · refine xs_expr ?_ (hs := by rfl)
    · refine xe_call (ps := ["strands", "word"]) (ok_check_word T) (by exact hr.mono (by decide)) (by rfl) T.g_check_word T.f_check_word.kp T.b_check_word tk ?_ (hdb := by decide) (he := by rfl) (hpl := by rfl)
      · refine xa_cons ?_ ?_ (hs := by rfl)
        · exact xe_var (i := 0) rfl (.inl rfl) (hd := by decide) (hcd := by decide)
        · refine xa_cons ?_ ?_ (hs := by rfl)
          · exact xe_var (i := 1) rfl (.inl rfl) (hd := by decide) (hcd := by decide)
          · exact xa_nil
  · refine xss_cons ?_ ?_
    · refine xs_set (i := 2) sc_rows_till_home.nd rfl (.inr rfl) ?_ (hs := by rfl) (hf := by first | exact .inl rfl | exact .inr rfl | assumption)
      · refine xe_call (ps := ["strands", "word"]) (ok_ends_in T) (by exact hr.mono (by decide)) (by rfl) T.g_ends_in T.f_ends_in.kp T.b_ends_in tk ?_ (hdb := by decide) (he := by rfl) (hpl := by rfl)
        · refine xa_cons ?_ ?_ (hs := by rfl)
          · exact xe_var (i := 0) rfl (.inl rfl) (hd := by decide) (hcd := by decide)
          · refine xa_cons ?_ ?_ (hs := by rfl)
            · exact xe_var (i := 1) rfl (.inl rfl) (hd := by decide) (hcd := by decide)
            · exact xa_nil
    · refine xss_cons ?_ ?_
      · exact xs_par (i := 3) (j := 4) rfl sc_rows_till_home.nd rfl rfl (by decide) (ps_par rfl sc_rows_till_home.nd rfl rfl (by decide) rfl rfl (xa_cons (xe_var (i := 2) rfl (.inr (.inl rfl)) (hd := by decide) (hcd := by decide)) (xa_cons xe_int xa_nil (hs := by rfl)) (hs := by rfl)) (by rfl))
      · refine xss_cons ?_ ?_
        · refine xs_while 1000000000 hp ?_ ?_
          · refine xt_cmp neD_p (opx_ne (by exact hu)) (nomark _) ?_ ?_
            · refine xfB ?_
              · refine xf_callTy list1D_p cb_list (by rfl) T.nlist (by decide +kernel) ?_ (hn := by decide) (hdb := by decide) (he := by rfl) (hpl := by rfl)
                · refine xab_cons ?_ ?_ (hs := by rfl)
                  · refine xeB ?_
                    · exact xe_var (i := 3) rfl (.inl rfl) (hd := by decide) (hcd := by decide)
                  · exact xab_nil
            · refine xfB ?_
              · refine xf_callB sortedD_p (cb_sorted (by exact hv)) (by rfl) T.nsorted (by decide +kernel) ?_ (hn := by decide) (hdb := by decide) (he := by rfl) (hpl := by rfl)
                · refine xab_cons ?_ ?_ (hs := by rfl)
                  · refine xeB ?_
                    · exact xe_var (i := 3) rfl (.inl rfl) (hd := by decide) (hcd := by decide)
                  · exact xab_nil
          · refine xss_cons ?_ ?_
            · refine xs_set (i := 3) sc_rows_till_home.nd rfl (.inl rfl) ?_ (hs := by rfl) (hf := by first | exact .inl rfl | exact .inr rfl | assumption)
              · refine xe_callTy tuple1D_p cb_tuple (by rfl) T.ntuple (by decide +kernel) ?_ (hn := by decide) (hdb := by decide) (he := by rfl) (hpl := by rfl)
                · refine xab_cons ?_ ?_ (hs := by rfl)
                  · refine xfB ?_
                    · refine xf_lc rfl sc_rows_till_home.nd (own := [("one", 5)]) (ts := [5]) ?_ (blkOk_by (N := ["strands", "word", "ends", "here", "count", "one"]) (sc := defScope s_rows_till_home) (own := [("one", 5)]) (by decide +kernel)) (by decide) ?_ ?_ ?_ (hs := by intro _; rfl)
                      · refine xi_any ?_
                        · exact xe_var (i := 3) rfl (.inl rfl) (hd := by decide) (hcd := by decide)
                      · intro _ _ _ _ _
                        exact xg_name (i := 5) sc_rows_till_home.nd rfl (.inl rfl) (hf := by first | exact .inl rfl | exact .inr rfl | assumption)
                      · intro _ _ _ _ _
                        exact xts_nil
                      · intro _ _ _ _ _
                        refine xe_ix ?_ ?_ (hs := by intro _ _; rfl)
                        · refine xeB ?_
                          · exact xe_var (i := 2) rfl (.inr (.inl rfl)) (hd := by decide) (hcd := by decide)
                        · refine xeB ?_
                          · refine xe_op subD_p opx_sub ?_ ?_
                            · refine xeB ?_
                              · exact xe_var (i := 5) rfl (.inl rfl) (hd := by decide) (hcd := by decide)
                            · refine xeB ?_
                              · exact xe_int
                  · exact xab_nil
            · refine xss_one ?_
              · refine xs_aug (i := 4) addI_p ip_addI sc_rows_till_home.nd rfl (.inl rfl) ?_ (hf := by first | exact .inl rfl | exact .inr rfl | assumption)
                · exact xe_int
        · refine xss_one ?_
          · refine xs_ret ?_
            · exact xe_var (i := 4) rfl (.inl rfl) (hd := by decide) (hcd := by decide)
theorem ok__law_draws (T : Tx K mg) : FnP P w K mg base 1 T.a__law_draws T.d__law_draws ["script", "many"] m__law_draws := by
  refine fnP_of (N := ["script", "many", "draws", "seed", "cell", "number", "k"]) (k := 0) (st := s__law_draws) (b := b__law_draws) T.f__law_draws sc__law_draws ?_
  intro cdv A outer s H E We hr tk hp
  have hu := hr.units
  have hv := hu65_of hr
  refine xss_cons ?_ ?_
  · refine xs_setL (i := 2) sc__law_draws.nd rfl (.inl rfl) ?_ (hs := by rfl) (hf := by first | exact .inl rfl | exact .inr rfl | assumption)
    · refine xf_lst ?_
      · exact xa_nil
  · refine xss_cons ?_ ?_
    · refine xs_set (i := 3) sc__law_draws.nd rfl (.inl rfl) ?_ (hs := by rfl) (hf := by first | exact .inl rfl | exact .inr rfl | assumption)
      · exact xe_int
    · refine xss_cons ?_ ?_
      · refine xs_for (ts := [4]) hp rfl ?_ (xg_name (i := 4) sc__law_draws.nd rfl (.inl rfl) (hf := by first | exact .inl rfl | exact .inr rfl | assumption)) gN_p ?_ (hs := by intro _; rfl)
        · refine xi_any ?_
          · refine xe_sl ?_ ?_ ?_
            · refine xeB ?_
              · exact xe_var (i := 0) rfl (.inl rfl) (hd := by decide) (hcd := by decide)
            · exact xo_no
            · refine xo_at ?_
              · refine xeB ?_
                · exact xe_int
        · refine xss_cons ?_ ?_
          · refine xs_set (i := 5) sc__law_draws.nd rfl (.inl rfl) ?_ (hs := by rfl) (hf := by first | exact .inl rfl | exact .inr rfl | assumption)
            · refine xe_callB absD_p cb_abs (by rfl) T.nabs (by decide +kernel) ?_ (hn := by decide) (hdb := by decide) (he := by rfl) (hpl := by rfl)
              · refine xab_cons ?_ ?_ (hs := by rfl)
                · refine xeB ?_
                  · exact xe_var (i := 4) rfl (.inl rfl) (hd := by decide) (hcd := by decide)
                · exact xab_nil
          · refine xss_cons ?_ ?_
            · refine xs_set (i := 3) sc__law_draws.nd rfl (.inl rfl) ?_ (hs := by rfl) (hf := by first | exact .inl rfl | exact .inr rfl | assumption)
              · refine xe_op modD_p opx_mod ?_ ?_
                · refine xeB ?_
                  · refine xe_callTy int1D_p cb_int (by rfl) T.nint (by decide +kernel) ?_ (hn := by decide) (hdb := by decide) (he := by rfl) (hpl := by rfl)
                    · refine xab_cons ?_ ?_ (hs := by rfl)
                      · refine xeB ?_
                        · refine xe_op addD_p opx_add ?_ ?_
                          · refine xeB ?_
                            · refine xe_op addD_p opx_add ?_ ?_
                              · refine xeB ?_
                                · refine xe_op mulD_p opx_mul ?_ ?_
                                  · refine xeB ?_
                                    · exact xe_var (i := 3) rfl (.inl rfl) (hd := by decide) (hcd := by decide)
                                  · refine xeB ?_
                                    · exact xe_int
                              · refine xeB ?_
                                · exact xe_var (i := 5) rfl (.inl rfl) (hd := by decide) (hcd := by decide)
                          · refine xeB ?_
                            · exact xe_int
                      · exact xab_nil
                · refine xeB ?_
                  · exact xe_int
            · refine xss_one ?_
              · refine xs_if ?_ ?_ ?_
                · refine xt_cmp geD_p (opx_ge (by exact hu)) (nomark _) ?_ ?_
                  · refine xeB ?_
                    · exact xe_var (i := 5) rfl (.inl rfl) (hd := by decide) (hcd := by decide)
                  · refine xeB ?_
                    · refine xe_op powD_p opx_pow ?_ ?_
                      · refine xeB ?_
                        · exact xe_int
                      · refine xeB ?_
                        · exact xe_int
                · refine xss_one ?_
                  · refine xs_for (ts := [6]) hp rfl ?_ (xg_name (i := 6) sc__law_draws.nd rfl (.inl rfl) (hf := by first | exact .inl rfl | exact .inr rfl | assumption)) gN_p ?_ (hs := by intro _; rfl)
                    · refine xi_range1 (by rfl) T.nrange ?_ (hs := by rfl)
                      · refine xa_cons ?_ ?_ (hs := by rfl)
                        · exact xe_int
                        · exact xa_nil
                    · refine xss_one ?_
                      · refine xs_if ?_ ?_ ?_
                        · refine xt_cmp gtD_p (opx_gt (by exact hu)) (nomark _) ?_ ?_
                          · refine xeB ?_
                            · exact xe_var (i := 5) rfl (.inl rfl) (hd := by decide) (hcd := by decide)
                          · refine xeB ?_
                            · exact xe_int
                        · refine xss_cons ?_ ?_
                          · refine xs_append (i := 2) rfl (.inl rfl) ?_ (hd := by decide) (hcd := by decide) (hbase := by rfl) (hfew := by rfl) (hline := by rfl) (hs := by rfl) (hplain := by rfl) (hsw := by rfl)
                            · refine xe_op modD_p opx_mod ?_ ?_
                              · refine xeB ?_
                                · refine xe_callTy int1D_p cb_int (by rfl) T.nint (by decide +kernel) ?_ (hn := by decide) (hdb := by decide) (he := by rfl) (hpl := by rfl)
                                  · refine xab_cons ?_ ?_ (hs := by rfl)
                                    · refine xeB ?_
                                      · exact xe_var (i := 5) rfl (.inl rfl) (hd := by decide) (hcd := by decide)
                                    · exact xab_nil
                              · refine xeB ?_
                                · exact xe_int
                          · refine xss_one ?_
                            · refine xs_set (i := 5) sc__law_draws.nd rfl (.inl rfl) ?_ (hs := by rfl) (hf := by first | exact .inl rfl | exact .inr rfl | assumption)
                              · refine xe_op fdivD_p opx_fdiv ?_ ?_
                                · refine xeB ?_
                                  · exact xe_var (i := 5) rfl (.inl rfl) (hd := by decide) (hcd := by decide)
                                · refine xeB ?_
                                  · exact xe_int
                        · exact xss_nil
                · refine xss_one ?_
                  · refine xs_append (i := 2) rfl (.inl rfl) ?_ (hd := by decide) (hcd := by decide) (hbase := by rfl) (hfew := by rfl) (hline := by rfl) (hs := by rfl) (hplain := by rfl) (hsw := by rfl)
                    · refine xe_op modD_p opx_mod ?_ ?_
                      · refine xeB ?_
                        · refine xe_op fdivD_p opx_fdiv ?_ ?_
                          · refine xeB ?_
                            · refine xe_callTy int1D_p cb_int (by rfl) T.nint (by decide +kernel) ?_ (hn := by decide) (hdb := by decide) (he := by rfl) (hpl := by rfl)
                              · refine xab_cons ?_ ?_ (hs := by rfl)
                                · refine xeB ?_
                                  · refine xe_op addD_p opx_add ?_ ?_
                                    · refine xeB ?_
                                      · refine xe_op mulD_p opx_mul ?_ ?_
                                        · refine xeB ?_
                                          · exact xe_var (i := 3) rfl (.inl rfl) (hd := by decide) (hcd := by decide)
                                        · refine xeB ?_
                                          · exact xe_int
                                    · refine xeB ?_
                                      · exact xe_int
                                · exact xab_nil
                          · refine xeB ?_
                            · exact xe_int
                      · refine xeB ?_
                        · exact xe_int
      · refine xss_cons ?_ ?_
        · refine xs_for (ts := [6]) hp rfl ?_ (xg_name (i := 6) sc__law_draws.nd rfl (.inl rfl) (hf := by first | exact .inl rfl | exact .inr rfl | assumption)) gN_p ?_ (hs := by intro _; rfl)
          · refine xi_range1 (by rfl) T.nrange ?_ (hs := by rfl)
            · refine xa_cons ?_ ?_ (hs := by rfl)
              · exact xe_var (i := 1) rfl (.inl rfl) (hd := by decide) (hcd := by decide)
              · exact xa_nil
          · refine xss_one ?_
            · refine xs_if ?_ ?_ ?_
              · refine xt_cmp ltD_p (opx_lt (by exact hu)) (nomark _) ?_ ?_
                · refine xeB ?_
                  · refine xe_callB lenD_p cb_len (by rfl) T.nlen PySem.boot_len ?_ (hn := by decide) (hdb := by decide) (he := by rfl) (hpl := by rfl)
                    · refine xab_cons ?_ ?_ (hs := by rfl)
                      · exact xb_var (i := 2) rfl (.inl rfl) (hd := by decide) (hcd := by decide)
                      · exact xab_nil
                · refine xeB ?_
                  · exact xe_var (i := 1) rfl (.inl rfl) (hd := by decide) (hcd := by decide)
              · refine xss_cons ?_ ?_
                · refine xs_set (i := 3) sc__law_draws.nd rfl (.inl rfl) ?_ (hs := by rfl) (hf := by first | exact .inl rfl | exact .inr rfl | assumption)
                  · refine xe_op modD_p opx_mod ?_ ?_
                    · refine xeB ?_
                      · refine xe_callTy int1D_p cb_int (by rfl) T.nint (by decide +kernel) ?_ (hn := by decide) (hdb := by decide) (he := by rfl) (hpl := by rfl)
                        · refine xab_cons ?_ ?_ (hs := by rfl)
                          · refine xeB ?_
                            · refine xe_op addD_p opx_add ?_ ?_
                              · refine xeB ?_
                                · refine xe_op addD_p opx_add ?_ ?_
                                  · refine xeB ?_
                                    · refine xe_op mulD_p opx_mul ?_ ?_
                                      · refine xeB ?_
                                        · exact xe_var (i := 3) rfl (.inl rfl) (hd := by decide) (hcd := by decide)
                                      · refine xeB ?_
                                        · exact xe_int
                                  · refine xeB ?_
                                    · exact xe_var (i := 6) rfl (.inl rfl) (hd := by decide) (hcd := by decide)
                              · refine xeB ?_
                                · exact xe_int
                          · exact xab_nil
                    · refine xeB ?_
                      · exact xe_int
                · refine xss_one ?_
                  · refine xs_append (i := 2) rfl (.inl rfl) ?_ (hd := by decide) (hcd := by decide) (hbase := by rfl) (hfew := by rfl) (hline := by rfl) (hs := by rfl) (hplain := by rfl) (hsw := by rfl)
                    · refine xe_op modD_p opx_mod ?_ ?_
                      · refine xeB ?_
                        · refine xe_op fdivD_p opx_fdiv ?_ ?_
                          · refine xeB ?_
                            · refine xe_callTy int1D_p cb_int (by rfl) T.nint (by decide +kernel) ?_ (hn := by decide) (hdb := by decide) (he := by rfl) (hpl := by rfl)
                              · refine xab_cons ?_ ?_ (hs := by rfl)
                                · refine xeB ?_
                                  · exact xe_var (i := 3) rfl (.inl rfl) (hd := by decide) (hcd := by decide)
                                · exact xab_nil
                          · refine xeB ?_
                            · exact xe_int
                      · refine xeB ?_
                        · exact xe_int
              · exact xss_nil
        · refine xss_one ?_
          · refine xs_ret ?_
            · refine xe_sl ?_ ?_ ?_
              · exact xb_var (i := 2) rfl (.inl rfl) (hd := by decide) (hcd := by decide)
              · exact xo_no
              · refine xo_at ?_
                · refine xeB ?_
                  · exact xe_var (i := 1) rfl (.inl rfl) (hd := by decide) (hcd := by decide)
theorem ok__law_word (T : Tx K mg) : FnP P w K mg base 1 T.a__law_word T.d__law_word ["draws", "at", "strands", "many"] m__law_word := by
  refine fnP_of (N := ["draws", "at", "strands", "many", "found", "k", "draw"]) (k := 0) (st := s__law_word) (b := b__law_word) T.f__law_word sc__law_word ?_
  intro cdv A outer s H E We hr tk hp
  have hu := hr.units
  have hv := hu65_of hr
  refine xss_cons ?_ ?_
  · refine xs_setL (i := 4) sc__law_word.nd rfl (.inl rfl) ?_ (hs := by rfl) (hf := by first | exact .inl rfl | exact .inr rfl | assumption)
    · refine xf_lst ?_
      · exact xa_nil
  · refine xss_cons ?_ ?_
    · refine xs_for (ts := [5]) hp rfl ?_ (xg_name (i := 5) sc__law_word.nd rfl (.inl rfl) (hf := by first | exact .inl rfl | exact .inr rfl | assumption)) gN_p ?_ (hs := by intro _; rfl)
      · refine xi_range1 (by rfl) T.nrange ?_ (hs := by rfl)
        · refine xa_cons ?_ ?_ (hs := by rfl)
          · refine xe_op modD_p opx_mod ?_ ?_
            · refine xeB ?_
              · refine xe_callTy int1D_p cb_int (by rfl) T.nint (by decide +kernel) ?_ (hn := by decide) (hdb := by decide) (he := by rfl) (hpl := by rfl)
                · refine xab_cons ?_ ?_ (hs := by rfl)
                  · refine xeB ?_
                    · refine xe_ix ?_ ?_ (hs := by intro _ _; rfl)
                      · refine xeB ?_
                        · exact xe_var (i := 0) rfl (.inl rfl) (hd := by decide) (hcd := by decide)
                      · refine xeB ?_
                        · refine xe_op modD_p opx_mod ?_ ?_
                          · refine xeB ?_
                            · exact xe_var (i := 1) rfl (.inl rfl) (hd := by decide) (hcd := by decide)
                          · refine xeB ?_
                            · refine xe_callB lenD_p cb_len (by rfl) T.nlen PySem.boot_len ?_ (hn := by decide) (hdb := by decide) (he := by rfl) (hpl := by rfl)
                              · refine xab_cons ?_ ?_ (hs := by rfl)
                                · refine xeB ?_
                                  · exact xe_var (i := 0) rfl (.inl rfl) (hd := by decide) (hcd := by decide)
                                · exact xab_nil
                  · exact xab_nil
            · refine xeB ?_
              · refine xe_op addD_p opx_add ?_ ?_
                · refine xeB ?_
                  · exact xe_var (i := 3) rfl (.inl rfl) (hd := by decide) (hcd := by decide)
                · refine xeB ?_
                  · exact xe_int
          · exact xa_nil
      · refine xss_cons ?_ ?_
        · refine xs_set (i := 6) sc__law_word.nd rfl (.inl rfl) ?_ (hs := by rfl) (hf := by first | exact .inl rfl | exact .inr rfl | assumption)
          · refine xe_callTy int1D_p cb_int (by rfl) T.nint (by decide +kernel) ?_ (hn := by decide) (hdb := by decide) (he := by rfl) (hpl := by rfl)
            · refine xab_cons ?_ ?_ (hs := by rfl)
              · refine xeB ?_
                · refine xe_ix ?_ ?_ (hs := by intro _ _; rfl)
                  · refine xeB ?_
                    · exact xe_var (i := 0) rfl (.inl rfl) (hd := by decide) (hcd := by decide)
                  · refine xeB ?_
                    · refine xe_op modD_p opx_mod ?_ ?_
                      · refine xeB ?_
                        · refine xe_op addD_p opx_add ?_ ?_
                          · refine xeB ?_
                            · refine xe_op addD_p opx_add ?_ ?_
                              · refine xeB ?_
                                · exact xe_var (i := 1) rfl (.inl rfl) (hd := by decide) (hcd := by decide)
                              · refine xeB ?_
                                · exact xe_int
                          · refine xeB ?_
                            · exact xe_var (i := 5) rfl (.inl rfl) (hd := by decide) (hcd := by decide)
                      · refine xeB ?_
                        · refine xe_callB lenD_p cb_len (by rfl) T.nlen PySem.boot_len ?_ (hn := by decide) (hdb := by decide) (he := by rfl) (hpl := by rfl)
                          · refine xab_cons ?_ ?_ (hs := by rfl)
                            · refine xeB ?_
                              · exact xe_var (i := 0) rfl (.inl rfl) (hd := by decide) (hcd := by decide)
                            · exact xab_nil
              · exact xab_nil
        · refine xss_one ?_
          · refine xs_append (i := 4) rfl (.inl rfl) ?_ (hd := by decide) (hcd := by decide) (hbase := by rfl) (hfew := by rfl) (hline := by rfl) (hs := by rfl) (hplain := by rfl) (hsw := by rfl)
            · refine xe_op mulD_p opx_mul ?_ ?_
              · refine xeB ?_
                · refine xe_op addD_p opx_add ?_ ?_
                  · refine xeB ?_
                    · exact xe_int
                  · refine xeB ?_
                    · refine xe_op modD_p opx_mod ?_ ?_
                      · refine xeB ?_
                        · exact xe_var (i := 6) rfl (.inl rfl) (hd := by decide) (hcd := by decide)
                      · refine xeB ?_
                        · refine xe_op subD_p opx_sub ?_ ?_
                          · refine xeB ?_
                            · exact xe_var (i := 2) rfl (.inl rfl) (hd := by decide) (hcd := by decide)
                          · refine xeB ?_
                            · exact xe_int
              · refine xeB ?_
                · refine xe_if ?_ ?_ ?_
                  · refine xt_cmp eqD_p (opx_eq (by exact hu)) (nomark _) ?_ ?_
                    · refine xeB ?_
                      · refine xe_op modD_p opx_mod ?_ ?_
                        · refine xeB ?_
                          · refine xe_op fdivD_p opx_fdiv ?_ ?_
                            · refine xeB ?_
                              · exact xe_var (i := 6) rfl (.inl rfl) (hd := by decide) (hcd := by decide)
                            · refine xeB ?_
                              · exact xe_int
                        · refine xeB ?_
                          · exact xe_int
                    · refine xeB ?_
                      · exact xe_int
                  · exact xe_int
                  · refine xe_un negD_p unx_neg ?_
                    · refine xeB ?_
                      · exact xe_int
    · refine xss_one ?_
      · refine xs_ret ?_
        · refine xe_callTy tuple1D_p cb_tuple (by rfl) T.ntuple (by decide +kernel) ?_ (hn := by decide) (hdb := by decide) (he := by rfl) (hpl := by rfl)
          · refine xab_cons ?_ ?_ (hs := by rfl)
            · exact xb_var (i := 4) rfl (.inl rfl) (hd := by decide) (hcd := by decide)
            · exact xab_nil
theorem ok__law_ends (T : Tx K mg) : FnP P w K mg base 1 T.a__law_ends T.d__law_ends ["strands", "word"] m__law_ends := by
  refine fnP_of (N := ["strands", "word", "found", "strand", "here", "one", "at"]) (k := 0) (st := s__law_ends) (b := b__law_ends) T.f__law_ends sc__law_ends ?_
  intro cdv A outer s H E We hr tk hp
  have hu := hr.units
  have hv := hu65_of hr
  refine xss_cons ?_ ?_
  · refine xs_setL (i := 2) sc__law_ends.nd rfl (.inl rfl) ?_ (hs := by rfl) (hf := by first | exact .inl rfl | exact .inr rfl | assumption)
    · refine xf_lst ?_
      · exact xa_nil
  · refine xss_cons ?_ ?_
    · refine xs_for (ts := [3]) hp rfl ?_ (xg_name (i := 3) sc__law_ends.nd rfl (.inl rfl) (hf := by first | exact .inl rfl | exact .inr rfl | assumption)) gN_p ?_ (hs := by intro _; rfl)
      · refine xi_range2 (by rfl) T.nrange ?_ (hs := by rfl) (hs2 := by rfl)
        · refine xa_cons ?_ ?_ (hs := by rfl)
          · exact xe_int
          · refine xa_cons ?_ ?_ (hs := by rfl)
            · refine xe_op addD_p opx_add ?_ ?_
              · refine xeB ?_
                · exact xe_var (i := 0) rfl (.inl rfl) (hd := by decide) (hcd := by decide)
              · refine xeB ?_
                · exact xe_int
            · exact xa_nil
      · refine xss_cons ?_ ?_
        · refine xs_set (i := 4) sc__law_ends.nd rfl (.inl rfl) ?_ (hs := by rfl) (hf := by first | exact .inl rfl | exact .inr rfl | assumption)
          · exact xe_var (i := 3) rfl (.inl rfl) (hd := by decide) (hcd := by decide)
        · refine xss_cons ?_ ?_
          · refine xs_for (ts := [5]) hp rfl ?_ (xg_name (i := 5) sc__law_ends.nd rfl (.inl rfl) (hf := by first | exact .inl rfl | exact .inr rfl | assumption)) gN_p ?_ (hs := by intro _; rfl)
            · refine xi_any ?_
              · exact xe_var (i := 1) rfl (.inl rfl) (hd := by decide) (hcd := by decide)
            · refine xss_cons ?_ ?_
              · refine xs_set (i := 6) sc__law_ends.nd rfl (.inl rfl) ?_ (hs := by rfl) (hf := by first | exact .inl rfl | exact .inr rfl | assumption)
                · refine xe_callB maxD_p (cb_max rfl (by exact hu)) (by rfl) T.nmax (by decide +kernel) ?_ (hn := by decide) (hdb := by decide) (he := by rfl) (hpl := by rfl)
                  · refine xab_cons ?_ ?_ (hs := by rfl)
                    · refine xeB ?_
                      · exact xe_var (i := 5) rfl (.inl rfl) (hd := by decide) (hcd := by decide)
                    · refine xab_cons ?_ ?_ (hs := by rfl)
                      · refine xeB ?_
                        · refine xe_op subD_p opx_sub ?_ ?_
                          · refine xeB ?_
                            · exact xe_int
                          · refine xeB ?_
                            · exact xe_var (i := 5) rfl (.inl rfl) (hd := by decide) (hcd := by decide)
                      · exact xab_nil
              · refine xss_one ?_
                · refine xs_set (i := 4) sc__law_ends.nd rfl (.inl rfl) ?_ (hs := by rfl) (hf := by first | exact .inl rfl | exact .inr rfl | assumption)
                  · refine xe_if ?_ ?_ ?_
                    · refine xt_cmp eqD_p (opx_eq (by exact hu)) (nomark _) ?_ ?_
                      · refine xeB ?_
                        · exact xe_var (i := 4) rfl (.inl rfl) (hd := by decide) (hcd := by decide)
                      · refine xeB ?_
                        · exact xe_var (i := 6) rfl (.inl rfl) (hd := by decide) (hcd := by decide)
                    · refine xe_op addD_p opx_add ?_ ?_
                      · refine xeB ?_
                        · exact xe_var (i := 6) rfl (.inl rfl) (hd := by decide) (hcd := by decide)
                      · refine xeB ?_
                        · exact xe_int
                    · refine xe_if ?_ ?_ ?_
                      · refine xt_cmp eqD_p (opx_eq (by exact hu)) (nomark _) ?_ ?_
                        · refine xeB ?_
                          · exact xe_var (i := 4) rfl (.inl rfl) (hd := by decide) (hcd := by decide)
                        · refine xeB ?_
                          · refine xe_op addD_p opx_add ?_ ?_
                            · refine xeB ?_
                              · exact xe_var (i := 6) rfl (.inl rfl) (hd := by decide) (hcd := by decide)
                            · refine xeB ?_
                              · exact xe_int
                      · exact xe_var (i := 6) rfl (.inl rfl) (hd := by decide) (hcd := by decide)
                      · exact xe_var (i := 4) rfl (.inl rfl) (hd := by decide) (hcd := by decide)
          · refine xss_one ?_
            · refine xs_append (i := 2) rfl (.inl rfl) ?_ (hd := by decide) (hcd := by decide) (hbase := by rfl) (hfew := by rfl) (hline := by rfl) (hs := by rfl) (hplain := by rfl) (hsw := by rfl)
              · exact xe_var (i := 4) rfl (.inl rfl) (hd := by decide) (hcd := by decide)
    · refine xss_one ?_
      · refine xs_ret ?_
        · refine xe_callTy tuple1D_p cb_tuple (by rfl) T.ntuple (by decide +kernel) ?_ (hn := by decide) (hdb := by decide) (he := by rfl) (hpl := by rfl)
          · refine xab_cons ?_ ?_ (hs := by rfl)
            · exact xb_var (i := 2) rfl (.inl rfl) (hd := by decide) (hcd := by decide)
            · exact xab_nil
theorem ok__law_told (T : Tx K mg) : FnP P w K mg base 4 T.a__law_told T.d__law_told ["strands", "rows"] m__law_told := by
  refine fnP_of (N := ["strands", "rows", "e"]) (k := 3) (st := s__law_told) (b := b__law_told) T.f__law_told sc__law_told ?_
  intro cdv A outer s H E We hr tk hp
  have hu := hr.units
  have hv := hu65_of hr
  refine xss_one ?_
  · refine xs_tryM rfl rfl sc__law_told.nd tk ?_ ?_
    · intro W pn xe tkW hpW
      refine xss_one ?_
      · refine xs_ret ?_
        · refine xe_call (ps := ["strands", "rows"]) (ok_flat_plait T) (by exact hr.mono (by decide)) (by rfl) T.g_flat_plait T.f_flat_plait.kp T.b_flat_plait tkW ?_ (hdb := by decide) (he := by rfl) (hpl := by rfl)
          · refine xa_cons ?_ ?_ (hs := by rfl)
            · exact xe_var (i := 0) rfl (.inl rfl) (hd := by decide) (hcd := by decide)
            · refine xa_cons ?_ ?_ (hs := by rfl)
              · exact xe_var (i := 1) rfl (.inl rfl) (hd := by decide) (hcd := by decide)
              · exact xa_nil
    · refine HsM.pl ⟨by rfl, by decide, .inl T.gBadRows⟩ (mtBadRows_ok T) (fun _ => rfl) ?_ (HsM.nm (i := 2) rfl rfl ⟨by rfl, by decide, .inl T.gRigError⟩ (mtRigError_ok T) (xkRigError_ok T) (hx_if (hx_is (i := 2) (mt := mtTooMany) rfl (.inl rfl) (by decide) (by decide) (by rfl) T.nisinstance (by rfl) T.gTooMany (by decide) (ktTooMany_ok T) (by intro _ _; rfl) (by intro _ _; rfl) (by intro _ _; rfl)) hx_str hx_str (by intro _ _ _; rfl)) HsM.nil)
      · intro _ _ _ _ _
        refine xss_one ?_
        · refine xs_ret ?_
          · exact xe_str
theorem ok_law (T : Tx K mg) : FnP P w K mg base 5 T.a_law T.d_law ["script"] m_law := by
  refine fnP_of (N := ["script", "draws", "turn", "strands", "rows", "due", "row", "place", "told", "word", "ends", "here", "count", "wrong", "k", "one"]) (k := 4) (st := s_law) (b := b_law) T.f_law sc_law ?_
  intro cdv A outer s H E We hr tk hp
  have hu := hr.units
  have hv := hu65_of hr
  refine xss_cons ?_ ?_
  · refine xs_set (i := 1) sc_law.nd rfl (.inl rfl) ?_ (hs := by rfl) (hf := by first | exact .inl rfl | exact .inr rfl | assumption)
    · refine xe_call (ps := ["script", "many"]) (ok__law_draws T) (by exact hr.mono (by decide)) (by rfl) T.g__law_draws T.f__law_draws.kp T.b__law_draws tk ?_ (hdb := by decide) (he := by rfl) (hpl := by rfl)
      · refine xa_cons ?_ ?_ (hs := by rfl)
        · exact xe_var (i := 0) rfl (.inl rfl) (hd := by decide) (hcd := by decide)
        · refine xa_cons ?_ ?_ (hs := by rfl)
          · exact xe_int
          · exact xa_nil
  · refine xss_cons ?_ ?_
    · refine xs_for (ts := [2]) hp rfl ?_ (xg_name (i := 2) sc_law.nd rfl (.inl rfl) (hf := by first | exact .inl rfl | exact .inr rfl | assumption)) gN_p ?_ (hs := by intro _; rfl)
      · refine xi_range1 (by rfl) T.nrange ?_ (hs := by rfl)
        · refine xa_cons ?_ ?_ (hs := by rfl)
          · exact xe_int
          · exact xa_nil
      · refine xss_cons ?_ ?_
        · refine xs_asg (ts := [3, 4]) ?_ (xg_tup rfl (xgs_cons (xg_name (i := 3) sc_law.nd rfl (.inr rfl) (hf := by first | exact .inl rfl | exact .inr rfl | assumption)) (xgs_cons (xg_name (i := 4) sc_law.nd rfl (.inl rfl) (hf := by first | exact .inl rfl | exact .inr rfl | assumption)) xgs_nil (hs := by rfl)) (hs := by rfl)) (hn := by rfl) (hst := by rfl)) (gT_p (gsCons_p gN_p (gsCons_p gN_p gsNil_p))) (hs := by rfl) (hw := by rfl) (h1 := by rfl)
          · refine xe_tup ?_
            · refine xa_cons ?_ ?_ (hs := by rfl)
              · refine xe_op addD_p opx_add ?_ ?_
                · refine xeB ?_
                  · exact xe_int
                · refine xeB ?_
                  · refine xe_op modD_p opx_mod ?_ ?_
                    · refine xeB ?_
                      · refine xe_callTy int1D_p cb_int (by rfl) T.nint (by decide +kernel) ?_ (hn := by decide) (hdb := by decide) (he := by rfl) (hpl := by rfl)
                        · refine xab_cons ?_ ?_ (hs := by rfl)
                          · refine xeB ?_
                            · refine xe_ix ?_ ?_ (hs := by intro _ _; rfl)
                              · refine xeB ?_
                                · exact xe_var (i := 1) rfl (.inl rfl) (hd := by decide) (hcd := by decide)
                              · refine xeB ?_
                                · exact xe_var (i := 2) rfl (.inl rfl) (hd := by decide) (hcd := by decide)
                          · exact xab_nil
                    · refine xeB ?_
                      · exact xe_int
              · refine xa_cons ?_ ?_ (hs := by rfl)
                · refine xe_op modD_p opx_mod ?_ ?_
                  · refine xeB ?_
                    · refine xe_callTy int1D_p cb_int (by rfl) T.nint (by decide +kernel) ?_ (hn := by decide) (hdb := by decide) (he := by rfl) (hpl := by rfl)
                      · refine xab_cons ?_ ?_ (hs := by rfl)
                        · refine xeB ?_
                          · refine xe_ix ?_ ?_ (hs := by intro _ _; rfl)
                            · refine xeB ?_
                              · exact xe_var (i := 1) rfl (.inl rfl) (hd := by decide) (hcd := by decide)
                            · refine xeB ?_
                              · refine xe_op addD_p opx_add ?_ ?_
                                · refine xeB ?_
                                  · exact xe_int
                                · refine xeB ?_
                                  · exact xe_var (i := 2) rfl (.inl rfl) (hd := by decide) (hcd := by decide)
                        · exact xab_nil
                  · refine xeB ?_
                    · exact xe_int
                · exact xa_nil
        · refine xss_cons ?_ ?_
          · refine xs_setL (i := 5) sc_law.nd rfl (.inl rfl) ?_ (hs := by rfl) (hf := by first | exact .inl rfl | exact .inr rfl | assumption)
            · refine xf_lst ?_
              · exact xa_nil
          · refine xss_cons ?_ ?_
            · refine xs_for (ts := [6]) hp rfl ?_ (xg_name (i := 6) sc_law.nd rfl (.inl rfl) (hf := by first | exact .inl rfl | exact .inr rfl | assumption)) gN_p ?_ (hs := by intro _; rfl)
              · refine xi_range1 (by rfl) T.nrange ?_ (hs := by rfl)
                · refine xa_cons ?_ ?_ (hs := by rfl)
                  · exact xe_var (i := 4) rfl (.inl rfl) (hd := by decide) (hcd := by decide)
                  · exact xa_nil
              · refine xss_one ?_
                · refine xs_for (ts := [7]) hp rfl ?_ (xg_name (i := 7) sc_law.nd rfl (.inl rfl) (hf := by first | exact .inl rfl | exact .inr rfl | assumption)) gN_p ?_ (hs := by intro _; rfl)
                  · refine xi_range2 (by rfl) T.nrange ?_ (hs := by rfl) (hs2 := by rfl)
                    · refine xa_cons ?_ ?_ (hs := by rfl)
                      · exact xe_int
                      · refine xa_cons ?_ ?_ (hs := by rfl)
                        · exact xe_var (i := 3) rfl (.inr (.inl rfl)) (hd := by decide) (hcd := by decide)
                        · exact xa_nil
                  · refine xss_one ?_
                    · refine xs_if ?_ ?_ ?_
                      · refine xt_cmp eqD_p (opx_eq (by exact hu)) (nomark _) ?_ ?_
                        · refine xeB ?_
                          · refine xe_op modD_p opx_mod ?_ ?_
                            · refine xeB ?_
                              · exact xe_var (i := 7) rfl (.inl rfl) (hd := by decide) (hcd := by decide)
                            · refine xeB ?_
                              · exact xe_int
                        · refine xeB ?_
                          · refine xe_op subD_p opx_sub ?_ ?_
                            · refine xeB ?_
                              · exact xe_int
                            · refine xeB ?_
                              · refine xe_op modD_p opx_mod ?_ ?_
                                · refine xeB ?_
                                  · exact xe_var (i := 6) rfl (.inl rfl) (hd := by decide) (hcd := by decide)
                                · refine xeB ?_
                                  · exact xe_int
                      · refine xss_one ?_
                        · refine xs_append (i := 5) rfl (.inl rfl) ?_ (hd := by decide) (hcd := by decide) (hbase := by rfl) (hfew := by rfl) (hline := by rfl) (hs := by rfl) (hplain := by rfl) (hsw := by rfl)
                          · refine xe_if ?_ ?_ ?_
                            · refine xt_cmp eqD_p (opx_eq (by exact hu)) (nomark _) ?_ ?_
                              · refine xeB ?_
                                · refine xe_op modD_p opx_mod ?_ ?_
                                  · refine xeB ?_
                                    · exact xe_var (i := 6) rfl (.inl rfl) (hd := by decide) (hcd := by decide)
                                  · refine xeB ?_
                                    · exact xe_int
                              · refine xeB ?_
                                · exact xe_int
                            · exact xe_var (i := 7) rfl (.inl rfl) (hd := by decide) (hcd := by decide)
                            · refine xe_op subD_p opx_sub ?_ ?_
                              · refine xeB ?_
                                · exact xe_int
                              · refine xeB ?_
                                · exact xe_var (i := 7) rfl (.inl rfl) (hd := by decide) (hcd := by decide)
                      · exact xss_nil
            · refine xss_cons ?_ ?_
              · refine xs_set (i := 8) sc_law.nd rfl (.inl rfl) ?_ (hs := by rfl) (hf := by first | exact .inl rfl | exact .inr rfl | assumption)
                · refine xe_call (ps := ["strands", "rows"]) (ok__law_told T) (by exact hr.mono (by decide)) (by rfl) T.g__law_told T.f__law_told.kp T.b__law_told tk ?_ (hdb := by decide) (he := by rfl) (hpl := by rfl)
                  · refine xa_cons ?_ ?_ (hs := by rfl)
                    · exact xe_var (i := 3) rfl (.inr (.inl rfl)) (hd := by decide) (hcd := by decide)
                    · refine xa_cons ?_ ?_ (hs := by rfl)
                      · exact xe_var (i := 4) rfl (.inl rfl) (hd := by decide) (hcd := by decide)
                      · exact xa_nil
              · refine xss_cons ?_ ?_
                · refine xs_if ?_ ?_ ?_
                  · refine xt_cmp neD_p (opx_ne (by exact hu)) (nomark _) ?_ ?_
                    · refine xeB ?_
                      · exact xe_var (i := 8) rfl (.inl rfl) (hd := by decide) (hcd := by decide)
                    · refine xeB ?_
                      · refine xe_if ?_ ?_ ?_
                        · refine xt_cmp leD_p (opx_le (by exact hu)) (nomark _) ?_ ?_
                          · refine xeB ?_
                            · refine xe_callB lenD_p cb_len (by rfl) T.nlen PySem.boot_len ?_ (hn := by decide) (hdb := by decide) (he := by rfl) (hpl := by rfl)
                              · refine xab_cons ?_ ?_ (hs := by rfl)
                                · exact xb_var (i := 5) rfl (.inl rfl) (hd := by decide) (hcd := by decide)
                                · exact xab_nil
                          · refine xeB ?_
                            · exact xe_int
                        · refine xe_callTy tuple1D_p cb_tuple (by rfl) T.ntuple (by decide +kernel) ?_ (hn := by decide) (hdb := by decide) (he := by rfl) (hpl := by rfl)
                          · refine xab_cons ?_ ?_ (hs := by rfl)
                            · exact xb_var (i := 5) rfl (.inl rfl) (hd := by decide) (hcd := by decide)
                            · exact xab_nil
                        · exact xe_str
                  · refine xss_one ?_
                    · refine xs_ret ?_
                      · exact xe_bool
                  · exact xss_nil
                · refine xss_frz 5 ?_
                  · refine xss_cons ?_ ?_
                    · refine xs_if ?_ ?_ ?_
                      · refine xt_w ?_
                        · refine xw_and ?_ ?_
                          · refine xt_cmp neD_p (opx_ne (by exact hu)) (nomark _) ?_ ?_
                            · refine xeB ?_
                              · exact xe_var (i := 8) rfl (.inl rfl) (hd := by decide) (hcd := by decide)
                            · refine xeB ?_
                              · exact xe_str
                          · refine xw_and1 ?_
                            · refine xt_w ?_
                              · refine xw_or ?_ ?_
                                · refine xt_w ?_
                                  · refine xw_and ?_ ?_
                                    · refine xt_cmp neD_p (opx_ne (by exact hu)) (nomark _) ?_ ?_
                                      · refine xeB ?_
                                        · refine xe_call (ps := ["strands", "word"]) (ok_cancelled T) (by exact hr.mono (by decide)) (by rfl) T.g_cancelled T.f_cancelled.kp T.b_cancelled tk ?_ (hdb := by decide) (he := by rfl) (hpl := by rfl)
                                          · refine xa_cons ?_ ?_ (hs := by rfl)
                                            · exact xe_var (i := 3) rfl (.inr (.inl rfl)) (hd := by decide) (hcd := by decide)
                                            · refine xa_cons ?_ ?_ (hs := by rfl)
                                              · exact xe_var (i := 8) rfl (.inl rfl) (hd := by decide) (hcd := by decide)
                                              · exact xa_nil
                                      · refine xeB ?_
                                        · exact xe_var (i := 8) rfl (.inl rfl) (hd := by decide) (hcd := by decide)
                                    · refine xw_and1 ?_
                                      · refine xt_cmp gtD_p (opx_gt (by exact hu)) (nomark _) ?_ ?_
                                        · refine xeB ?_
                                          · exact xe_var (i := 3) rfl (.inr (.inl rfl)) (hd := by decide) (hcd := by decide)
                                        · refine xeB ?_
                                          · exact xe_int
                                · refine xw_or1 ?_
                                  · refine xt_cmp neD_p (opx_ne (by exact hu)) (nomark _) ?_ ?_
                                    · refine xeB ?_
                                      · refine xe_call (ps := ["strands", "word"]) (ok_writhe T) (by exact hr.mono (by decide)) (by rfl) T.g_writhe T.f_writhe.kp T.b_writhe tk ?_ (hdb := by decide) (he := by rfl) (hpl := by rfl)
                                        · refine xa_cons ?_ ?_ (hs := by rfl)
                                          · exact xe_var (i := 3) rfl (.inr (.inl rfl)) (hd := by decide) (hcd := by decide)
                                          · refine xa_cons ?_ ?_ (hs := by rfl)
                                            · exact xe_var (i := 8) rfl (.inl rfl) (hd := by decide) (hcd := by decide)
                                            · exact xa_nil
                                    · refine xeB ?_
                                      · refine xe_callB sumD_p (cb_sum rfl) (by rfl) T.nsum (by decide +kernel) ?_ (hn := by decide) (hdb := by decide) (he := by rfl) (hpl := by rfl)
                                        · refine xab_cons ?_ ?_ (hs := by rfl)
                                          · refine xfB ?_
                                            · refine xf_lc rfl sc_law.nd (own := [("one", 15)]) (ts := [15]) ?_ (blkOk_by (N := ["script", "draws", "turn", "strands", "rows", "due", "row", "place", "told", "word", "ends", "here", "count", "wrong", "k", "one"]) (sc := defScope s_law) (own := [("one", 15)]) (by decide +kernel)) (by decide) ?_ ?_ ?_ (hs := by intro _; rfl)
                                              · refine xi_any ?_
                                                · exact xe_var (i := 5) rfl (.inl rfl) (hd := by decide) (hcd := by decide)
                                              · intro _ _ _ _ _
                                                exact xg_name (i := 15) sc_law.nd rfl (.inl rfl) (hf := by first | exact .inl rfl | exact .inr rfl | assumption)
                                              · intro _ _ _ _ _
                                                exact xts_nil
                                              · intro _ _ _ _ _
                                                refine xe_if ?_ ?_ ?_
                                                · refine xt_cmp gtD_p (opx_gt (by exact hu)) (nomark _) ?_ ?_
                                                  · refine xeB ?_
                                                    · exact xe_var (i := 15) rfl (.inl rfl) (hd := by decide) (hcd := by decide)
                                                  · refine xeB ?_
                                                    · exact xe_int
                                                · exact xe_int
                                                · refine xe_un negD_p unx_neg ?_
                                                  · refine xeB ?_
                                                    · exact xe_int
                                          · exact xab_nil
                      · refine xss_one ?_
                        · refine xs_ret ?_
                          · exact xe_bool
                      · exact xss_nil
                    · refine xss_cons ?_ ?_
                      · refine xs_set (i := 9) sc_law.nd rfl (.inr rfl) ?_ (hs := by rfl) (hf := by first | exact .inl rfl | exact .inr rfl | assumption)
                        · refine xe_call (ps := ["draws", "at", "strands", "many"]) (ok__law_word T) (by exact hr.mono (by decide)) (by rfl) T.g__law_word T.f__law_word.kp T.b__law_word tk ?_ (hdb := by decide) (he := by rfl) (hpl := by rfl)
                          · refine xa_cons ?_ ?_ (hs := by rfl)
                            · exact xe_var (i := 1) rfl (.inl rfl) (hd := by decide) (hcd := by decide)
                            · refine xa_cons ?_ ?_ (hs := by rfl)
                              · refine xe_op addD_p opx_add ?_ ?_
                                · refine xeB ?_
                                  · exact xe_int
                                · refine xeB ?_
                                  · refine xe_op mulD_p opx_mul ?_ ?_
                                    · refine xeB ?_
                                      · exact xe_int
                                    · refine xeB ?_
                                      · exact xe_var (i := 2) rfl (.inl rfl) (hd := by decide) (hcd := by decide)
                              · refine xa_cons ?_ ?_ (hs := by rfl)
                                · exact xe_var (i := 3) rfl (.inr (.inl rfl)) (hd := by decide) (hcd := by decide)
                                · refine xa_cons ?_ ?_ (hs := by rfl)
                                  · exact xe_int
                                  · exact xa_nil
                      · refine xss_cons ?_ ?_
                        · refine xs_parT3 (oi := false) (oj := false) (ol := false) (i := 10) (j := 11) (l := 12) rfl sc_law.nd rfl rfl rfl (.inr rfl) (.inl rfl) (.inl rfl) (by first | exact .inl rfl | exact .inr rfl | assumption) (by first | exact .inl rfl | exact .inr rfl | assumption) (by first | exact .inl rfl | exact .inr rfl | assumption) ?_ ?_ ?_ (by rfl) (by rfl) (by rfl) (by rfl) (by rfl) (by rfl) (by rfl) (by rfl) (by rfl) (by rfl) (by rfl)
                          · refine xe_call (ps := ["strands", "word"]) (ok__law_ends T) (by exact hr.mono (by decide)) (by rfl) T.g__law_ends T.f__law_ends.kp T.b__law_ends tk ?_ (hdb := by decide) (he := by rfl) (hpl := by rfl)
                            · refine xa_cons ?_ ?_ (hs := by rfl)
                              · exact xe_var (i := 3) rfl (.inr (.inl rfl)) (hd := by decide) (hcd := by decide)
                              · refine xa_cons ?_ ?_ (hs := by rfl)
                                · exact xe_var (i := 9) rfl (.inr (.inl rfl)) (hd := by decide) (hcd := by decide)
                                · exact xa_nil
                          · refine xfE ?_
                            · refine xf_lr2 rfl (by rfl) T.nlist (by rfl) T.nrange ?_ ?_ (by rfl) (by rfl) (by rfl) (by rfl)
                              · exact xe_int
                              · refine xe_op addD_p opx_add ?_ ?_
                                · refine xeB ?_
                                  · exact xe_var (i := 3) rfl (.inr (.inl rfl)) (hd := by decide) (hcd := by decide)
                                · refine xeB ?_
                                  · exact xe_int
                          · exact xe_int
                        · refine xss_cons ?_ ?_
                          · refine xs_while 1000000000 hp ?_ ?_
                            · refine xt_w ?_
                              · refine xw_or ?_ ?_
                                · refine xt_cmp eqD_p (opx_eq (by exact hu)) (nomark _) ?_ ?_
                                  · refine xeB ?_
                                    · exact xe_var (i := 12) rfl (.inl rfl) (hd := by decide) (hcd := by decide)
                                  · refine xeB ?_
                                    · exact xe_int
                                · refine xw_or1 ?_
                                  · refine xt_cmp neD_p (opx_ne (by exact hu)) (nomark _) ?_ ?_
                                    · refine xeB ?_
                                      · exact xe_var (i := 11) rfl (.inl rfl) (hd := by decide) (hcd := by decide)
                                    · refine xfB ?_
                                      · refine xf_lr2 rfl (by rfl) T.nlist (by rfl) T.nrange ?_ ?_ (by rfl) (by rfl) (by rfl) (by rfl)
                                        · exact xe_int
                                        · refine xe_op addD_p opx_add ?_ ?_
                                          · refine xeB ?_
                                            · exact xe_var (i := 3) rfl (.inr (.inl rfl)) (hd := by decide) (hcd := by decide)
                                          · refine xeB ?_
                                            · exact xe_int
                            · refine xss_one ?_
                              · exact xs_par (i := 11) (j := 12) rfl sc_law.nd rfl rfl (by decide) (ps_par rfl sc_law.nd rfl rfl (by decide) rfl rfl (xa_cons (xfE (xf_lc rfl sc_law.nd (own := [("place", 7)]) (ts := [7]) (xi_any (xe_var (i := 11) rfl (.inl rfl) (hd := by decide) (hcd := by decide))) (blkOk_by (N := ["script", "draws", "turn", "strands", "rows", "due", "row", "place", "told", "word", "ends", "here", "count", "wrong", "k", "one"]) (sc := defScope s_law) (own := [("place", 7)]) (by decide +kernel)) (by decide) (fun _ _ _ _ _ => (xg_name (i := 7) sc_law.nd rfl (.inl rfl) (hf := by first | exact .inl rfl | exact .inr rfl | assumption))) (fun _ _ _ _ _ => xts_nil) (fun _ _ _ _ _ => (xe_ix (xeB (xe_var (i := 10) rfl (.inr (.inl rfl)) (hd := by decide) (hcd := by decide))) (xeB (xe_op subD_p opx_sub (xeB (xe_var (i := 7) rfl (.inl rfl) (hd := by decide) (hcd := by decide))) (xeB xe_int))) (hs := by intro _ _; rfl))) (hs := by intro _; rfl))) (xa_cons (xe_op addD_p opx_add (xeB (xe_var (i := 12) rfl (.inl rfl) (hd := by decide) (hcd := by decide))) (xeB xe_int)) xa_nil (hs := by rfl)) (hs := by rfl)) (by rfl))
                          · refine xss_cons ?_ ?_
                            · refine xs_if ?_ ?_ ?_
                              · refine xt_w ?_
                                · refine xw_or ?_ ?_
                                  · refine xt_cmp neD_p (opx_ne (by exact hu)) (nomark _) ?_ ?_
                                    · refine xeB ?_
                                      · refine xe_call (ps := ["strands", "word"]) (ok_rows_till_home T) (by exact hr.mono (by decide)) (by rfl) T.g_rows_till_home T.f_rows_till_home.kp T.b_rows_till_home tk ?_ (hdb := by decide) (he := by rfl) (hpl := by rfl)
                                        · refine xa_cons ?_ ?_ (hs := by rfl)
                                          · exact xe_var (i := 3) rfl (.inr (.inl rfl)) (hd := by decide) (hcd := by decide)
                                          · refine xa_cons ?_ ?_ (hs := by rfl)
                                            · exact xe_var (i := 9) rfl (.inr (.inl rfl)) (hd := by decide) (hcd := by decide)
                                            · exact xa_nil
                                    · refine xeB ?_
                                      · exact xe_var (i := 12) rfl (.inl rfl) (hd := by decide) (hcd := by decide)
                                  · refine xw_or1 ?_
                                    · refine xt_w ?_
                                      · refine xw_and ?_ ?_
                                        · refine xt_cmp leD_p (opx_le (by exact hu)) (nomark _) ?_ ?_
                                          · refine xeB ?_
                                            · refine xe_op mulD_p opx_mul ?_ ?_
                                              · refine xeB ?_
                                                · exact xe_var (i := 12) rfl (.inl rfl) (hd := by decide) (hcd := by decide)
                                              · refine xeB ?_
                                                · refine xe_callB lenD_p cb_len (by rfl) T.nlen PySem.boot_len ?_ (hn := by decide) (hdb := by decide) (he := by rfl) (hpl := by rfl)
                                                  · refine xab_cons ?_ ?_ (hs := by rfl)
                                                    · refine xeB ?_
                                                      · exact xe_var (i := 9) rfl (.inr (.inl rfl)) (hd := by decide) (hcd := by decide)
                                                    · exact xab_nil
                                          · refine xeB ?_
                                            · exact xe_int
                                        · refine xw_and1 ?_
                                          · refine xt_cmp neD_p (opx_ne (by exact hu)) (nomark _) ?_ ?_
                                            · refine xeB ?_
                                              · refine xe_call (ps := ["strands", "word"]) (ok_ends_of T) (by exact hr.mono (by decide)) (by rfl) T.g_ends_of T.f_ends_of.kp T.b_ends_of tk ?_ (hdb := by decide) (he := by rfl) (hpl := by rfl)
                                                · refine xa_cons ?_ ?_ (hs := by rfl)
                                                  · exact xe_var (i := 3) rfl (.inr (.inl rfl)) (hd := by decide) (hcd := by decide)
                                                  · refine xa_cons ?_ ?_ (hs := by rfl)
                                                    · refine xe_op mulD_p opx_mul ?_ ?_
                                                      · refine xeB ?_
                                                        · exact xe_var (i := 9) rfl (.inr (.inl rfl)) (hd := by decide) (hcd := by decide)
                                                      · refine xeB ?_
                                                        · exact xe_var (i := 12) rfl (.inl rfl) (hd := by decide) (hcd := by decide)
                                                    · exact xa_nil
                                            · refine xeB ?_
                                              · refine xe_callTy tuple1D_p cb_tuple (by rfl) T.ntuple (by decide +kernel) ?_ (hn := by decide) (hdb := by decide) (he := by rfl) (hpl := by rfl)
                                                · refine xab_cons ?_ ?_ (hs := by rfl)
                                                  · refine xfB ?_
                                                    · refine xf_lr2 rfl (by rfl) T.nlist (by rfl) T.nrange ?_ ?_ (by rfl) (by rfl) (by rfl) (by rfl)
                                                      · exact xe_int
                                                      · refine xe_op addD_p opx_add ?_ ?_
                                                        · refine xeB ?_
                                                          · exact xe_var (i := 3) rfl (.inr (.inl rfl)) (hd := by decide) (hcd := by decide)
                                                        · refine xeB ?_
                                                          · exact xe_int
                                                  · exact xab_nil
                              · refine xss_one ?_
                                · refine xs_ret ?_
                                  · exact xe_bool
                              · exact xss_nil
                            · refine xss_cons ?_ ?_
                              · refine xs_if ?_ ?_ ?_
                                · refine xt_w ?_
                                  · refine xw_and ?_ ?_
                                    · refine xt_cmp gtD_p (opx_gt (by exact hu)) (nomark _) ?_ ?_
                                      · refine xeB ?_
                                        · refine xe_callB lenD_p cb_len (by rfl) T.nlen PySem.boot_len ?_ (hn := by decide) (hdb := by decide) (he := by rfl) (hpl := by rfl)
                                          · refine xab_cons ?_ ?_ (hs := by rfl)
                                            · refine xeB ?_
                                              · exact xe_var (i := 9) rfl (.inr (.inl rfl)) (hd := by decide) (hcd := by decide)
                                            · exact xab_nil
                                      · refine xeB ?_
                                        · exact xe_int
                                    · refine xw_and1 ?_
                                      · refine xt_val ?_ (he := by intro _; rfl)
                                        · refine xe_callB anyD_p (cb_any rfl) (by rfl) T.nany (by decide +kernel) ?_ (hn := by decide) (hdb := by decide) (he := by rfl) (hpl := by rfl)
                                          · refine xab_cons ?_ ?_ (hs := by rfl)
                                            · refine xfB ?_
                                              · refine xf_lc rfl sc_law.nd (own := [("k", 14)]) (ts := [14]) ?_ (blkOk_by (N := ["script", "draws", "turn", "strands", "rows", "due", "row", "place", "told", "word", "ends", "here", "count", "wrong", "k", "one"]) (sc := defScope s_law) (own := [("k", 14)]) (by decide +kernel)) (by decide) ?_ ?_ ?_ (hs := by intro _; rfl)
                                                · refine xi_range2 (by rfl) T.nrange ?_ (hs := by rfl) (hs2 := by rfl)
                                                  · refine xa_cons ?_ ?_ (hs := by rfl)
                                                    · exact xe_int
                                                    · refine xa_cons ?_ ?_ (hs := by rfl)
                                                      · exact xe_var (i := 12) rfl (.inl rfl) (hd := by decide) (hcd := by decide)
                                                      · exact xa_nil
                                                · intro _ _ _ _ _
                                                  exact xg_name (i := 14) sc_law.nd rfl (.inl rfl) (hf := by first | exact .inl rfl | exact .inr rfl | assumption)
                                                · intro _ _ _ _ _
                                                  refine xts_one ?_
                                                  · refine xt_cmp leD_p (opx_le (by exact hu)) (nomark _) ?_ ?_
                                                    · refine xeB ?_
                                                      · refine xe_op mulD_p opx_mul ?_ ?_
                                                        · refine xeB ?_
                                                          · exact xe_var (i := 14) rfl (.inl rfl) (hd := by decide) (hcd := by decide)
                                                        · refine xeB ?_
                                                          · refine xe_callB lenD_p cb_len (by rfl) T.nlen PySem.boot_len ?_ (hn := by decide) (hdb := by decide) (he := by rfl) (hpl := by rfl)
                                                            · refine xab_cons ?_ ?_ (hs := by rfl)
                                                              · refine xeB ?_
                                                                · exact xe_var (i := 9) rfl (.inr (.inl rfl)) (hd := by decide) (hcd := by decide)
                                                              · exact xab_nil
                                                    · refine xeB ?_
                                                      · exact xe_int
                                                · intro _ _ _ _ _
                                                  refine xe_cmp eqD_p (opx_eq (by exact hu)) (nomark _) ?_ ?_
                                                  · refine xeB ?_
                                                    · refine xe_call (ps := ["strands", "word"]) (ok_ends_of T) (by exact hr.mono (by decide)) (by rfl) T.g_ends_of T.f_ends_of.kp T.b_ends_of tk0 ?_ (hdb := by decide) (he := by rfl) (hpl := by rfl)
                                                      · refine xa_cons ?_ ?_ (hs := by rfl)
                                                        · exact xe_var (i := 3) rfl (.inr (.inl rfl)) (hd := by decide) (hcd := by decide)
                                                        · refine xa_cons ?_ ?_ (hs := by rfl)
                                                          · refine xe_op mulD_p opx_mul ?_ ?_
                                                            · refine xeB ?_
                                                              · exact xe_var (i := 9) rfl (.inr (.inl rfl)) (hd := by decide) (hcd := by decide)
                                                            · refine xeB ?_
                                                              · exact xe_var (i := 14) rfl (.inl rfl) (hd := by decide) (hcd := by decide)
                                                          · exact xa_nil
                                                  · refine xeB ?_
                                                    · refine xe_callTy tuple1D_p cb_tuple (by rfl) T.ntuple (by decide +kernel) ?_ (hn := by decide) (hdb := by decide) (he := by rfl) (hpl := by rfl)
                                                      · refine xab_cons ?_ ?_ (hs := by rfl)
                                                        · refine xfB ?_
                                                          · refine xf_lr2 rfl (by rfl) T.nlist (by rfl) T.nrange ?_ ?_ (by rfl) (by rfl) (by rfl) (by rfl)
                                                            · exact xe_int
                                                            · refine xe_op addD_p opx_add ?_ ?_
                                                              · refine xeB ?_
                                                                · exact xe_var (i := 3) rfl (.inr (.inl rfl)) (hd := by decide) (hcd := by decide)
                                                              · refine xeB ?_
                                                                · exact xe_int
                                                        · exact xab_nil
                                            · exact xab_nil
                                · refine xss_one ?_
                                  · refine xs_ret ?_
                                    · exact xe_bool
                                · exact xss_nil
                              · refine xss_one ?_
                                · refine xs_for (ts := [13]) hp rfl ?_ (xg_name (i := 13) sc_law.nd rfl (.inl rfl) (hf := by first | exact .inl rfl | exact .inr rfl | assumption)) gN_p ?_ (hs := by intro _; rfl)
                                  · refine xi_any ?_
                                    · refine xfE ?_
                                      · refine xf_lst ?_
                                        · refine xa_cons ?_ ?_ (hs := by rfl)
                                          · refine xe_un negD_p unx_neg ?_
                                            · refine xeB ?_
                                              · exact xe_int
                                          · refine xa_cons ?_ ?_ (hs := by rfl)
                                            · exact xe_int
                                            · refine xa_cons ?_ ?_ (hs := by rfl)
                                              · exact xe_bool
                                              · refine xa_cons ?_ ?_ (hs := by rfl)
                                                · exact xe_none
                                                · refine xa_cons ?_ ?_ (hs := by rfl)
                                                  · exact xe_str
                                                  · exact xa_nil
                                  · refine xss_one ?_
                                    · refine xs_if ?_ ?_ ?_
                                      · refine xt_cmp neD_p (opx_ne (by exact hu)) (nomark _) ?_ ?_
                                        · refine xeB ?_
                                          · refine xe_call (ps := ["strands", "rows"]) (ok__law_told T) (by exact hr.mono (by decide)) (by rfl) T.g__law_told T.f__law_told.kp T.b__law_told tk ?_ (hdb := by decide) (he := by rfl) (hpl := by rfl)
                                            · refine xa_cons ?_ ?_ (hs := by rfl)
                                              · exact xe_var (i := 3) rfl (.inr (.inl rfl)) (hd := by decide) (hcd := by decide)
                                              · refine xa_cons ?_ ?_ (hs := by rfl)
                                                · exact xe_var (i := 13) rfl (.inl rfl) (hd := by decide) (hcd := by decide)
                                                · exact xa_nil
                                        · refine xeB ?_
                                          · exact xe_str
                                      · refine xss_one ?_
                                        · refine xs_ret ?_
                                          · exact xe_bool
                                      · exact xss_nil
    · refine xss_cons ?_ ?_
      · refine xs_if ?_ ?_ ?_
        · refine xt_w ?_
          · refine xw_or ?_ ?_
            · refine xt_cmp neD_p (opx_ne (by exact hu)) (nomark _) ?_ ?_
              · refine xeB ?_
                · refine xe_call (ps := ["strands", "rows"]) (ok_flat_plait T) (by exact hr.mono (by decide)) (by rfl) T.g_flat_plait T.f_flat_plait.kp T.b_flat_plait tk ?_ (hdb := by decide) (he := by rfl) (hpl := by rfl)
                  · refine xa_cons ?_ ?_ (hs := by rfl)
                    · exact xe_int
                    · refine xa_cons ?_ ?_ (hs := by rfl)
                      · exact xe_int
                      · exact xa_nil
              · refine xeB ?_
                · refine xe_tup ?_
                  · refine xa_cons ?_ ?_ (hs := by rfl)
                    · exact xe_int
                    · refine xa_cons ?_ ?_ (hs := by rfl)
                      · refine xe_un negD_p unx_neg ?_
                        · refine xeB ?_
                          · exact xe_int
                      · refine xa_cons ?_ ?_ (hs := by rfl)
                        · exact xe_int
                        · exact xa_nil
            · refine xw_or ?_ ?_
              · refine xt_cmp neD_p (opx_ne (by exact hu)) (nomark _) ?_ ?_
                · refine xeB ?_
                  · refine xe_call (ps := ["strands", "rows"]) (ok_flat_plait T) (by exact hr.mono (by decide)) (by rfl) T.g_flat_plait T.f_flat_plait.kp T.b_flat_plait tk ?_ (hdb := by decide) (he := by rfl) (hpl := by rfl)
                    · refine xa_cons ?_ ?_ (hs := by rfl)
                      · exact xe_int
                      · refine xa_cons ?_ ?_ (hs := by rfl)
                        · exact xe_int
                        · exact xa_nil
                · refine xeB ?_
                  · refine xe_tup ?_
                    · refine xa_cons ?_ ?_ (hs := by rfl)
                      · exact xe_int
                      · refine xa_cons ?_ ?_ (hs := by rfl)
                        · exact xe_int
                        · exact xa_nil
              · refine xw_or ?_ ?_
                · refine xt_cmp neD_p (opx_ne (by exact hu)) (nomark _) ?_ ?_
                  · refine xeB ?_
                    · refine xe_call (ps := ["strands", "rows"]) (ok_flat_plait T) (by exact hr.mono (by decide)) (by rfl) T.g_flat_plait T.f_flat_plait.kp T.b_flat_plait tk ?_ (hdb := by decide) (he := by rfl) (hpl := by rfl)
                      · refine xa_cons ?_ ?_ (hs := by rfl)
                        · exact xe_int
                        · refine xa_cons ?_ ?_ (hs := by rfl)
                          · exact xe_int
                          · exact xa_nil
                  · refine xeB ?_
                    · refine xe_tup ?_
                      · refine xa_cons ?_ ?_ (hs := by rfl)
                        · exact xe_int
                        · refine xa_cons ?_ ?_ (hs := by rfl)
                          · exact xe_int
                          · refine xa_cons ?_ ?_ (hs := by rfl)
                            · refine xe_un negD_p unx_neg ?_
                              · refine xeB ?_
                                · exact xe_int
                            · refine xa_cons ?_ ?_ (hs := by rfl)
                              · refine xe_un negD_p unx_neg ?_
                                · refine xeB ?_
                                  · exact xe_int
                              · exact xa_nil
                · refine xw_or1 ?_
                  · refine xt_cmp neD_p (opx_ne (by exact hu)) (nomark _) ?_ ?_
                    · refine xeB ?_
                      · refine xe_call (ps := ["strands", "rows"]) (ok_flat_plait T) (by exact hr.mono (by decide)) (by rfl) T.g_flat_plait T.f_flat_plait.kp T.b_flat_plait tk ?_ (hdb := by decide) (he := by rfl) (hpl := by rfl)
                        · refine xa_cons ?_ ?_ (hs := by rfl)
                          · exact xe_int
                          · refine xa_cons ?_ ?_ (hs := by rfl)
                            · exact xe_int
                            · exact xa_nil
                    · refine xeB ?_
                      · refine xe_tup ?_
                        · exact xa_nil
        · refine xss_one ?_
          · refine xs_ret ?_
            · exact xe_bool
        · exact xss_nil
      · refine xss_one ?_
        · refine xs_ret ?_
          · refine xe_and ?_ ?_
            · refine xe_cmp eqD_p (opx_eq (by exact hu)) (nomark _) ?_ ?_
              · refine xeB ?_
                · refine xe_call (ps := ["strands", "word"]) (ok_rows_till_home T) (by exact hr.mono (by decide)) (by rfl) T.g_rows_till_home T.f_rows_till_home.kp T.b_rows_till_home tk ?_ (hdb := by decide) (he := by rfl) (hpl := by rfl)
                  · refine xa_cons ?_ ?_ (hs := by rfl)
                    · exact xe_int
                    · refine xa_cons ?_ ?_ (hs := by rfl)
                      · refine xe_tup ?_
                        · refine xa_cons ?_ ?_ (hs := by rfl)
                          · exact xe_int
                          · refine xa_cons ?_ ?_ (hs := by rfl)
                            · refine xe_un negD_p unx_neg ?_
                              · refine xeB ?_
                                · exact xe_int
                            · exact xa_nil
                      · exact xa_nil
              · refine xeB ?_
                · exact xe_int
            · refine xe_and ?_ ?_
              · refine xe_cmp eqD_p (opx_eq (by exact hu)) (nomark _) ?_ ?_
                · refine xeB ?_
                  · refine xe_call (ps := ["strands", "word"]) (ok_rows_till_home T) (by exact hr.mono (by decide)) (by rfl) T.g_rows_till_home T.f_rows_till_home.kp T.b_rows_till_home tk ?_ (hdb := by decide) (he := by rfl) (hpl := by rfl)
                    · refine xa_cons ?_ ?_ (hs := by rfl)
                      · exact xe_int
                      · refine xa_cons ?_ ?_ (hs := by rfl)
                        · refine xe_tup ?_
                          · exact xa_nil
                        · exact xa_nil
                · refine xeB ?_
                  · exact xe_int
              · refine xe_and ?_ ?_
                · refine xe_cmp eqD_p (opx_eq (by exact hu)) (nomark _) ?_ ?_
                  · refine xeB ?_
                    · refine xe_call (ps := ["strands", "rows"]) (ok__law_told T) (by exact hr.mono (by decide)) (by rfl) T.g__law_told T.f__law_told.kp T.b__law_told tk ?_ (hdb := by decide) (he := by rfl) (hpl := by rfl)
                      · refine xa_cons ?_ ?_ (hs := by rfl)
                        · exact xe_int
                        · refine xa_cons ?_ ?_ (hs := by rfl)
                          · exact xe_int
                          · exact xa_nil
                  · refine xeB ?_
                    · exact xe_str
                · refine xe_and ?_ ?_
                  · refine xe_cmp eqD_p (opx_eq (by exact hu)) (nomark _) ?_ ?_
                    · refine xeB ?_
                      · refine xe_callB lenD_p cb_len (by rfl) T.nlen PySem.boot_len ?_ (hn := by decide) (hdb := by decide) (he := by rfl) (hpl := by rfl)
                        · refine xab_cons ?_ ?_ (hs := by rfl)
                          · refine xeB ?_
                            · refine xe_call (ps := ["strands", "rows"]) (ok_flat_plait T) (by exact hr.mono (by decide)) (by rfl) T.g_flat_plait T.f_flat_plait.kp T.b_flat_plait tk ?_ (hdb := by decide) (he := by rfl) (hpl := by rfl)
                              · refine xa_cons ?_ ?_ (hs := by rfl)
                                · exact xe_int
                                · refine xa_cons ?_ ?_ (hs := by rfl)
                                  · exact xe_int
                                  · exact xa_nil
                          · exact xab_nil
                    · refine xeB ?_
                      · exact xe_int
                  · refine xe_one ?_
                    · refine xe_cmp eqD_p (opx_eq (by exact hu)) (nomark _) ?_ ?_
                      · refine xeB ?_
                        · refine xe_call (ps := ["strands", "word"]) (ok_crossed T) (by exact hr.mono (by decide)) (by rfl) T.g_crossed T.f_crossed.kp T.b_crossed tk ?_ (hdb := by decide) (he := by rfl) (hpl := by rfl)
                          · refine xa_cons ?_ ?_ (hs := by rfl)
                            · exact xe_int
                            · refine xa_cons ?_ ?_ (hs := by rfl)
                              · refine xe_call (ps := ["strands", "rows"]) (ok_flat_plait T) (by exact hr.mono (by decide)) (by rfl) T.g_flat_plait T.f_flat_plait.kp T.b_flat_plait tk ?_ (hdb := by decide) (he := by rfl) (hpl := by rfl)
                                · refine xa_cons ?_ ?_ (hs := by rfl)
                                  · exact xe_int
                                  · refine xa_cons ?_ ?_ (hs := by rfl)
                                    · exact xe_int
                                    · exact xa_nil
                              · exact xa_nil
                      · refine xeB ?_
                        · refine xe_tup ?_
                          · refine xa_cons ?_ ?_ (hs := by rfl)
                            · refine xe_tup ?_
                              · refine xa_cons ?_ ?_ (hs := by rfl)
                                · exact xe_int
                                · refine xa_cons ?_ ?_ (hs := by rfl)
                                  · exact xe_int
                                  · refine xa_cons ?_ ?_ (hs := by rfl)
                                    · exact xe_int
                                    · exact xa_nil
                            · refine xa_cons ?_ ?_ (hs := by rfl)
                              · refine xe_tup ?_
                                · refine xa_cons ?_ ?_ (hs := by rfl)
                                  · exact xe_int
                                  · refine xa_cons ?_ ?_ (hs := by rfl)
                                    · exact xe_int
                                    · refine xa_cons ?_ ?_ (hs := by rfl)
                                      · refine xe_un negD_p unx_neg ?_
                                        · refine xeB ?_
                                          · exact xe_int
                                      · exact xa_nil
                              · exact xa_nil
end
/-! ## the end -/
theorem all_mk {l : PySem.W.OpenLaw} {w : World} {K : PySem.W.Frag} {h : Heap} {mg : Str → Option Value} {fa : Addr} (law_true : ∀ ns : List Int, ns.length ≤ 63 → m_law [.list (ns.map .int)] = .ok (.bool true)) (X : K.In h) (G : h.Ns mainGlobals mg) (hfa : mg "law" = some (.ref fa))
    {tkLEAST_STRANDS : Tok} {tkMOST_STRANDS : Tok} {tkMOST_WORD : Tok} {CBadRows : Addr} {CBadStrands : Addr} {CBadWord : Addr} {CRigError : Addr} {CTooMany : Addr} {f0 : Addr} {od0 an0 : Option Addr} {sl0 : Array (Option Value)} {oc0 kV0 dc0 pm0 cd0 ct0 : Value} {f1 : Addr} {od1 an1 : Option Addr} {sl1 : Array (Option Value)} {oc1 kV1 dc1 pm1 cd1 ct1 : Value} {f2 : Addr} {od2 an2 : Option Addr} {sl2 : Array (Option Value)} {oc2 kV2 dc2 pm2 cd2 ct2 : Value} {f3 : Addr} {od3 an3 : Option Addr} {sl3 : Array (Option Value)} {oc3 kV3 dc3 pm3 cd3 ct3 : Value} {f4 : Addr} {od4 an4 : Option Addr} {sl4 : Array (Option Value)} {oc4 kV4 dc4 pm4 cd4 ct4 : Value} {f5 : Addr} {od5 an5 : Option Addr} {sl5 : Array (Option Value)} {oc5 kV5 dc5 pm5 cd5 ct5 : Value} {f6 : Addr} {od6 an6 : Option Addr} {sl6 : Array (Option Value)} {oc6 kV6 dc6 pm6 cd6 ct6 : Value} {f7 : Addr} {od7 an7 : Option Addr} {sl7 : Array (Option Value)} {oc7 kV7 dc7 pm7 cd7 ct7 : Value} {f8 : Addr} {od8 an8 : Option Addr} {sl8 : Array (Option Value)} {oc8 kV8 dc8 pm8 cd8 ct8 : Value} {f9 : Addr} {od9 an9 : Option Addr} {sl9 : Array (Option Value)} {oc9 kV9 dc9 pm9 cd9 ct9 : Value} {f10 : Addr} {od10 an10 : Option Addr} {sl10 : Array (Option Value)} {oc10 kV10 dc10 pm10 cd10 ct10 : Value} {f11 : Addr} {od11 an11 : Option Addr} {sl11 : Array (Option Value)} {oc11 kV11 dc11 pm11 cd11 ct11 : Value} {f12 : Addr} {od12 an12 : Option Addr} {sl12 : Array (Option Value)} {oc12 kV12 dc12 pm12 cd12 ct12 : Value} {f13 : Addr} {od13 an13 : Option Addr} {sl13 : Array (Option Value)} {oc13 kV13 dc13 pm13 cd13 ct13 : Value} {f14 : Addr} {od14 an14 : Option Addr} {sl14 : Array (Option Value)} {oc14 kV14 dc14 pm14 cd14 ct14 : Value} {f15 : Addr} {od15 an15 : Option Addr} {sl15 : Array (Option Value)} {oc15 kV15 dc15 pm15 cd15 ct15 : Value} {f16 : Addr} {od16 an16 : Option Addr} {sl16 : Array (Option Value)} {oc16 kV16 dc16 pm16 cd16 ct16 : Value} {f17 : Addr} {od17 an17 : Option Addr} {sl17 : Array (Option Value)} {oc17 kV17 dc17 pm17 cd17 ct17 : Value}
    (znabs : PySem.W.nsIn K mainGlobals "abs" = some none)
    (znall : PySem.W.nsIn K mainGlobals "all" = some none)
    (znany : PySem.W.nsIn K mainGlobals "any" = some none)
    (znbool : PySem.W.nsIn K mainGlobals "bool" = some none)
    (znint : PySem.W.nsIn K mainGlobals "int" = some none)
    (znisinstance : PySem.W.nsIn K mainGlobals "isinstance" = some none)
    (znlen : PySem.W.nsIn K mainGlobals "len" = some none)
    (znlist : PySem.W.nsIn K mainGlobals "list" = some none)
    (znmax : PySem.W.nsIn K mainGlobals "max" = some none)
    (znmin : PySem.W.nsIn K mainGlobals "min" = some none)
    (znrange : PySem.W.nsIn K mainGlobals "range" = some none)
    (znsorted : PySem.W.nsIn K mainGlobals "sorted" = some none)
    (znsum : PySem.W.nsIn K mainGlobals "sum" = some none)
    (zntuple : PySem.W.nsIn K mainGlobals "tuple" = some none)
    (znzip : PySem.W.nsIn K mainGlobals "zip" = some none)
    (zcLEAST_STRANDS : PySem.W.nsIn K mainGlobals "LEAST_STRANDS" = some (some (.int 2 tkLEAST_STRANDS)))
    (zcMOST_STRANDS : PySem.W.nsIn K mainGlobals "MOST_STRANDS" = some (some (.int 6 tkMOST_STRANDS)))
    (zcMOST_WORD : PySem.W.nsIn K mainGlobals "MOST_WORD" = some (some (.int 40 tkMOST_WORD)))
    (zgBadRows : PySem.W.nsIn K mainGlobals "BadRows" = some (some (.ref CBadRows)))
    (zxBadRows : PySem.W.excIn K CBadRows [.type "ValueError", .type "Exception", .type "BaseException", .type "object"] "ValueError.__new__" = true)
    (zkBadRows : PySem.W.keepIn K (.ref CBadRows) = true)
    (zqBadRows : PySem.W.subIn K (.ref CBadRows) (.type "BaseException") = some true)
    (ztBadRows : PySem.W.typeIn K (.ref CBadRows) = some (.type "type"))
    (zgBadStrands : PySem.W.nsIn K mainGlobals "BadStrands" = some (some (.ref CBadStrands)))
    (zxBadStrands : PySem.W.excIn K CBadStrands [.type "ValueError", .type "Exception", .type "BaseException", .type "object"] "ValueError.__new__" = true)
    (zkBadStrands : PySem.W.keepIn K (.ref CBadStrands) = true)
    (zqBadStrands : PySem.W.subIn K (.ref CBadStrands) (.type "BaseException") = some true)
    (ztBadStrands : PySem.W.typeIn K (.ref CBadStrands) = some (.type "type"))
    (zgBadWord : PySem.W.nsIn K mainGlobals "BadWord" = some (some (.ref CBadWord)))
    (zxBadWord : PySem.W.excIn K CBadWord [.type "ValueError", .type "Exception", .type "BaseException", .type "object"] "ValueError.__new__" = true)
    (zkBadWord : PySem.W.keepIn K (.ref CBadWord) = true)
    (zqBadWord : PySem.W.subIn K (.ref CBadWord) (.type "BaseException") = some true)
    (ztBadWord : PySem.W.typeIn K (.ref CBadWord) = some (.type "type"))
    (zgRigError : PySem.W.nsIn K mainGlobals "RigError" = some (some (.ref CRigError)))
    (zxRigError : PySem.W.excIn K CRigError [.type "ValueError", .type "Exception", .type "BaseException", .type "object"] "ValueError.__new__" = true)
    (zkRigError : PySem.W.keepIn K (.ref CRigError) = true)
    (zqRigError : PySem.W.subIn K (.ref CRigError) (.type "BaseException") = some true)
    (ztRigError : PySem.W.typeIn K (.ref CRigError) = some (.type "type"))
    (zgTooMany : PySem.W.nsIn K mainGlobals "TooMany" = some (some (.ref CTooMany)))
    (zxTooMany : PySem.W.excIn K CTooMany [.type "ValueError", .type "Exception", .type "BaseException", .type "object"] "ValueError.__new__" = true)
    (zkTooMany : PySem.W.keepIn K (.ref CTooMany) = true)
    (zqTooMany : PySem.W.subIn K (.ref CTooMany) (.type "BaseException") = some true)
    (ztTooMany : PySem.W.typeIn K (.ref CTooMany) = some (.type "type"))
    (ziBadRows : PySem.W.isClsIn K CBadRows = true)
    (zsBadRows_BadRows : PySem.W.subIn K (.ref CBadRows) (.ref CBadRows) = some true)
    (zsBadStrands_BadRows : PySem.W.subIn K (.ref CBadStrands) (.ref CBadRows) = some false)
    (zsBadWord_BadRows : PySem.W.subIn K (.ref CBadWord) (.ref CBadRows) = some false)
    (zsRigError_BadRows : PySem.W.subIn K (.ref CRigError) (.ref CBadRows) = some false)
    (zsTooMany_BadRows : PySem.W.subIn K (.ref CTooMany) (.ref CBadRows) = some false)
    (ziRigError : PySem.W.isClsIn K CRigError = true)
    (zsBadRows_RigError : PySem.W.subIn K (.ref CBadRows) (.ref CRigError) = some true)
    (zsBadStrands_RigError : PySem.W.subIn K (.ref CBadStrands) (.ref CRigError) = some true)
    (zsBadWord_RigError : PySem.W.subIn K (.ref CBadWord) (.ref CRigError) = some true)
    (zsRigError_RigError : PySem.W.subIn K (.ref CRigError) (.ref CRigError) = some true)
    (zsTooMany_RigError : PySem.W.subIn K (.ref CTooMany) (.ref CRigError) = some true)
    (ziTooMany : PySem.W.isClsIn K CTooMany = true)
    (zsBadRows_TooMany : PySem.W.subIn K (.ref CBadRows) (.ref CTooMany) = some false)
    (zsBadStrands_TooMany : PySem.W.subIn K (.ref CBadStrands) (.ref CTooMany) = some false)
    (zsBadWord_TooMany : PySem.W.subIn K (.ref CBadWord) (.ref CTooMany) = some false)
    (zsRigError_TooMany : PySem.W.subIn K (.ref CRigError) (.ref CTooMany) = some false)
    (zsTooMany_TooMany : PySem.W.subIn K (.ref CTooMany) (.ref CTooMany) = some true)
    (zEn : PySem.W.specialIn K (.builtin "object.__class__") "__get__" = some (some (.builtin "getset_descriptor.__get__")))
    (zEt : PySem.W.takesIn K (.builtin "object.__class__") = some true)
    (zE1BadRows : PySem.W.findIn K (.ref CBadRows) "__getattribute__" = some (some (.builtin "BaseException.__getattribute__")))
    (zE2BadRows : PySem.W.findIn K (.ref CBadRows) "__getattr__" = some none)
    (zE3BadRows : PySem.W.hasDictIn K CBadRows = true)
    (zE4BadRows : PySem.W.findIn K (.ref CBadRows) "__class__" = some (some (.builtin "object.__class__")))
    (zE5BadRows : PySem.W.mroIn K CBadRows (.type "object") = some true)
    (zE1BadStrands : PySem.W.findIn K (.ref CBadStrands) "__getattribute__" = some (some (.builtin "BaseException.__getattribute__")))
    (zE2BadStrands : PySem.W.findIn K (.ref CBadStrands) "__getattr__" = some none)
    (zE3BadStrands : PySem.W.hasDictIn K CBadStrands = true)
    (zE4BadStrands : PySem.W.findIn K (.ref CBadStrands) "__class__" = some (some (.builtin "object.__class__")))
    (zE5BadStrands : PySem.W.mroIn K CBadStrands (.type "object") = some true)
    (zE1BadWord : PySem.W.findIn K (.ref CBadWord) "__getattribute__" = some (some (.builtin "BaseException.__getattribute__")))
    (zE2BadWord : PySem.W.findIn K (.ref CBadWord) "__getattr__" = some none)
    (zE3BadWord : PySem.W.hasDictIn K CBadWord = true)
    (zE4BadWord : PySem.W.findIn K (.ref CBadWord) "__class__" = some (some (.builtin "object.__class__")))
    (zE5BadWord : PySem.W.mroIn K CBadWord (.type "object") = some true)
    (zE1RigError : PySem.W.findIn K (.ref CRigError) "__getattribute__" = some (some (.builtin "BaseException.__getattribute__")))
    (zE2RigError : PySem.W.findIn K (.ref CRigError) "__getattr__" = some none)
    (zE3RigError : PySem.W.hasDictIn K CRigError = true)
    (zE4RigError : PySem.W.findIn K (.ref CRigError) "__class__" = some (some (.builtin "object.__class__")))
    (zE5RigError : PySem.W.mroIn K CRigError (.type "object") = some true)
    (zE1TooMany : PySem.W.findIn K (.ref CTooMany) "__getattribute__" = some (some (.builtin "BaseException.__getattribute__")))
    (zE2TooMany : PySem.W.findIn K (.ref CTooMany) "__getattr__" = some none)
    (zE3TooMany : PySem.W.hasDictIn K CTooMany = true)
    (zE4TooMany : PySem.W.findIn K (.ref CTooMany) "__class__" = some (some (.builtin "object.__class__")))
    (zE5TooMany : PySem.W.mroIn K CTooMany (.type "object") = some true)
    (za0 : PySem.W.nsIn K mainGlobals "is_whole" = some (some (.ref f0)))
    (zl0 : K.lookup f0 = some ⟨oc0, od0, .func (PySem.W.fnOf "is_whole" "is_whole" (defArgs s_is_whole) (defBody s_is_whole) (defScope s_is_whole) .none kV0 dc0 pm0 an0 cd0 ct0), sl0⟩)
    (zd0 : PySem.W.codeIn K cd0 "is_whole" = true)
    (ze0 : PySem.W.keepIn K (.ref f0) = true)
    (za1 : PySem.W.nsIn K mainGlobals "check_strands" = some (some (.ref f1)))
    (zl1 : K.lookup f1 = some ⟨oc1, od1, .func (PySem.W.fnOf "check_strands" "check_strands" (defArgs s_check_strands) (defBody s_check_strands) (defScope s_check_strands) .none kV1 dc1 pm1 an1 cd1 ct1), sl1⟩)
    (zd1 : PySem.W.codeIn K cd1 "check_strands" = true)
    (ze1 : PySem.W.keepIn K (.ref f1) = true)
    (za2 : PySem.W.nsIn K mainGlobals "is_word" = some (some (.ref f2)))
    (zl2 : K.lookup f2 = some ⟨oc2, od2, .func (PySem.W.fnOf "is_word" "is_word" (defArgs s_is_word) (defBody s_is_word) (defScope s_is_word) .none kV2 dc2 pm2 an2 cd2 ct2), sl2⟩)
    (zd2 : PySem.W.codeIn K cd2 "is_word" = true)
    (ze2 : PySem.W.keepIn K (.ref f2) = true)
    (za3 : PySem.W.nsIn K mainGlobals "check_word" = some (some (.ref f3)))
    (zl3 : K.lookup f3 = some ⟨oc3, od3, .func (PySem.W.fnOf "check_word" "check_word" (defArgs s_check_word) (defBody s_check_word) (defScope s_check_word) .none kV3 dc3 pm3 an3 cd3 ct3), sl3⟩)
    (zd3 : PySem.W.codeIn K cd3 "check_word" = true)
    (ze3 : PySem.W.keepIn K (.ref f3) = true)
    (za4 : PySem.W.nsIn K mainGlobals "strands_along" = some (some (.ref f4)))
    (zl4 : K.lookup f4 = some ⟨oc4, od4, .func (PySem.W.fnOf "strands_along" "strands_along" (defArgs s_strands_along) (defBody s_strands_along) (defScope s_strands_along) .none kV4 dc4 pm4 an4 cd4 ct4), sl4⟩)
    (zd4 : PySem.W.codeIn K cd4 "strands_along" = true)
    (ze4 : PySem.W.keepIn K (.ref f4) = true)
    (za5 : PySem.W.nsIn K mainGlobals "ends_in" = some (some (.ref f5)))
    (zl5 : K.lookup f5 = some ⟨oc5, od5, .func (PySem.W.fnOf "ends_in" "ends_in" (defArgs s_ends_in) (defBody s_ends_in) (defScope s_ends_in) .none kV5 dc5 pm5 an5 cd5 ct5), sl5⟩)
    (zd5 : PySem.W.codeIn K cd5 "ends_in" = true)
    (ze5 : PySem.W.keepIn K (.ref f5) = true)
    (za6 : PySem.W.nsIn K mainGlobals "ends_of" = some (some (.ref f6)))
    (zl6 : K.lookup f6 = some ⟨oc6, od6, .func (PySem.W.fnOf "ends_of" "ends_of" (defArgs s_ends_of) (defBody s_ends_of) (defScope s_ends_of) .none kV6 dc6 pm6 an6 cd6 ct6), sl6⟩)
    (zd6 : PySem.W.codeIn K cd6 "ends_of" = true)
    (ze6 : PySem.W.keepIn K (.ref f6) = true)
    (za7 : PySem.W.nsIn K mainGlobals "sums_of" = some (some (.ref f7)))
    (zl7 : K.lookup f7 = some ⟨oc7, od7, .func (PySem.W.fnOf "sums_of" "sums_of" (defArgs s_sums_of) (defBody s_sums_of) (defScope s_sums_of) .none kV7 dc7 pm7 an7 cd7 ct7), sl7⟩)
    (zd7 : PySem.W.codeIn K cd7 "sums_of" = true)
    (ze7 : PySem.W.keepIn K (.ref f7) = true)
    (za8 : PySem.W.nsIn K mainGlobals "crossed" = some (some (.ref f8)))
    (zl8 : K.lookup f8 = some ⟨oc8, od8, .func (PySem.W.fnOf "crossed" "crossed" (defArgs s_crossed) (defBody s_crossed) (defScope s_crossed) .none kV8 dc8 pm8 an8 cd8 ct8), sl8⟩)
    (zd8 : PySem.W.codeIn K cd8 "crossed" = true)
    (ze8 : PySem.W.keepIn K (.ref f8) = true)
    (za9 : PySem.W.nsIn K mainGlobals "writhe" = some (some (.ref f9)))
    (zl9 : K.lookup f9 = some ⟨oc9, od9, .func (PySem.W.fnOf "writhe" "writhe" (defArgs s_writhe) (defBody s_writhe) (defScope s_writhe) .none kV9 dc9 pm9 an9 cd9 ct9), sl9⟩)
    (zd9 : PySem.W.codeIn K cd9 "writhe" = true)
    (ze9 : PySem.W.keepIn K (.ref f9) = true)
    (za10 : PySem.W.nsIn K mainGlobals "cancelled" = some (some (.ref f10)))
    (zl10 : K.lookup f10 = some ⟨oc10, od10, .func (PySem.W.fnOf "cancelled" "cancelled" (defArgs s_cancelled) (defBody s_cancelled) (defScope s_cancelled) .none kV10 dc10 pm10 an10 cd10 ct10), sl10⟩)
    (zd10 : PySem.W.codeIn K cd10 "cancelled" = true)
    (ze10 : PySem.W.keepIn K (.ref f10) = true)
    (za11 : PySem.W.nsIn K mainGlobals "flat_plait" = some (some (.ref f11)))
    (zl11 : K.lookup f11 = some ⟨oc11, od11, .func (PySem.W.fnOf "flat_plait" "flat_plait" (defArgs s_flat_plait) (defBody s_flat_plait) (defScope s_flat_plait) .none kV11 dc11 pm11 an11 cd11 ct11), sl11⟩)
    (zd11 : PySem.W.codeIn K cd11 "flat_plait" = true)
    (ze11 : PySem.W.keepIn K (.ref f11) = true)
    (za12 : PySem.W.nsIn K mainGlobals "rows_till_home" = some (some (.ref f12)))
    (zl12 : K.lookup f12 = some ⟨oc12, od12, .func (PySem.W.fnOf "rows_till_home" "rows_till_home" (defArgs s_rows_till_home) (defBody s_rows_till_home) (defScope s_rows_till_home) .none kV12 dc12 pm12 an12 cd12 ct12), sl12⟩)
    (zd12 : PySem.W.codeIn K cd12 "rows_till_home" = true)
    (ze12 : PySem.W.keepIn K (.ref f12) = true)
    (za13 : PySem.W.nsIn K mainGlobals "_law_draws" = some (some (.ref f13)))
    (zl13 : K.lookup f13 = some ⟨oc13, od13, .func (PySem.W.fnOf "_law_draws" "_law_draws" (defArgs s__law_draws) (defBody s__law_draws) (defScope s__law_draws) .none kV13 dc13 pm13 an13 cd13 ct13), sl13⟩)
    (zd13 : PySem.W.codeIn K cd13 "_law_draws" = true)
    (ze13 : PySem.W.keepIn K (.ref f13) = true)
    (za14 : PySem.W.nsIn K mainGlobals "_law_word" = some (some (.ref f14)))
    (zl14 : K.lookup f14 = some ⟨oc14, od14, .func (PySem.W.fnOf "_law_word" "_law_word" (defArgs s__law_word) (defBody s__law_word) (defScope s__law_word) .none kV14 dc14 pm14 an14 cd14 ct14), sl14⟩)
    (zd14 : PySem.W.codeIn K cd14 "_law_word" = true)
    (ze14 : PySem.W.keepIn K (.ref f14) = true)
    (za15 : PySem.W.nsIn K mainGlobals "_law_ends" = some (some (.ref f15)))
    (zl15 : K.lookup f15 = some ⟨oc15, od15, .func (PySem.W.fnOf "_law_ends" "_law_ends" (defArgs s__law_ends) (defBody s__law_ends) (defScope s__law_ends) .none kV15 dc15 pm15 an15 cd15 ct15), sl15⟩)
    (zd15 : PySem.W.codeIn K cd15 "_law_ends" = true)
    (ze15 : PySem.W.keepIn K (.ref f15) = true)
    (za16 : PySem.W.nsIn K mainGlobals "_law_told" = some (some (.ref f16)))
    (zl16 : K.lookup f16 = some ⟨oc16, od16, .func (PySem.W.fnOf "_law_told" "_law_told" (defArgs s__law_told) (defBody s__law_told) (defScope s__law_told) .none kV16 dc16 pm16 an16 cd16 ct16), sl16⟩)
    (zd16 : PySem.W.codeIn K cd16 "_law_told" = true)
    (ze16 : PySem.W.keepIn K (.ref f16) = true)
    (za17 : PySem.W.nsIn K mainGlobals "law" = some (some (.ref f17)))
    (zl17 : K.lookup f17 = some ⟨oc17, od17, .func (PySem.W.fnOf "law" "law" (defArgs s_law) (defBody s_law) (defScope s_law) .none kV17 dc17 pm17 an17 cd17 ct17), sl17⟩)
    (zd17 : PySem.W.codeIn K cd17 "law" = true)
    (ze17 : PySem.W.keepIn K (.ref f17) = true) :
    ∃ fd : FuncData, (∀ (s : Shared) (v : Value), BindsTo s fd ⟨[v], []⟩ [("script", v)]) ∧ ∀ base : Heap, K.In base → base.Ns mainGlobals mg → FnOk l.prog w K mg base (L2.CX l.prog w) 5 fa fd ["script"] (spL K) := by
  have e := hfa.symm.trans (PySem.W.mg_of X G za17)
  have e2 : fa = f17 := by injection e with e; injection e
  rw [e2]
  let T : Tx K mg := {
    nabs := PySem.W.mg_none_of X G znabs
    nall := PySem.W.mg_none_of X G znall
    nany := PySem.W.mg_none_of X G znany
    nbool := PySem.W.mg_none_of X G znbool
    nint := PySem.W.mg_none_of X G znint
    nisinstance := PySem.W.mg_none_of X G znisinstance
    nlen := PySem.W.mg_none_of X G znlen
    nlist := PySem.W.mg_none_of X G znlist
    nmax := PySem.W.mg_none_of X G znmax
    nmin := PySem.W.mg_none_of X G znmin
    nrange := PySem.W.mg_none_of X G znrange
    nsorted := PySem.W.mg_none_of X G znsorted
    nsum := PySem.W.mg_none_of X G znsum
    ntuple := PySem.W.mg_none_of X G zntuple
    nzip := PySem.W.mg_none_of X G znzip
    uLEAST_STRANDS := _
    gLEAST_STRANDS := PySem.W.mg_of X G zcLEAST_STRANDS
    rLEAST_STRANDS := ⟨_, rfl⟩
    dLEAST_STRANDS := fun _ => .int _
    uMOST_STRANDS := _
    gMOST_STRANDS := PySem.W.mg_of X G zcMOST_STRANDS
    rMOST_STRANDS := ⟨_, rfl⟩
    dMOST_STRANDS := fun _ => .int _
    uMOST_WORD := _
    gMOST_WORD := PySem.W.mg_of X G zcMOST_WORD
    rMOST_WORD := ⟨_, rfl⟩
    dMOST_WORD := fun _ => .int _
    CBadRows := _
    gBadRows := PySem.W.mg_of X G zgBadRows
    xBadRows := zxBadRows
    kBadRows := zkBadRows
    qBadRows := zqBadRows
    tBadRows := ztBadRows
    CBadStrands := _
    gBadStrands := PySem.W.mg_of X G zgBadStrands
    xBadStrands := zxBadStrands
    kBadStrands := zkBadStrands
    qBadStrands := zqBadStrands
    tBadStrands := ztBadStrands
    CBadWord := _
    gBadWord := PySem.W.mg_of X G zgBadWord
    xBadWord := zxBadWord
    kBadWord := zkBadWord
    qBadWord := zqBadWord
    tBadWord := ztBadWord
    CRigError := _
    gRigError := PySem.W.mg_of X G zgRigError
    xRigError := zxRigError
    kRigError := zkRigError
    qRigError := zqRigError
    tRigError := ztRigError
    CTooMany := _
    gTooMany := PySem.W.mg_of X G zgTooMany
    xTooMany := zxTooMany
    kTooMany := zkTooMany
    qTooMany := zqTooMany
    tTooMany := ztTooMany
    iBadRows := ziBadRows
    sBadRows_BadRows := zsBadRows_BadRows
    sBadStrands_BadRows := zsBadStrands_BadRows
    sBadWord_BadRows := zsBadWord_BadRows
    sRigError_BadRows := zsRigError_BadRows
    sTooMany_BadRows := zsTooMany_BadRows
    iRigError := ziRigError
    sBadRows_RigError := zsBadRows_RigError
    sBadStrands_RigError := zsBadStrands_RigError
    sBadWord_RigError := zsBadWord_RigError
    sRigError_RigError := zsRigError_RigError
    sTooMany_RigError := zsTooMany_RigError
    iTooMany := ziTooMany
    sBadRows_TooMany := zsBadRows_TooMany
    sBadStrands_TooMany := zsBadStrands_TooMany
    sBadWord_TooMany := zsBadWord_TooMany
    sRigError_TooMany := zsRigError_TooMany
    sTooMany_TooMany := zsTooMany_TooMany
    eBadRows := ⟨zE1BadRows, zE2BadRows, zqBadRows, zE3BadRows, zE4BadRows, zEn, zEt, zE5BadRows⟩
    eBadStrands := ⟨zE1BadStrands, zE2BadStrands, zqBadStrands, zE3BadStrands, zE4BadStrands, zEn, zEt, zE5BadStrands⟩
    eBadWord := ⟨zE1BadWord, zE2BadWord, zqBadWord, zE3BadWord, zE4BadWord, zEn, zEt, zE5BadWord⟩
    eRigError := ⟨zE1RigError, zE2RigError, zqRigError, zE3RigError, zE4RigError, zEn, zEt, zE5RigError⟩
    eTooMany := ⟨zE1TooMany, zE2TooMany, zqTooMany, zE3TooMany, zE4TooMany, zEn, zEt, zE5TooMany⟩
    a_is_whole := f0
    d_is_whole := _
    f_is_whole := fun_mk (st := s_is_whole) zl0 zd0 ze0
    g_is_whole := PySem.W.mg_of X G za0
    b_is_whole := (fun_mk (st := s_is_whole) zl0 zd0 ze0).binds (ps := ["value", "least", "most"]) fun _ _ _ _ _ _ us hl => match us, hl with | [_, _, _], _ => rfl
    a_check_strands := f1
    d_check_strands := _
    f_check_strands := fun_mk (st := s_check_strands) zl1 zd1 ze1
    g_check_strands := PySem.W.mg_of X G za1
    b_check_strands := (fun_mk (st := s_check_strands) zl1 zd1 ze1).binds (ps := ["strands"]) fun _ _ _ _ _ _ us hl => match us, hl with | [_], _ => rfl
    a_is_word := f2
    d_is_word := _
    f_is_word := fun_mk (st := s_is_word) zl2 zd2 ze2
    g_is_word := PySem.W.mg_of X G za2
    b_is_word := (fun_mk (st := s_is_word) zl2 zd2 ze2).binds (ps := ["strands", "value"]) fun _ _ _ _ _ _ us hl => match us, hl with | [_, _], _ => rfl
    a_check_word := f3
    d_check_word := _
    f_check_word := fun_mk (st := s_check_word) zl3 zd3 ze3
    g_check_word := PySem.W.mg_of X G za3
    b_check_word := (fun_mk (st := s_check_word) zl3 zd3 ze3).binds (ps := ["strands", "word"]) fun _ _ _ _ _ _ us hl => match us, hl with | [_, _], _ => rfl
    a_strands_along := f4
    d_strands_along := _
    f_strands_along := fun_mk (st := s_strands_along) zl4 zd4 ze4
    g_strands_along := PySem.W.mg_of X G za4
    b_strands_along := (fun_mk (st := s_strands_along) zl4 zd4 ze4).binds (ps := ["strands", "word"]) fun _ _ _ _ _ _ us hl => match us, hl with | [_, _], _ => rfl
    a_ends_in := f5
    d_ends_in := _
    f_ends_in := fun_mk (st := s_ends_in) zl5 zd5 ze5
    g_ends_in := PySem.W.mg_of X G za5
    b_ends_in := (fun_mk (st := s_ends_in) zl5 zd5 ze5).binds (ps := ["strands", "word"]) fun _ _ _ _ _ _ us hl => match us, hl with | [_, _], _ => rfl
    a_ends_of := f6
    d_ends_of := _
    f_ends_of := fun_mk (st := s_ends_of) zl6 zd6 ze6
    g_ends_of := PySem.W.mg_of X G za6
    b_ends_of := (fun_mk (st := s_ends_of) zl6 zd6 ze6).binds (ps := ["strands", "word"]) fun _ _ _ _ _ _ us hl => match us, hl with | [_, _], _ => rfl
    a_sums_of := f7
    d_sums_of := _
    f_sums_of := fun_mk (st := s_sums_of) zl7 zd7 ze7
    g_sums_of := PySem.W.mg_of X G za7
    b_sums_of := (fun_mk (st := s_sums_of) zl7 zd7 ze7).binds (ps := ["strands", "word"]) fun _ _ _ _ _ _ us hl => match us, hl with | [_, _], _ => rfl
    a_crossed := f8
    d_crossed := _
    f_crossed := fun_mk (st := s_crossed) zl8 zd8 ze8
    g_crossed := PySem.W.mg_of X G za8
    b_crossed := (fun_mk (st := s_crossed) zl8 zd8 ze8).binds (ps := ["strands", "word"]) fun _ _ _ _ _ _ us hl => match us, hl with | [_, _], _ => rfl
    a_writhe := f9
    d_writhe := _
    f_writhe := fun_mk (st := s_writhe) zl9 zd9 ze9
    g_writhe := PySem.W.mg_of X G za9
    b_writhe := (fun_mk (st := s_writhe) zl9 zd9 ze9).binds (ps := ["strands", "word"]) fun _ _ _ _ _ _ us hl => match us, hl with | [_, _], _ => rfl
    a_cancelled := f10
    d_cancelled := _
    f_cancelled := fun_mk (st := s_cancelled) zl10 zd10 ze10
    g_cancelled := PySem.W.mg_of X G za10
    b_cancelled := (fun_mk (st := s_cancelled) zl10 zd10 ze10).binds (ps := ["strands", "word"]) fun _ _ _ _ _ _ us hl => match us, hl with | [_, _], _ => rfl
    a_flat_plait := f11
    d_flat_plait := _
    f_flat_plait := fun_mk (st := s_flat_plait) zl11 zd11 ze11
    g_flat_plait := PySem.W.mg_of X G za11
    b_flat_plait := (fun_mk (st := s_flat_plait) zl11 zd11 ze11).binds (ps := ["strands", "rows"]) fun _ _ _ _ _ _ us hl => match us, hl with | [_, _], _ => rfl
    a_rows_till_home := f12
    d_rows_till_home := _
    f_rows_till_home := fun_mk (st := s_rows_till_home) zl12 zd12 ze12
    g_rows_till_home := PySem.W.mg_of X G za12
    b_rows_till_home := (fun_mk (st := s_rows_till_home) zl12 zd12 ze12).binds (ps := ["strands", "word"]) fun _ _ _ _ _ _ us hl => match us, hl with | [_, _], _ => rfl
    a__law_draws := f13
    d__law_draws := _
    f__law_draws := fun_mk (st := s__law_draws) zl13 zd13 ze13
    g__law_draws := PySem.W.mg_of X G za13
    b__law_draws := (fun_mk (st := s__law_draws) zl13 zd13 ze13).binds (ps := ["script", "many"]) fun _ _ _ _ _ _ us hl => match us, hl with | [_, _], _ => rfl
    a__law_word := f14
    d__law_word := _
    f__law_word := fun_mk (st := s__law_word) zl14 zd14 ze14
    g__law_word := PySem.W.mg_of X G za14
    b__law_word := (fun_mk (st := s__law_word) zl14 zd14 ze14).binds (ps := ["draws", "at", "strands", "many"]) fun _ _ _ _ _ _ us hl => match us, hl with | [_, _, _, _], _ => rfl
    a__law_ends := f15
    d__law_ends := _
    f__law_ends := fun_mk (st := s__law_ends) zl15 zd15 ze15
    g__law_ends := PySem.W.mg_of X G za15
    b__law_ends := (fun_mk (st := s__law_ends) zl15 zd15 ze15).binds (ps := ["strands", "word"]) fun _ _ _ _ _ _ us hl => match us, hl with | [_, _], _ => rfl
    a__law_told := f16
    d__law_told := _
    f__law_told := fun_mk (st := s__law_told) zl16 zd16 ze16
    g__law_told := PySem.W.mg_of X G za16
    b__law_told := (fun_mk (st := s__law_told) zl16 zd16 ze16).binds (ps := ["strands", "rows"]) fun _ _ _ _ _ _ us hl => match us, hl with | [_, _], _ => rfl
    a_law := f17
    d_law := _
    f_law := fun_mk (st := s_law) zl17 zd17 ze17
    g_law := PySem.W.mg_of X G za17
    b_law := (fun_mk (st := s_law) zl17 zd17 ze17).binds (ps := ["script"]) fun _ _ _ _ _ _ us hl => match us, hl with | [_], _ => rfl }
  exact ⟨PySem.W.fnOf "law" "law" (defArgs s_law) (defBody s_law) (defScope s_law) .none kV17 dc17 pm17 an17 cd17 ct17, fun s v => .of_eq rfl, fun base _ _ => law_ok (ok_law T) law_true⟩
end G
open PySem PySem.W PyProof.Rows
set_option maxRecDepth 100000 in
set_option maxHeartbeats 0 in
theorem PySem.Challenge.cw_rigwright_k11_whole_flat_plaits_holds : PySem.Challenge.rw_rigwright_k11_whole_flat_plaits.Holds := by
  w_on; o_law; k_head; (case hw => w_witness2)
  k_fill
  refine PD.walk_law (k := 5) (l := PySem.Challenge.rw_rigwright_k11_whole_flat_plaits) rfl rfl ⟨rfl, by decide, by decide⟩ (fun w h Y => PySem.W.kIn_of Y) ?F
  case F =>
    intro w mg fa h KX GX hmg
    refine' G.all_mk G.law_true KX GX hmg ?znabs ?znall ?znany ?znbool ?znint ?znisinstance ?znlen ?znlist ?znmax ?znmin ?znrange ?znsorted ?znsum ?zntuple ?znzip ?zcLEAST_STRANDS ?zcMOST_STRANDS ?zcMOST_WORD ?zgBadRows ?zxBadRows ?zkBadRows ?zqBadRows ?ztBadRows ?zgBadStrands ?zxBadStrands ?zkBadStrands ?zqBadStrands ?ztBadStrands ?zgBadWord ?zxBadWord ?zkBadWord ?zqBadWord ?ztBadWord ?zgRigError ?zxRigError ?zkRigError ?zqRigError ?ztRigError ?zgTooMany ?zxTooMany ?zkTooMany ?zqTooMany ?ztTooMany ?ziBadRows ?zsBadRows_BadRows ?zsBadStrands_BadRows ?zsBadWord_BadRows ?zsRigError_BadRows ?zsTooMany_BadRows ?ziRigError ?zsBadRows_RigError ?zsBadStrands_RigError ?zsBadWord_RigError ?zsRigError_RigError ?zsTooMany_RigError ?ziTooMany ?zsBadRows_TooMany ?zsBadStrands_TooMany ?zsBadWord_TooMany ?zsRigError_TooMany ?zsTooMany_TooMany ?zEn ?zEt ?zE1BadRows ?zE2BadRows ?zE3BadRows ?zE4BadRows ?zE5BadRows ?zE1BadStrands ?zE2BadStrands ?zE3BadStrands ?zE4BadStrands ?zE5BadStrands ?zE1BadWord ?zE2BadWord ?zE3BadWord ?zE4BadWord ?zE5BadWord ?zE1RigError ?zE2RigError ?zE3RigError ?zE4RigError ?zE5RigError ?zE1TooMany ?zE2TooMany ?zE3TooMany ?zE4TooMany ?zE5TooMany ?za0 ?zl0 ?zd0 ?ze0 ?za1 ?zl1 ?zd1 ?ze1 ?za2 ?zl2 ?zd2 ?ze2 ?za3 ?zl3 ?zd3 ?ze3 ?za4 ?zl4 ?zd4 ?ze4 ?za5 ?zl5 ?zd5 ?ze5 ?za6 ?zl6 ?zd6 ?ze6 ?za7 ?zl7 ?zd7 ?ze7 ?za8 ?zl8 ?zd8 ?ze8 ?za9 ?zl9 ?zd9 ?ze9 ?za10 ?zl10 ?zd10 ?ze10 ?za11 ?zl11 ?zd11 ?ze11 ?za12 ?zl12 ?zd12 ?ze12 ?za13 ?zl13 ?zd13 ?ze13 ?za14 ?zl14 ?zd14 ?ze14 ?za15 ?zl15 ?zd15 ?ze15 ?za16 ?zl16 ?zd16 ?ze16 ?za17 ?zl17 ?zd17 ?ze17
    (case znabs => k_is); (case znall => k_is); (case znany => k_is); (case znbool => k_is); (case znint => k_is); (case znisinstance => k_is); (case znlen => k_is); (case znlist => k_is); (case znmax => k_is); (case znmin => k_is); (case znrange => k_is); (case znsorted => k_is); (case znsum => k_is); (case zntuple => k_is); (case znzip => k_is); (case zcLEAST_STRANDS => k_is); (case zcMOST_STRANDS => k_is); (case zcMOST_WORD => k_is); (case zgBadRows => k_is); (case zxBadRows => k_exc); (case zkBadRows => k_is); (case zqBadRows => k_is); (case ztBadRows => k_is); (case zgBadStrands => k_is); (case zxBadStrands => k_exc); (case zkBadStrands => k_is); (case zqBadStrands => k_is); (case ztBadStrands => k_is); (case zgBadWord => k_is); (case zxBadWord => k_exc); (case zkBadWord => k_is); (case zqBadWord => k_is); (case ztBadWord => k_is); (case zgRigError => k_is); (case zxRigError => k_exc); (case zkRigError => k_is); (case zqRigError => k_is); (case ztRigError => k_is); (case zgTooMany => k_is); (case zxTooMany => k_exc); (case zkTooMany => k_is); (case zqTooMany => k_is); (case ztTooMany => k_is); (case ziBadRows => k_is); (case zsBadRows_BadRows => k_is); (case zsBadStrands_BadRows => k_is); (case zsBadWord_BadRows => k_is); (case zsRigError_BadRows => k_is); (case zsTooMany_BadRows => k_is); (case ziRigError => k_is); (case zsBadRows_RigError => k_is); (case zsBadStrands_RigError => k_is); (case zsBadWord_RigError => k_is); (case zsRigError_RigError => k_is); (case zsTooMany_RigError => k_is); (case ziTooMany => k_is); (case zsBadRows_TooMany => k_is); (case zsBadStrands_TooMany => k_is); (case zsBadWord_TooMany => k_is); (case zsRigError_TooMany => k_is); (case zsTooMany_TooMany => k_is); (case zEn => k_is); (case zEt => k_is); (case zE1BadRows => k_is); (case zE2BadRows => k_is); (case zE3BadRows => k_is); (case zE4BadRows => k_is); (case zE5BadRows => k_is); (case zE1BadStrands => k_is); (case zE2BadStrands => k_is); (case zE3BadStrands => k_is); (case zE4BadStrands => k_is); (case zE5BadStrands => k_is); (case zE1BadWord => k_is); (case zE2BadWord => k_is); (case zE3BadWord => k_is); (case zE4BadWord => k_is); (case zE5BadWord => k_is); (case zE1RigError => k_is); (case zE2RigError => k_is); (case zE3RigError => k_is); (case zE4RigError => k_is); (case zE5RigError => k_is); (case zE1TooMany => k_is); (case zE2TooMany => k_is); (case zE3TooMany => k_is); (case zE4TooMany => k_is); (case zE5TooMany => k_is); (case za0 => k_is); (case zl0 => k_is); (case zd0 => k_is); (case ze0 => k_is); (case za1 => k_is); (case zl1 => k_is); (case zd1 => k_is); (case ze1 => k_is); (case za2 => k_is); (case zl2 => k_is); (case zd2 => k_is); (case ze2 => k_is); (case za3 => k_is); (case zl3 => k_is); (case zd3 => k_is); (case ze3 => k_is); (case za4 => k_is); (case zl4 => k_is); (case zd4 => k_is); (case ze4 => k_is); (case za5 => k_is); (case zl5 => k_is); (case zd5 => k_is); (case ze5 => k_is); (case za6 => k_is); (case zl6 => k_is); (case zd6 => k_is); (case ze6 => k_is); (case za7 => k_is); (case zl7 => k_is); (case zd7 => k_is); (case ze7 => k_is); (case za8 => k_is); (case zl8 => k_is); (case zd8 => k_is); (case ze8 => k_is); (case za9 => k_is); (case zl9 => k_is); (case zd9 => k_is); (case ze9 => k_is); (case za10 => k_is); (case zl10 => k_is); (case zd10 => k_is); (case ze10 => k_is); (case za11 => k_is); (case zl11 => k_is); (case zd11 => k_is); (case ze11 => k_is); (case za12 => k_is); (case zl12 => k_is); (case zd12 => k_is); (case ze12 => k_is); (case za13 => k_is); (case zl13 => k_is); (case zd13 => k_is); (case ze13 => k_is); (case za14 => k_is); (case zl14 => k_is); (case zd14 => k_is); (case ze14 => k_is); (case za15 => k_is); (case zl15 => k_is); (case zd15 => k_is); (case ze15 => k_is); (case za16 => k_is); (case zl16 => k_is); (case zd16 => k_is); (case ze16 => k_is); (case za17 => k_is); (case zl17 => k_is); (case zd17 => k_is); (case ze17 => k_is)
