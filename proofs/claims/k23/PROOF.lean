import PyProof.Rows.All
import Wide.All
import OpenK.AllK
import Wide.FinOn
import HandS.ForMost
import HandS.ForExc
import HandS.Wide
import HandS.Gcd
import HandS.IsInst
import HandS.Style
import HandS.Zip
import PyProof.Rows.FactsN_isinstance
import HandS.NoneIn
import HandS.More
import PyProof.EqAt
import PyProof.EqKinds
import PyProof.TupleCall
import Open.SpecLaws
import KE.OsGo
import HandS.ForSpec
import KE.KExcIs
import PySem.Challenge.RW_surelycrossed_k23_counts_beside_the_ray
set_option Elab.async false
set_option linter.all false
set_option maxRecDepth 100000
/-! Value semantics over the hand layer: data D, who owns what, readings without a heap. -/
namespace VS
open PySem L2

/-! ### data -/
inductive D where
  | non | bl (b : Bool) | int (i : Int) | str (x : Str) | tup (xs : List D) | lst (xs : List D)

abbrev Ms := Addr → Prop
def SLx (K : PySem.W.Frag) (M : Ms) (H : Hp) (a : Addr) (xs : List V) : Prop := (¬ M a ∧ Rd H a (.lst xs)) ∨ SqL K (fun _ => none) a xs
def STx (K : PySem.W.Frag) (M : Ms) (H : Hp) (a : Addr) (xs : List V) : Prop := (¬ M a ∧ Rd H a (.tup xs)) ∨ SqT K (fun _ => none) a xs
mutual
/-- v is d, by what stands in H outside of M -/
inductive Rp (K : PySem.W.Frag) (M : Ms) (H : Hp) : V → D → Prop
  | non : Rp K M H .non .non
  | bl (b : Bool) : Rp K M H (.bl b) (.bl b)
  | int (i : Int) : Rp K M H (.int i) (.int i)
  | str (x : Str) : Rp K M H (.str x) (.str x)
  | lst {a : Addr} {xs : List V} {ds : List D} : SLx K M H a xs → RpA K M H xs ds → Rp K M H (.ref a) (.lst ds)
  | tup {a : Addr} {xs : List V} {ds : List D} : STx K M H a xs → RpA K M H xs ds → Rp K M H (.ref a) (.tup ds)
inductive RpA (K : PySem.W.Frag) (M : Ms) (H : Hp) : List V → List D → Prop
  | nil : RpA K M H [] []
  | cons {v : V} {vs : List V} {d : D} {ds : List D} : Rp K M H v d → RpA K M H vs ds → RpA K M H (v :: vs) (d :: ds)
end
/-- what is to be read there is to be read here -/
def Le (M : Ms) (H : Hp) (M' : Ms) (H' : Hp) : Prop := ∀ a u, ¬ M a → H a = some u → ¬ M' a ∧ H' a = some u
section
variable {K : PySem.W.Frag} {M M' : Ms} {H H' : Hp} {a : Addr} {xs : List V}
theorem Le.rd {u : HO} (e : Le M H M' H') (n : ¬ M a) (h : Rd H a u) : ¬ M' a ∧ Rd H' a u := by
  rcases h with h | ⟨o, h⟩
  · exact ⟨(e a _ n h).1, .inl (e a _ n h).2⟩
  · exact ⟨(e a _ n h).1, .inr ⟨o, (e a _ n h).2⟩⟩
theorem SLx.mono (e : Le M H M' H') (h : SLx K M H a xs) : SLx K M' H' a xs := h.imp (fun h => e.rd h.1 h.2) id
theorem STx.mono (e : Le M H M' H') (h : STx K M H a xs) : STx K M' H' a xs := h.imp (fun h => e.rd h.1 h.2) id
theorem no_rd {a : Addr} {u : HO} (h : Rd (fun _ => none) a u) : False := by
  rcases h with h | ⟨o, h⟩ <;> cases h
theorem SLx.sq (h : SLx K M H a xs) : SqL K H a xs := by
  rcases h with h | h | h
  · exact .inl h.2
  · exact (no_rd h).elim
  · exact .inr h
theorem STx.sq (h : STx K M H a xs) : SqT K H a xs := by
  rcases h with h | h | h
  · exact .inl h.2
  · exact (no_rd h).elim
  · exact .inr h
mutual
theorem Rp.mono (e : Le M H M' H') : ∀ (d : D) (v : V), Rp K M H v d → Rp K M' H' v d
  | .non, _, h => by cases h; exact .non
  | .bl b, _, h => by cases h; exact .bl b
  | .int i, _, h => by cases h; exact .int i
  | .str x, _, h => by cases h; exact .str x
  | .lst ds, v, h => by
    cases h with
    | lst h1 h2 => exact .lst (h1.mono e) (RpA.mono e ds _ h2)
  | .tup ds, v, h => by
    cases h with
    | tup h1 h2 => exact .tup (h1.mono e) (RpA.mono e ds _ h2)
theorem RpA.mono (e : Le M H M' H') : ∀ (ds : List D) (vs : List V), RpA K M H vs ds → RpA K M' H' vs ds
  | [], _, h => by cases h; exact .nil
  | d :: ds, _, h => by
    cases h with
    | cons h1 h2 => exact .cons (Rp.mono e d _ h1) (RpA.mono e ds _ h2)
end
theorem RpA.length : ∀ {vs : List V} {ds : List D}, RpA K M H vs ds → vs.length = ds.length
  | _, _, .nil => rfl
  | _, _, .cons _ t => by rw [List.length_cons, List.length_cons, RpA.length t]
theorem RpA.get : ∀ {vs : List V} {ds : List D} {i : Nat} {d : D}, RpA K M H vs ds → ds[i]? = some d → ∃ v, vs[i]? = some v ∧ Rp K M H v d
  | _, _, _, _, .nil, e => by simp at e
  | _, _, 0, _, .cons h _, e => by simp at e; subst e; exact ⟨_, rfl, h⟩
  | _, _, i + 1, d, .cons _ t, e => by
    obtain ⟨v, h1, h2⟩ := RpA.get (i := i) (d := d) t (by simpa using e)
    exact ⟨v, by simpa using h1, h2⟩
theorem RpA.get' : ∀ {vs : List V} {ds : List D} {i : Nat} {v : V}, RpA K M H vs ds → vs[i]? = some v → ∃ d, ds[i]? = some d ∧ Rp K M H v d
  | _, _, _, _, .nil, e => by simp at e
  | _, _, 0, _, .cons h _, e => by simp at e; subst e; exact ⟨_, rfl, h⟩
  | _, _, i + 1, d, .cons _ t, e => by
    obtain ⟨v, h1, h2⟩ := RpA.get' (i := i) (v := d) t (by simpa using e)
    exact ⟨v, by simpa using h1, h2⟩
theorem RpA.append : ∀ {vs ws : List V} {ds es : List D}, RpA K M H vs ds → RpA K M H ws es → RpA K M H (vs ++ ws) (ds ++ es)
  | _, _, _, _, .nil, h => h
  | _, _, _, _, .cons h t, k => .cons h (RpA.append t k)
theorem RpA.take : ∀ {vs : List V} {ds : List D} (n : Nat), RpA K M H vs ds → RpA K M H (vs.take n) (ds.take n)
  | _, _, 0, _ => .nil
  | _, _, _ + 1, .nil => .nil
  | _, _, n + 1, .cons h t => .cons h (RpA.take n t)
theorem RpA.drop : ∀ {vs : List V} {ds : List D} (n : Nat), RpA K M H vs ds → RpA K M H (vs.drop n) (ds.drop n)
  | _, _, 0, h => h
  | _, _, _ + 1, .nil => .nil
  | _, _, n + 1, .cons _ t => RpA.drop n t
theorem RpA.set {v : V} {d : D} (r : Rp K M H v d) : ∀ {vs : List V} {ds : List D} (i : Nat), RpA K M H vs ds → RpA K M H (vs.set i v) (ds.set i d)
  | _, _, _, .nil => .nil
  | _, _, 0, .cons _ t => .cons r t
  | _, _, i + 1, .cons q t => .cons q (RpA.set r i t)
theorem RpA.reverse : ∀ {vs : List V} {ds : List D}, RpA K M H vs ds → RpA K M H vs.reverse ds.reverse
  | _, _, .nil => .nil
  | _, _, .cons h t => by
    rw [List.reverse_cons, List.reverse_cons]
    exact RpA.append (RpA.reverse t) (.cons h .nil)
theorem RpA.ints : ∀ {vs : List V} (ns : List Int), RpA K M H vs (ns.map D.int) → vs = ns.map V.int
  | _, [], h => by cases h; rfl
  | _, n :: ns, h => by
    cases h with
    | cons h1 h2 =>
      cases h1
      rw [RpA.ints ns h2]
      rfl
theorem RpA.of_ints : ∀ (ns : List Int), RpA K M H (ns.map V.int) (ns.map D.int)
  | [] => .nil
  | n :: ns => .cons (.int n) (RpA.of_ints ns)
end

/-! ### what an error carries; the slots -/
structure Xc where
  cls : Value
  fld : Option (Str × D)
inductive Sl where
  | no | val (d : D) | own (a : Addr) (d : D) | exc (a : Addr) (cls : Value) (d : Option Addr) (x : Xc)
abbrev En := List Sl
def oas : En → List Addr
  | [] => []
  | .own a _ :: r => a :: oas r
  | _ :: r => oas r
def shp : Sl → Sl
  | .own a _ => .own a .non
  | s => s
def Shape (en en' : En) : Prop := en.map shp = en'.map shp
structure Cc where
  M : Ms
  F : Ms
  H : Hp
def Cc.add (C : Cc) (a : Addr) : Cc := { C with M := fun x => C.M x ∨ x = a }
def mm (C : Cc) (l : List Addr) : Ms := fun a => C.M a ∨ a ∈ l
def Cell (K : PySem.W.Frag) (M : Ms) (H : Hp) (a : Addr) : D → Prop
  | .lst ds => ∃ vs, H a = some (.lst vs) ∧ RpA K M H vs ds
  | _ => False
def XcR (K : PySem.W.Frag) (M : Ms) (H : Hp) (x : Xc) (cls : Value) (d : Option Addr) : Prop :=
  cls = x.cls ∧ match x.fld with
    | none => True
    | some (f, dv) => ∃ dd v, d = some dd ∧ ¬ M dd ∧ H dd = some (.xd [(f, v)]) ∧ Rp K M H v dv
def SlR (K : PySem.W.Frag) (C : Cc) (M : Ms) (H : Hp) : Option V → Sl → Prop
  | _, .no => True
  | some v, .val d => Rp K M H v d
  | some v, .own a d => v = .ref a ∧ ¬ C.M a ∧ (C.F a ∨ C.H a = none) ∧ Cell K M H a d
  | some v, .exc a cls d x => v = .ref a ∧ XcR K M H x cls d
  | none, _ => False
structure R (K : PySem.W.Frag) (C : Cc) (σ : L2.St) (H : Hp) (en : En) : Prop where
  sl : Paired (SlR K C (mm C (oas en)) H) σ en
  inj : (oas en).Nodup
  dom : ∀ a, C.M a ∨ C.F a → ∃ u, H a = some u
  keep : ∀ a u, C.H a = some u → ¬ C.F a → H a = some u
/-- what stands is kept but at the own addresses -/
def Keep (en : En) (H H' : Hp) : Prop := ∀ a u, a ∉ oas en → H a = some u → H' a = some u

section
variable {K : PySem.W.Frag} {C : Cc} {σ : L2.St} {H H' : Hp} {en en' : En} {a : Addr} {d : D} {v : V}
theorem Pget {α β : Type} {F : α → β → Prop} : ∀ {xs : List α} {ys : List β} {i : Nat} {y : β}, Paired F xs ys → ys[i]? = some y → ∃ x, xs[i]? = some x ∧ F x y
  | _, _, _, _, .nil, e => by simp at e
  | _, _, 0, _, .cons h _, e => by simp at e; subst e; exact ⟨_, rfl, h⟩
  | _, _, i + 1, y, .cons _ t, e => by
    obtain ⟨x, h1, h2⟩ := Pget (i := i) (y := y) t (by simpa using e)
    exact ⟨x, by simpa using h1, h2⟩
theorem Pset {α β : Type} {F : α → β → Prop} {x : α} {y : β} (r : F x y) : ∀ {xs : List α} {ys : List β} (i : Nat), Paired F xs ys → Paired F (xs.set i x) (ys.set i y)
  | _, _, _, .nil => .nil
  | _, _, 0, .cons _ t => .cons r t
  | _, _, i + 1, .cons q t => .cons q (Pset r i t)
theorem Pmap {α β : Type} {F G : α → β → Prop} : ∀ {xs : List α} {ys : List β}, Paired F xs ys → (∀ (i : Nat) (x : α) (y : β), xs[i]? = some x → ys[i]? = some y → F x y → G x y) → Paired G xs ys
  | _, _, .nil, _ => .nil
  | _, _, .cons h t, k => .cons (k 0 _ _ rfl rfl h) (Pmap t fun i x y e1 e2 => k (i + 1) x y (by simpa using e1) (by simpa using e2))
theorem Plen {α β : Type} {F : α → β → Prop} : ∀ {xs : List α} {ys : List β}, Paired F xs ys → xs.length = ys.length
  | _, _, .nil => rfl
  | _, _, .cons _ t => by rw [List.length_cons, List.length_cons, Plen t]
theorem oas_mem : ∀ {en : En} {a : Addr}, a ∈ oas en ↔ ∃ (i : Nat) (d : D), en[i]? = some (.own a d)
  | [], a => by simp [oas]
  | s :: r, a => by
    have ih := oas_mem (en := r) (a := a)
    have key : a ∈ oas (s :: r) ↔ (∃ d, s = .own a d) ∨ a ∈ oas r := by
      cases s with
      | own b e =>
        simp only [oas, List.mem_cons]
        constructor
        · rintro (rfl | h)
          · exact .inl ⟨e, rfl⟩
          · exact .inr h
        · rintro (⟨d, h⟩ | h)
          · cases h; exact .inl rfl
          · exact .inr h
      | _ => simp [oas]
    rw [key, ih]
    constructor
    · rintro (⟨d, rfl⟩ | ⟨i, d, h⟩)
      · exact ⟨0, d, rfl⟩
      · exact ⟨i + 1, d, by simpa using h⟩
    · rintro ⟨i, d, h⟩
      cases i with
      | zero => exact .inl ⟨d, by simpa using h⟩
      | succ i => exact .inr ⟨i, d, by simpa using h⟩
theorem oas_shape : ∀ {en en' : En}, Shape en en' → oas en = oas en'
  | [], [], _ => rfl
  | [], _ :: _, h => by simp [Shape] at h
  | _ :: _, [], h => by simp [Shape] at h
  | s :: r, s' :: r', h => by
    unfold Shape at h
    rw [List.map_cons, List.map_cons, List.cons.injEq] at h
    have ih := oas_shape (en := r) (en' := r') h.2
    have h1 := h.1
    cases s <;> cases s' <;> simp only [shp] at h1 <;> first | (cases h1; simp only [oas, ih]) | (cases h1)
theorem Shape.refl (en : En) : Shape en en := rfl
theorem Shape.trans {e1 e2 e3 : En} (a : Shape e1 e2) (b : Shape e2 e3) : Shape e1 e3 := Eq.trans a b
theorem Shape.symm {e1 e2 : En} (a : Shape e1 e2) : Shape e2 e1 := Eq.symm a
theorem Shape.at {i : Nat} {s : Sl} (h : Shape en en') (e : en[i]? = some s) : ∃ s', en'[i]? = some s' ∧ shp s = shp s' := by
  have h1 : (en.map shp)[i]? = some (shp s) := by rw [List.getElem?_map, e]; rfl
  have h' : en.map shp = en'.map shp := h
  rw [h', List.getElem?_map] at h1
  cases e' : en'[i]? with
  | none => rw [e'] at h1; cases h1
  | some s' =>
    rw [e'] at h1
    exact ⟨s', rfl, (Option.some.inj h1).symm⟩
theorem Shape.val {i : Nat} (h : Shape en en') (e : en[i]? = some (.val d)) : en'[i]? = some (.val d) := by
  obtain ⟨s', h1, h2⟩ := h.at e
  cases s' <;> simp only [shp] at h2 <;> cases h2
  exact h1
theorem Shape.own {i : Nat} (h : Shape en en') (e : en[i]? = some (.own a d)) : ∃ d', en'[i]? = some (.own a d') := by
  obtain ⟨s', h1, h2⟩ := h.at e
  cases s' <;> simp only [shp] at h2 <;> cases h2
  exact ⟨_, h1⟩
theorem Shape.set {i : Nat} {s s' : Sl} (e : en[i]? = some s) (h : shp s = shp s') : Shape en (en.set i s') := by
  unfold Shape
  rw [List.map_set, ← h]
  refine List.ext_getElem? fun j => ?_
  rw [List.getElem?_set]
  have hi : i < en.length := (List.getElem?_eq_some_iff.mp e).1
  by_cases hj : i = j
  · subst hj
    rw [if_pos rfl, List.length_map, if_pos hi, List.getElem?_map, e]
    rfl
  · rw [if_neg hj]
theorem Keep.refl : Keep en H H := fun _ _ _ h => h
theorem Keep.trans {H1 : Hp} (s : Shape en en') (a : Keep en H H1) (b : Keep en' H1 H') : Keep en H H' := fun x u n h => b x u (by rw [← oas_shape s]; exact n) (a x u n h)
theorem Keep.same (e : Same H H') : Keep en H H' := fun a u _ h => e a u h
theorem Keep.le (k : Keep en H H') (s : Shape en en') : Le (mm C (oas en)) H (mm C (oas en')) H' := fun a u n h => by
  rw [← oas_shape s]
  exact ⟨n, k a u (fun z => n (.inr z)) h⟩
theorem XcR.mono {M M' : Ms} {x : Xc} {cls : Value} {dx : Option Addr} (e : Le M H M' H') (h : XcR K M H x cls dx) : XcR K M' H' x cls dx := by
  obtain ⟨h1, h2⟩ := h
  refine ⟨h1, ?_⟩
  obtain ⟨c, f⟩ := x
  cases f with
  | none => trivial
  | some p =>
    obtain ⟨dd, v, e1, e2, e3, e4⟩ := h2
    exact ⟨dd, v, e1, (e dd _ e2 e3).1, (e dd _ e2 e3).2, Rp.mono e _ _ e4⟩
theorem Cell.mono {M M' : Ms} (e : Le M H M' H') (ha : ∀ u, H a = some u → H' a = some u) : ∀ {d : D}, Cell K M H a d → Cell K M' H' a d
  | .lst ds, ⟨vs, h1, h2⟩ => ⟨vs, ha _ h1, RpA.mono e _ _ h2⟩
theorem SlR.mono {M M' : Ms} {s : Sl} {o : Option V} (e : Le M H M' H') (ha : ∀ a d, s = .own a d → ∀ u, H a = some u → H' a = some u) (h : SlR K C M H o s) : SlR K C M' H' o s := by
  cases s with
  | no => trivial
  | val d =>
    cases o with
    | none => exact h
    | some v => exact Rp.mono e _ _ h
  | own a d =>
    cases o with
    | none => exact h
    | some v => exact ⟨h.1, h.2.1, h.2.2.1, h.2.2.2.mono e (ha a d rfl)⟩
  | exc a c dd x =>
    cases o with
    | none => exact h
    | some v => exact ⟨h.1, h.2.mono e⟩
theorem R.get {i : Nat} (r : R K C σ H en) (h : en[i]? = some (.val d)) : ∃ v, σ[i]? = some (some v) ∧ Rp K (mm C (oas en)) H v d := by
  obtain ⟨o, h1, h2⟩ := Pget r.sl h
  cases o with
  | none => exact h2.elim
  | some v => exact ⟨v, h1, h2⟩
theorem R.getO {i : Nat} (r : R K C σ H en) (h : en[i]? = some (.own a d)) : σ[i]? = some (some (.ref a)) ∧ ¬ C.M a ∧ (C.F a ∨ C.H a = none) ∧ Cell K (mm C (oas en)) H a d := by
  obtain ⟨o, h1, h2⟩ := Pget r.sl h
  cases o with
  | none => exact h2.elim
  | some v => obtain ⟨rfl, h3⟩ := h2; exact ⟨h1, h3⟩
theorem R.oM (r : R K C σ H en) (h : a ∈ oas en) : ¬ C.M a := by
  obtain ⟨i, d, e⟩ := oas_mem.mp h
  exact (r.getO e).2.1
theorem R.oF (r : R K C σ H en) (h : a ∈ oas en) : C.F a ∨ C.H a = none := by
  obtain ⟨i, d, e⟩ := oas_mem.mp h
  exact (r.getO e).2.2.1
theorem Cell.dom {M : Ms} : ∀ {d : D}, Cell K M H a d → ∃ u, H a = some u
  | .lst _, ⟨_, h, _⟩ => ⟨_, h⟩
theorem R.oD (r : R K C σ H en) (h : a ∈ oas en) : ∃ u, H a = some u := by
  obtain ⟨i, d, e⟩ := oas_mem.mp h
  exact (r.getO e).2.2.2.dom
theorem R.mD (r : R K C σ H en) (h : mm C (oas en) a) : ∃ u, H a = some u := by
  rcases h with h | h
  · exact r.dom a (.inl h)
  · exact r.oD h
/-- what is new is not tracked at the entry -/
theorem R.new (r : R K C σ H en) (h : H a = none) : C.H a = none := by
  cases e : C.H a with
  | none => rfl
  | some u =>
    by_cases f : C.F a
    · obtain ⟨u', e'⟩ := r.dom a (.inr f)
      rw [h] at e'; cases e'
    · have := r.keep a u e f
      rw [h] at this; cases this
/-- the heap grows -/
theorem R.grow (r : R K C σ H en) (e : Same H H') : R K C σ H' en where
  sl := Pmap r.sl fun i x y _ _ h => h.mono (fun a u n q => ⟨n, e a u q⟩) fun a d _ u q => e a u q
  inj := r.inj
  dom := fun a h => let ⟨u, q⟩ := r.dom a h; ⟨u, e a u q⟩
  keep := fun a u h n => e a u (r.keep a u h n)
theorem same_new {p : Addr} {o : HO} (h : H p = none) : Same H (upd H p o) := fun b x e => by
  rw [upd_ne (ne_of_none e h)]
  exact e
/-- a new object is held aside -/
theorem R.hold {p : Addr} {o : HO} (r : R K C σ H en) (h : H p = none) : R K (C.add p) σ (upd H p o) en where
  sl := Pmap r.sl fun i x y _ hy q => by
    have q' : SlR K C (mm (C.add p) (oas en)) (upd H p o) x y := q.mono (fun a u n z => ⟨fun w => by
      rcases w with (w | w) | w
      · exact n (.inl w)
      · rw [w, h] at z; cases z
      · exact n (.inr w), same_new h a u z⟩) fun a d _ u z => same_new h a u z
    cases y with
    | own b d =>
      cases x with
      | none => exact q'.elim
      | some v =>
        refine ⟨q'.1, fun w => ?_, q'.2.2⟩
        rcases w with w | w
        · exact q'.2.1 w
        · obtain ⟨u, z⟩ := r.oD (oas_mem.mpr ⟨i, d, hy⟩)
          rw [w, h] at z; cases z
    | no => exact q'
    | val d => cases x <;> exact q'
    | exc a1 c1 d1 x1 => cases x <;> exact q'
  inj := r.inj
  dom := fun a w => by
    rcases w with (w | w) | w
    · obtain ⟨u, q⟩ := r.dom a (.inl w); exact ⟨u, same_new h a u q⟩
    · exact ⟨o, by rw [w]; exact upd_same⟩
    · obtain ⟨u, q⟩ := r.dom a (.inr w); exact ⟨u, same_new h a u q⟩
  keep := fun a u q n => same_new h a u (r.keep a u q n)
theorem le_add {l : List Addr} : Le (mm (C.add a) l) H (mm C l) H := fun b u n q => ⟨fun w => n (w.imp .inl id), q⟩
/-- .. and let go -/
theorem R.drop (r : R K (C.add a) σ H en) : R K C σ H en where
  sl := Pmap r.sl fun i x y _ hy q => by
    have q' : SlR K (C.add a) (mm C (oas en)) H x y := q.mono le_add fun _ _ _ _ z => z
    cases y with
    | own b d =>
      cases x with
      | none => exact q'.elim
      | some v => exact ⟨q'.1, fun w => q'.2.1 (.inl w), q'.2.2⟩
    | no => exact q'
    | val d => cases x <;> exact q'
    | exc a1 c1 d1 x1 => cases x <;> exact q'
  inj := r.inj
  dom := fun a w => r.dom a (w.imp .inl id)
  keep := r.keep
end
end VS

namespace VS
open PySem L2

/-! ### results -/
inductive Res where
  | val (d : D) | own (a : Addr) (d : D) | bor (i : Nat)
def Cc.ext (C : Cc) : Res → Cc
  | .own a _ => C.add a
  | _ => C
def Hold (K : PySem.W.Frag) (C : Cc) (r : Res) (en : En) (H : Hp) (v : V) : Prop :=
  match r with
  | .val d => Rp K (mm C (oas en)) H v d
  | .own a d => v = .ref a ∧ ¬ C.M a ∧ (C.F a ∨ C.H a = none) ∧ Cell K (mm (C.add a) (oas en)) H a d
  | .bor i => ∃ a d, en[i]? = some (.own a d) ∧ v = .ref a
def Cc.exts (C : Cc) : List Res → Cc
  | [] => C
  | r :: rs => (C.ext r).exts rs
def HoldA (K : PySem.W.Frag) : Cc → List Res → En → Hp → List V → Prop
  | _, [], _, _, vs => vs = []
  | C, r :: rs, en, H, vs => ∃ v ws, vs = v :: ws ∧ Hold K (C.exts rs) r en H v ∧ HoldA K (C.ext r) rs en H ws
/-- a new list is new -/
def NewR (H : Hp) : Res → Prop
  | .own p _ => H p = none
  | _ => True
theorem ext_ext {C : Cc} {r1 r2 : Res} : (C.ext r1).ext r2 = (C.ext r2).ext r1 := by
  cases r1 <;> cases r2 <;> simp [Cc.ext, Cc.add]
  funext x
  exact propext ⟨fun z => z.elim (fun z => z.elim (fun z => .inl (.inl z)) .inr) fun z => .inl (.inr z), fun z => z.elim (fun z => z.elim (fun z => .inl (.inl z)) .inr) fun z => .inl (.inr z)⟩
theorem exts_ext : ∀ {rs : List Res} {C : Cc} {r : Res}, (C.exts rs).ext r = (C.ext r).exts rs
  | [], _, _ => rfl
  | r' :: rs, C, r => by
    show ((C.ext r').exts rs).ext r = ((C.ext r).ext r').exts rs
    rw [exts_ext (rs := rs), ext_ext]
/-- what is seen of a result -/
def rd (en : En) : Res → Option D
  | .val d => some d
  | .own _ d => some d
  | .bor i => match en[i]? with
    | some (.own _ d) => some d
    | _ => none
section
variable {K : PySem.W.Frag} {C : Cc} {σ : L2.St} {H H' : Hp} {en en' : En} {a : Addr} {d : D} {v : V} {r : Res}
theorem R.dropX : ∀ {r : Res}, R K (C.ext r) σ H en → R K C σ H en
  | .val _, h => h
  | .own _ _, h => h.drop
  | .bor _, h => h
theorem R.dropA : ∀ {rs : List Res} {C : Cc}, R K (C.exts rs) σ H en → R K C σ H en
  | [], _, h => h
  | r :: rs, C, h => (R.dropA (rs := rs) (C := C.ext r) h).dropX
theorem mm_ext (x : Addr) : ∀ {r : Res}, mm C (oas en) x → mm (C.ext r) (oas en) x
  | .val _, h => h
  | .own _ _, h => h.imp .inl id
  | .bor _, h => h
theorem mm_exts (x : Addr) : ∀ {rs : List Res} {C : Cc}, mm C (oas en) x → mm (C.exts rs) (oas en) x
  | [], _, h => h
  | r :: rs, C, h => mm_exts x (rs := rs) (C := C.ext r) (mm_ext x h)
theorem le_ext : Le (mm (C.ext r) (oas en)) H (mm C (oas en)) H := fun a u n h => ⟨fun z => n (mm_ext a z), h⟩
theorem le_exts {rs : List Res} : Le (mm (C.exts rs) (oas en)) H (mm C (oas en)) H := fun a u n h => ⟨fun z => n (mm_exts a z), h⟩
theorem ext_F : ∀ {r : Res}, (C.ext r).F = C.F
  | .val _ => rfl
  | .own _ _ => rfl
  | .bor _ => rfl
theorem ext_H : ∀ {r : Res}, (C.ext r).H = C.H
  | .val _ => rfl
  | .own _ _ => rfl
  | .bor _ => rfl
/-- a result stays through what follows -/
theorem Hold.stay (h : Hold K C r en H v) (R2 : R K (C.ext r) σ H' en') (s : Shape en en') (k : Keep en H H') : Hold K C r en' H' v := by
  cases r with
  | val d => exact Rp.mono (k.le s) _ _ h
  | own a d =>
    obtain ⟨h1, h2, h3, h4⟩ := h
    refine ⟨h1, h2, h3, Cell.mono (k.le s) (fun u q => k a u (fun z => ?_) q) h4⟩
    rw [oas_shape s] at z
    exact R2.oM z (.inr rfl)
  | bor i =>
    obtain ⟨a, d, h1, h2⟩ := h
    obtain ⟨d', h3⟩ := s.own h1
    exact ⟨a, d', h3, h2⟩
theorem HoldA.stay : ∀ {rs : List Res} {C : Cc} {vs : List V}, HoldA K C rs en H vs → R K (C.exts rs) σ H' en' → Shape en en' → Keep en H H' → HoldA K C rs en' H' vs
  | [], _, _, h, _, _, _ => h
  | r :: rs, C, _, ⟨v, ws, e, h1, h2⟩, R2, s, k => ⟨v, ws, e, h1.stay (by rw [exts_ext]; exact R2) s k, HoldA.stay (rs := rs) h2 R2 s k⟩
/-- what a reading sees: elements that no one may change -/
def Sq (K : PySem.W.Frag) (C : Cc) (en : En) (H : Hp) (v : V) : D → Prop
  | .lst ds => ∃ a vs, v = .ref a ∧ SqL K H a vs ∧ RpA K (mm C (oas en)) H vs ds
  | .tup ds => ∃ a vs, v = .ref a ∧ SqT K H a vs ∧ RpA K (mm C (oas en)) H vs ds
  | d => Rp K (mm C (oas en)) H v d
theorem Rp.sq : ∀ {d : D}, Rp K (mm C (oas en)) H v d → Sq K C en H v d
  | .lst _, .lst h1 h2 => ⟨_, _, rfl, h1.sq, h2⟩
  | .tup _, .tup h1 h2 => ⟨_, _, rfl, h1.sq, h2⟩
  | .non, h => h
  | .bl _, h => h
  | .int _, h => h
  | .str _, h => h
theorem Cell.sq {M : Ms} (e : Le M H (mm C (oas en)) H) : ∀ {d : D}, Cell K M H a d → Sq K C en H (.ref a) d
  | .lst _, ⟨vs, h1, h2⟩ => ⟨a, vs, rfl, SqL.of h1, RpA.mono e _ _ h2⟩
/-- a result is seen -/
theorem Hold.sq (h : Hold K C r en H v) (R1 : R K (C.ext r) σ H en) (e : rd en r = some d) : Sq K C en H v d := by
  cases r with
  | val d' => cases e; exact Rp.sq h
  | own a d' => cases e; obtain ⟨rfl, _, _, h⟩ := h; exact h.sq le_add
  | bor i =>
    obtain ⟨a, d', h1, rfl⟩ := h
    have e' : some d' = some d := by simpa [rd, h1] using e
    cases e'
    exact ((R1.dropX (r := .bor i)).getO h1).2.2.2.sq (fun _ _ n q => ⟨n, q⟩)
/-- a result as a value: a new list is let go -/
def vl : Res → Option D
  | .val d => some d
  | .own _ d => some d
  | .bor _ => none
theorem Cell.rp {M M' : Ms} (e : Le M H M' H) (n : ¬ M' a) : ∀ {d : D}, Cell K M H a d → Rp K M' H (.ref a) d
  | .lst _, ⟨vs, h1, h2⟩ => .lst (.inl ⟨n, .inl h1⟩) (RpA.mono e _ _ h2)
theorem Hold.rp (h : Hold K C r en H v) (R1 : R K (C.ext r) σ H en) (e : vl r = some d) : Rp K (mm C (oas en)) H v d := by
  cases r with
  | val d' => cases e; exact h
  | own a d' =>
    cases e
    obtain ⟨rfl, h1, _, h⟩ := h
    refine h.rp le_add fun z => ?_
    rcases z with z | z
    · exact h1 z
    · exact R1.oM z (.inr rfl)
  | bor i => cases e
def vls : List Res → Option (List D)
  | [] => some []
  | r :: rs => match vl r, vls rs with
    | some d, some ds => some (d :: ds)
    | _, _ => none
theorem HoldA.rp : ∀ {rs : List Res} {C : Cc} {vs : List V} {ds : List D}, HoldA K C rs en H vs → R K (C.exts rs) σ H en → vls rs = some ds → RpA K (mm C (oas en)) H vs ds
  | [], _, _, _, h, _, e => by cases h; cases e; exact .nil
  | r :: rs, C, _, ds, ⟨v, ws, e, h1, h2⟩, R1, e' => by
    subst e
    unfold vls at e'
    cases e1 : vl r with
    | none => rw [e1] at e'; cases e'
    | some d =>
      cases e2 : vls rs with
      | none => rw [e1, e2] at e'; cases e'
      | some ds' =>
        rw [e1, e2] at e'
        cases e'
        refine .cons (Rp.mono le_exts _ _ (h1.rp (by rw [exts_ext]; exact R1) e1)) ?_
        exact RpA.mono le_ext _ _ (HoldA.rp (rs := rs) h2 R1 e2)
end

/-! ### readings without a heap -/
abbrev Px := Xc → En → Prop
abbrev TDe := Px → En → (Res → En → Prop) → Prop
abbrev TDt := Px → En → (Bool → En → Prop) → Prop
abbrev TDa := Px → En → (List Res → En → Prop) → Prop
def XOk (K : PySem.W.Frag) (C : Cc) (W : WX) (σ : L2.St) (Ψ : Px) : Prop :=
  ∀ x en cls d H, Ψ x en → R K C σ H en → XcR K (mm C (oas en)) H x cls d → W cls d σ H
def lE (K : PySem.W.Frag) (W : WX) (T : TDe) : TE := fun σ H Q => ∃ (C : Cc) (en : En) (Φ : Res → En → Prop) (Ψ : Px), R K C σ H en ∧ T Ψ en Φ ∧ XOk K C W σ Ψ ∧
  ∀ r en' v H', Φ r en' → R K (C.ext r) σ H' en' → Hold K C r en' H' v → Shape en en' → Keep en H H' → NewR H r → Q v H'
def lT (K : PySem.W.Frag) (W : WX) (T : TDt) : TT := fun σ H Q => ∃ (C : Cc) (en : En) (Φ : Bool → En → Prop) (Ψ : Px), R K C σ H en ∧ T Ψ en Φ ∧ XOk K C W σ Ψ ∧
  ∀ b en' H', Φ b en' → R K C σ H' en' → Shape en en' → Keep en H H' → Q b H'
def lA (K : PySem.W.Frag) (W : WX) (T : TDa) : TA := fun σ H Q => ∃ (C : Cc) (en : En) (Φ : List Res → En → Prop) (Ψ : Px), R K C σ H en ∧ T Ψ en Φ ∧ XOk K C W σ Ψ ∧
  ∀ rs en' vs H', Φ rs en' → R K (C.exts rs) σ H' en' → HoldA K C rs en' H' vs → Shape en en' → Keep en H H' → (∀ r, r ∈ rs → NewR H r) → Q vs H'
abbrev DE (X : Cx) (W : WX) (e : Expr) (T : TDe) : Prop := PE X e (lE X.K W T)
abbrev DT (X : Cx) (W : WX) (e : Expr) (T : TDt) : Prop := PT X e (lT X.K W T)
abbrev DA (X : Cx) (W : WX) (es : List Expr) (T : TDa) : Prop := PA X es (lA X.K W T)
theorem PEi {X : Cx} {e : Expr} {t t' : TE} (h : PE X e t) (i : ∀ σ H Q, t' σ H Q → t σ H Q) : PE X e t' := ⟨fun pins s σ H Q I q => h.run pins s σ H Q I (i σ H Q q)⟩
theorem PTi {X : Cx} {e : Expr} {t t' : TT} (h : PT X e t) (i : ∀ σ H Q, t' σ H Q → t σ H Q) : PT X e t' := ⟨fun pins s σ H Q I q => h.run pins s σ H Q I (i σ H Q q)⟩
theorem PAi {X : Cx} {e : List Expr} {t t' : TA} (h : PA X e t) (i : ∀ σ H Q, t' σ H Q → t σ H Q) : PA X e t' := ⟨fun pos pins s σ H Q I q => h.run pos pins s σ H Q I (i σ H Q q)⟩
theorem PSi {X : Cx} {st : Stmt} {t t' : TS} (h : PS X st t) (i : ∀ D σ H, t' D σ H → t D σ H) : PS X st t' := ⟨fun pins s σ H D I q => h.run pins s σ H D I (i D σ H q)⟩
theorem PSsi {X : Cx} {st : List Stmt} {t t' : TS} (h : PSs X st t) (i : ∀ D σ H, t' D σ H → t D σ H) : PSs X st t' := ⟨fun pins s σ H D I q => h.run pins s σ H D I (i D σ H q)⟩
theorem Keep.new {K : PySem.W.Frag} {C : Cc} {σ : L2.St} {H H1 : Hp} {en en1 : En} {p : Addr} (k : Keep en H H1) (s : Shape en en1) (R1 : R K C σ H1 en1) (h : H1 p = none) : H p = none := by
  cases e : H p with
  | none => rfl
  | some u =>
    by_cases m : p ∈ oas en
    · rw [oas_shape s] at m
      obtain ⟨u', e'⟩ := R1.oD m
      rw [h] at e'; cases e'
    · rw [k p u m e] at h; cases h
theorem NewR.back {K : PySem.W.Frag} {C : Cc} {σ : L2.St} {H H1 : Hp} {en en1 : En} {r : Res} (n : NewR H1 r) (k : Keep en H H1) (s : Shape en en1) (R1 : R K C σ H1 en1) : NewR H r := by
  cases r with
  | own p d => exact k.new s R1 n
  | _ => trivial
section
variable {K : PySem.W.Frag} {C : Cc} {σ : L2.St} {W : WX} {Ψ : Px}
theorem XOk.ext {r : Res} (h : XOk K C W σ Ψ) : XOk K (C.ext r) W σ Ψ := fun x en cls d H q R1 hx => h x en cls d H q R1.dropX (hx.mono le_ext)
theorem XOk.exts {rs : List Res} (h : XOk K C W σ Ψ) : XOk K (C.exts rs) W σ Ψ := fun x en cls d H q R1 hx => h x en cls d H q R1.dropA (hx.mono le_exts)
end

/-! ### expressions -/
def tVarD (i : Nat) : TDe := fun _ en Φ => match en[i]? with
  | some (.val d) => Φ (.val d) en
  | some (.own _ _) => Φ (.bor i) en
  | _ => False
def tConD (d : D) : TDe := fun _ en Φ => Φ (.val d) en
/-- two parts, what both are seen as -/
def tOpD (g : D → D → (Res → Prop) → Prop) (ta tb : TDe) : TDe := fun Ψ en Φ => ta Ψ en fun ra en1 => tb Ψ en1 fun rb en2 =>
  match rd en2 ra, rd en2 rb with
  | some x, some y => g x y fun r => Φ r en2
  | _, _ => False
def tUnD (g : D → (Res → Prop) → Prop) (ta : TDe) : TDe := fun Ψ en Φ => ta Ψ en fun ra en1 =>
  match rd en1 ra with
  | some x => g x fun r => Φ r en1
  | _ => False
/-- a value's operator, its meaning on data -/
def OpD (X : Cx) (r : R2) (g : D → D → (Res → Prop) → Prop) : Prop :=
  ∀ (C : Cc) (σ : L2.St) (H : Hp) (en : En) (x y : D) (v w : V) (Φ : Res → Prop) (Q : VK), R X.K C σ H en → Sq X.K C en H v x → Sq X.K C en H w y → g x y Φ →
    (∀ z v' H', Φ z → R X.K (C.ext z) σ H' en → Hold X.K C z en H' v' → Same H H' → NewR H z → Q v' H') → r v w H Q
def UnD (X : Cx) (r : V → Hp → VK → Prop) (g : D → (Res → Prop) → Prop) : Prop :=
  ∀ (C : Cc) (σ : L2.St) (H : Hp) (en : En) (x : D) (v : V) (Φ : Res → Prop) (Q : VK), R X.K C σ H en → Sq X.K C en H v x → g x Φ →
    (∀ z v' H', Φ z → R X.K (C.ext z) σ H' en → Hold X.K C z en H' v' → Same H H' → NewR H z → Q v' H') → r v H Q
section
variable {X : Cx} {W : WX} {a b c e : Expr} {ta tb tc te : TDe} {pos : Pos} {i : Nat} {es : List Expr}
theorem de_var' {i : Nat} {e : Expr} (h : PE X e (tVar i)) : DE X W e (tVarD i) := PEi h fun σ H Q h => by
  obtain ⟨C, en, Φ, Ψ, R1, hT, hX, k⟩ := h
  unfold tVarD at hT
  cases e : en[i]? with
  | none => rw [e] at hT; exact hT.elim
  | some s =>
    rw [e] at hT
    cases s with
    | no => exact hT.elim
    | val d =>
      obtain ⟨v, h1, h2⟩ := R1.get e
      exact ⟨v, h1, k _ _ v H hT R1 h2 rfl Keep.refl trivial⟩
    | own a d => exact ⟨_, (R1.getO e).1, k _ _ _ H hT R1 ⟨a, d, e, rfl⟩ rfl Keep.refl trivial⟩
    | exc => exact hT.elim
theorem de_con' {v : V} {d : D} {e : Expr} (h : PE X e (tC v)) (r : ∀ K M H, Rp K M H v d) : DE X W e (tConD d) := PEi h fun σ H Q h => by
  obtain ⟨C, en, Φ, Ψ, R1, hT, hX, k⟩ := h
  exact k _ _ v H hT R1 (r _ _ _) rfl Keep.refl trivial
theorem dv (i : Nat) {x : Str} {pos : Pos} (hN : X.N[i]? = some x := by rfl) (hv : Vis X.env.scope x := by first | exact Or.inl rfl | exact Or.inr (Or.inl rfl) | exact Or.inr (Or.inr rfl)) (hd : (x == ("__debug__" : Str)) = false := by decide)
    (hcd : (x == ("__classdict__" : Str)) = false := by decide) : DE X W (.Name x pos) (tVarD i) := de_var' (pe_var hN hv hd hcd)
theorem de_int {i : Int} {j pos} : DE X W (.Constant (.int i) j pos) (tConD (.int i)) := de_con' pe_int fun _ _ _ => .int i
theorem de_bl {b : Bool} {j pos} : DE X W (.Constant (.bool b) j pos) (tConD (.bl b)) := de_con' pe_bl fun _ _ _ => .bl b
theorem de_non {j pos} : DE X W (.Constant .none j pos) (tConD .non) := de_con' pe_non fun _ _ _ => .non
theorem de_str {x : Str} {j pos} : DE X W (.Constant (.str x) j pos) (tConD (.str x)) := de_con' pe_str fun _ _ _ => .str x
/-- two parts, one after the other -/
theorem two {K : PySem.W.Frag} {r : R2} {g : D → D → (Res → Prop) → Prop} {σ : L2.St} {H : Hp} {Q : VK}
    (ho : ∀ (C : Cc) (σ : L2.St) (H : Hp) (en : En) (x y : D) (v w : V) (Φ : Res → Prop) (Q : VK), R K C σ H en → Sq K C en H v x → Sq K C en H w y → g x y Φ →
      (∀ z v' H', Φ z → R K (C.ext z) σ H' en → Hold K C z en H' v' → Same H H' → NewR H z → Q v' H') → r v w H Q)
    (h : lE K W (tOpD g ta tb) σ H Q) : tOp r (lE K W ta) (lE K W tb) σ H Q := by
  obtain ⟨C, en, Φ, Ψ, R0, hT, hX, k⟩ := h
  refine ⟨C, en, _, Ψ, R0, hT, hX, fun ra en1 v1 H1 h1 R1 hold1 s1 k1 _ => ?_⟩
  refine ⟨C.ext ra, en1, _, Ψ, R1, h1, hX.ext, fun rb en2 v2 H2 h2 R2 hold2 s2 k2 _ => ?_⟩
  have R2' := R2.dropX
  have hold1' := hold1.stay R2' s2 k2
  cases ex : rd en2 ra with
  | none => simp only [ex] at h2
  | some x =>
    cases ey : rd en2 rb with
    | none => simp only [ex, ey] at h2
    | some y =>
      simp only [ex, ey] at h2
      refine ho C σ H2 en2 x y v1 v2 _ Q R2'.dropX (hold1'.sq R2' ex) ?_ h2 fun z v' H' hz R3 hold3 sm nw => k z en2 v' H' hz R3 hold3 (s1.trans s2) ((k1.trans s1 k2).trans (s1.trans s2) (Keep.same sm)) (nw.back (k1.trans s1 k2) (s1.trans s2) R2'.dropX)
      have q := hold2.sq R2 ey
      revert q
      cases y with
      | lst ds => rintro ⟨a, vs, e1, e2, e3⟩; exact ⟨a, vs, e1, e2, RpA.mono le_ext _ _ e3⟩
      | tup ds => rintro ⟨a, vs, e1, e2, e3⟩; exact ⟨a, vs, e1, e2, RpA.mono le_ext _ _ e3⟩
      | non => exact fun q => Rp.mono le_ext _ _ q
      | bl => exact fun q => Rp.mono le_ext _ _ q
      | int => exact fun q => Rp.mono le_ext _ _ q
      | str => exact fun q => Rp.mono le_ext _ _ q
theorem de_op {op : Operator} {r : R2} {g : D → D → (Res → Prop) → Prop} (ho : OpR X (binaryOp op) r) (hg : OpD X r g) (ha : DE X W a ta) (hb : DE X W b tb) : DE X W (.BinOp a op b pos) (tOpD g ta tb) :=
  PEi (pe_op ho ha hb) fun σ H Q h => two hg h
theorem de_cmp {op : CmpOp} {r : R2} {g : D → D → (Res → Prop) → Prop} (ho : OpR X (compareOp op) r) (hg : OpD X r g) (ha : DE X W a ta) (hb : DE X W b tb) (hm : behindInMarks op b = false := by exact nomark _) : DE X W (.Compare a [op] [b] pos) (tOpD g ta tb) :=
  PEi (pe_cmpR ho ha hb hm) fun σ H Q h => two hg h
theorem de_ix {r : R2} {g : D → D → (Res → Prop) → Prop} (ho : IxR X r) (hg : OpD X r g) (ha : DE X W a ta) (hb : DE X W b tb) (hs : PlainIx b := by exact fun _ _ => rfl) : DE X W (.Subscript a b pos) (tOpD g ta tb) :=
  PEi (pe_ix ho ha hb hs) fun σ H Q h => two hg h
theorem de_un {op : UnaryOp} {r : V → Hp → VK → Prop} {g : D → (Res → Prop) → Prop} (ho : UnR X (unaryOp op) r) (hg : UnD X r g) (ha : DE X W a ta) : DE X W (.UnaryOp op a pos) (tUnD g ta) :=
  PEi (pe_un ho ha) fun σ H Q h => by
    obtain ⟨C, en, Φ, Ψ, R0, hT, hX, k⟩ := h
    refine ⟨C, en, _, Ψ, R0, hT, hX, fun ra en1 v1 H1 h1 R1 hold1 s1 k1 _ => ?_⟩
    cases ex : rd en1 ra with
    | none => simp only [ex] at h1
    | some x =>
      simp only [ex] at h1
      exact hg C σ H1 en1 x v1 _ Q R1.dropX (hold1.sq R1 ex) h1 fun z v' H' hz R3 hold3 sm nw => k z en1 v' H' hz R3 hold3 s1 (k1.trans s1 (Keep.same sm)) (nw.back k1 s1 R1.dropX)
end

/-! ### operators -/
def gII (Cd : Int → Int → Prop) (g : Int → Int → Int) : D → D → (Res → Prop) → Prop := fun x y Φ => match x, y with
  | .int i, .int j => Cd i j ∧ Φ (.val (.int (g i j)))
  | _, _ => False
def gI0 (g : Int → Int → Int) : D → D → (Res → Prop) → Prop := fun x y Φ => match x, y with
  | .int i, .int j => Φ (.val (.int (g i j)))
  | _, _ => False
def gIB (g : Int → Int → Bool) : D → D → (Res → Prop) → Prop := fun x y Φ => match x, y with
  | .int i, .int j => Φ (.val (.bl (g i j)))
  | _, _ => False
def gU (g : Int → Int) : D → (Res → Prop) → Prop := fun x Φ => match x with
  | .int i => Φ (.val (.int (g i)))
  | _ => False
section
variable {X : Cx}
theorem od_II {Cd : Int → Int → Prop} {g : Int → Int → Int} : OpD X (rI Cd fun i j => .int (g i j)) (gII Cd g) := by
  intro C σ H en x y v w Φ Q R1 hx hy h k
  cases x <;> cases y <;> first | exact h.elim | skip
  cases hx; cases hy
  exact ⟨_, _, rfl, rfl, h.1, k _ _ H h.2 R1 (.int _) (fun _ _ q => q) trivial⟩
theorem od_I0 {g : Int → Int → Int} : OpD X (rI0 fun i j => .int (g i j)) (gI0 g) := by
  intro C σ H en x y v w Φ Q R1 hx hy h k
  cases x <;> cases y <;> first | exact h.elim | skip
  cases hx; cases hy
  exact ⟨_, _, rfl, rfl, k _ _ H h R1 (.int _) (fun _ _ q => q) trivial⟩
theorem od_IB {g : Int → Int → Bool} : OpD X (rI0 fun i j => .bl (g i j)) (gIB g) := by
  intro C σ H en x y v w Φ Q R1 hx hy h k
  cases x <;> cases y <;> first | exact h.elim | skip
  cases hx; cases hy
  exact ⟨_, _, rfl, rfl, k _ _ H h R1 (.bl _) (fun _ _ q => q) trivial⟩
theorem ud_U {g : Int → Int} : UnD X (rU fun i => .int (g i)) (gU g) := by
  intro C σ H en x v Φ Q R1 hx h k
  cases x <;> first | exact h.elim | skip
  cases hx
  exact ⟨_, rfl, k _ _ H h R1 (.int _) (fun _ _ q => q) trivial⟩
end
section
variable {X : Cx} {W : WX} {a b c e : Expr} {ta tb tc te : TDe} {pos : Pos}
theorem de_add (ha : DE X W a ta) (hb : DE X W b tb) : DE X W (.BinOp a .Add b pos) (tOpD (gI0 (· + ·)) ta tb) := de_op op_add od_I0 ha hb
theorem de_sub (ha : DE X W a ta) (hb : DE X W b tb) : DE X W (.BinOp a .Sub b pos) (tOpD (gI0 (· - ·)) ta tb) := de_op op_sub od_I0 ha hb
theorem de_mul (ha : DE X W a ta) (hb : DE X W b tb) : DE X W (.BinOp a .Mult b pos) (tOpD (gII CMulW (· * ·)) ta tb) := de_op op_mulW od_II ha hb
theorem de_fdiv (ha : DE X W a ta) (hb : DE X W b tb) : DE X W (.BinOp a .FloorDiv b pos) (tOpD (gII CDivW (· / ·)) ta tb) := de_op op_fdivW od_II ha hb
theorem de_mod (ha : DE X W a ta) (hb : DE X W b tb) : DE X W (.BinOp a .Mod b pos) (tOpD (gII (fun _ j => 0 < j) (· % ·)) ta tb) := de_op op_mod od_II ha hb
theorem de_pow (ha : DE X W a ta) (hb : DE X W b tb) : DE X W (.BinOp a .Pow b pos) (tOpD (gII CPow fun i j => i ^ j.toNat) ta tb) := de_op op_pow od_II ha hb
theorem de_neg (ha : DE X W a ta) : DE X W (.UnaryOp .USub a pos) (tUnD (gU fun i => -i) ta) := de_un un_neg ud_U ha
theorem de_lt (ha : DE X W a ta) (hb : DE X W b tb) : DE X W (.Compare a [.Lt] [b] pos) (tOpD (gIB fun i j => decide (i < j)) ta tb) := de_cmp op_lt od_IB ha hb
theorem de_le (ha : DE X W a ta) (hb : DE X W b tb) : DE X W (.Compare a [.LtE] [b] pos) (tOpD (gIB fun i j => decide (i ≤ j)) ta tb) := de_cmp op_le od_IB ha hb
theorem de_gt (ha : DE X W a ta) (hb : DE X W b tb) : DE X W (.Compare a [.Gt] [b] pos) (tOpD (gIB fun i j => decide (j < i)) ta tb) := de_cmp op_gt od_IB ha hb
theorem de_ge (ha : DE X W a ta) (hb : DE X W b tb) : DE X W (.Compare a [.GtE] [b] pos) (tOpD (gIB fun i j => decide (j ≤ i)) ta tb) := de_cmp op_ge od_IB ha hb
end
end VS

namespace VS
open PySem L2

/-! ### == of data -/
mutual
def py : D → PyData
  | .non => .none
  | .bl b => .bool b
  | .int i => .int i
  | .str x => .str x
  | .tup xs => .tuple (pys xs)
  | .lst xs => .list (pys xs)
def pys : List D → List PyData
  | [] => []
  | d :: ds => py d :: pys ds
end
section
variable {K : PySem.W.Frag} {M : Ms} {H : Hp}
mutual
theorem Rp.dp : ∀ (d : D) (v : V), Rp K M H v d → Dp K H v (py d)
  | .non, _, h => by cases h; exact .non
  | .bl b, _, h => by cases h; exact .bl b
  | .int i, _, h => by cases h; exact .int i
  | .str x, _, h => by cases h; exact .str x
  | .lst ds, v, h => by
    cases h with
    | lst h1 h2 => simp only [py]; exact .lst h1.sq (RpA.dp ds _ h2)
  | .tup ds, v, h => by
    cases h with
    | tup h1 h2 => simp only [py]; exact .tup h1.sq (RpA.dp ds _ h2)
theorem RpA.dp : ∀ (ds : List D) (vs : List V), RpA K M H vs ds → DpAll K H vs (pys ds)
  | [], _, h => by cases h; simp only [pys]; exact .nil
  | d :: ds, _, h => by
    cases h with
    | cons h1 h2 => simp only [pys]; exact .cons (Rp.dp d _ h1) (RpA.dp ds _ h2)
end
theorem Sq.dp {C : Cc} {en : En} {v : V} : ∀ {d : D}, Sq K C en H v d → Dp K H v (py d)
  | .lst ds, ⟨a, vs, e, h1, h2⟩ => by subst e; simp only [py]; exact .lst h1 (RpA.dp ds _ h2)
  | .tup ds, ⟨a, vs, e, h1, h2⟩ => by subst e; simp only [py]; exact .tup h1 (RpA.dp ds _ h2)
  | .non, h => Rp.dp _ _ h
  | .bl _, h => Rp.dp _ _ h
  | .int _, h => Rp.dp _ _ h
  | .str _, h => Rp.dp _ _ h
end
def eqD : D → D → Bool
  | .int i, .int j => decide (i = j)
  | .bl a, .bl b => a == b
  | x, y => PyData.eqv (py x) (py y)
def shD : D → Prop
  | .int _ => True
  | .bl _ => True
  | .non => True
  | d => SeqAt.shaped (py d) = true
theorem shD_is : ∀ {d : D}, shD d → SeqAt.shaped (py d) = true
  | .int _, _ => by simp [py, SeqAt.shaped, PyData.canLay0, PyData.depth]
  | .bl _, _ => by simp [py, SeqAt.shaped, PyData.canLay0, PyData.depth]
  | .non, _ => by simp [py, SeqAt.shaped, PyData.canLay0, PyData.depth]
  | .str _, h => h
  | .lst _, h => h
  | .tup _, h => h
theorem eqD_is (x y : D) : eqD x y = PyData.eqv (py x) (py y) := by
  cases x <;> cases y <;> simp [eqD, py, PyData.eqv]
  rename_i i j
  by_cases h : i = j <;> simp [h]
def gEq (f : Bool → Bool) : D → D → (Res → Prop) → Prop := fun x y Φ => shD x ∧ shD y ∧ Φ (.val (.bl (f (eqD x y))))
/-- the item at i -/
def gIx : D → D → (Res → Prop) → Prop := fun x y Φ => match x, y with
  | .lst ds, .int i => (match atI ds i with
    | some d => Φ (.val d)
    | none => False)
  | .tup ds, .int i => (match atI ds i with
    | some d => Φ (.val d)
    | none => False)
  | .str z, .int i => z.length ≤ sizeLine ∧ (match atI z.cps.toList i with
    | some c => Φ (.val (.str ⟨#[c]⟩))
    | none => False)
  | _, _ => False
theorem RpA.atI {K : PySem.W.Frag} {M : Ms} {H : Hp} {vs : List V} {ds : List D} {i : Int} {d : D} (h : RpA K M H vs ds) (e : L2.atI ds i = some d) : ∃ v, L2.atI vs i = some v ∧ Rp K M H v d := by
  unfold L2.atI at e ⊢
  rw [h.length]
  cases e1 : ixN ds.length i with
  | none => rw [e1] at e; cases e
  | some j =>
    rw [e1] at e
    exact h.get e
section
variable {X : Cx}
theorem od_eq : OpD X (rEqD X.K) (gEq id) := fun C σ H en x y v w Φ Q R1 hx hy ⟨s1, s2, h⟩ k =>
  ⟨_, _, hx.dp, hy.dp, shD_is s1, shD_is s2, by rw [← eqD_is]; exact k _ _ H h R1 (.bl _) (fun _ _ q => q) trivial⟩
theorem od_ne : OpD X (rNeD X.K) (gEq not) := fun C σ H en x y v w Φ Q R1 hx hy ⟨s1, s2, h⟩ k =>
  ⟨_, _, hx.dp, hy.dp, shD_is s1, shD_is s2, by rw [← eqD_is]; exact k _ _ H h R1 (.bl _) (fun _ _ q => q) trivial⟩
theorem od_ix : OpD X (rIx X.K) gIx := by
  intro C σ H en x y v w Φ Q R1 hx hy h k
  cases y <;> try (cases x <;> exact h.elim)
  rename_i i
  cases hy
  cases x <;> try exact h.elim
  · rename_i z
    cases hx
    obtain ⟨hz, h⟩ := h
    cases e : atI z.cps.toList i with
    | none => rw [e] at h; exact h.elim
    | some c =>
      rw [e] at h
      exact .inr (.inr ⟨z, i, c, rfl, rfl, hz, e, k _ _ H h R1 (.str _) (fun _ _ q => q) trivial⟩)
  · rename_i ds
    obtain ⟨a, vs, rfl, h1, h2⟩ := hx
    have h' : (match atI ds i with
      | some d => Φ (.val d)
      | none => False) := h
    cases e : atI ds i with
    | none => rw [e] at h'; exact h'.elim
    | some d =>
      rw [e] at h'
      obtain ⟨v, e1, e2⟩ := h2.atI e
      exact .inr (.inl ⟨a, vs, i, v, rfl, rfl, h1, e1, k _ _ H h' R1 e2 (fun _ _ q => q) trivial⟩)
  · rename_i ds
    obtain ⟨a, vs, rfl, h1, h2⟩ := hx
    have h' : (match atI ds i with
      | some d => Φ (.val d)
      | none => False) := h
    cases e : atI ds i with
    | none => rw [e] at h'; exact h'.elim
    | some d =>
      rw [e] at h'
      obtain ⟨v, e1, e2⟩ := h2.atI e
      exact .inl ⟨a, vs, i, v, rfl, rfl, h1, e1, k _ _ H h' R1 e2 (fun _ _ q => q) trivial⟩
end
section
variable {X : Cx} {W : WX} {a b c e : Expr} {ta tb tc te : TDe} {pos : Pos}
theorem de_eq (hu : X.A.units + 64 < cLine) (ha : DE X W a ta) (hb : DE X W b tb) : DE X W (.Compare a [.Eq] [b] pos) (tOpD (gEq id) ta tb) := de_cmp (op_eqD hu) od_eq ha hb
theorem de_ne (hu : X.A.units + 64 < cLine) (ha : DE X W a ta) (hb : DE X W b tb) : DE X W (.Compare a [.NotEq] [b] pos) (tOpD (gEq not) ta tb) := de_cmp (op_neD hu) od_ne ha hb
theorem de_item (ha : DE X W a ta) (hb : DE X W b tb) (hs : PlainIx b := by exact fun _ _ => rfl) : DE X W (.Subscript a b pos) (tOpD gIx ta tb) := de_ix ix_seq od_ix ha hb hs
end

/-! ### arguments, displays -/
def tNilD : TDa := fun _ en Φ => Φ [] en
def tConsD (ta : TDe) (tr : TDa) : TDa := fun Ψ en Φ => ta Ψ en fun r en1 => tr Ψ en1 fun rs en2 => Φ (r :: rs) en2
def tTupD (ta : TDa) : TDe := fun Ψ en Φ => ta Ψ en fun rs en1 => match vls rs with
  | some ds => ds.length ≤ sizeLine ∧ Φ (.val (.tup ds)) en1
  | none => False
def tLstD (ta : TDa) : TDe := fun Ψ en Φ => ta Ψ en fun rs en1 => match vls rs with
  | some ds => ds.length ≤ sizeLine ∧ ∀ p, Φ (.own p (.lst ds)) en1
  | none => False
theorem exts_M {b : Addr} : ∀ {rs : List Res} {C : Cc}, (C.exts rs).M b → C.M b ∨ ∃ p d, Res.own p d ∈ rs ∧ b = p
  | [], _, h => .inl h
  | r :: rs, C, h => by
    rcases exts_M (rs := rs) (C := C.ext r) h with z | ⟨p, d, m, e⟩
    · cases r with
      | own p d =>
        rcases z with z | z
        · exact .inl z
        · exact .inr ⟨p, d, List.mem_cons_self, z⟩
      | val _ => exact .inl z
      | bor _ => exact .inl z
    · exact .inr ⟨p, d, List.mem_cons_of_mem _ m, e⟩
theorem exts_F : ∀ {rs : List Res} {C : Cc}, (C.exts rs).F = C.F
  | [], _ => rfl
  | r :: rs, C => (exts_F (rs := rs) (C := C.ext r)).trans ext_F
theorem exts_H : ∀ {rs : List Res} {C : Cc}, (C.exts rs).H = C.H
  | [], _ => rfl
  | r :: rs, C => (exts_H (rs := rs) (C := C.ext r)).trans ext_H
/-- a result, behind others that came later -/
theorem Hold.later {K : PySem.W.Frag} {C : Cc} {σ : L2.St} {H H' : Hp} {en en' : En} {r : Res} {rs : List Res} {v : V} (h : Hold K C r en H v) (R1 : R K (C.ext r) σ H en) (R2 : R K ((C.ext r).exts rs) σ H' en') (s : Shape en en') (k : Keep en H H')
    (n : ∀ r, r ∈ rs → NewR H r) : Hold K (C.exts rs) r en' H' v := by
  have le : ∀ C0 : Cc, Le (mm C0 (oas en)) H (mm (C0.exts rs) (oas en')) H' := fun C0 b u nb q => by
    rw [← oas_shape s]
    refine ⟨fun z => ?_, k b u (fun z => nb (.inr z)) q⟩
    rcases z with z | z
    · rcases exts_M z with z | ⟨p, d, m, e⟩
      · exact nb (.inl z)
      · have e0 : H p = none := n _ m
        rw [e, e0] at q; cases q
    · exact nb (.inr z)
  cases r with
  | val d => exact Rp.mono (le C) _ _ h
  | own a d =>
    obtain ⟨h1, h2, h3, h4⟩ := h
    obtain ⟨u, hu⟩ := h4.dom
    have na : a ∉ oas en := fun z => R1.oM z (.inr rfl)
    refine ⟨h1, fun z => ?_, by rw [exts_F, exts_H]; exact h3, ?_⟩
    · rcases exts_M z with z | ⟨p, dp, m, e⟩
      · exact h2 z
      · have e0 : H p = none := n _ m
        rw [e, e0] at hu; cases hu
    · have e1 : (C.exts rs).add a = (C.add a).exts rs := exts_ext (r := .own a d)
      rw [e1]
      exact Cell.mono (le (C.add a)) (fun u q => k a u na q) h4
  | bor i =>
    obtain ⟨a, d, h1, h2⟩ := h
    obtain ⟨d', h3⟩ := s.own h1
    exact ⟨a, d', h3, h2⟩
section
variable {X : Cx} {W : WX} {a b c e : Expr} {ta tb tc te : TDe} {pos : Pos} {es : List Expr} {t : TDa}
theorem da_nil : DA X W [] tNilD := PAi pa_nil fun σ H Q h => by
  obtain ⟨C, en, Φ, Ψ, R1, hT, hX, k⟩ := h
  exact k _ _ [] H hT R1 rfl rfl Keep.refl (fun _ z => by cases z)
theorem da_cons (ha : DE X W e te) (hb : DA X W es t) (hs : starEach (e :: es) X.env = (false, eval e X.env) :: starEach es X.env := by rfl) : DA X W (e :: es) (tConsD te t) := PAi (pa_cons ha hb hs) fun σ H Q h => by
  obtain ⟨C, en, Φ, Ψ, R0, hT, hX, k⟩ := h
  refine ⟨C, en, _, Ψ, R0, hT, hX, fun ra en1 v1 H1 h1 R1 hold1 s1 k1 n1 => ?_⟩
  refine ⟨C.ext ra, en1, _, Ψ, R1, h1, hX.ext, fun rs en2 vs H2 h2 R2 hold2 s2 k2 n2 => ?_⟩
  refine k (ra :: rs) en2 (v1 :: vs) H2 h2 R2 ⟨v1, vs, rfl, hold1.later R1 R2 s2 k2 n2, hold2⟩ (s1.trans s2) (k1.trans s1 k2) fun r hr => ?_
  rcases List.mem_cons.mp hr with rfl | hr
  · exact n1
  · exact (n2 r hr).back k1 s1 R1
theorem de_tup {x1 : _} (ha : DA X W es t) : DE X W (.Tuple es x1 pos) (tTupD t) := PEi (pe_tup ha) fun σ H Q h => by
  obtain ⟨C, en, Φ, Ψ, R0, hT, hX, k⟩ := h
  refine ⟨C, en, _, Ψ, R0, hT, hX, fun rs en1 vs H1 h1 R1 hold1 s1 k1 _ => ?_⟩
  cases e : vls rs with
  | none => simp only [e] at h1
  | some ds =>
    simp only [e] at h1
    have hr := hold1.rp R1 e
    refine ⟨by rw [hr.length]; exact h1.1, fun p hp => ?_⟩
    refine k (.val (.tup ds)) en1 (.ref p) _ h1.2 (R1.dropA.grow (same_new hp)) ?_ s1 (k1.trans s1 (Keep.same (same_new hp))) trivial
    refine .tup (.inl ⟨fun z => ?_, .inl upd_same⟩) (RpA.mono (fun b u n q => ⟨n, same_new hp b u q⟩) _ _ hr)
    obtain ⟨u, q⟩ := R1.dropA.mD z
    rw [hp] at q; cases q
theorem own_new {K : PySem.W.Frag} {C : Cc} {σ : L2.St} {H : Hp} {en : En} {p : Addr} {vs : List V} {ds : List D} (R1 : R K C σ H en) (hp : H p = none) (hr : RpA K (mm C (oas en)) H vs ds) :
    R K (C.add p) σ (upd H p (.lst vs)) en ∧ Hold K C (.own p (.lst ds)) en (upd H p (.lst vs)) (.ref p) := by
  refine ⟨R1.hold hp, rfl, fun z => ?_, .inr (R1.new hp), vs, upd_same, RpA.mono (fun b u n q => ⟨fun z => ?_, same_new hp b u q⟩) _ _ hr⟩
  · obtain ⟨u, q⟩ := R1.dom p (.inl z)
    rw [hp] at q; cases q
  · rcases z with (z | z) | z
    · exact n (.inl z)
    · rw [z, hp] at q; cases q
    · exact n (.inr z)
theorem de_lst (ha : DA X W es t) : DE X W (.List es pos) (tLstD t) := PEi (pe_lst ha) fun σ H Q h => by
  obtain ⟨C, en, Φ, Ψ, R0, hT, hX, k⟩ := h
  refine ⟨C, en, _, Ψ, R0, hT, hX, fun rs en1 vs H1 h1 R1 hold1 s1 k1 _ => ?_⟩
  cases e : vls rs with
  | none => simp only [e] at h1
  | some ds =>
    simp only [e] at h1
    have hr := hold1.rp R1 e
    refine ⟨by rw [hr.length]; exact h1.1, fun p hp => ?_⟩
    obtain ⟨q1, q2⟩ := own_new R1.dropA hp hr
    exact k _ en1 (.ref p) _ (h1.2 p) q1 q2 s1 (k1.trans s1 (Keep.same (same_new hp))) (k1.new s1 R1.dropA hp)
end

/-! ### calls of what is built in -/
def rds (en : En) : List Res → Option (List D)
  | [] => some []
  | r :: rs => match rd en r, rds en rs with
    | some d, some ds => some (d :: ds)
    | _, _ => none
def SqA (K : PySem.W.Frag) (C : Cc) (en : En) (H : Hp) : List V → List D → Prop := Paired (Sq K C en H)
theorem Sq.ext {K : PySem.W.Frag} {C : Cc} {en : En} {H : Hp} {r : Res} {v : V} : ∀ {d : D}, Sq K (C.ext r) en H v d → Sq K C en H v d
  | .lst ds, ⟨a, vs, e1, e2, e3⟩ => ⟨a, vs, e1, e2, RpA.mono le_ext _ _ e3⟩
  | .tup ds, ⟨a, vs, e1, e2, e3⟩ => ⟨a, vs, e1, e2, RpA.mono le_ext _ _ e3⟩
  | .non, q => Rp.mono le_ext _ _ q
  | .bl _, q => Rp.mono le_ext _ _ q
  | .int _, q => Rp.mono le_ext _ _ q
  | .str _, q => Rp.mono le_ext _ _ q
theorem Sq.exts {K : PySem.W.Frag} {en : En} {H : Hp} {v : V} {d : D} : ∀ {rs : List Res} {C : Cc}, Sq K (C.exts rs) en H v d → Sq K C en H v d
  | [], _, h => h
  | r :: rs, C, h => (Sq.exts (rs := rs) (C := C.ext r) h).ext
theorem Paired.mp {α β : Type} {F G : α → β → Prop} : ∀ {xs : List α} {ys : List β}, Paired F xs ys → (∀ x y, F x y → G x y) → Paired G xs ys
  | _, _, .nil, _ => .nil
  | _, _, .cons h t, k => .cons (k _ _ h) (Paired.mp t k)
theorem HoldA.sq {K : PySem.W.Frag} {σ : L2.St} {H : Hp} {en : En} : ∀ {rs : List Res} {C : Cc} {vs : List V} {ds : List D}, HoldA K C rs en H vs → R K (C.exts rs) σ H en → rds en rs = some ds → SqA K C en H vs ds
  | [], _, _, _, h, _, e => by cases h; cases e; exact .nil
  | r :: rs, C, _, ds, ⟨v, ws, e, h1, h2⟩, R1, e' => by
    subst e
    unfold rds at e'
    cases e1 : rd en r with
    | none => rw [e1] at e'; cases e'
    | some d =>
      cases e2 : rds en rs with
      | none => rw [e1, e2] at e'; cases e'
      | some ds' =>
        rw [e1, e2] at e'
        cases e'
        refine .cons (Sq.exts (h1.sq (by rw [exts_ext]; exact R1) e1)) ?_
        exact Paired.mp (HoldA.sq (rs := rs) h2 R1 e2) fun _ _ q => q.ext
def CaD (X : Cx) (r : List V → Hp → VK → Prop) (g : List D → (Res → Prop) → Prop) : Prop :=
  ∀ (C : Cc) (σ : L2.St) (H : Hp) (en : En) (ds : List D) (vs : List V) (Φ : Res → Prop) (Q : VK), R X.K C σ H en → SqA X.K C en H vs ds → g ds Φ →
    (∀ z v' H', Φ z → R X.K (C.ext z) σ H' en → Hold X.K C z en H' v' → Same H H' → NewR H z → Q v' H') → r vs H Q
def tCaD (g : List D → (Res → Prop) → Prop) (ta : TDa) : TDe := fun Ψ en Φ => ta Ψ en fun rs en1 => match rds en1 rs with
  | some ds => g ds fun r => Φ r en1
  | none => False
section
variable {X : Cx} {W : WX} {a b c e : Expr} {ta tb tc te : TDe} {p pos : Pos} {es : List Expr} {t : TDa} {x : Str} {id T : String} {r : List V → Hp → VK → Prop} {g : List D → (Res → Prop) → Prop}
theorem ca_go {σ : L2.St} {H : Hp} {Q : VK} (hg : CaD X r g) (h : lE X.K W (tCaD g t) σ H Q) : tCB r (lA X.K W t) σ H Q := by
  obtain ⟨C, en, Φ, Ψ, R0, hT, hX, k⟩ := h
  refine ⟨C, en, _, Ψ, R0, hT, hX, fun rs en1 vs H1 h1 R1 hold1 s1 k1 _ => ?_⟩
  cases e : rds en1 rs with
  | none => simp only [e] at h1
  | some ds =>
    simp only [e] at h1
    exact hg C σ H1 en1 ds vs _ Q R1.dropA (hold1.sq R1 e) h1 fun z v' H' hz R3 hold3 sm nw => k z en1 v' H' hz R3 hold3 s1 (k1.trans s1 (Keep.same sm)) (nw.back k1 s1 R1.dropA)
theorem de_callB (hc : CallR X (.builtin id) r) (hd : CaD X r g) (hg : Gl X x) (hm : X.mg x = none) (hv : bootBuiltins x = some (.builtin id)) (ha : DA X W (e :: es) t) (hn : x ≠ "__name__" := by decide) (hdb : (x == ("__debug__" : Str)) = false := by decide)
    (he : starEach (e :: es) X.env = (false, eval e X.env) :: starEach es X.env := by rfl) (hpl : (backTo pos (starEach es X.env)).any (·.1) = false := by rfl) : DE X W (.Call (.Name x p) (e :: es) [] pos) (tCaD g t) :=
  PEi (pe_callB hc hg hm hv ha hn hdb he hpl) fun _ _ _ h => ca_go hd h
theorem de_callTy (hc : CallR X (.type T) r) (hd : CaD X r g) (hg : Gl X x) (hm : X.mg x = none) (hv : bootBuiltins x = some (.type T)) (ha : DA X W (e :: es) t) (hn : x ≠ "__name__" := by decide) (hdb : (x == ("__debug__" : Str)) = false := by decide)
    (he : starEach (e :: es) X.env = (false, eval e X.env) :: starEach es X.env := by rfl) (hpl : (backTo pos (starEach es X.env)).any (·.1) = false := by rfl) : DE X W (.Call (.Name x p) (e :: es) [] pos) (tCaD g t) :=
  PEi (pe_callTy hc hg hm hv ha hn hdb he hpl) fun _ _ _ h => ca_go hd h
theorem de_callF (hc : CallR X (.builtin id) r) (hd : CaD X r g) (hg : Gl X x) (hm : X.mg x = some (.builtin id)) (ha : DA X W (e :: es) t) (hdb : (x == ("__debug__" : Str)) = false := by decide)
    (he : starEach (e :: es) X.env = (false, eval e X.env) :: starEach es X.env := by rfl) (hpl : (backTo pos (starEach es X.env)).any (·.1) = false := by rfl) : DE X W (.Call (.Name x p) (e :: es) [] pos) (tCaD g t) :=
  PEi (pe_callBfun hc hg hm ha hdb he hpl) fun _ _ _ h => ca_go hd h
end
def gLen : List D → (Res → Prop) → Prop
  | [.lst ds], Φ => Φ (.val (.int ds.length))
  | [.tup ds], Φ => Φ (.val (.int ds.length))
  | _, _ => False
def gAbs : List D → (Res → Prop) → Prop
  | [.int i], Φ => Φ (.val (.int (if i < 0 then -i else i)))
  | _, _ => False
def gInt : List D → (Res → Prop) → Prop
  | [.int i], Φ => Φ (.val (.int i))
  | [.bl b], Φ => Φ (.val (.int (if b then 1 else 0)))
  | _, _ => False
def gBool : List D → (Res → Prop) → Prop
  | [.int i], Φ => Φ (.val (.bl (i != 0)))
  | [.bl b], Φ => Φ (.val (.bl b))
  | _, _ => False
def gList : List D → (Res → Prop) → Prop
  | [.lst ds], Φ => ∀ p, Φ (.own p (.lst ds))
  | [.tup ds], Φ => ∀ p, Φ (.own p (.lst ds))
  | _, _ => False
def gGcd : List D → (Res → Prop) → Prop
  | [.int a, .int b], Φ => Φ (.val (.int (Int.gcd a b : Nat)))
  | _, _ => False
section
variable {X : Cx} {W : WX} {a b c e : Expr} {ta tb tc te : TDe} {p pos : Pos} {es : List Expr} {t : TDa}
theorem ca_len : CaD X (fun xs H Q => ∃ p ys, xs = [.ref p] ∧ (SqL X.K H p ys ∨ SqT X.K H p ys) ∧ Q (.int ys.length) H) gLen := by
  intro C σ H en ds vs Φ Q R1 hs h k
  unfold gLen at h
  split at h
  · cases hs with
    | cons h1 h2 =>
      cases h2
      obtain ⟨a, ws, rfl, q1, q2⟩ := h1
      exact ⟨a, ws, rfl, .inl q1, by rw [q2.length]; exact k _ _ H h R1 (.int _) (fun _ _ q => q) trivial⟩
  · cases hs with
    | cons h1 h2 =>
      cases h2
      obtain ⟨a, ws, rfl, q1, q2⟩ := h1
      exact ⟨a, ws, rfl, .inr q1, by rw [q2.length]; exact k _ _ H h R1 (.int _) (fun _ _ q => q) trivial⟩
  · exact h.elim
theorem ca_abs : CaD X (fun xs H Q => ∃ i, xs = [.int i] ∧ Q (.int (if i < 0 then -i else i)) H) gAbs := by
  intro C σ H en ds vs Φ Q R1 hs h k
  unfold gAbs at h
  split at h
  · cases hs with
    | cons h1 h2 =>
      cases h2
      cases h1
      exact ⟨_, rfl, k _ _ H h R1 (.int _) (fun _ _ q => q) trivial⟩
  · exact h.elim
theorem ca_int : CaD X (fun xs H Q => (∃ i, xs = [.int i] ∧ Q (.int i) H) ∨ ∃ k, xs = [.bl k] ∧ Q (.int (if k then 1 else 0)) H) gInt := by
  intro C σ H en ds vs Φ Q R1 hs h k
  unfold gInt at h
  split at h
  · cases hs with
    | cons h1 h2 =>
      cases h2
      cases h1
      exact .inl ⟨_, rfl, k _ _ H h R1 (.int _) (fun _ _ q => q) trivial⟩
  · cases hs with
    | cons h1 h2 =>
      cases h2
      cases h1
      exact .inr ⟨_, rfl, k _ _ H h R1 (.int _) (fun _ _ q => q) trivial⟩
  · exact h.elim
theorem ca_bool : CaD X (fun xs H Q => (∃ i, xs = [.int i] ∧ Q (.bl (i != 0)) H) ∨ ∃ k, xs = [.bl k] ∧ Q (.bl k) H) gBool := by
  intro C σ H en ds vs Φ Q R1 hs h k
  unfold gBool at h
  split at h
  · cases hs with
    | cons h1 h2 =>
      cases h2
      cases h1
      exact .inl ⟨_, rfl, k _ _ H h R1 (.bl _) (fun _ _ q => q) trivial⟩
  · cases hs with
    | cons h1 h2 =>
      cases h2
      cases h1
      exact .inr ⟨_, rfl, k _ _ H h R1 (.bl _) (fun _ _ q => q) trivial⟩
  · exact h.elim
theorem ca_list : CaD X (fun xs H Q => ∃ p ys, xs = [.ref p] ∧ (SqL X.K H p ys ∨ SqT X.K H p ys) ∧ ∀ l, H l = none → Q (.ref l) (upd H l (.lst ys))) gList := by
  intro C σ H en ds vs Φ Q R1 hs h k
  unfold gList at h
  split at h
  · cases hs with
    | cons h1 h2 =>
      cases h2
      obtain ⟨a, ws, rfl, q1, q2⟩ := h1
      refine ⟨a, ws, rfl, .inl q1, fun l hl => ?_⟩
      obtain ⟨z1, z2⟩ := own_new R1 hl q2
      exact k _ _ _ (h l) z1 z2 (same_new hl) hl
  · cases hs with
    | cons h1 h2 =>
      cases h2
      obtain ⟨a, ws, rfl, q1, q2⟩ := h1
      refine ⟨a, ws, rfl, .inr q1, fun l hl => ?_⟩
      obtain ⟨z1, z2⟩ := own_new R1 hl q2
      exact k _ _ _ (h l) z1 z2 (same_new hl) hl
  · exact h.elim
theorem ca_gcd : CaD X rGcd gGcd := by
  intro C σ H en ds vs Φ Q R1 hs h k
  unfold gGcd at h
  split at h
  · cases hs with
    | cons h1 h2 =>
      cases h2 with
      | cons h2 h3 =>
        cases h3
        cases h1
        cases h2
        exact ⟨_, _, rfl, k _ _ H h R1 (.int _) (fun _ _ q => q) trivial⟩
  · exact h.elim
theorem de_len (hm : X.mg "len" = none) (ha : DA X W (e :: es) t) (hg : Gl X "len" := by rfl) (he : starEach (e :: es) X.env = (false, eval e X.env) :: starEach es X.env := by rfl) (hpl : (backTo pos (starEach es X.env)).any (·.1) = false := by rfl) :
    DE X W (.Call (.Name "len" p) (e :: es) [] pos) (tCaD gLen t) := de_callB call_len_seq ca_len hg hm PySem.boot_len ha (by decide) (by decide) he hpl
theorem de_abs (hm : X.mg "abs" = none) (ha : DA X W (e :: es) t) (hg : Gl X "abs" := by rfl) (he : starEach (e :: es) X.env = (false, eval e X.env) :: starEach es X.env := by rfl) (hpl : (backTo pos (starEach es X.env)).any (·.1) = false := by rfl) :
    DE X W (.Call (.Name "abs" p) (e :: es) [] pos) (tCaD gAbs t) := de_callB call_abs ca_abs hg hm (by decide +kernel) ha (by decide) (by decide) he hpl
theorem de_intc (hm : X.mg "int" = none) (ha : DA X W (e :: es) t) (hg : Gl X "int" := by rfl) (he : starEach (e :: es) X.env = (false, eval e X.env) :: starEach es X.env := by rfl) (hpl : (backTo pos (starEach es X.env)).any (·.1) = false := by rfl) :
    DE X W (.Call (.Name "int" p) (e :: es) [] pos) (tCaD gInt t) := de_callTy call_int1 ca_int hg hm (by decide +kernel) ha (by decide) (by decide) he hpl
theorem de_boolc (hm : X.mg "bool" = none) (ha : DA X W (e :: es) t) (hg : Gl X "bool" := by rfl) (he : starEach (e :: es) X.env = (false, eval e X.env) :: starEach es X.env := by rfl) (hpl : (backTo pos (starEach es X.env)).any (·.1) = false := by rfl) :
    DE X W (.Call (.Name "bool" p) (e :: es) [] pos) (tCaD gBool t) := de_callTy call_bool1 ca_bool hg hm (by decide +kernel) ha (by decide) (by decide) he hpl
theorem de_listc (hm : X.mg "list" = none) (ha : DA X W (e :: es) t) (hg : Gl X "list" := by rfl) (he : starEach (e :: es) X.env = (false, eval e X.env) :: starEach es X.env := by rfl) (hpl : (backTo pos (starEach es X.env)).any (·.1) = false := by rfl) :
    DE X W (.Call (.Name "list" p) (e :: es) [] pos) (tCaD gList t) := de_callTy call_list_of ca_list hg hm (by decide +kernel) ha (by decide) (by decide) he hpl
theorem de_gcd (hm : X.mg "gcd" = some (.builtin "math.gcd")) (ha : DA X W (e :: es) t) (hg : Gl X "gcd" := by rfl) (he : starEach (e :: es) X.env = (false, eval e X.env) :: starEach es X.env := by rfl) (hpl : (backTo pos (starEach es X.env)).any (·.1) = false := by rfl) :
    DE X W (.Call (.Name "gcd" p) (e :: es) [] pos) (tCaD gGcd t) := de_callF cr_gcd ca_gcd hg hm ha (by decide) he hpl
end

/-! ### tests, choices -/
def tValD (ta : TDe) : TDt := fun Ψ en Φ => ta Ψ en fun r en1 => match r with
  | .val (.bl b) => Φ b en1
  | _ => False
def tAndD (t u : TDt) : TDt := fun Ψ en Φ => t Ψ en fun b en1 => if b = true then u Ψ en1 Φ else Φ false en1
def tOrD (t u : TDt) : TDt := fun Ψ en Φ => t Ψ en fun b en1 => if b = true then Φ true en1 else u Ψ en1 Φ
def tNotD (t : TDt) : TDt := fun Ψ en Φ => t Ψ en fun b en1 => Φ (!b) en1
def tIfD (t : TDt) (ta tb : TDe) : TDe := fun Ψ en Φ => t Ψ en fun b en1 => if b = true then ta Ψ en1 Φ else tb Ψ en1 Φ
/-- a bool's and, or, not as values -/
def tAndDV (ta tb : TDe) : TDe := fun Ψ en Φ => ta Ψ en fun r en1 => match r with
  | .val (.bl b) => if b = true then tb Ψ en1 Φ else Φ (.val (.bl false)) en1
  | _ => False
def tOrDV (ta tb : TDe) : TDe := fun Ψ en Φ => ta Ψ en fun r en1 => match r with
  | .val (.bl b) => if b = true then Φ (.val (.bl true)) en1 else tb Ψ en1 Φ
  | _ => False
def tNotDV (ta : TDe) : TDe := fun Ψ en Φ => ta Ψ en fun r en1 => match r with
  | .val (.bl b) => Φ (.val (.bl (!b))) en1
  | _ => False
section
variable {X : Cx} {W : WX} {a b c e : Expr} {ta tb tc te : TDe} {tA tB' : TDt} {p pos : Pos} {es rest : List Expr} {t : TDa}
theorem val_bl {K : PySem.W.Frag} {C : Cc} {en : En} {H : Hp} {v : V} {b : Bool} (h : Hold K C (.val (.bl b)) en H v) : v = .bl b := by
  cases h; rfl
theorem dt_ptval (h : ∀ tE : TE, PE X e tE → PT X e (tB tE)) (ha : DE X W e te) : DT X W e (tValD te) := PTi (h _ ha) fun σ H Q h => by
  obtain ⟨C, en, Φ, Ψ, R0, hT, hX, k⟩ := h
  refine ⟨C, en, _, Ψ, R0, hT, hX, fun r en1 v1 H1 h1 R1 hold1 s1 k1 _ => ?_⟩
  cases r with
  | val d =>
    cases d <;> try exact (show False from h1).elim
    exact ⟨_, val_bl hold1, k _ en1 H1 h1 R1 s1 k1⟩
  | own => exact h1.elim
  | bor => exact h1.elim
theorem tTest_tB {te : TE} : tTest te = tB te := rfl
theorem dt_cmp {op : CmpOp} {r : R2} {g : D → D → (Res → Prop) → Prop} (ho : OpR X (compareOp op) r) (hg : OpD X r g) (ha : DE X W a ta) (hb : DE X W b tb) (hm : behindInMarks op b = false := by exact nomark _) : DT X W (.Compare a [op] [b] pos) (tValD (tOpD g ta tb)) :=
  PTi (pt_cmpR ho ha hb hm) fun σ H Q h => by
    obtain ⟨C, en, Φ, Ψ, R0, hT, hX, k⟩ := h
    refine two hg ⟨C, en, _, Ψ, R0, hT, hX, fun r en1 v1 H1 h1 R1 hold1 s1 k1 _ => ?_⟩
    cases r with
    | val d =>
      cases d <;> try exact (show False from h1).elim
      exact ⟨_, val_bl hold1, k _ en1 H1 h1 R1 s1 k1⟩
    | own => exact (show False from h1).elim
    | bor => exact (show False from h1).elim
theorem dt_lt (ha : DE X W a ta) (hb : DE X W b tb) : DT X W (.Compare a [.Lt] [b] pos) (tValD (tOpD (gIB fun i j => decide (i < j)) ta tb)) := dt_cmp op_lt od_IB ha hb
theorem dt_le (ha : DE X W a ta) (hb : DE X W b tb) : DT X W (.Compare a [.LtE] [b] pos) (tValD (tOpD (gIB fun i j => decide (i ≤ j)) ta tb)) := dt_cmp op_le od_IB ha hb
theorem dt_gt (ha : DE X W a ta) (hb : DE X W b tb) : DT X W (.Compare a [.Gt] [b] pos) (tValD (tOpD (gIB fun i j => decide (j < i)) ta tb)) := dt_cmp op_gt od_IB ha hb
theorem dt_ge (ha : DE X W a ta) (hb : DE X W b tb) : DT X W (.Compare a [.GtE] [b] pos) (tValD (tOpD (gIB fun i j => decide (j ≤ i)) ta tb)) := dt_cmp op_ge od_IB ha hb
theorem dt_eq (hu : X.A.units + 64 < cLine) (ha : DE X W a ta) (hb : DE X W b tb) : DT X W (.Compare a [.Eq] [b] pos) (tValD (tOpD (gEq id) ta tb)) := dt_cmp (op_eqD hu) od_eq ha hb
theorem dt_ne (hu : X.A.units + 64 < cLine) (ha : DE X W a ta) (hb : DE X W b tb) : DT X W (.Compare a [.NotEq] [b] pos) (tValD (tOpD (gEq not) ta tb)) := dt_cmp (op_neD hu) od_ne ha hb
end
end VS

namespace VS
open PySem L2

/-! ### and, or, not, choices -/
abbrev DW (X : Cx) (W : WX) (e : Expr) (T : TDt) : Prop := PW X e (lT X.K W T)
theorem PWi {X : Cx} {e : Expr} {t t' : TT} (h : PW X e t) (i : ∀ σ H Q, t' σ H Q → t σ H Q) : PW X e t' := ⟨fun wh pins s σ H Q I q => h.run wh pins s σ H Q I (i σ H Q q)⟩
section
variable {X : Cx} {W : WX} {a b c e : Expr} {ta tb tc te : TDe} {tA tB' : TDt} {p pos : Pos} {es rest : List Expr} {t : TDa}
theorem dw_and1 (ha : DT X W a tA) : DW X W (.BoolOp .And [a] pos) tA := pw_and1 ha
theorem dw_or1 (ha : DT X W a tA) : DW X W (.BoolOp .Or [a] pos) tA := pw_or1 ha
theorem tAnd_go {σ : L2.St} {H : Hp} {Q : Bool → Hp → Prop} {K : PySem.W.Frag} (h : lT K W (tAndD tA tB') σ H Q) : tAnd (lT K W tA) (lT K W tB') σ H Q := by
  obtain ⟨C, en, Φ, Ψ, R0, hT, hX, k⟩ := h
  refine ⟨C, en, _, Ψ, R0, hT, hX, fun b en1 H1 h1 R1 s1 k1 => ?_⟩
  cases b with
  | true => exact ⟨C, en1, Φ, Ψ, R1, h1, hX, fun b' en2 H2 h2 R2 s2 k2 => k b' en2 H2 h2 R2 (s1.trans s2) (k1.trans s1 k2)⟩
  | false => exact k false en1 H1 h1 R1 s1 k1
theorem tOr_go {σ : L2.St} {H : Hp} {Q : Bool → Hp → Prop} {K : PySem.W.Frag} (h : lT K W (tOrD tA tB') σ H Q) : tOr (lT K W tA) (lT K W tB') σ H Q := by
  obtain ⟨C, en, Φ, Ψ, R0, hT, hX, k⟩ := h
  refine ⟨C, en, _, Ψ, R0, hT, hX, fun b en1 H1 h1 R1 s1 k1 => ?_⟩
  cases b with
  | true => exact k true en1 H1 h1 R1 s1 k1
  | false => exact ⟨C, en1, Φ, Ψ, R1, h1, hX, fun b' en2 H2 h2 R2 s2 k2 => k b' en2 H2 h2 R2 (s1.trans s2) (k1.trans s1 k2)⟩
theorem dw_and (ha : DT X W a tA) (hb : DW X W (.BoolOp .And (b :: rest) pos) tB') : DW X W (.BoolOp .And (a :: b :: rest) pos) (tAndD tA tB') := PWi (pw_and ha hb) fun _ _ _ h => tAnd_go h
theorem dw_or (ha : DT X W a tA) (hb : DW X W (.BoolOp .Or (b :: rest) pos) tB') : DW X W (.BoolOp .Or (a :: b :: rest) pos) (tOrD tA tB') := PWi (pw_or ha hb) fun _ _ _ h => tOr_go h
theorem dt_w (h : DW X W e tA) : DT X W e tA := PW.pt h
theorem dt_not (ha : DT X W a tA) : DT X W (.UnaryOp .Not a pos) (tNotD tA) := PTi (pt_not ha) fun σ H Q h => by
  obtain ⟨C, en, Φ, Ψ, R0, hT, hX, k⟩ := h
  exact ⟨C, en, _, Ψ, R0, hT, hX, fun b en1 H1 h1 R1 s1 k1 => k (!b) en1 H1 h1 R1 s1 k1⟩
theorem dt_val (ha : DE X W e te) (he : ∀ whole, isTrue e X.env whole = (do let v ← whole; standAt e.pos; holding [v] (truthy v)) := by intro _; rfl) : DT X W e (tValD te) := dt_ptval (fun _ h => pt_val h he) ha
theorem de_if (hc : DT X W c tA) (ha : DE X W a ta) (hb : DE X W b tb) : DE X W (.IfExp c a b pos) (tIfD tA ta tb) := PEi (pe_ifExp hc ha hb) fun σ H Q h => by
  obtain ⟨C, en, Φ, Ψ, R0, hT, hX, k⟩ := h
  refine ⟨C, en, _, Ψ, R0, hT, hX, fun b en1 H1 h1 R1 s1 k1 => ?_⟩
  cases b with
  | true => exact ⟨C, en1, Φ, Ψ, R1, h1, hX, fun r en2 v H2 h2 R2 o2 s2 k2 n2 => k r en2 v H2 h2 R2 o2 (s1.trans s2) (k1.trans s1 k2) (n2.back k1 s1 R1)⟩
  | false => exact ⟨C, en1, Φ, Ψ, R1, h1, hX, fun r en2 v H2 h2 R2 o2 s2 k2 n2 => k r en2 v H2 h2 R2 o2 (s1.trans s2) (k1.trans s1 k2) (n2.back k1 s1 R1)⟩
theorem de_one {op : BoolOp} (ha : DE X W a ta) : DE X W (.BoolOp op [a] pos) ta := pe_one ha
theorem de_and (ha : DE X W a ta) (hb : DE X W (.BoolOp .And (b :: rest) pos) tb) : DE X W (.BoolOp .And (a :: b :: rest) pos) (tAndDV ta tb) := PEi (pe_and ha hb) fun σ H Q h => by
  obtain ⟨C, en, Φ, Ψ, R0, hT, hX, k⟩ := h
  refine ⟨C, en, _, Ψ, R0, hT, hX, fun r en1 v H1 h1 R1 o1 s1 k1 n1 => ?_⟩
  cases r with
  | val d =>
    cases d <;> try exact (show False from h1).elim
    rename_i b
    refine ⟨b, val_bl o1, ?_⟩
    cases b with
    | true => exact ⟨C, en1, Φ, Ψ, R1, h1, hX, fun r en2 v H2 h2 R2 o2 s2 k2 n2 => k r en2 v H2 h2 R2 o2 (s1.trans s2) (k1.trans s1 k2) (n2.back k1 s1 R1)⟩
    | false => exact k _ en1 _ H1 h1 R1 (.bl false) s1 k1 trivial
  | own => exact (show False from h1).elim
  | bor => exact (show False from h1).elim
theorem de_or (ha : DE X W a ta) (hb : DE X W (.BoolOp .Or (b :: rest) pos) tb) : DE X W (.BoolOp .Or (a :: b :: rest) pos) (tOrDV ta tb) := PEi (pe_or ha hb) fun σ H Q h => by
  obtain ⟨C, en, Φ, Ψ, R0, hT, hX, k⟩ := h
  refine ⟨C, en, _, Ψ, R0, hT, hX, fun r en1 v H1 h1 R1 o1 s1 k1 n1 => ?_⟩
  cases r with
  | val d =>
    cases d <;> try exact (show False from h1).elim
    rename_i b
    refine ⟨b, val_bl o1, ?_⟩
    cases b with
    | true => exact k _ en1 _ H1 h1 R1 (.bl true) s1 k1 trivial
    | false => exact ⟨C, en1, Φ, Ψ, R1, h1, hX, fun r en2 v H2 h2 R2 o2 s2 k2 n2 => k r en2 v H2 h2 R2 o2 (s1.trans s2) (k1.trans s1 k2) (n2.back k1 s1 R1)⟩
  | own => exact (show False from h1).elim
  | bor => exact (show False from h1).elim
theorem de_not (ha : DE X W a ta) : DE X W (.UnaryOp .Not a pos) (tNotDV ta) := PEi (pe_not ha) fun σ H Q h => by
  obtain ⟨C, en, Φ, Ψ, R0, hT, hX, k⟩ := h
  refine ⟨C, en, _, Ψ, R0, hT, hX, fun r en1 v H1 h1 R1 o1 s1 k1 n1 => ?_⟩
  cases r with
  | val d =>
    cases d <;> try exact (show False from h1).elim
    exact ⟨_, val_bl o1, k _ en1 _ H1 h1 R1 (.bl _) s1 k1 trivial⟩
  | own => exact (show False from h1).elim
  | bor => exact (show False from h1).elim
end

/-! ### changes of the slots -/
section
variable {K : PySem.W.Frag} {C : Cc} {σ : L2.St} {H H' : Hp} {en en' : En} {a : Addr} {d : D} {v : V} {s : Sl}
theorem oas_set_sub : ∀ {en : En} (i : Nat) {s : Sl}, oas [s] = [] → (oas (en.set i s)).Sublist (oas en)
  | [], _, _, _ => by simp [oas]
  | s0 :: r, 0, s, h => by
    have e : oas (s :: r) = oas r := by cases s <;> simp [oas] at h ⊢
    show (oas (s :: r)).Sublist (oas (s0 :: r))
    rw [e]
    cases s0 <;> simp [oas]
  | s0 :: r, i + 1, s, h => by
    have ih := oas_set_sub (en := r) i h
    show (oas (s0 :: r.set i s)).Sublist (oas (s0 :: r))
    cases s0 <;> simp only [oas] <;> first | exact ih | exact ih.cons₂ _
theorem oas_set_own : ∀ {en : En} (i : Nat) {a : Addr} {d : D}, ∀ x ∈ oas (en.set i (.own a d)), x = a ∨ x ∈ oas en
  | [], _, _, _, x, h => by simp [oas] at h
  | s0 :: r, 0, a, d, x, h => by
    have h' : x ∈ a :: oas r := h
    rcases List.mem_cons.mp h' with h' | h'
    · exact .inl h'
    · right
      cases s0 <;> simp only [oas] <;> first | exact h' | exact List.mem_cons_of_mem _ h'
  | s0 :: r, i + 1, a, d, x, h => by
    have ih := oas_set_own (en := r) i (a := a) (d := d) x
    cases s0 with
    | own b e =>
      have h' : x ∈ b :: oas (r.set i (.own a d)) := h
      rcases List.mem_cons.mp h' with h' | h'
      · exact .inr (by simp only [oas]; exact List.mem_cons.mpr (.inl h'))
      · exact (ih h').imp id fun z => by simp only [oas]; exact List.mem_cons_of_mem _ z
    | _ => exact ih h
theorem oas_set_nodup : ∀ {en : En} (i : Nat) {a : Addr} {d : D}, (oas en).Nodup → a ∉ oas en → (oas (en.set i (.own a d))).Nodup
  | [], _, _, _, h, _ => h
  | s0 :: r, 0, a, d, h, n => by
    show (a :: oas r).Nodup
    cases s0 with
    | own b e =>
      simp only [oas] at h n
      exact List.nodup_cons.mpr ⟨fun z => n (List.mem_cons_of_mem _ z), (List.nodup_cons.mp h).2⟩
    | _ => exact List.nodup_cons.mpr ⟨n, h⟩
  | s0 :: r, i + 1, a, d, h, n => by
    cases s0 with
    | own b e =>
      simp only [oas] at h n
      have ih := oas_set_nodup (en := r) i (a := a) (d := d) (List.nodup_cons.mp h).2 (fun z => n (List.mem_cons_of_mem _ z))
      show (b :: oas (r.set i (.own a d))).Nodup
      refine List.nodup_cons.mpr ⟨fun z => ?_, ih⟩
      rcases oas_set_own i b z with q | q
      · exact n (by rw [q]; exact List.mem_cons_self)
      · exact (List.nodup_cons.mp h).1 q
    | _ => exact oas_set_nodup (en := r) i (a := a) (d := d) h n
/-- a slot that owns nothing is stored -/
theorem R.setS {i : Nat} (r : R K C σ H en) (hs : oas [s] = []) {o : Option V} (h : SlR K C (mm C (oas en)) H o s) : R K C (σ.set i o) H (en.set i s) where
  sl := by
    have le : Le (mm C (oas en)) H (mm C (oas (en.set i s))) H := fun a u n q => ⟨fun z => n (z.imp id fun z => (oas_set_sub i hs).subset z), q⟩
    exact Pset (h.mono le fun _ _ _ _ q => q) i (Paired.mp r.sl fun x y q => q.mono le fun _ _ _ _ q => q)
  inj := List.Nodup.sublist (oas_set_sub i hs) r.inj
  dom := r.dom
  keep := r.keep
theorem R.setV {i : Nat} (r : R K C σ H en) (h : Rp K (mm C (oas en)) H v d) : R K C (σ.set i (some v)) H (en.set i (.val d)) := r.setS rfl h
theorem R.setO {i : Nat} (r : R K (C.add a) σ H en) (n : ¬ C.M a) (f : C.F a ∨ C.H a = none) (c : Cell K (mm (C.add a) (oas en)) H a d) : R K C (σ.set i (some (.ref a))) H (en.set i (.own a d)) where
  sl := by
    have le : Le (mm (C.add a) (oas en)) H (mm C (oas (en.set i (.own a d)))) H := fun b u n q => ⟨fun z => n (by
      rcases z with z | z
      · exact .inl (.inl z)
      · rcases oas_set_own i b z with z | z
        · exact .inl (.inr z)
        · exact .inr z), q⟩
    refine Pset (show SlR K C _ H (some (V.ref a)) (.own a d) from ⟨rfl, n, f, c.mono le fun _ q => q⟩) i (Paired.mp r.sl fun x y q => ?_)
    have q' := q.mono le fun _ _ _ _ q => q
    cases y with
    | own b e =>
      cases x with
      | none => exact q'.elim
      | some v => exact ⟨q'.1, fun w => q'.2.1 (.inl w), q'.2.2⟩
    | no => exact q'
    | val d => cases x <;> exact q'
    | exc => cases x <;> exact q'
  inj := oas_set_nodup i r.inj fun z => r.oM z (.inr rfl)
  dom := fun b w => r.dom b (w.imp .inl id)
  keep := r.keep
/-- what an own slot holds is changed -/
theorem R.put {i : Nat} {d0 d1 : D} {o : HO} (r : R K C σ H en) (e : en[i]? = some (.own a d0)) (c : Cell K (mm C (oas en)) (upd H a o) a d1) : R K C σ (upd H a o) (en.set i (.own a d1)) := by
  have sh : Shape en (en.set i (.own a d1)) := Shape.set e rfl
  have g := r.getO e
  have ma : a ∈ oas en := oas_mem.mpr ⟨i, d0, e⟩
  have le : Le (mm C (oas en)) H (mm C (oas (en.set i (.own a d1)))) (upd H a o) := fun b u n q => by
    rw [← oas_shape sh]
    exact ⟨n, by rw [upd_ne (fun z => n (.inr (by rw [z]; exact ma)))]; exact q⟩
  refine ⟨?_, by rw [← oas_shape sh]; exact r.inj, fun b w => ?_, fun b u q n => ?_⟩
  · -- slot by slot
    have all : ∀ (j : Nat) (x : Option V) (y : Sl), σ[j]? = some x → en[j]? = some y → SlR K C (mm C (oas en)) H x y → j ≠ i → SlR K C (mm C (oas (en.set i (.own a d1)))) (upd H a o) x y := fun j x y _ hy q nj =>
      q.mono le fun b d hb u z => by
        subst hb
        rw [upd_ne fun w => ?_]
        · exact z
        · subst w
          have : i = j := by
            have h1 : ∀ (l : En) (i j : Nat) (d d' : D), (oas l).Nodup → l[i]? = some (.own b d) → l[j]? = some (.own b d') → i = j := by
              intro l
              induction l with
              | nil => intro i j d d' _ h; simp at h
              | cons s l ih =>
                intro i j d d' nd hi hj
                cases i with
                | zero =>
                  cases j with
                  | zero => rfl
                  | succ j =>
                    have hs : s = .own b d := by simpa using hi
                    subst hs
                    simp only [oas] at nd
                    exact absurd (oas_mem.mpr ⟨j, d', by simpa using hj⟩) (List.nodup_cons.mp nd).1
                | succ i =>
                  cases j with
                  | zero =>
                    have hs : s = .own b d' := by simpa using hj
                    subst hs
                    simp only [oas] at nd
                    exact absurd (oas_mem.mpr ⟨i, d, by simpa using hi⟩) (List.nodup_cons.mp nd).1
                  | succ j =>
                    have nd' : (oas l).Nodup := by
                      cases s <;> simp only [oas] at nd <;> first | exact nd | exact (List.nodup_cons.mp nd).2
                    rw [ih i j d d' nd' (by simpa using hi) (by simpa using hj)]
            exact h1 en i j d0 d r.inj e hy
          exact absurd this.symm nj
    have own : SlR K C (mm C (oas (en.set i (.own a d1)))) (upd H a o) (some (V.ref a)) (.own a d1) := ⟨rfl, g.2.1, g.2.2.1, by rw [← oas_shape sh]; exact c⟩
    have hl := Plen r.sl
    have go : ∀ (xs : L2.St) (ys : En) (k : Nat), Paired (SlR K C (mm C (oas en)) H) xs ys → (∀ j, xs[j]? = σ[k + j]?) → (∀ j, ys[j]? = en[k + j]?) →
        Paired (SlR K C (mm C (oas (en.set i (.own a d1)))) (upd H a o)) xs (if k ≤ i then ys.set (i - k) (.own a d1) else ys) := by
      intro xs ys k hp
      induction hp generalizing k with
      | nil => intro _ _; split <;> exact .nil
      | @cons x y xs ys h1 h2 ih =>
        intro ex ey
        have ex0 : σ[k]? = some x := by have := ex 0; simpa using this.symm
        have ey0 : en[k]? = some y := by have := ey 0; simpa using this.symm
        have ih' := ih (k + 1) (fun j => by have := ex (j + 1); simp only [List.getElem?_cons_succ] at this; rw [this]; congr 1; omega) (fun j => by have := ey (j + 1); simp only [List.getElem?_cons_succ] at this; rw [this]; congr 1; omega)
        by_cases hk : k ≤ i
        · rw [if_pos hk]
          by_cases hki : k = i
          · subst hki
            rw [Nat.sub_self, List.set_cons_zero]
            rw [if_neg (by omega)] at ih'
            have hx : x = some (V.ref a) := by have := g.1; rw [ex0] at this; exact Option.some.inj this
            rw [hx]
            exact .cons own ih'
          · rw [if_pos (by omega)] at ih'
            have : i - k = (i - (k + 1)) + 1 := by omega
            rw [this, List.set_cons_succ]
            exact .cons (all k x y ex0 ey0 h1 hki) ih'
        · rw [if_neg hk]
          rw [if_neg (by omega)] at ih'
          exact .cons (all k x y ex0 ey0 h1 (by omega)) ih'
    have := go σ en 0 r.sl (fun j => by simp) (fun j => by simp)
    simpa using this
  · by_cases hb : b = a
    · exact ⟨o, by rw [hb]; exact upd_same⟩
    · obtain ⟨u, q⟩ := r.dom b w
      exact ⟨u, by rw [upd_ne hb]; exact q⟩
  · have q' := r.keep b u q n
    by_cases hb : b = a
    · subst hb
      rcases g.2.2.1 with z | z
      · exact absurd z n
      · rw [z] at q; cases q
    · rw [upd_ne hb]; exact q'
theorem Keep.put {i : Nat} {d0 : D} {o : HO} (e : en[i]? = some (.own a d0)) : Keep en H (upd H a o) := fun b u n q => by
  rw [upd_ne fun z => n (by rw [z]; exact oas_mem.mpr ⟨i, d0, e⟩)]
  exact q
/-- an own slot's list is taken out -/
theorem R.take {i : Nat} (r : R K C σ H en) (e : en[i]? = some (.own a d)) : R K (C.add a) σ H (en.set i .no) ∧ Hold K C (.own a d) (en.set i .no) H (.ref a) := by
  have g := r.getO e
  have ma : a ∈ oas en := oas_mem.mpr ⟨i, d, e⟩
  have r0 : R K C σ H (en.set i .no) := by
    have h := r.setS (i := i) (s := .no) (o := some (.ref a)) rfl trivial
    have hσ : σ.set i (some (V.ref a)) = σ := by
      refine List.ext_getElem? fun j => ?_
      rw [List.getElem?_set]
      by_cases hj : i = j
      · subst hj
        rw [if_pos rfl, if_pos (List.getElem?_eq_some_iff.mp g.1).1, g.1]
      · rw [if_neg hj]
    rw [hσ] at h
    exact h
  have na : a ∉ oas (en.set i .no) := by
    have : ∀ (l : En) (i : Nat), (oas l).Nodup → l[i]? = some (.own a d) → a ∉ oas (l.set i .no) := by
      intro l
      induction l with
      | nil => intro i _ h; simp at h
      | cons s l ih =>
        intro i nd hi
        cases i with
        | zero =>
          have hs : s = .own a d := by simpa using hi
          subst hs
          simp only [oas] at nd
          exact (List.nodup_cons.mp nd).1
        | succ i =>
          have hi' : l[i]? = some (.own a d) := by simpa using hi
          cases s with
          | own b e' =>
            simp only [oas] at nd
            show a ∉ b :: oas (l.set i .no)
            intro z
            rcases List.mem_cons.mp z with z | z
            · exact (List.nodup_cons.mp nd).1 (by rw [← z]; exact oas_mem.mpr ⟨i, d, hi'⟩)
            · exact ih i (List.nodup_cons.mp nd).2 hi' z
          | _ => exact ih i nd hi'
    exact this en i r.inj e
  have sub := oas_set_sub (en := en) i (s := .no) rfl
  have le : Le (mm C (oas en)) H (mm (C.add a) (oas (en.set i .no))) H := fun b u n q => ⟨fun z => n (by
    rcases z with (z | z) | z
    · exact .inl z
    · rw [z]; exact .inr ma
    · exact .inr (sub.subset z)), q⟩
  refine ⟨⟨?_, r0.inj, fun b w => ?_, r0.keep⟩, rfl, g.2.1, g.2.2.1, g.2.2.2.mono le fun _ q => q⟩
  · have hp := Pset (F := SlR K C (mm (C.add a) (oas (en.set i .no))) H) (show SlR K C (mm (C.add a) (oas (en.set i .no))) H (some (V.ref a)) .no from trivial) i (Paired.mp r.sl fun x y q => q.mono le fun _ _ _ _ q => q)
    have hσ : σ.set i (some (V.ref a)) = σ := by
      refine List.ext_getElem? fun j => ?_
      rw [List.getElem?_set]
      by_cases hj : i = j
      · subst hj
        rw [if_pos rfl, if_pos (List.getElem?_eq_some_iff.mp g.1).1, g.1]
      · rw [if_neg hj]
    rw [hσ] at hp
    refine Pmap hp fun j x y _ hy q => ?_
    cases y with
    | own b e' =>
      cases x with
      | none => exact q.elim
      | some v =>
        refine ⟨q.1, fun w => ?_, q.2.2⟩
        rcases w with w | w
        · exact q.2.1 w
        · subst w; exact na (oas_mem.mpr ⟨j, e', hy⟩)
    | no => exact q
    | val d => cases x <;> exact q
    | exc => cases x <;> exact q
  · rcases w with (w | w) | w
    · exact r.dom b (.inl w)
    · rw [w]; exact r.oD ma
    · exact r.dom b (.inr w)
/-- a slot that is let go (σ as it stands) -/
theorem R.forget {i : Nat} (r : R K C σ H en) : R K C σ H (en.set i .no) := by
  by_cases hi : i < σ.length
  · have h := r.setS (i := i) (s := .no) (o := σ[i]) rfl (by cases σ[i] <;> trivial)
    have hσ : σ.set i σ[i] = σ := by simp
    rw [hσ] at h
    exact h
  · have hl := Plen r.sl
    have : en.set i .no = en := List.set_eq_of_length_le (by omega)
    rw [this]
    exact r
end
end VS

namespace VS
open PySem L2

/-! ### promises of defs -/
abbrev Spc := En → (Res → List D → Prop) → (Xc → List D → Prop) → Prop
def setOwns : En → List D → En
  | [], _ => []
  | .own a _ :: r, d :: ds => .own a d :: setOwns r ds
  | s :: r, ds => s :: setOwns r ds
def outsP : En → En → (List D → Prop) → Prop
  | [], _, k => k []
  | .own a _ :: as, .own b d :: bs, k => a = b ∧ outsP as bs fun ds => k (d :: ds)
  | .own _ _ :: _, _, _ => False
  | _ :: as, _ :: bs, k => outsP as bs k
  | _ :: _, [], _ => False
def lSp (K : PySem.W.Frag) (n : Nat) (sp : Spc) : Sp := fun vs H Q E => vs.length = n ∧ ∃ (C : Cc) (args : En) (Φ : Res → List D → Prop) (Ψ : Xc → List D → Prop),
  R K C (vs.map some) H args ∧ C.H = H ∧ (∀ a, C.F a ↔ a ∈ oas args) ∧ sp args Φ Ψ ∧
  (∀ r ds v H', (∀ i, r ≠ .bor i) → Φ r ds → R K (C.ext r) (vs.map some) H' (setOwns args ds) → Hold K C r (setOwns args ds) H' v → Q v H') ∧
  (∀ x ds cls d H', Ψ x ds → R K C (vs.map some) H' (setOwns args ds) → XcR K (mm C (oas args)) H' x cls d → E cls d H')
section
variable {K : PySem.W.Frag} {C : Cc} {σ : L2.St} {H H' : Hp} {en en' : En} {a : Addr} {d : D} {v : V} {s : Sl}
theorem Pof {α β : Type} {F : α → β → Prop} : ∀ {xs : List α} {ys : List β}, xs.length = ys.length → (∀ (i : Nat) (x : α) (y : β), xs[i]? = some x → ys[i]? = some y → F x y) → Paired F xs ys
  | [], [], _, _ => .nil
  | [], _ :: _, h, _ => by simp at h
  | _ :: _, [], h, _ => by simp at h
  | x :: xs, y :: ys, h, k => .cons (k 0 x y rfl rfl) (Pof (by simpa using h) fun i x y e1 e2 => k (i + 1) x y (by simpa using e1) (by simpa using e2))
theorem Pat {α β : Type} {F : α → β → Prop} {xs : List α} {ys : List β} (h : Paired F xs ys) {i : Nat} {x : α} {y : β} (e1 : xs[i]? = some x) (e2 : ys[i]? = some y) : F x y := by
  obtain ⟨x', e, f⟩ := Pget h e2
  rw [e1] at e
  cases e
  exact f
theorem own_inj : ∀ (l : En) (i j : Nat) (d d' : D), (oas l).Nodup → l[i]? = some (.own a d) → l[j]? = some (.own a d') → i = j := by
  intro l
  induction l with
  | nil => intro i j d d' _ h; simp at h
  | cons s l ih =>
    intro i j d d' nd hi hj
    cases i with
    | zero =>
      cases j with
      | zero => rfl
      | succ j =>
        have hs : s = .own a d := by simpa using hi
        subst hs
        simp only [oas] at nd
        exact absurd (oas_mem.mpr ⟨j, d', by simpa using hj⟩) (List.nodup_cons.mp nd).1
    | succ i =>
      cases j with
      | zero =>
        have hs : s = .own a d' := by simpa using hj
        subst hs
        simp only [oas] at nd
        exact absurd (oas_mem.mpr ⟨i, d, by simpa using hi⟩) (List.nodup_cons.mp nd).1
      | succ j =>
        have nd' : (oas l).Nodup := by
          cases s <;> simp only [oas] at nd <;> first | exact nd | exact (List.nodup_cons.mp nd).2
        rw [ih i j d d' nd' (by simpa using hi) (by simpa using hj)]
theorem setOwns_shape : ∀ (en : En) (ds : List D), Shape en (setOwns en ds)
  | [], _ => by simp [setOwns, Shape]
  | .own a d0 :: r, d :: ds => by
    have ih := setOwns_shape r ds
    unfold Shape at ih ⊢
    simp only [setOwns, List.map_cons, shp, ih]
  | .own a d0 :: r, [] => by
    have ih := setOwns_shape r []
    unfold Shape at ih ⊢
    simp only [setOwns, List.map_cons, shp, ih]
  | .no :: r, ds => by
    have ih := setOwns_shape r ds
    unfold Shape at ih ⊢
    simp only [setOwns, List.map_cons, shp, ih]
  | .val _ :: r, ds => by
    have ih := setOwns_shape r ds
    unfold Shape at ih ⊢
    simp only [setOwns, List.map_cons, shp, ih]
  | .exc .. :: r, ds => by
    have ih := setOwns_shape r ds
    unfold Shape at ih ⊢
    simp only [setOwns, List.map_cons, shp, ih]
/-- what outsP tells -/
theorem outs_of : ∀ {as en : En} {k : List D → Prop}, outsP as en k → ∃ ds, k ds ∧ as.length ≤ en.length ∧ ∀ (i : Nat) (a : Addr) (d : D), (setOwns as ds)[i]? = some (.own a d) → en[i]? = some (.own a d)
  | [], en, k, h => ⟨[], h, Nat.zero_le _, fun i a d e => by simp [setOwns] at e⟩
  | .own a d0 :: as, [], k, h => h.elim
  | .own a d0 :: as, .own b d :: bs, k, ⟨e, h⟩ => by
    subst e
    obtain ⟨ds, h1, h2, h3⟩ := outs_of h
    refine ⟨d :: ds, h1, by simpa using h2, fun i a' d' q => ?_⟩
    cases i with
    | zero => simpa [setOwns] using q
    | succ i => simpa using h3 i a' d' (by simpa [setOwns] using q)
  | .own a d0 :: as, .no :: bs, k, h => h.elim
  | .own a d0 :: as, .val _ :: bs, k, h => h.elim
  | .own a d0 :: as, .exc .. :: bs, k, h => h.elim
  | .no :: as, [], k, h => h.elim
  | .val _ :: as, [], k, h => h.elim
  | .exc .. :: as, [], k, h => h.elim
  | .no :: as, _ :: bs, k, h => by
    obtain ⟨ds, h1, h2, h3⟩ := outs_of (as := as) (en := bs) h
    refine ⟨ds, h1, by simpa using h2, fun i a' d' q => ?_⟩
    cases i with
    | zero => simp [setOwns] at q
    | succ i => simpa using h3 i a' d' (by simpa [setOwns] using q)
  | .val _ :: as, _ :: bs, k, h => by
    obtain ⟨ds, h1, h2, h3⟩ := outs_of (as := as) (en := bs) h
    refine ⟨ds, h1, by simpa using h2, fun i a' d' q => ?_⟩
    cases i with
    | zero => simp [setOwns] at q
    | succ i => simpa using h3 i a' d' (by simpa [setOwns] using q)
  | .exc .. :: as, _ :: bs, k, h => by
    obtain ⟨ds, h1, h2, h3⟩ := outs_of (as := as) (en := bs) h
    refine ⟨ds, h1, by simpa using h2, fun i a' d' q => ?_⟩
    cases i with
    | zero => simp [setOwns] at q
    | succ i => simpa using h3 i a' d' (by simpa [setOwns] using q)
theorem SlR.val_of {C : Cc} {M : Ms} {o : Option V} {s : Sl} (h : SlR K C M H o s) {M' : Ms} {C' : Cc} (e : Le M H M' H') (n : ∀ a d, s ≠ .own a d) : SlR K C' M' H' o s := by
  cases s with
  | no => trivial
  | val d =>
    cases o with
    | none => exact h
    | some v => exact Rp.mono e _ _ h
  | own a d => exact (n a d rfl).elim
  | exc a c dd x =>
    cases o with
    | none => exact h
    | some v => exact ⟨h.1, h.2.mono e⟩
theorem mm_split {r : Res} {l l' : List Addr} {b : Addr} (hp : ∀ p dp, r = .own p dp → b ≠ p) (hl : b ∈ l → mm C l' b) (z : mm (C.ext r) l b) : mm C l' b := by
  rcases z with z | z
  · cases r with
    | own p dp =>
      rcases z with z | z
      · exact .inl z
      · exact absurd z (hp p dp rfl)
    | val _ => exact .inl z
    | bor _ => exact .inl z
  · exact hl z
/-- a def's end, seen by its caller -/
theorem fin_R {vs : List V} {args : En} {r : Res} {ds : List D} (R0 : R K C (vs.map some) H args) (eH : C.H = H) (eF : ∀ a, C.F a ↔ a ∈ oas args) (R1 : R K (C.ext r) σ H' en') (hv : Hold K C r en' H' v)
    (nb : ∀ i, r ≠ .bor i) (sub : ∀ (i : Nat) (a : Addr) (d : D), (setOwns args ds)[i]? = some (.own a d) → en'[i]? = some (.own a d)) : R K (C.ext r) (vs.map some) H' (setOwns args ds) ∧ Hold K C r (setOwns args ds) H' v := by
  have sh := setOwns_shape args ds
  have eo : oas (setOwns args ds) = oas args := (oas_shape sh).symm
  have hsub : ∀ a, a ∈ oas args → a ∈ oas en' := fun a h => by
    rw [oas_shape sh] at h
    obtain ⟨i, d, e⟩ := oas_mem.mp h
    exact oas_mem.mpr ⟨i, d, sub i a d e⟩
  have keep : ∀ a u, a ∉ oas args → H a = some u → H' a = some u := fun a u n e => R1.keep a u (by rw [ext_H, eH]; exact e) (by rw [ext_F]; exact fun z => n ((eF a).mp z))
  have hn : ∀ p dp, r = .own p dp → H p = none := fun p dp e => by
    subst e
    obtain ⟨_, _, f, _⟩ := hv
    rcases f with f | f
    · exact absurd (.inr rfl) (R1.oM (hsub p ((eF p).mp f)))
    · rw [← eH]; exact f
  have le0 : Le (mm C (oas args)) H (mm (C.ext r) (oas args)) H' := fun b u n q => ⟨fun z => n (mm_split (fun p dp e w => by rw [w, hn p dp e] at q; cases q) .inr z), keep b u (fun z => n (.inr z)) q⟩
  have leE : ∀ r', Le (mm (C.ext r') (oas en')) H' (mm (C.ext r') (oas args)) H' := fun r' b u n q => ⟨fun z => n (z.imp id (hsub b)), q⟩
  refine ⟨⟨?_, by rw [eo]; exact R0.inj, R1.dom, R1.keep⟩, ?_⟩
  · have hl : (vs.map some).length = (setOwns args ds).length := by
      have h1 := Plen R0.sl
      have h2 : (args.map shp).length = ((setOwns args ds).map shp).length := congrArg List.length sh
      rw [List.length_map, List.length_map] at h2
      rw [h1, h2]
    rw [eo]
    refine Pof hl fun i x y hx hy => ?_
    obtain ⟨y0, hy0, hs⟩ := sh.symm.at hy
    have f0 := Pat R0.sl hx hy0
    cases y with
    | own a d =>
      have g := R1.getO (sub i a d hy)
      have hx0 : x = some (.ref a) := by
        cases y0 <;> simp only [shp] at hs <;> cases hs
        cases x with
        | none => exact f0.elim
        | some v => rw [f0.1]
      subst hx0
      exact ⟨rfl, g.2.1, g.2.2.1, g.2.2.2.mono (leE r) fun _ q => q⟩
    | no => trivial
    | val d =>
      have ey : y0 = .val d := by cases y0 <;> simp only [shp] at hs <;> cases hs <;> rfl
      subst ey
      exact f0.val_of le0 fun _ _ z => by cases z
    | exc a c dd xx =>
      have ey : y0 = .exc a c dd xx := by cases y0 <;> simp only [shp] at hs <;> cases hs <;> rfl
      subst ey
      exact f0.val_of le0 fun _ _ z => by cases z
  · cases r with
    | val d =>
      show Rp K (mm C (oas (setOwns args ds))) H' v d
      rw [eo]
      exact Rp.mono (leE (.val d)) _ _ hv
    | own p dp =>
      obtain ⟨h1, h2, h3, h4⟩ := hv
      refine ⟨h1, h2, h3, ?_⟩
      rw [eo]
      exact h4.mono (leE (.own p dp)) fun _ q => q
    | bor i => exact absurd rfl (nb i)
theorem fin_X {vs : List V} {args : En} {ds : List D} {x : Xc} {cls : Value} {dx : Option Addr} (R0 : R K C (vs.map some) H args) (eH : C.H = H) (eF : ∀ a, C.F a ↔ a ∈ oas args) (R1 : R K C σ H' en') (hx : XcR K (mm C (oas en')) H' x cls dx)
    (sub : ∀ (i : Nat) (a : Addr) (d : D), (setOwns args ds)[i]? = some (.own a d) → en'[i]? = some (.own a d)) : R K C (vs.map some) H' (setOwns args ds) ∧ XcR K (mm C (oas args)) H' x cls dx := by
  refine ⟨(fin_R (r := .val .non) (v := .non) R0 eH eF R1 .non (fun _ z => by cases z) sub).1, hx.mono fun b u n q => ⟨fun z => n (z.imp id fun h => ?_), q⟩⟩
  rw [oas_shape (setOwns_shape args ds)] at h
  obtain ⟨i, d, e⟩ := oas_mem.mp h
  exact oas_mem.mpr ⟨i, d, sub i b d e⟩
end

/-! ### statements -/
structure Ed where
  nx : En → Prop
  rt : Res → En → Prop
  bk : En → Prop := fun _ => False
  ct : En → Prop := fun _ => False
  ex : Xc → En → Prop
abbrev TDs := Ed → En → Prop
structure SOk (K : PySem.W.Frag) (C : Cc) (W : WX) (Ds : Ends) (De : Ed) : Prop where
  nx : ∀ σ en H, De.nx en → R K C σ H en → Ds.nx σ H
  rt : ∀ r en σ v H, De.rt r en → R K (C.ext r) σ H en → Hold K C r en H v → Ds.rt v H
  bk : ∀ σ en H, De.bk en → R K C σ H en → Ds.bk σ H
  ct : ∀ σ en H, De.ct en → R K C σ H en → Ds.ct σ H
  ex : ∀ x en σ cls d H, De.ex x en → R K C σ H en → XcR K (mm C (oas en)) H x cls d → W cls d σ H
def lS (K : PySem.W.Frag) (W : WX) (T : TDs) : TS := fun Ds σ H => ∃ (C : Cc) (en : En) (De : Ed), R K C σ H en ∧ T De en ∧ SOk K C W Ds De
abbrev DS (X : Cx) (W : WX) (st : Stmt) (T : TDs) : Prop := PS X st (lS X.K W T)
abbrev DSs (X : Cx) (W : WX) (st : List Stmt) (T : TDs) : Prop := PSs X st (lS X.K W T)
theorem SOk.x {K : PySem.W.Frag} {C : Cc} {W : WX} {Ds : Ends} {De : Ed} (h : SOk K C W Ds De) (σ : L2.St) : XOk K C W σ De.ex := fun x en cls d H q r z => h.ex x en σ cls d H q r z
/-- a body's ends as the promise wants them -/
def edOf (args : En) (Φ : Res → List D → Prop) (Ψ : Xc → List D → Prop) : Ed where
  nx := fun en => outsP args en (Φ (.val .non))
  rt := fun r en => match r with
    | .bor _ => False
    | r => outsP args en (Φ r)
  ex := fun x en => outsP args en (Ψ x)
def tNextD : TDs := fun De en => De.nx en
def tSeqD (t u : TDs) : TDs := fun De en => t { De with nx := fun en' => u De en' } en
def tDropD (ta : TDe) : TDs := fun De en => ta De.ex en fun _ en1 => De.nx en1
def retD (De : Ed) (r : Res) (en : En) : Prop := match r with
  | .bor i => (match en[i]? with
    | some (.own a d) => De.rt (.own a d) (en.set i .no)
    | _ => False)
  | r => De.rt r en
def tRetD (ta : TDe) : TDs := fun De en => ta De.ex en fun r en1 => retD De r en1
def tRetND : TDs := fun De en => De.rt (.val .non) en
def tIfSD (t : TDt) (u v : TDs) : TDs := fun De en => t De.ex en fun b en1 => if b = true then u De en1 else v De en1
/-- x = e, kept as it is | a new list let go at once -/
def tSetD (i : Nat) (ta : TDe) : TDs := fun De en => ta De.ex en fun r en1 => match r with
  | .val d => De.nx (en1.set i (.val d))
  | .own a d => De.nx (en1.set i (.own a d))
  | .bor _ => False
def tSetV (i : Nat) (ta : TDe) : TDs := fun De en => ta De.ex en fun r en1 => match vl r with
  | some d => De.nx (en1.set i (.val d))
  | none => False
/-- what was an own list is from now on a value -/
def tFrzD (i : Nat) (t : TDs) : TDs := fun De en => match en[i]? with
  | some (.own _ d) => t De (en.set i (.val d))
  | _ => False
def tBrkD : TDs := fun De en => De.bk en
def tCntD : TDs := fun De en => De.ct en
/-- the rest is shown once, from Mid -/
def tCutD (t u : TDs) : TDs := fun De en => ∃ Mid : En → Prop, t { De with nx := Mid } en ∧ ∀ en', Mid en' → u De en'
section
variable {X : Cx} {W : WX} {a b c e : Expr} {ta tb tc te : TDe} {tA tB' : TDt} {p pos : Pos} {st : Stmt} {rest body ab bb : List Stmt} {t u v : TDs}
theorem dss_nil : DSs X W [] tNextD := PSsi pss_nil fun D σ H ⟨C, en, De, R1, h, k⟩ => k.nx σ en H h R1
theorem dss_cons (h1 : DS X W st t) (h2 : DSs X W rest u) : DSs X W (st :: rest) (tSeqD t u) := PSsi (pss_cons h1 h2) fun D σ H ⟨C, en, De, R1, h, k⟩ =>
  ⟨C, en, { De with nx := fun en' => u De en' }, R1, h, ⟨fun σ' en' H' q R' => ⟨C, en', De, R', q, k⟩, k.rt, k.bk, k.ct, k.ex⟩⟩
theorem dss_one (h1 : DS X W st t) : DSs X W [st] t := pss_one h1
theorem dss_cut (h1 : DS X W st t) (h2 : DSs X W rest u) : DSs X W (st :: rest) (tCutD t u) := PSsi (pss_cons h1 h2) fun D σ H ⟨C, en, De, R1, ⟨Mid, h, hm⟩, k⟩ =>
  ⟨C, en, { De with nx := Mid }, R1, h, ⟨fun σ' en' H' q R' => ⟨C, en', De, R', hm en' q, k⟩, k.rt, k.bk, k.ct, k.ex⟩⟩
/-- ahead of a statement an own slot becomes a value -/
theorem dss_frz (i : Nat) (h2 : DSs X W rest u) : DSs X W rest (tFrzD i u) := PSsi h2 fun D σ H ⟨C, en, De, R1, h, k⟩ => by
  unfold tFrzD at h
  cases e : en[i]? with
  | none => simp only [e] at h
  | some s =>
    cases s <;> simp only [e] at h
    rename_i a d
    refine ⟨C, _, De, ?_, h, k⟩
    obtain ⟨q1, q2⟩ := R1.take e
    have q3 := q2.rp q1 rfl
    have q4 := q1.drop.setV (i := i) q3
    have g := (R1.getO e).1
    have hσ : σ.set i (some (V.ref a)) = σ := by
      refine List.ext_getElem? fun j => ?_
      rw [List.getElem?_set]
      by_cases hj : i = j
      · subst hj
        rw [if_pos rfl, if_pos (List.getElem?_eq_some_iff.mp g).1, g]
      · rw [if_neg hj]
    rw [hσ, List.set_set] at q4
    exact q4
theorem ds_expr (he : DE X W e te) (hs : swapsWith e none pos.line X.env = pure false := by rfl) : DS X W (.Expr e pos) (tDropD te) := PSi (ps_expr he hs) fun D σ H ⟨C, en, De, R1, h, k⟩ =>
  ⟨C, en, _, De.ex, R1, h, k.x σ, fun r en' v H' q R' _ _ _ _ => k.nx σ en' H' q R'.dropX⟩
theorem ds_doc {x : Str} {j : _} {pos' : Pos} : DS X W (.Expr (.Constant (.str x) j pos) pos') tNextD := PSi ps_doc fun D σ H ⟨C, en, De, R1, h, k⟩ => k.nx σ en H h R1
theorem ret_go {K : PySem.W.Frag} {C : Cc} {Ds : Ends} {De : Ed} {r : Res} {en : En} {σ : L2.St} {H : Hp} {v : V} (k : SOk K C W Ds De) (h : retD De r en) (R1 : R K (C.ext r) σ H en) (hv : Hold K C r en H v) : Ds.rt v H := by
  cases r with
  | val d => exact k.rt _ _ σ v H h R1 hv
  | own a d => exact k.rt _ _ σ v H h R1 hv
  | bor i =>
    obtain ⟨a, d, e, rfl⟩ := hv
    simp only [retD, e] at h
    obtain ⟨q1, q2⟩ := (show R K C σ H en from R1).take e
    exact k.rt _ _ σ _ H h q1 q2
theorem ds_ret (he : DE X W e te) : DS X W (.Return (some e) pos) (tRetD te) := PSi (ps_ret he) fun D σ H ⟨C, en, De, R1, h, k⟩ =>
  ⟨C, en, _, De.ex, R1, h, k.x σ, fun r en' v H' q R' o' _ _ _ => ret_go k q R' o'⟩
theorem ds_retN : DS X W (.Return none pos) tRetND := PSi ps_retN fun D σ H ⟨C, en, De, R1, h, k⟩ => k.rt (.val .non) en σ .non H h R1 .non
theorem ds_if (hc : DT X W c tA) (ha : DSs X W ab t) (hb : DSs X W bb u) : DS X W (.If c ab bb pos) (tIfSD tA t u) := PSi (ps_if hc ha hb) fun D σ H ⟨C, en, De, R1, h, k⟩ =>
  ⟨C, en, _, De.ex, R1, h, k.x σ, fun b en' H' q R' _ _ => by
    cases b with
    | true => exact ⟨C, en', De, R', q, k⟩
    | false => exact ⟨C, en', De, R', q, k⟩⟩
theorem ds_pass : DS X W (.Pass pos) tNextD := PSi ps_pass fun D σ H ⟨C, en, De, R1, h, k⟩ => k.nx σ en H h R1
theorem ds_break : DS X W (.Break pos) tBrkD := PSi ps_break fun D σ H ⟨C, en, De, R1, h, k⟩ => k.bk σ en H h R1
theorem ds_continue : DS X W (.Continue pos) tCntD := PSi ps_continue fun D σ H ⟨C, en, De, R1, h, k⟩ => k.ct σ en H h R1
theorem ds_set {i : Nat} {x : Str} {pos' : Pos} (hN : X.N.Nodup) (hi : X.N[i]? = some x) (hx : Loc X.env.scope x) (he : DE X W e te) (hs : swapsWith e (some (.Name x pos')) pos.line X.env = pure false := by rfl)
    (hf : X.fn x = true ∨ X.env.scope.names.lookup x = some .local := by first | exact .inl rfl | exact .inr rfl | assumption) : DS X W (.Assign [.Name x pos'] e pos) (tSetD i te) := PSi (ps_set hN hi hx he hs hf) fun D σ H ⟨C, en, De, R1, h, k⟩ =>
  ⟨C, en, _, De.ex, R1, h, k.x σ, fun r en' v H' q R' o' _ _ _ => by
    cases r with
    | val d => exact k.nx _ _ H' q (R.setV R' o')
    | own a d =>
      obtain ⟨rfl, h1, h2, h3⟩ := o'
      exact k.nx _ _ H' q (R.setO R' h1 h2 h3)
    | bor i => exact (show False from q).elim⟩
theorem ds_setV {i : Nat} {x : Str} {pos' : Pos} (hN : X.N.Nodup) (hi : X.N[i]? = some x) (hx : Loc X.env.scope x) (he : DE X W e te) (hs : swapsWith e (some (.Name x pos')) pos.line X.env = pure false := by rfl)
    (hf : X.fn x = true ∨ X.env.scope.names.lookup x = some .local := by first | exact .inl rfl | exact .inr rfl | assumption) : DS X W (.Assign [.Name x pos'] e pos) (tSetV i te) := PSi (ps_set hN hi hx he hs hf) fun D σ H ⟨C, en, De, R1, h, k⟩ =>
  ⟨C, en, _, De.ex, R1, h, k.x σ, fun r en' v H' q R' o' _ _ _ => by
    cases e : vl r with
    | none => simp only [e] at q
    | some d =>
      simp only [e] at q
      exact k.nx _ _ H' q (R'.dropX.setV (o'.rp R' e))⟩
end
end VS

namespace VS
open PySem L2 PySem.Spec PyProof.Rows

/-! ### a def's promise by its body -/
def noR (N : List Str) (args : En) : En := args ++ List.replicate (N.length - args.length) .no
section
variable {P : Program} {w : World} {K : PySem.W.Frag} {mg : Str → Option Value} {base : Heap}
theorem R.start {C : Cc} {vs : List V} {H : Hp} {args : En} {N : List Str} (r : R K C (vs.map some) H args) : R K C (L2.start N vs) H (noR N args) := by
  have hl := Plen r.sl
  rw [List.length_map] at hl
  have ho : oas (noR N args) = oas args := by
    have h1 : ∀ n, oas (List.replicate n Sl.no) = [] := fun n => by
      induction n with
      | zero => rfl
      | succ n ih => rw [List.replicate_succ]; exact ih
    have h2 : ∀ l : En, ∀ m : En, oas (l ++ m) = oas l ++ oas m := fun l m => by
      induction l with
      | nil => rfl
      | cons s l ih => cases s <;> simp [oas, ih]
    unfold noR
    rw [h2, h1, List.append_nil]
  refine ⟨?_, by rw [ho]; exact r.inj, r.dom, r.keep⟩
  rw [ho]
  unfold L2.start noR
  rw [hl]
  have h3 : ∀ (xs xs' : L2.St) (ys ys' : En), Paired (SlR K C (mm C (oas args)) H) xs ys → Paired (SlR K C (mm C (oas args)) H) xs' ys' → Paired (SlR K C (mm C (oas args)) H) (xs ++ xs') (ys ++ ys') := by
    intro xs xs' ys ys' h1 h2
    induction h1 with
    | nil => exact h2
    | cons h _ ih => exact .cons h ih
  refine h3 _ _ _ _ r.sl ?_
  generalize N.length - args.length = n
  induction n with
  | zero => exact .nil
  | succ n ih => rw [List.replicate_succ, List.replicate_succ]; exact .cons trivial ih
theorem done_nx {C : Cc} {vs : List V} {args : En} {H : Hp} {Φ : Res → List D → Prop} {Ψ : Xc → List D → Prop} {Q : VK} {E : XK} (R0 : R K C (vs.map some) H args) (eH : C.H = H) (eF : ∀ a, C.F a ↔ a ∈ oas args)
    (hΦ : ∀ r ds v H', (∀ i, r ≠ .bor i) → Φ r ds → R K (C.ext r) (vs.map some) H' (setOwns args ds) → Hold K C r (setOwns args ds) H' v → Q v H')
    (hΨ : ∀ x ds cls d H', Ψ x ds → R K C (vs.map some) H' (setOwns args ds) → XcR K (mm C (oas args)) H' x cls d → E cls d H') :
    SOk K C (fun cls d _ H => E cls d H) { nx := fun _ H' => Q .non H', rt := Q } (edOf args Φ Ψ) where
  nx := fun σ en H' q R1 => by
    obtain ⟨ds, h1, h2, h3⟩ := outs_of q
    obtain ⟨q1, q2⟩ := fin_R (r := .val .non) (v := .non) R0 eH eF R1 .non (fun _ z => by cases z) h3
    exact hΦ _ ds _ H' (fun _ z => by cases z) h1 q1 q2
  rt := fun r en σ v H' q R1 hv => by
    cases r with
    | bor i => exact q.elim
    | val d =>
      obtain ⟨ds, h1, h2, h3⟩ := outs_of q
      obtain ⟨q1, q2⟩ := fin_R R0 eH eF R1 hv (fun _ z => by cases z) h3
      exact hΦ _ ds _ H' (fun _ z => by cases z) h1 q1 q2
    | own a d =>
      obtain ⟨ds, h1, h2, h3⟩ := outs_of q
      obtain ⟨q1, q2⟩ := fin_R R0 eH eF R1 hv (fun _ z => by cases z) h3
      exact hΦ _ ds _ H' (fun _ z => by cases z) h1 q1 q2
  bk := fun _ _ _ q => q.elim
  ct := fun _ _ _ q => q.elim
  ex := fun x en σ cls d H' q R1 hx => by
    obtain ⟨ds, h1, h2, h3⟩ := outs_of q
    obtain ⟨q1, q2⟩ := fin_X R0 eH eF R1 hx h3
    exact hΨ x ds cls d H' h1 q1 q2
abbrev W0 : WX := fun _ _ _ _ => False
/-- a def that lets nothing out -/
theorem fn_vs {x qual : Str} {st : Stmt} {f : Addr} {fd : FuncData} {N ps : List Str} {k n : Nat} {sp : Spc} (F : Fun K x qual st f fd) (S : FnScope N ps (defScope st)) (hn : ps.length = n)
    (hb : ∀ (cdv : Value) (A : Around) (outer : List Env) (s : Shared) (H : Hp) (E : XK), Room k (A.deeper (envOfC qual (defScope st) s.heap.objs.size f cdv)) →
      ∃ T : TDs, DSs (cxOf CX0 P w K mg base N qual (defScope st) f cdv A outer s H E).nox W0 (defBody st) T ∧ ∀ args Φ, args.length = n → sp args Φ (fun _ _ => False) → T (edOf args Φ fun _ _ => False) (noR N args))
    (hm : ∀ args Φ Ψ, sp args Φ Ψ → sp args Φ (fun _ _ => False) := by exact fun _ _ _ h => h) : FnOk P w K mg base CX0 (k + 1) f fd ps (lSp K n sp) :=
  F.ok S (fun vs H Q E h => h.1.trans hn.symm) fun cdv A outer s H vs Q E hr h => by
    obtain ⟨hl, C, args, Φ, Ψ, R0, eH, eF, hsp, hΦ, hΨ⟩ := h
    obtain ⟨T, hd, ht⟩ := hb cdv A outer s H E hr
    have ha : args.length = n := by
      have := Plen R0.sl
      rw [List.length_map] at this
      omega
    have ok := done_nx (Ψ := fun _ _ => False) (E := E0) R0 eH eF hΦ (fun _ _ _ _ _ z => z.elim)
    exact ⟨_, hd, C, noR N args, edOf args Φ fun _ _ => False, R0.start, ht args Φ ha (hm _ _ _ hsp), ⟨ok.nx, ok.rt, ok.bk, ok.ct, fun x en σ cls d H' q r z => ok.ex x en σ cls d H' q r z⟩⟩
/-- a def that may raise -/
theorem fn_vsX {x qual : Str} {st : Stmt} {f : Addr} {fd : FuncData} {N ps : List Str} {k n : Nat} {sp : Spc} (F : Fun K x qual st f fd) (S : FnScope N ps (defScope st)) (hn : ps.length = n)
    (hb : ∀ (cdv : Value) (A : Around) (outer : List Env) (s : Shared) (H : Hp) (E : XK), Room k (A.deeper (envOfC qual (defScope st) s.heap.objs.size f cdv)) →
      ∃ T : TDs, DSs (cxOf (L2.CX P w) P w K mg base N qual (defScope st) f cdv A outer s H E) (fun cls d _ H => E cls d H) (defBody st) T ∧ ∀ args Φ Ψ, args.length = n → sp args Φ Ψ → T (edOf args Φ Ψ) (noR N args)) :
    FnOk P w K mg base (L2.CX P w) (k + 1) f fd ps (lSp K n sp) :=
  F.okX S (fun vs H Q E h => h.1.trans hn.symm) fun cdv A outer s H vs Q E hr h => by
    obtain ⟨hl, C, args, Φ, Ψ, R0, eH, eF, hsp, hΦ, hΨ⟩ := h
    obtain ⟨T, hd, ht⟩ := hb cdv A outer s H E hr
    have ha : args.length = n := by
      have := Plen R0.sl
      rw [List.length_map] at this
      omega
    exact ⟨_, hd, C, noR N args, edOf args Φ Ψ, R0.start, ht args Φ Ψ ha hsp, done_nx R0 eH eF hΦ hΨ⟩
end

/-! ### calls of defs -/
def mkArgs (en : En) : List Res → Option En
  | [] => some []
  | r :: rs => match mkArgs en rs with
    | none => none
    | some as => match r with
      | .val d => some (.val d :: as)
      | .own _ d => some (.val d :: as)
      | .bor i => match en[i]? with
        | some (.own a d) => some (.own a d :: as)
        | _ => none
def bors : List Res → List Nat
  | [] => []
  | .bor i :: rs => i :: bors rs
  | _ :: rs => bors rs
def putOwns : En → List Res → List D → En
  | en, [], _ => en
  | en, .bor i :: rs, d' :: ds => match en[i]? with
    | some (.own a _) => putOwns (en.set i (.own a d')) rs ds
    | _ => en
  | en, .bor _ :: rs, [] => en
  | en, _ :: rs, ds => putOwns en rs ds
def tCallD (n : Nat) (sp : Spc) (ta : TDa) : TDe := fun Ψ en Φ => ta Ψ en fun rs en1 => match mkArgs en1 rs with
  | some args => args.length = n ∧ (bors rs).Nodup ∧ sp args (fun r ds => Φ r (putOwns en1 rs ds)) (fun x ds => Ψ x (putOwns en1 rs ds))
  | none => False
section
variable {K : PySem.W.Frag} {C : Cc} {σ : L2.St} {H H' : Hp} {en en' : En} {a : Addr} {d : D} {v : V} {s : Sl}
/-- what mkArgs gives -/
theorem mk_slots : ∀ {rs : List Res} {C : Cc} {vs : List V} {args : En}, HoldA K C rs en H vs → R K (C.exts rs) σ H en → mkArgs en rs = some args →
    vs.length = args.length ∧ (∀ (k : Nat) (d : D), args[k]? = some (.val d) → ∃ v, vs[k]? = some v ∧ Rp K (mm C (oas en)) H v d) ∧
    (∀ (k : Nat) (s : Sl), args[k]? = some s → (∃ d, s = .val d) ∨ ∃ (a : Addr) (d : D) (i : Nat), s = .own a d ∧ i ∈ bors rs ∧ en[i]? = some (.own a d) ∧ vs[k]? = some (.ref a)) ∧
    (∀ i, i ∈ bors rs → ∃ (a : Addr) (d : D), en[i]? = some (.own a d) ∧ Sl.own a d ∈ args)
  | [], _, _, args, h, _, e => by
    cases h; cases e
    exact ⟨rfl, fun k d h => by simp at h, fun k s h => by simp at h, fun i h => by simp [bors] at h⟩
  | r :: rs, C, _, args, ⟨v, ws, e, h1, h2⟩, R1, e' => by
    subst e
    unfold mkArgs at e'
    cases e2 : mkArgs en rs with
    | none => rw [e2] at e'; cases e'
    | some as =>
      rw [e2] at e'
      obtain ⟨l, p1, p2, p3⟩ := mk_slots (rs := rs) h2 R1 e2
      have Rr := R.dropA (rs := rs) (C := C.ext r) R1
      have low : ∀ v d, Rp K (mm (C.ext r) (oas en)) H v d → Rp K (mm C (oas en)) H v d := fun v d h => Rp.mono le_ext _ _ h
      cases r with
      | val d0 =>
        cases e'
        refine ⟨by simp [l], fun k d h => ?_, fun k s h => ?_, fun i h => ?_⟩
        · cases k with
          | zero => simp at h; subst h; exact ⟨v, rfl, Rp.mono le_exts _ _ h1⟩
          | succ k => obtain ⟨v', q1, q2⟩ := p1 k d (by simpa using h); exact ⟨v', by simpa using q1, low _ _ q2⟩
        · cases k with
          | zero => simp at h; exact .inl ⟨d0, h.symm⟩
          | succ k =>
            rcases p2 k s (by simpa using h) with q | ⟨a, d, i, q1, q2, q3, q4⟩
            · exact .inl q
            · exact .inr ⟨a, d, i, q1, q2, q3, by simpa using q4⟩
        · obtain ⟨a, d, q1, q2⟩ := p3 i h
          exact ⟨a, d, q1, List.mem_cons_of_mem _ q2⟩
      | own a0 d0 =>
        cases e'
        refine ⟨by simp [l], fun k d h => ?_, fun k s h => ?_, fun i h => ?_⟩
        · cases k with
          | zero => simp at h; subst h; exact ⟨v, rfl, Rp.mono le_exts _ _ (h1.rp (by rw [exts_ext]; exact R1) rfl)⟩
          | succ k => obtain ⟨v', q1, q2⟩ := p1 k d (by simpa using h); exact ⟨v', by simpa using q1, low _ _ q2⟩
        · cases k with
          | zero => simp at h; exact .inl ⟨d0, h.symm⟩
          | succ k =>
            rcases p2 k s (by simpa using h) with q | ⟨a, d, i, q1, q2, q3, q4⟩
            · exact .inl q
            · exact .inr ⟨a, d, i, q1, q2, q3, by simpa using q4⟩
        · obtain ⟨a, d, q1, q2⟩ := p3 i h
          exact ⟨a, d, q1, List.mem_cons_of_mem _ q2⟩
      | bor i0 =>
        obtain ⟨a0, d0, q0, rfl⟩ := h1
        have e3 : some (Sl.own a0 d0 :: as) = some args := by simpa [q0] using e'
        cases e3
        refine ⟨by simp [l], fun k d h => ?_, fun k s h => ?_, fun i h => ?_⟩
        · cases k with
          | zero => simp at h
          | succ k => obtain ⟨v', q1, q2⟩ := p1 k d (by simpa using h); exact ⟨v', by simpa using q1, low _ _ q2⟩
        · cases k with
          | zero => simp at h; exact .inr ⟨a0, d0, i0, h.symm, by simp [bors], q0, rfl⟩
          | succ k =>
            rcases p2 k s (by simpa using h) with q | ⟨a, d, i, q1, q2, q3, q4⟩
            · exact .inl q
            · exact .inr ⟨a, d, i, q1, by simp [bors, q2], q3, by simpa using q4⟩
        · simp only [bors, List.mem_cons] at h
          rcases h with rfl | h
          · exact ⟨a0, d0, q0, List.mem_cons_self⟩
          · obtain ⟨a, d, q1, q2⟩ := p3 i h
            exact ⟨a, d, q1, List.mem_cons_of_mem _ q2⟩
theorem mkArgs_set : ∀ {rs : List Res} {i : Nat} {s : Sl}, i ∉ bors rs → mkArgs (en.set i s) rs = mkArgs en rs
  | [], _, _, _ => rfl
  | .val d :: rs, i, s, h => by simp only [mkArgs, mkArgs_set (rs := rs) (s := s) (show i ∉ bors rs from h)]
  | .own a d :: rs, i, s, h => by simp only [mkArgs, mkArgs_set (rs := rs) (s := s) (show i ∉ bors rs from h)]
  | .bor j :: rs, i, s, h => by
    have h1 : i ≠ j := fun z => h (by rw [z]; simp [bors])
    have h2 : i ∉ bors rs := fun z => h (by simp [bors, z])
    simp only [mkArgs, mkArgs_set (rs := rs) (s := s) h2, List.getElem?_set_ne h1]
/-- the args' owners, apart -/
theorem mk_nodup : ∀ {rs : List Res} {args : En}, (oas en).Nodup → (bors rs).Nodup → mkArgs en rs = some args → (oas args).Nodup ∧ ∀ a, a ∈ oas args → ∃ i d, i ∈ bors rs ∧ en[i]? = some (.own a d)
  | [], args, _, _, e => by cases e; exact ⟨List.nodup_nil, fun a h => by simp [oas] at h⟩
  | r :: rs, args, nd, nb, e' => by
    unfold mkArgs at e'
    cases e2 : mkArgs en rs with
    | none => rw [e2] at e'; cases e'
    | some as =>
      rw [e2] at e'
      cases r with
      | val d0 =>
        cases e'
        exact mk_nodup (rs := rs) (args := as) nd nb e2
      | own a0 d0 =>
        cases e'
        exact mk_nodup (rs := rs) (args := as) nd nb e2
      | bor i0 =>
        have nb' : i0 ∉ bors rs ∧ (bors rs).Nodup := List.nodup_cons.mp nb
        obtain ⟨h1, h2⟩ := mk_nodup (rs := rs) nd nb'.2 e2
        cases q : en[i0]? with
        | none => simp [q] at e'
        | some s =>
          cases s <;> simp only [q] at e' <;> try cases e'
          rename_i a0 d0
          refine ⟨List.nodup_cons.mpr ⟨fun z => ?_, h1⟩, fun a z => ?_⟩
          · obtain ⟨i, d, m, qi⟩ := h2 a0 z
            rw [own_inj en i0 i d0 d nd q qi] at nb'
            exact nb'.1 m
          · rcases List.mem_cons.mp z with rfl | z
            · exact ⟨i0, d0, by simp [bors], q⟩
            · obtain ⟨i, d, m, qi⟩ := h2 a z
              exact ⟨i, d, by simp [bors, m], qi⟩
/-- the slots behind a call -/
theorem put_at : ∀ {rs : List Res} {en : En} {args : En} {ds : List D}, mkArgs en rs = some args → (bors rs).Nodup →
    Shape en (putOwns en rs ds) ∧ ∀ (j : Nat), (j ∉ bors rs → (putOwns en rs ds)[j]? = en[j]?) ∧
      (j ∈ bors rs → ∃ (a : Addr) (d0 d' : D) (k : Nat), en[j]? = some (.own a d0) ∧ (putOwns en rs ds)[j]? = some (.own a d') ∧ (setOwns args ds)[k]? = some (.own a d'))
  | [], en, args, ds, e, _ => by
    cases e
    exact ⟨Shape.refl _, fun j => ⟨fun _ => by simp [putOwns], fun h => by simp [bors] at h⟩⟩
  | r :: rs, en, args, ds, e', nb => by
    unfold mkArgs at e'
    cases e2 : mkArgs en rs with
    | none => rw [e2] at e'; cases e'
    | some as =>
      rw [e2] at e'
      cases r with
      | val d0 =>
        cases e'
        obtain ⟨h1, h2⟩ := put_at (rs := rs) (ds := ds) e2 nb
        refine ⟨by simpa [putOwns] using h1, fun j => ⟨fun m => by simpa [putOwns] using (h2 j).1 m, fun m => ?_⟩⟩
        obtain ⟨a, d0, d', k, q1, q2, q3⟩ := (h2 j).2 m
        exact ⟨a, d0, d', k + 1, q1, by simpa [putOwns] using q2, by simpa [setOwns] using q3⟩
      | own a0 d0 =>
        cases e'
        obtain ⟨h1, h2⟩ := put_at (rs := rs) (ds := ds) e2 nb
        refine ⟨by simpa [putOwns] using h1, fun j => ⟨fun m => by simpa [putOwns] using (h2 j).1 m, fun m => ?_⟩⟩
        obtain ⟨a, d0, d', k, q1, q2, q3⟩ := (h2 j).2 m
        exact ⟨a, d0, d', k + 1, q1, by simpa [putOwns] using q2, by simpa [setOwns] using q3⟩
      | bor i0 =>
        have nb' : i0 ∉ bors rs ∧ (bors rs).Nodup := List.nodup_cons.mp nb
        cases q : en[i0]? with
        | none => simp [q] at e'
        | some s =>
          cases s <;> simp only [q] at e' <;> try cases e'
          rename_i a0 d0
          cases ds with
          | nil =>
            have ep : ∀ l : List Res, putOwns en (.bor i0 :: l) [] = en := fun l => by simp [putOwns]
            have es : ∀ l : En, setOwns l [] = l := fun l => by
              induction l with
              | nil => simp [setOwns]
              | cons s l ih => cases s <;> simp [setOwns, ih]
            rw [ep, es]
            refine ⟨Shape.refl _, fun j => ⟨fun _ => rfl, fun m => ?_⟩⟩
            simp only [bors, List.mem_cons] at m
            rcases m with rfl | m
            · exact ⟨a0, d0, d0, 0, q, q, rfl⟩
            · obtain ⟨_, h2⟩ := put_at (rs := rs) (ds := []) e2 nb'.2
              obtain ⟨a, d1, d', k, q1, q2, q3⟩ := (h2 j).2 m
              rw [es] at q3
              -- the old content
              have hm : ∀ (rs : List Res) (as : En), mkArgs en rs = some as → ∀ j, j ∈ bors rs → ∃ (a : Addr) (d : D) (k : Nat), en[j]? = some (Sl.own a d) ∧ as[k]? = some (Sl.own a d) := by
                intro rs
                induction rs with
                | nil => intro as _ j m; simp [bors] at m
                | cons r rs ih =>
                  intro as e j m
                  unfold mkArgs at e
                  cases e3 : mkArgs en rs with
                  | none => rw [e3] at e; cases e
                  | some as' =>
                    rw [e3] at e
                    cases r with
                    | val d =>
                      cases e
                      obtain ⟨a, d, k, z1, z2⟩ := ih as' e3 j m
                      exact ⟨a, d, k + 1, z1, by simpa using z2⟩
                    | own a d =>
                      cases e
                      obtain ⟨a, d, k, z1, z2⟩ := ih as' e3 j m
                      exact ⟨a, d, k + 1, z1, by simpa using z2⟩
                    | bor i =>
                      cases q' : en[i]? with
                      | none => simp [q'] at e
                      | some s =>
                        cases s <;> simp only [q'] at e <;> try cases e
                        rename_i a d
                        simp only [bors, List.mem_cons] at m
                        rcases m with rfl | m
                        · exact ⟨a, d, 0, q', rfl⟩
                        · obtain ⟨a, d, k, z1, z2⟩ := ih as' e3 j m
                          exact ⟨a, d, k + 1, z1, by simpa using z2⟩
              obtain ⟨a, d, k, z1, z2⟩ := hm rs as e2 j m
              exact ⟨a, d, d, k + 1, z1, z1, by simpa using z2⟩
          | cons d' ds =>
            have e4 := (mkArgs_set (en := en) (rs := rs) (s := Sl.own a0 d') nb'.1).trans e2
            obtain ⟨h1, h2⟩ := put_at (rs := rs) (ds := ds) e4 nb'.2
            have ep : putOwns en (.bor i0 :: rs) (d' :: ds) = putOwns (en.set i0 (.own a0 d')) rs ds := by simp [putOwns, q]
            rw [ep]
            refine ⟨Shape.trans (Shape.set (s' := .own a0 d') q rfl) h1, fun j => ⟨fun m => ?_, fun m => ?_⟩⟩
            · have m1 : j ≠ i0 := fun z => m (by rw [z]; simp [bors])
              have m2 : j ∉ bors rs := fun z => m (by simp [bors, z])
              rw [(h2 j).1 m2, List.getElem?_set_ne (Ne.symm m1)]
            · simp only [bors, List.mem_cons] at m
              rcases m with rfl | m
              · refine ⟨a0, d0, d', 0, q, ?_, rfl⟩
                rw [(h2 j).1 nb'.1, List.getElem?_set_self (List.getElem?_eq_some_iff.mp q).1]
              · obtain ⟨a, d1, d2, k, q1, q2, q3⟩ := (h2 j).2 m
                have m1 : i0 ≠ j := fun z => nb'.1 (by rw [z]; exact m)
                rw [List.getElem?_set_ne m1] at q1
                exact ⟨a, d1, d2, k + 1, q1, q2, by simpa [setOwns] using q3⟩
/-- the caller's slots behind a call -/
theorem call_R {rs : List Res} {vs : List V} {args : En} (hA : HoldA K C rs en H vs) (R1 : R K (C.exts rs) σ H en) (e : mkArgs en rs = some args) (nb : (bors rs).Nodup) :
    ∃ C' : Cc, R K C' (vs.map some) H args ∧ C'.H = H ∧ (∀ a, C'.F a ↔ a ∈ oas args) ∧
      (∀ (r : Res) (ds : List D) (v : V) (H' : Hp), R K (C'.ext r) (vs.map some) H' (setOwns args ds) → Hold K C' r (setOwns args ds) H' v → (∀ i, r ≠ .bor i) →
        R K (C.ext r) σ H' (putOwns en rs ds) ∧ Hold K C r (putOwns en rs ds) H' v ∧ Shape en (putOwns en rs ds) ∧ Keep en H H' ∧ NewR H r) ∧
      (∀ x cls d H', XcR K (mm C' (oas args)) H' x cls d → XcR K (mm C (oas en)) H' x cls d) := by
  obtain ⟨l, p1, p2, p3⟩ := mk_slots hA R1 e
  obtain ⟨nd, q1⟩ := mk_nodup R1.inj nb e
  have sub : ∀ a, a ∈ oas args → a ∈ oas en := fun a h => by
    obtain ⟨i, d, _, z⟩ := q1 a h
    exact oas_mem.mpr ⟨i, d, z⟩
  have R0 := R1.dropA
  let C' : Cc := { M := fun x => mm C (oas en) x ∧ x ∉ oas args, F := fun x => x ∈ oas args, H := H }
  have mmE : ∀ x, mm C' (oas args) x ↔ mm C (oas en) x := fun x => ⟨fun z => z.elim (·.1) fun z => .inr (sub x z), fun z => (Classical.em (x ∈ oas args)).elim .inr fun w => .inl ⟨z, w⟩⟩
  have leI : ∀ Hx, Le (mm C (oas en)) Hx (mm C' (oas args)) Hx := fun _ b u n z => ⟨fun w => n ((mmE b).mp w), z⟩
  refine ⟨C', ⟨?_, nd, fun a w => ?_, fun a u h _ => h⟩, rfl, fun a => Iff.rfl, fun r ds v H' R2 hv nbr => ?_, fun x cls d H' h => h.mono fun b u n z => ⟨fun w => n ((mmE b).mpr w), z⟩⟩
  · -- the args
    refine Pof (by rw [List.length_map]; exact l) fun k x y hx hy => ?_
    rcases p2 k y hy with ⟨d, rfl⟩ | ⟨a, d, i, rfl, hi, z1, z2⟩
    · obtain ⟨v, w1, w2⟩ := p1 k d hy
      rw [List.getElem?_map, w1] at hx
      cases hx
      exact Rp.mono (leI H) _ _ w2
    · rw [List.getElem?_map, z2] at hx
      cases hx
      have g := R0.getO z1
      exact ⟨rfl, fun w => w.2 (oas_mem.mpr ⟨k, d, hy⟩), .inl (oas_mem.mpr ⟨k, d, hy⟩), g.2.2.2.mono (leI H) fun _ q => q⟩
  · rcases w with w | w
    · exact R0.mD w.1
    · exact R0.oD (sub a w)
  · -- behind it
    obtain ⟨sh, at_⟩ := put_at (ds := ds) e nb
    have eo : oas (putOwns en rs ds) = oas en := (oas_shape sh).symm
    have ea : oas (setOwns args ds) = oas args := (oas_shape (setOwns_shape args ds)).symm
    have kp : ∀ a u, a ∉ oas args → H a = some u → H' a = some u := fun a u n z => R2.keep a u (by rw [ext_H]; exact z) (by rw [ext_F]; exact n)
    have keep : Keep en H H' := fun a u n z => kp a u (fun w => n (sub a w)) z
    have hn : ∀ p dp, r = .own p dp → H p = none := fun p dp er => by
      subst er
      obtain ⟨_, _, f, _⟩ := hv
      rcases f with f | f
      · exact absurd (.inr rfl) (R2.oM (by rw [ea]; exact f))
      · exact f
    have le2 : ∀ r', (∀ p dp, r' = .own p dp → r = .own p dp) → Le (mm (C'.ext r') (oas (setOwns args ds))) H' (mm (C.ext r') (oas en)) H' := fun r' hr' b u n z => ⟨fun w => n (by
      rw [ea]
      rcases w with w | w
      · cases r' with
        | own p dp =>
          rcases w with w | w
          · rcases (mmE b).mpr (.inl w) with w | w
            · exact .inl (.inl w)
            · exact .inr w
          · exact .inl (.inr w)
        | val _ =>
          rcases (mmE b).mpr (.inl w) with w | w
          · exact .inl w
          · exact .inr w
        | bor _ =>
          rcases (mmE b).mpr (.inl w) with w | w
          · exact .inl w
          · exact .inr w
      · rcases (mmE b).mpr (.inr w) with w | w
        · cases r' with
          | own p dp => exact .inl (.inl w)
          | val _ => exact .inl w
          | bor _ => exact .inl w
        · exact .inr w), z⟩
    have le3 : Le (mm C (oas en)) H (mm (C.ext r) (oas en)) H' := fun b u n z => ⟨fun w => n (mm_split (fun p dp er wb => by rw [wb, hn p dp er] at z; cases z) .inr w), kp b u (fun w => n (.inr (sub b w))) z⟩
    refine ⟨⟨?_, by rw [eo]; exact R0.inj, fun a w => ?_, fun a u z n => ?_⟩, ?_, sh, keep, ?_⟩
    rotate_right
    · cases r with
      | own p dp => exact hn p dp rfl
      | _ => trivial
    · rw [eo]
      have hl : σ.length = (putOwns en rs ds).length := by
        have h1 := Plen R0.sl
        have h2 := congrArg List.length sh
        rw [List.length_map, List.length_map] at h2
        rw [h1, h2]
      refine Pof hl fun j x y hx hy => ?_
      by_cases hj : j ∈ bors rs
      · obtain ⟨a, d0, d', k, z1, z2, z3⟩ := (at_ j).2 hj
        rw [z2] at hy
        cases hy
        have g := R2.getO z3
        have g0 := R0.getO z1
        have hxx : x = some (.ref a) := by rw [g0.1] at hx; exact (Option.some.inj hx).symm
        subst hxx
        refine ⟨rfl, fun w => ?_, by rw [ext_F, ext_H]; exact g0.2.2.1, g.2.2.2.mono (le2 r fun _ _ q => q) fun _ q => q⟩
        cases r with
        | own p dp =>
          rcases w with w | w
          · exact g0.2.1 w
          · exact g.2.1 (.inr w)
        | val _ => exact g0.2.1 w
        | bor _ => exact g0.2.1 w
      · rw [(at_ j).1 hj] at hy
        have f0 := Pat R0.sl hx hy
        cases y with
        | own a d =>
          cases x with
          | none => exact f0.elim
          | some w =>
            obtain ⟨rfl, g1, g2, g3⟩ := f0
            have na : a ∉ oas args := fun z => by
              obtain ⟨i, d1, m, z1⟩ := q1 a z
              exact hj (by rw [own_inj en j i d d1 R0.inj hy z1]; exact m)
            have ha : ∀ u, H a = some u → H' a = some u := fun u z => kp a u na z
            refine ⟨rfl, fun w => ?_, by rw [ext_F, ext_H]; exact g2, g3.mono le3 ha⟩
            cases r with
            | own p dp =>
              rcases w with w | w
              · exact g1 w
              · obtain ⟨u, z⟩ := g3.dom
                rw [w, hn p dp rfl] at z
                cases z
            | val _ => exact g1 w
            | bor _ => exact g1 w
        | no => trivial
        | val d => exact f0.val_of le3 fun _ _ z => by cases z
        | exc => exact f0.val_of le3 fun _ _ z => by cases z
    · -- what stood stands
      have hm : mm C (oas en) a ∨ C.F a → ∃ u, H' a = some u := fun z => by
        by_cases ha : a ∈ oas args
        · exact R2.oD (by rw [ea]; exact ha)
        · have : ∃ u, H a = some u := by
            rcases z with z | z
            · exact R0.mD z
            · exact R0.dom a (.inr z)
          obtain ⟨u, z⟩ := this
          exact ⟨u, kp a u ha z⟩
      rcases w with w | w
      · cases r with
        | own p dp =>
          rcases w with w | w
          · exact hm (.inl (.inl w))
          · exact R2.dom a (.inl (.inr w))
        | val _ => exact hm (.inl (.inl w))
        | bor _ => exact hm (.inl (.inl w))
      · rw [ext_F] at w
        exact hm (.inr w)
    · rw [ext_H] at z
      rw [ext_F] at n
      have z' := R0.keep a u z n
      refine kp a u (fun w => ?_) z'
      rcases R0.oF (sub a w) with f | f
      · exact n f
      · rw [f] at z; cases z
    · cases r with
      | val d =>
        show Rp K (mm C (oas (putOwns en rs ds))) H' v d
        rw [eo]
        exact Rp.mono (le2 (.val d) fun _ _ q => q) _ _ hv
      | own p dp =>
        obtain ⟨h1, h2, h3, h4⟩ := hv
        have hp := hn p dp rfl
        refine ⟨h1, fun w => ?_, .inr (R0.new hp), ?_⟩
        · obtain ⟨u, z⟩ := R0.dom p (.inl w)
          rw [hp] at z; cases z
        · rw [eo]
          exact h4.mono (le2 (.own p dp) fun _ _ q => q) fun _ q => q
      | bor i => exact absurd rfl (nbr i)
end
section
variable {X : Cx} {W : WX} {CX : CXT} {k n : Nat} {f : Addr} {fd : FuncData} {ps : List Str} {sp : Spc} {x : Str} {p pos : Pos} {e : Expr} {es : List Expr} {t : TDa}
theorem call_go {E : L2.St → XK} (hE : ∀ cls d σ H, W cls d σ H → E σ cls d H) {σ : L2.St} {H : Hp} {Q : VK} (h : lE X.K W (tCallD n sp t) σ H Q) : tCallS (lSp X.K n sp) E (lA X.K W t) σ H Q := by
  obtain ⟨C, en, Φ, Ψ, R0, hT, hX, kk⟩ := h
  refine ⟨C, en, _, Ψ, R0, hT, hX, fun rs en1 vs H1 h1 R1 hold1 s1 k1 _ => ?_⟩
  cases e : mkArgs en1 rs with
  | none => simp only [e] at h1
  | some args =>
    simp only [e] at h1
    obtain ⟨hl, nb, hs⟩ := h1
    obtain ⟨C', R', eH, eF, back, backX⟩ := call_R hold1 R1 e nb
    refine ⟨(mk_slots hold1 R1 e).1.trans hl, C', args, _, _, R', eH, eF, hs, fun r ds v H' nr q R2 hv => ?_, fun x ds cls d H' q R2 hx => ?_⟩
    · obtain ⟨z1, z2, z3, z4, z5⟩ := back r ds v H' R2 hv nr
      exact kk r _ v H' q z1 z2 (s1.trans z3) (k1.trans s1 z4) (z5.back k1 s1 R1.dropA)
    · obtain ⟨z1, z2, z3, z4, _⟩ := back (.val .non) ds .non H' R2 .non fun _ z => by cases z
      refine hE _ _ _ _ (hX x _ cls d H' q z1 ?_)
      rw [← oas_shape z3]
      exact backX x cls d H' hx
theorem call_go0 {σ : L2.St} {H : Hp} {Q : VK} (h : lE X.K W (tCallD n (fun a Φ _ => sp a Φ fun _ _ => False) t) σ H Q) : tCallS (lSp X.K n sp) (fun _ => E0) (lA X.K W t) σ H Q := by
  obtain ⟨C, en, Φ, Ψ, R0, hT, hX, kk⟩ := h
  refine ⟨C, en, _, Ψ, R0, hT, hX, fun rs en1 vs H1 h1 R1 hold1 s1 k1 _ => ?_⟩
  cases e : mkArgs en1 rs with
  | none => simp only [e] at h1
  | some args =>
    simp only [e] at h1
    obtain ⟨hl, nb, hs⟩ := h1
    obtain ⟨C', R', eH, eF, back, backX⟩ := call_R hold1 R1 e nb
    refine ⟨(mk_slots hold1 R1 e).1.trans hl, C', args, _, _, R', eH, eF, hs, fun r ds v H' nr q R2 hv => ?_, fun x ds cls d H' q R2 hx => q.elim⟩
    obtain ⟨z1, z2, z3, z4, z5⟩ := back r ds v H' R2 hv nr
    exact kk r _ v H' q z1 z2 (s1.trans z3) (k1.trans s1 z4) (z5.back k1 s1 R1.dropA)
/-- f(..), f lets nothing out | what it lets out cannot be here -/
theorem de_call (F : FnOk X.prog X.w X.K X.mg X.base CX0 k f fd ps (lSp X.K n sp)) (hr : Room k X.A) (hg : Gl X x) (hm : X.mg x = some (.ref f)) (hk : PySem.W.keepIn X.K (.ref f) = true) (hb : Binds X.K fd ps [])
    (ha : DA X W (e :: es) t) (hdb : (x == ("__debug__" : Str)) = false := by decide) (he : starEach (e :: es) X.env = (false, eval e X.env) :: starEach es X.env := by rfl) (hpl : (backTo pos (starEach es X.env)).any (·.1) = false := by rfl) :
    DE X W (.Call (.Name x p) (e :: es) [] pos) (tCallD n (fun a Φ _ => sp a Φ fun _ _ => False) t) :=
  PEi (pe_callS F hr hg hm hk hb (E := fun _ => E0) (fun σ _ _ _ _ _ _ z => z.elim) ha hdb he hpl) fun σ H Q h => call_go0 h
theorem de_callQ (F : FnOk X.prog X.w X.K X.mg X.base (L2.CX X.prog X.w) k f fd ps (lSp X.K n sp)) (hr : Room k X.A) (hg : Gl X x) (hm : X.mg x = some (.ref f)) (hk : PySem.W.keepIn X.K (.ref f) = true) (hb : Binds X.K fd ps [])
    (ha : DA X W (e :: es) t) (hdb : (x == ("__debug__" : Str)) = false := by decide) (he : starEach (e :: es) X.env = (false, eval e X.env) :: starEach es X.env := by rfl) (hpl : (backTo pos (starEach es X.env)).any (·.1) = false := by rfl) :
    DE X W (.Call (.Name x p) (e :: es) [] pos) (tCallD n (fun a Φ _ => sp a Φ fun _ _ => False) t) :=
  PEi (pe_callS F hr hg hm hk hb (E := fun _ => E0) (fun σ pins H s e s' I z => passL pins σ H s e s' I z) ha hdb he hpl) fun σ H Q h => call_go0 h
/-- f(..), f may raise -/
theorem de_callX (F : FnOk X.prog X.w X.K X.mg X.base (L2.CX X.prog X.w) k f fd ps (lSp X.K n sp)) (hr : Room k X.A) (hg : Gl X x) (hm : X.mg x = some (.ref f)) (hk : PySem.W.keepIn X.K (.ref f) = true) (hb : Binds X.K fd ps []) (tk : Takes X W)
    (ha : DA X W (e :: es) t) (hdb : (x == ("__debug__" : Str)) = false := by decide) (he : starEach (e :: es) X.env = (false, eval e X.env) :: starEach es X.env := by rfl) (hpl : (backTo pos (starEach es X.env)).any (·.1) = false := by rfl) :
    DE X W (.Call (.Name x p) (e :: es) [] pos) (tCallD n sp t) :=
  PEi (pe_callS F hr hg hm hk hb (E := fun σ => WE W σ) (fun σ => passAt tk σ) ha hdb he hpl) fun σ H Q h => call_go (fun _ _ _ _ z => z) h
end
end VS

namespace VS
open PySem L2 PySem.Spec PyProof.Rows

/-! ### targets -/
abbrev TDg := D → En → (En → Prop) → Prop
abbrev TDgs := List D → En → (En → Prop) → Prop
/-- what a target leaves as it was: all slots but S -/
def Only (S : List Nat) (σ σ' : L2.St) (en en' : En) : Prop := (∀ j, j ∉ S → σ'[j]? = σ[j]?) ∧ (∀ j, j ∉ S → en'[j]? = en[j]?) ∧ σ'.length = σ.length ∧ en'.length = en.length
def lG (K : PySem.W.Frag) (S : List Nat) (T : TDg) : TG := fun v σ H Q => ∃ (C : Cc) (en : En) (d : D) (Φ : En → Prop), R K C σ H en ∧ Rp K (mm C (oas en)) H v d ∧ T d en Φ ∧
  ∀ σ' en', Φ en' → R K C σ' H en' → Le (mm C (oas en)) H (mm C (oas en')) H → Only S σ σ' en en' → Q σ' H
def lGs (K : PySem.W.Frag) (S : List Nat) (T : TDgs) : TGs := fun vs σ H Q => ∃ (C : Cc) (en : En) (ds : List D) (Φ : En → Prop), R K C σ H en ∧ RpA K (mm C (oas en)) H vs ds ∧ T ds en Φ ∧
  ∀ σ' en', Φ en' → R K C σ' H en' → Le (mm C (oas en)) H (mm C (oas en')) H → Only S σ σ' en en' → Q σ' H
abbrev DG (X : Cx) (S : List Nat) (tg : Expr) (T : TDg) : Prop := PG X tg (lG X.K S T)
abbrev DGs (X : Cx) (S : List Nat) (tg : List Expr) (T : TDgs) : Prop := PGs X tg (lGs X.K S T)
theorem PGi {X : Cx} {tg : Expr} {t t' : TG} (h : PG X tg t) (i : ∀ v σ H Q, t' v σ H Q → t v σ H Q) : PG X tg t' := ⟨fun pins s σ H v u Q I r q => h.run pins s σ H v u Q I r (i v σ H Q q)⟩
theorem PGsi {X : Cx} {tg : List Expr} {t t' : TGs} (h : PGs X tg t) (i : ∀ v σ H Q, t' v σ H Q → t v σ H Q) : PGs X tg t' := ⟨fun pins s σ H v u Q I r q => h.run pins s σ H v u Q I r (i v σ H Q q)⟩
def tNamG (i : Nat) : TDg := fun d en Φ => Φ (en.set i (.val d))
def tTupG (n : Nat) (t : TDgs) : TDg := fun d en Φ => match d with
  | .tup ds => ds.length = n ∧ t ds en Φ
  | _ => False
def tNilG : TDgs := fun ds en Φ => match ds with
  | [] => Φ en
  | _ => False
def tConsG (t : TDg) (u : TDgs) : TDgs := fun ds en Φ => match ds with
  | d :: r => t d en fun en1 => u r en1 Φ
  | [] => False
theorem Le.trans {M M1 M2 : Ms} {H H1 H2 : Hp} (a : Le M H M1 H1) (b : Le M1 H1 M2 H2) : Le M H M2 H2 := fun x u n h => b x u (a x u n h).1 (a x u n h).2
theorem le_set {C : Cc} {en : En} {H : Hp} {i : Nat} {s : Sl} (hs : oas [s] = []) : Le (mm C (oas en)) H (mm C (oas (en.set i s))) H := fun a u n q => ⟨fun z => n (z.imp id fun z => (oas_set_sub i hs).subset z), q⟩
section
variable {X : Cx} {S S' : List Nat} {tg : Expr} {tgs : List Expr} {t : TDg} {u : TDgs} {pos : Pos}
theorem dg_name {i : Nat} {x : Str} (hN : X.N.Nodup) (hi : X.N[i]? = some x) (hx : Loc X.env.scope x) (hf : X.fn x = true ∨ X.env.scope.names.lookup x = some .local := by first | exact .inl rfl | exact .inr rfl | assumption) : DG X [i] (.Name x pos) (tNamG i) :=
  PGi (pg_name hN hi hx hf) fun v σ H Q ⟨C, en, d, Φ, R1, hv, h, k⟩ => k _ _ h (R1.setV hv) (le_set rfl)
    ⟨fun j hj => by rw [List.getElem?_set_ne (fun z => hj (by simp [z]))], fun j hj => by rw [List.getElem?_set_ne (fun z => hj (by simp [z]))], by simp, by simp⟩
theorem dgs_nil : DGs X [] [] tNilG := PGsi pgs_nil fun vs σ H Q ⟨C, en, ds, Φ, R1, hv, h, k⟩ => by
  cases ds with
  | nil => cases hv; exact ⟨rfl, k _ _ h R1 (fun _ _ n q => ⟨n, q⟩) ⟨fun _ _ => rfl, fun _ _ => rfl, rfl, rfl⟩⟩
  | cons => exact (show False from h).elim
theorem dgs_cons (h1 : DG X S tg t) (h2 : DGs X S' tgs u) (hs : (assignEach (tg :: tgs) X.env).map (·.2) = assign tg X.env :: (assignEach tgs X.env).map (·.2) := by rfl) : DGs X (S ++ S') (tg :: tgs) (tConsG t u) :=
  PGsi (pgs_cons h1 h2 hs) fun vs σ H Q ⟨C, en, ds, Φ, R1, hv, h, k⟩ => by
    cases ds with
    | nil => exact (show False from h).elim
    | cons d ds =>
      cases hv with
      | cons q1 q2 =>
        refine ⟨_, _, rfl, C, en, d, _, R1, q1, h, fun σ1 en1 g1 R2 l1 o1 => ?_⟩
        refine ⟨C, en1, ds, Φ, R2, RpA.mono l1 _ _ q2, g1, fun σ2 en2 g2 R3 l2 o2 => ?_⟩
        refine k _ _ g2 R3 (l1.trans l2) ⟨fun j hj => ?_, fun j hj => ?_, o2.2.2.1.trans o1.2.2.1, o2.2.2.2.trans o1.2.2.2⟩
        · rw [o2.1 j (fun z => hj (List.mem_append_right _ z)), o1.1 j (fun z => hj (List.mem_append_left _ z))]
        · rw [o2.2.1 j (fun z => hj (List.mem_append_right _ z)), o1.2.1 j (fun z => hj (List.mem_append_left _ z))]
theorem dg_tup {k n : Nat} (hc : X.calm = true) (h : DGs X S tgs u) (hn : (assignEach tgs X.env).length = n := by rfl) (hst : (assignEach tgs X.env).findIdx? (·.1) = none := by rfl) : DG X S (.Tuple tgs k pos) (tTupG n u) :=
  PGi (pg_tup hc h hn hst) fun v σ H Q ⟨C, en, d, Φ, R1, hv, h, k⟩ => by
    cases d <;> try exact (show False from h).elim
    rename_i ds
    obtain ⟨hl, h⟩ := h
    cases hv with
    | tup h1 h2 => exact ⟨_, _, rfl, h1.sq, h2.length.trans hl, C, en, ds, Φ, R1, h2, h, k⟩
end

/-! ### further statements -/
def tAsgD (ta : TDe) (tg : TDg) : TDs := fun De en => ta De.ex en fun r en1 => match vl r with
  | some d => tg d en1 De.nx
  | none => False
def slR : Res → Sl
  | .val d => .val d
  | .own a d => .own a d
  | .bor _ => .no
def nob : Res → Prop
  | .bor _ => False
  | _ => True
def tParD (i j : Nat) (ta : TDa) : TDs := fun De en => ta De.ex en fun rs en1 => match rs with
  | [a, b] => nob a ∧ nob b ∧ De.nx ((en1.set i (slR a)).set j (slR b))
  | _ => False
def tPar3D (i j l : Nat) (ta : TDa) : TDs := fun De en => ta De.ex en fun rs en1 => match rs with
  | [a, b, c] => nob a ∧ nob b ∧ nob c ∧ De.nx (((en1.set i (slR a)).set j (slR b)).set l (slR c))
  | _ => False
/-- xs[k] = e, xs an own list in slot i -/
def tStoD (i : Nat) (te ti : TDe) : TDs := fun De en => te De.ex en fun r en1 => match vl r, en1[i]? with
  | some d, some (.own _ _) => ti De.ex en1 fun rj en2 => (match rj, en2[i]? with
    | .val (.int k), some (.own a (.lst ds)) => (match ixN ds.length k with
      | some j => De.nx (en2.set i (.own a (.lst (ds.set j d))))
      | none => False)
    | _, _ => False)
  | _, _ => False
def tWhileD (t : TDt) (tb : TDs) : TDs := fun De en => ∃ J : Nat → En → Prop, (∃ m, J m en) ∧ ∀ m en, J m en → t De.ex en fun b en1 => if b = true then tb { De with nx := fun e => ∃ m', m' < m ∧ J m' e, ct := fun e => ∃ m', m' < m ∧ J m' e, bk := De.nx } en1 else De.nx en1
section
variable {K : PySem.W.Frag} {C : Cc} {σ : L2.St} {H H' : Hp} {en en' : En} {a : Addr} {d : D} {v : V} {s : Sl} {r : Res}
theorem R.setR {i : Nat} (R1 : R K (C.ext r) σ H en) (h : Hold K C r en H v) (n : nob r) : R K C (σ.set i (some v)) H (en.set i (slR r)) := by
  cases r with
  | val d => exact R.setV R1 h
  | own a d =>
    obtain ⟨rfl, h1, h2, h3⟩ := h
    exact R.setO R1 h1 h2 h3
  | bor i => exact n.elim
theorem stored_le {i : Nat} {r : Res} (n : nob r) : Le (mm (C.ext r) (oas en)) H (mm C (oas (en.set i (slR r)))) H := fun b u m q => ⟨fun z => m (by
  rcases z with z | z
  · cases r with
    | own p d => exact .inl (.inl z)
    | val _ => exact .inl z
    | bor _ => exact n.elim
  · cases r with
    | own p d =>
      rcases oas_set_own i b z with z | z
      · exact .inl (.inr z)
      · exact .inr z
    | val _ => exact .inr ((oas_set_sub i rfl).subset z)
    | bor _ => exact n.elim), q⟩
theorem Hold.stored {i : Nat} {r1 r2 : Res} (h : Hold K (C.ext r1) r2 en H v) (n1 : nob r1) (n2 : nob r2) : Hold K C r2 (en.set i (slR r1)) H v := by
  cases r2 with
  | val d => exact Rp.mono (stored_le n1) _ _ h
  | own p d =>
    obtain ⟨h1, h2, h3, h4⟩ := h
    refine ⟨h1, fun z => h2 ?_, by rw [ext_F, ext_H] at h3; exact h3, ?_⟩
    · cases r1 with
      | own _ _ => exact .inl z
      | val _ => exact z
      | bor _ => exact z
    · have e : (C.ext r1).add p = (C.add p).ext r1 := ext_ext (r2 := .own p d)
      rw [e] at h4
      exact h4.mono (stored_le n1) fun _ q => q
  | bor _ => exact n2.elim
theorem HoldA.stored {i : Nat} {r1 : Res} (n1 : nob r1) : ∀ {rs : List Res} {C : Cc} {vs : List V}, HoldA K (C.ext r1) rs en H vs → (∀ r, r ∈ rs → nob r) → HoldA K C rs (en.set i (slR r1)) H vs
  | [], _, _, h, _ => h
  | r :: rs, C, _, ⟨v, ws, e, h1, h2⟩, n => ⟨v, ws, e, Hold.stored (by rw [exts_ext]; exact h1) n1 (n r List.mem_cons_self), HoldA.stored n1 (rs := rs) (C := C.ext r) (by rw [ext_ext]; exact h2) fun r' h => n r' (List.mem_cons_of_mem _ h)⟩
end
section
variable {X : Cx} {W : WX} {a b c e : Expr} {ta tb tc te ti : TDe} {tA tB' : TDt} {p pos : Pos} {st : Stmt} {rest body : List Stmt} {t u v : TDs} {tg : Expr} {S : List Nat} {tG : TDg} {tR : TDa}
theorem ds_asg (he : DE X W e te) (hg : DG X S tg tG) (hs : swapsWithSole [tg] e pos.line X.env = pure false := by rfl) (hw : swappedStores [tg] e X.env = pure none := by rfl)
    (h1 : (assignEach [tg] X.env).map (·.2) = [assign tg X.env] := by rfl) : DS X W (.Assign [tg] e pos) (tAsgD te tG) := PSi (ps_asg he hg hs hw h1) fun D σ H ⟨C, en, De, R1, h, k⟩ =>
  ⟨C, en, _, De.ex, R1, h, k.x σ, fun r en' v H' q R' o' _ _ _ => by
    cases e : vl r with
    | none => simp only [e] at q
    | some d =>
      simp only [e] at q
      exact ⟨C, en', d, _, R'.dropX, o'.rp R' e, q, fun σ2 en2 g R2 _ _ => k.nx σ2 en2 H' g R2⟩⟩
theorem ds_par {i j : Nat} {x y : Str} {px py pt : Pos} {kt k2 pt2} (hc : X.calm = true) (hN : X.N.Nodup) (hi : X.N[i]? = some x) (hj : X.N[j]? = some y) (hij : i ≠ j)
    (hx : X.env.scope.names.lookup x = some .local) (hy : X.env.scope.names.lookup y = some .local) (ha : DA X W [a, b] tR)
    (hw : swappedStores [.Tuple [.Name x px, .Name y py] kt pt] (.Tuple [a, b] k2 pt2) X.env = pure (some [x, y]) := by rfl)
    (hs : swapsWithSole [.Tuple [.Name x px, .Name y py] kt pt] (.Tuple [a, b] k2 pt2) pos.line X.env = pure false := by rfl) :
    DS X W (.Assign [.Tuple [.Name x px, .Name y py] kt pt] (.Tuple [a, b] k2 pt2) pos) (tParD i j tR) := PSi (ps_par hc hN hi hj hij hx hy ha hw hs) fun D σ H ⟨C, en, De, R1, h, k⟩ =>
  ⟨C, en, _, De.ex, R1, h, k.x σ, fun rs en' vs H' q R' o' _ _ _ => by
    match rs, q, R', o' with
    | [r1, r2], ⟨n1, n2, q⟩, R', ⟨v1, ws, e1, h1, v2, ws', e2, h2, e3⟩ =>
      subst e1 e2 e3
      refine ⟨v1, v2, rfl, k.nx _ _ H' q ?_⟩
      have R'' : R X.K ((C.ext r2).ext r1) σ H' en' := by rw [ext_ext]; exact R'
      exact R.setR (R.setR R'' h1 n1) (Hold.stored h2 n1 n2) n2⟩
theorem ds_par3 {i j l : Nat} {x y z : Str} {px py pz pt : Pos} {kt k2 pt2} (hc : X.calm = true) (hN : X.N.Nodup) (hi : X.N[i]? = some x) (hj : X.N[j]? = some y) (hl : X.N[l]? = some z) (hij : i ≠ j) (hil : i ≠ l) (hjl : j ≠ l)
    (hx : X.env.scope.names.lookup x = some .local) (hy : X.env.scope.names.lookup y = some .local) (hz : X.env.scope.names.lookup z = some .local) (ha : DA X W [a, b, c] tR)
    (hw : swappedStores [.Tuple [.Name x px, .Name y py, .Name z pz] kt pt] (.Tuple [a, b, c] k2 pt2) X.env = pure (some [x, y, z]) := by rfl)
    (hs : swapsWithSole [.Tuple [.Name x px, .Name y py, .Name z pz] kt pt] (.Tuple [a, b, c] k2 pt2) pos.line X.env = pure false := by rfl) :
    DS X W (.Assign [.Tuple [.Name x px, .Name y py, .Name z pz] kt pt] (.Tuple [a, b, c] k2 pt2) pos) (tPar3D i j l tR) := PSi (ps_par3 hc hN hi hj hl hij hil hjl hx hy hz ha hw hs) fun D σ H ⟨C, en, De, R1, h, k⟩ =>
  ⟨C, en, _, De.ex, R1, h, k.x σ, fun rs en' vs H' q R' o' _ _ _ => by
    match rs, q, R', o' with
    | [r1, r2, r3], ⟨n1, n2, n3, q⟩, R', ⟨v1, ws, e1, h1, v2, ws', e2, h2, v3, ws'', e3, h3, e4⟩ =>
      subst e1 e2 e3 e4
      refine ⟨v1, v2, v3, rfl, k.nx _ _ H' q ?_⟩
      have Ra : R X.K (((C.ext r2).ext r3).ext r1) σ H' en' := by
        have : ((C.ext r2).ext r3).ext r1 = ((C.ext r1).ext r2).ext r3 := by rw [ext_ext (C := C.ext r2), ext_ext (C := C) (r1 := r2)]
        rw [this]; exact R'
      have R1' := R.setR (i := i) Ra h1 n1
      have R2' : R X.K ((C.ext r3).ext r2) (σ.set i (some v1)) H' (en'.set i (slR r1)) := by rw [ext_ext]; exact R1'
      have h2' : Hold X.K (C.ext r3) r2 (en'.set i (slR r1)) H' v2 := Hold.stored (by rw [ext_ext]; exact h2) n1 n2
      have R3' := R.setR (i := j) R2' h2' n2
      have h3' : Hold X.K (C.ext r2) r3 (en'.set i (slR r1)) H' v3 := Hold.stored (by rw [ext_ext]; exact h3) n1 n3
      exact R.setR R3' (Hold.stored h3' n2 n3) n3⟩
theorem ds_while (hp : PassesOwn (model X.prog X.w) X.A X.env X.xe) (hc : DT X W c tA) (hb : DSs X W body t) : DS X W (.While c body [] pos) (tWhileD tA t) := PSi (ps_while hp hc hb) fun D σ H ⟨C, en, De, R1, ⟨J, ⟨m0, h0⟩, step⟩, k⟩ => by
  refine ⟨fun m σ H => ∃ en, R X.K C σ H en ∧ J m en, ⟨m0, en, R1, h0⟩, fun m σ1 H1 ⟨en1, R2, i1⟩ => ?_⟩
  refine ⟨C, en1, _, De.ex, R2, step m en1 i1, k.x σ1, fun b en2 H2 q R3 _ _ => ?_⟩
  cases b with
  | true =>
    have q' : t { De with nx := fun e => ∃ m', m' < m ∧ J m' e, ct := fun e => ∃ m', m' < m ∧ J m' e, bk := De.nx } en2 := q
    refine ⟨fun σ' H' => ∃ m' en', m' < m ∧ R X.K C σ' H' en' ∧ J m' en', fun σ' H' ⟨m', en', l, r, i⟩ => ⟨m', l, en', r, i⟩, C, en2, _, R3, q', ⟨?_, k.rt, k.nx, ?_, k.ex⟩⟩
    · rintro σ' en' H' ⟨m', l, i⟩ r
      exact ⟨m', en', l, r, i⟩
    · rintro σ' en' H' ⟨m', l, i⟩ r
      exact ⟨m', en', l, r, i⟩
  | false => exact k.nx σ1 en2 H2 q R3
/-- xs[k] = e -/
theorem ds_sto {i : Nat} {o ix : Expr} {spos : Pos} (he : DE X W e te) (ho : PE X o (tVar i)) (hi : DE X W ix ti) (ha : ∀ v, assign (.Subscript o ix spos) X.env v = (do
      let ov ← holding [v] (eval o X.env)
      let iv ← holding [v, ov] (eval ix X.env)
      standAt spos
      holding [v, ov, iv] (setItem ov iv v)
      release [v, ov, iv] []) := by intro _; rfl) (hs : swapsWithSole [.Subscript o ix spos] e pos.line X.env = pure false := by rfl) (hw : swappedStores [.Subscript o ix spos] e X.env = pure none := by rfl)
    (h1 : (assignEach [.Subscript o ix spos] X.env).map (·.2) = [assign (.Subscript o ix spos) X.env] := by rfl) : DS X W (.Assign [.Subscript o ix spos] e pos) (tStoD i te ti) :=
  PSi (ps_asg he (pg_sub ho hi set_list ha) hs hw h1) fun D σ H ⟨C, en, De, R1, h, k⟩ =>
  ⟨C, en, _, De.ex, R1, h, k.x σ, fun r en1 v H1 q R2 o1 s1 k1 _ => by
    have R2' := R2.dropX
    cases e1 : vl r with
    | none => simp only [e1] at q
    | some d =>
      cases e2 : en1[i]? with
      | none => simp only [e1, e2] at q
      | some s0 =>
        cases s0 <;> simp only [e1, e2] at q
        rename_i a d0
        have hv := o1.rp R2 e1
        refine ⟨.ref a, (R2'.getO e2).1, C, en1, _, De.ex, R2', q, k.x σ, fun rj en2 v2 H2 q2 R3 o2 s2 k2 n2 => ?_⟩
        obtain ⟨d1, e3⟩ := s2.own e2
        cases rj with
        | own => exact (show False from by simpa using q2).elim
        | bor => exact (show False from by simpa using q2).elim
        | val dj =>
          cases dj <;> try exact (show False from by simpa using q2).elim
          rename_i kk
          rw [e3] at q2
          cases d1 <;> try exact (show False from by simpa using q2).elim
          rename_i ds
          cases e4 : ixN ds.length kk with
          | none => simp only [e4] at q2
          | some j =>
            simp only [e4] at q2
            cases o2
            have g := (show R X.K C σ H2 en2 from R3).getO e3
            obtain ⟨vs, g1, g2⟩ := g.2.2.2
            refine ⟨a, vs, kk, j, rfl, rfl, g1, by rw [g2.length]; exact e4, ?_⟩
            have hv2 : Rp X.K (mm C (oas en2)) H2 v d := Rp.mono (k2.le s2) _ _ hv
            have le : Le (mm C (oas en2)) H2 (mm C (oas en2)) (upd H2 a (.lst (vs.set j v))) := fun b u n z => ⟨n, by rw [upd_ne (fun w => n (.inr (by rw [w]; exact oas_mem.mpr ⟨i, _, e3⟩)))]; exact z⟩
            exact k.nx σ _ _ q2 (R.put R3 e3 ⟨_, upd_same, RpA.mono le _ _ (RpA.set hv2 j g2)⟩)⟩
end

/-! ### methods of an own list -/
/-- m: what the method asks of the list and the args, what it gives and leaves -/
def tMetD (i : Nat) (m : D → List D → (D → D → Prop) → Prop) (ta : TDa) : TDe := fun Ψ en Φ => match en[i]? with
  | some (.own _ (.lst _)) => ta Ψ en fun rs en1 => (match vls rs, en1[i]? with
    | some ds, some (.own a d) => m d ds fun z d' => Φ (.val z) (en1.set i (.own a d'))
    | _, _ => False)
  | _ => False
def MeD (X : Cx) (r : V → List V → Hp → VK → Prop) (m : D → List D → (D → D → Prop) → Prop) : Prop :=
  ∀ (M : Ms) (H : Hp) (a : Addr) (d : D) (ds : List D) (vs : List V) (Φ : D → D → Prop) (Q : VK), M a → Cell X.K M H a d → RpA X.K M H vs ds → m d ds Φ →
    (∀ z d' v' o, Φ z d' → Rp X.K M (upd H a o) v' z → Cell X.K M (upd H a o) a d' → Q v' (upd H a o)) → r (.ref a) vs H Q
section
variable {X : Cx} {W : WX} {e : Expr} {es : List Expr} {tR : TDa} {i : Nat} {o : Expr} {name : Str} {apos cpos : Pos} {id : String} {r : V → List V → Hp → VK → Prop} {m : D → List D → (D → D → Prop) → Prop}
theorem met_go {σ : L2.St} {H : Hp} {Q : VK} {to : TDe} (hm : MeD X r m) (h : lE X.K W (tMetD i m tR) σ H Q) : tBM X.K "list" r (tVar i) (lA X.K W tR) σ H Q := by
  obtain ⟨C, en, Φ, Ψ, R0, hT, hX, k⟩ := h
  unfold tMetD at hT
  cases e0 : en[i]? with
  | none => simp only [e0] at hT
  | some s0 =>
    rw [e0] at hT
    cases s0 <;> try exact hT.elim
    rename_i a d0
    cases d0 <;> try exact hT.elim
    rename_i ds0
    have g0 := R0.getO e0
    refine ⟨.ref a, g0.1, .inl ⟨rfl, ?_⟩, C, en, _, Ψ, R0, hT, hX, fun rs en1 vs H1 h1 R1 hold1 s1 k1 _ => ?_⟩
    · obtain ⟨ws, g, _⟩ := g0.2.2.2
      exact ⟨ws, SqL.of g⟩
    · obtain ⟨d1, e1⟩ := s1.own e0
      cases e2 : vls rs with
      | none => simp only [e2] at h1
      | some ds =>
        simp only [e2, e1] at h1
        have g := R1.dropA.getO e1
        have ma : a ∈ oas en1 := oas_mem.mpr ⟨i, d1, e1⟩
        refine hm (mm C (oas en1)) H1 a d1 ds vs _ Q (.inr ma) g.2.2.2 (hold1.rp R1 e2) h1 fun z d' v' o hz q1 q2 => ?_
        have sh : Shape en1 (en1.set i (.own a d')) := Shape.set e1 rfl
        refine k (.val z) _ v' _ hz (R.put R1.dropA e1 q2) ?_ (s1.trans sh) (k1.trans s1 (Keep.put e1)) trivial
        show Rp X.K (mm C (oas (en1.set i (.own a d')))) _ v' z
        rw [← oas_shape sh]
        exact q1
theorem met_go0 {σ : L2.St} {H : Hp} {Q : VK} (hm : MeD X r m) (h : lE X.K W (tMetD i m tNilD) σ H Q) : tBM0 X.K "list" r (tVar i) σ H Q := by
  obtain ⟨C, en, Φ, Ψ, R0, hT, hX, k⟩ := h
  unfold tMetD at hT
  cases e0 : en[i]? with
  | none => simp only [e0] at hT
  | some s0 =>
    rw [e0] at hT
    cases s0 <;> try exact hT.elim
    rename_i a d0
    cases d0 <;> try exact hT.elim
    rename_i ds0
    have g0 := R0.getO e0
    refine ⟨.ref a, g0.1, .inl ⟨rfl, ?_⟩, ?_⟩
    · obtain ⟨ws, g, _⟩ := g0.2.2.2
      exact ⟨ws, SqL.of g⟩
    · simp only [tNilD, vls, e0] at hT
      have ma : a ∈ oas en := oas_mem.mpr ⟨i, _, e0⟩
      refine hm (mm C (oas en)) H a _ [] [] _ Q (.inr ma) g0.2.2.2 .nil hT fun z d' v' o hz q1 q2 => ?_
      have sh : Shape en (en.set i (.own a d')) := Shape.set e0 rfl
      refine k (.val z) _ v' _ hz (R.put R0 e0 q2) ?_ sh (Keep.put e0) trivial
      show Rp X.K (mm C (oas (en.set i (.own a d')))) _ v' z
      rw [← oas_shape sh]
      exact q1
theorem de_met (slot : Slot "list" name id) (hty : typeOf (.builtin id) = pure (.type "method_descriptor")) (hm : MtR X id r) (hd : MeD X r m) (ho : PE X o (tVar i)) (ha : DA X W (e :: es) tR)
    (hbase : attributeBase o name X.env (eval o X.env) = eval o X.env := by rfl)
    (hfew : ((backTo cpos (starEach (e :: es) X.env)).all (fun x => !x.1) && (backToKw cpos (keywordEach [] X.env)).all (fun x => x.1.isSome)
      && decide ((e :: es).length + ([] : List Keyword).length + (if ([] : List Keyword).isEmpty then 0 else 1) < 30)) = true := by rfl)
    (hline : (apos.endLine == cpos.line) = true := by rfl) (hs : starEach (e :: es) X.env = (false, eval e X.env) :: starEach es X.env := by rfl) (hplain : (backTo cpos (starEach es X.env)).any (·.1) = false := by rfl) :
    DE X W (.Call (.Attribute o name apos) (e :: es) [] cpos) (tMetD i m tR) := PEi (pe_bm PySem.F.plainAttrs_list slot hty hm ho ha hbase hfew hline hs hplain) fun σ H Q h => met_go (to := tVarD 0) hd h
theorem de_met0 (slot : Slot "list" name id) (hty : typeOf (.builtin id) = pure (.type "method_descriptor")) (hm : MtR X id r) (hd : MeD X r m) (ho : PE X o (tVar i))
    (hbase : attributeBase o name X.env (eval o X.env) = eval o X.env := by rfl) (hline : (apos.endLine == cpos.line) = true := by rfl) :
    DE X W (.Call (.Attribute o name apos) [] [] cpos) (tMetD i m tNilD) := PEi (pe_bm0 PySem.F.plainAttrs_list slot hty hm ho hbase hline) fun σ H Q h => met_go0 hd h
end
def mAppend : D → List D → (D → D → Prop) → Prop := fun d ds k => match d, ds with
  | .lst xs, [y] => xs.length < sizeLine ∧ k .non (.lst (xs ++ [y]))
  | _, _ => False
def mPop : D → List D → (D → D → Prop) → Prop := fun d ds k => match d, ds with
  | .lst xs, [] => (match xs[xs.length - 1]? with
    | some y => k y (.lst xs.dropLast)
    | none => False)
  | _, _ => False
def mPopAt : D → List D → (D → D → Prop) → Prop := fun d ds k => match d, ds with
  | .lst xs, [.int i] => 0 ≤ i ∧ i < 2 ^ 63 ∧ (match xs[i.toNat]? with
    | some y => k y (.lst (xs.eraseIdx i.toNat))
    | none => False)
  | _, _ => False
def mInsert : D → List D → (D → D → Prop) → Prop := fun d ds k => match d, ds with
  | .lst xs, [.int i, y] => xs.length < sizeLine ∧ 0 ≤ i ∧ i < 2 ^ 63 ∧ k .non (.lst (xs.take i.toNat ++ [y] ++ xs.drop i.toNat))
  | _, _ => False
def mReverse : D → List D → (D → D → Prop) → Prop := fun d ds k => match d, ds with
  | .lst xs, [] => k .non (.lst xs.reverse)
  | _, _ => False
theorem le_upd {M : Ms} {H : Hp} {a : Addr} {o : HO} (h : M a) : Le M H M (upd H a o) := fun b u n z => ⟨n, by rw [upd_ne (fun w => n (by rw [w]; exact h))]; exact z⟩
section
variable {X : Cx}
theorem RpA.eraseIdx {K : PySem.W.Frag} {M : Ms} {H : Hp} {vs : List V} {ds : List D} (h : RpA K M H vs ds) (i : Nat) : RpA K M H (vs.eraseIdx i) (ds.eraseIdx i) := by
  rw [List.eraseIdx_eq_take_drop_succ, List.eraseIdx_eq_take_drop_succ]
  exact (h.take i).append (h.drop (i + 1))
theorem me_append : MeD X rAppend mAppend := by
  intro M H a d ds vs Φ Q ma hc hv h k
  unfold mAppend at h
  split at h
  · obtain ⟨ws, g1, g2⟩ := hc
    cases hv with
    | cons h1 h2 =>
      cases h2
      refine ⟨a, ws, _, rfl, rfl, g1, by rw [g2.length]; exact h.1, k _ _ _ _ h.2 .non ⟨_, upd_same, RpA.mono (le_upd ma) _ _ (g2.append (.cons h1 .nil))⟩⟩
  · exact h.elim
theorem me_pop : MeD X rPop mPop := by
  intro M H a d ds vs Φ Q ma hc hv h k
  unfold mPop at h
  split at h
  · rename_i xs
    obtain ⟨ws, g1, g2⟩ := hc
    cases hv
    split at h
    · rename_i y hy
      obtain ⟨v, e1, e2⟩ := g2.get hy
      refine ⟨a, ws, v, rfl, rfl, g1, by rw [g2.length]; exact e1, k _ _ _ _ h (Rp.mono (le_upd ma) _ _ e2) ⟨_, upd_same, ?_⟩⟩
      rw [List.dropLast_eq_take, List.dropLast_eq_take, g2.length]
      exact RpA.mono (le_upd ma) _ _ (g2.take _)
    · exact h.elim
  · exact h.elim
theorem me_popAt : MeD X rPopAt mPopAt := by
  intro M H a d ds vs Φ Q ma hc hv h k
  unfold mPopAt at h
  split at h
  · rename_i xs i
    obtain ⟨ws, g1, g2⟩ := hc
    cases hv with
    | cons h1 h2 =>
      cases h2
      cases h1
      obtain ⟨i0, i1, h⟩ := h
      split at h
      · rename_i y hy
        obtain ⟨v, e1, e2⟩ := g2.get hy
        have hl : i.toNat < xs.length := (List.getElem?_eq_some_iff.mp hy).1
        refine ⟨a, ws, i, i.toNat, v, rfl, rfl, g1, by omega, i1, ?_, e1, k _ _ _ _ h (Rp.mono (le_upd ma) _ _ e2) ⟨_, upd_same, RpA.mono (le_upd ma) _ _ (g2.eraseIdx _)⟩⟩
        have := g2.length
        simp only [seqIndex?, show ¬ i < 0 by omega, if_false]
        rw [if_pos (by simp; omega)]
      · exact h.elim
  · exact h.elim
theorem me_insert : MeD X (fun x vs H Q => ∃ (l : Addr) (xs : List V) (i : Int) (y : V), x = .ref l ∧ vs = [.int i, y] ∧ H l = some (.lst xs) ∧ xs.length < sizeLine ∧ 0 ≤ i ∧ i < 2 ^ 63 ∧ Q .non (upd H l (.lst (xs.take i.toNat ++ [y] ++ xs.drop i.toNat)))) mInsert := by
  intro M H a d ds vs Φ Q ma hc hv h k
  unfold mInsert at h
  split at h
  · obtain ⟨ws, g1, g2⟩ := hc
    cases hv with
    | cons h1 h2 =>
      cases h2 with
      | cons h2 h3 =>
        cases h3
        cases h1
        obtain ⟨l, i0, i1, h⟩ := h
        exact ⟨a, ws, _, _, rfl, rfl, g1, by rw [g2.length]; exact l, i0, i1, k _ _ _ _ h .non ⟨_, upd_same, RpA.mono (le_upd ma) _ _ (((g2.take _).append (.cons h2 .nil)).append (g2.drop _))⟩⟩
  · exact h.elim
theorem me_reverse : MeD X rReverse mReverse := by
  intro M H a d ds vs Φ Q ma hc hv h k
  unfold mReverse at h
  split at h
  · obtain ⟨ws, g1, g2⟩ := hc
    cases hv
    exact ⟨a, ws, rfl, rfl, g1, k _ _ _ _ h .non ⟨_, upd_same, RpA.mono (le_upd ma) _ _ g2.reverse⟩⟩
  · exact h.elim
end
end VS

namespace VS
open PySem L2 PySem.Spec PyProof.Rows

/-! ### from here on: the heap as it stands -/
def Cc.re (C : Cc) (en : En) (H : Hp) : Cc := { M := C.M, F := fun x => x ∈ oas en, H := H }
section
variable {K : PySem.W.Frag} {C : Cc} {σ σ' : L2.St} {H H' : Hp} {en en' : En} {a : Addr} {d : D} {v : V} {r : Res}
theorem R.re (R1 : R K C σ H en) : R K (C.re en H) σ H en where
  sl := Pmap R1.sl fun i x y _ hy q => by
    cases y with
    | own b e =>
      cases x with
      | none => exact q.elim
      | some v => exact ⟨q.1, q.2.1, .inl (oas_mem.mpr ⟨i, e, hy⟩), q.2.2.2⟩
    | no => trivial
    | val d => cases x <;> exact q
    | exc => cases x <;> exact q
  inj := R1.inj
  dom := fun b w => w.elim (fun w => R1.dom b (.inl w)) fun w => R1.oD w
  keep := fun b u q _ => q
theorem ext_re : ((C.re en H).ext r).M = (C.ext r).M := by cases r <;> rfl
/-- .. and back: whatever was held aside -/
theorem R.un (R1 : R K C σ H en) {M' : Ms} (hM : ∀ x, C.M x → M' x) (R2 : R K { M := M', F := fun x => x ∈ oas en, H := H } σ' H' en') : R K { M := M', F := C.F, H := C.H } σ' H' en' where
  sl := Pmap R2.sl fun i x y _ hy q => by
    cases y with
    | own b e =>
      cases x with
      | none => exact q.elim
      | some v =>
        refine ⟨q.1, q.2.1, ?_, q.2.2.2⟩
        rcases q.2.2.1 with f | f
        · exact R1.oF f
        · exact .inr (R1.new f)
    | no => trivial
    | val d => cases x <;> exact q
    | exc => cases x <;> exact q
  inj := R2.inj
  dom := fun b w => by
    rcases w with w | w
    · exact R2.dom b (.inl w)
    · obtain ⟨u, z⟩ := R1.dom b (.inr w)
      by_cases m : b ∈ oas en
      · exact R2.dom b (.inr m)
      · exact ⟨u, R2.keep b u z m⟩
  keep := fun b u q n => by
    refine R2.keep b u (R1.keep b u q n) fun m => ?_
    rcases R1.oF m with f | f
    · exact n f
    · have q' : C.H b = some u := q
      rw [f] at q'; cases q'
theorem R.unx (R1 : R K C σ H en) (R2 : R K ((C.re en H).ext r) σ' H' en') : R K (C.ext r) σ' H' en' := by
  have e1 : (C.re en H).ext r = { M := (C.ext r).M, F := fun x => x ∈ oas en, H := H } := by cases r <;> rfl
  have e2 : C.ext r = { M := (C.ext r).M, F := C.F, H := C.H } := by cases r <;> rfl
  rw [e1] at R2
  rw [e2]
  exact R1.un (fun x h => by cases r <;> first | exact h | exact .inl h) R2
theorem R.un0 (R1 : R K C σ H en) (R2 : R K (C.re en H) σ' H' en') : R K C σ' H' en' := R.unx (r := .val .non) R1 R2
theorem Hold.un (R1 : R K C σ H en) (h : Hold K (C.re en H) r en' H' v) : Hold K C r en' H' v := by
  cases r with
  | val d => exact h
  | own p d =>
    obtain ⟨h1, h2, h3, h4⟩ := h
    refine ⟨h1, h2, ?_, h4⟩
    rcases h3 with f | f
    · exact R1.oF f
    · exact .inr (R1.new f)
  | bor i => exact h
theorem SOk.re {W : WX} {Ds : Ends} {De : Ed} (k : SOk K C W Ds De) (R1 : R K C σ H en) : SOk K (C.re en H) W Ds De where
  nx := fun σ2 en2 H2 q R2 => k.nx σ2 en2 H2 q (R1.un0 R2)
  rt := fun r en2 σ2 v H2 q R2 h => k.rt r en2 σ2 v H2 q (R1.unx R2) (h.un R1)
  bk := fun σ2 en2 H2 q R2 => k.bk σ2 en2 H2 q (R1.un0 R2)
  ct := fun σ2 en2 H2 q R2 => k.ct σ2 en2 H2 q (R1.un0 R2)
  ex := fun x en2 σ2 cls d H2 q R2 h => k.ex x en2 σ2 cls d H2 q (R1.un0 R2) h
/-- what stood when the loop began stands -/
theorem R.stood (R1 : R K C σ H en) (R2 : R K (C.re en H) σ' H' en') : Le (mm C (oas en)) H (mm (C.re en H) (oas en')) H' := fun b u n q => by
  refine ⟨fun z => ?_, R2.keep b u q fun m => n (.inr m)⟩
  rcases z with z | z
  · exact n (.inl z)
  · rcases R2.oF z with f | f
    · exact n (.inr f)
    · have q' : H b = none := f
      rw [q] at q'; cases q'
end

/-! ### for -/
def tForLD (ta : TDe) (tg : TDg) (tb : TDs) : TDs := fun De en => ta De.ex en fun r en1 => match vl r with
  | some (.lst ds) => ∃ J : Nat → En → Prop, J 0 en1 ∧ (∀ i d en, ds[i]? = some d → J i en → tg d en fun en2 => tb { De with nx := J (i + 1), ct := J (i + 1), bk := De.nx } en2) ∧ ∀ en, J ds.length en → De.nx en
  | _ => False
def tForTD (ta : TDe) (tg : TDg) (tb : TDs) : TDs := fun De en => ta De.ex en fun r en1 => match vl r with
  | some (.tup ds) => ∃ J : Nat → En → Prop, J 0 en1 ∧ (∀ i d en, ds[i]? = some d → J i en → tg d en fun en2 => tb { De with nx := J (i + 1), ct := J (i + 1), bk := De.nx } en2) ∧ ∀ en, J ds.length en → De.nx en
  | _ => False
def tForR1 (ta : TDa) (tg : TDg) (tb : TDs) : TDs := fun De en => ta De.ex en fun rs en1 => match rs with
  | [.val (.int n)] => -(2 ^ 62) ≤ n ∧ n < 2 ^ 62 ∧ ∃ J : Nat → En → Prop, J 0 en1 ∧ (∀ (i : Nat) en, (i : Int) < n → J i en → tg (.int i) en fun en2 => tb { De with nx := J (i + 1), ct := J (i + 1), bk := De.nx } en2) ∧ ∀ en, J n.toNat en → De.nx en
  | _ => False
def tForR2 (ta : TDa) (tg : TDg) (tb : TDs) : TDs := fun De en => ta De.ex en fun rs en1 => match rs with
  | [.val (.int lo), .val (.int n)] => -(2 ^ 62) ≤ lo ∧ lo < 2 ^ 62 ∧ -(2 ^ 62) ≤ n ∧ n < 2 ^ 62 ∧
      ∃ J : Nat → En → Prop, J 0 en1 ∧ (∀ (i : Nat) en, lo + (i : Int) < n → J i en → tg (.int (lo + i)) en fun en2 => tb { De with nx := J (i + 1), ct := J (i + 1), bk := De.nx } en2) ∧ ∀ en, J (n - lo).toNat en → De.nx en
  | _ => False
section
variable {X : Cx} {W : WX} {a b c e iter : Expr} {ta tb tc te ti : TDe} {p pos : Pos} {body : List Stmt} {t : TDs} {tg : Expr} {S : List Nat} {tG : TDg} {tR : TDa}
theorem body_go {K : PySem.W.Frag} {C : Cc} {Ds : Ends} {De : Ed} {σ : L2.St} {H : Hp} {en : En} {d : VS.D} {v : V} {J : En → Prop} {N : L2.St → Hp → Prop} (k : SOk K C W Ds De) (R1 : R K C σ H en) (hv : Rp K (mm C (oas en)) H v d)
    (h : tG d en fun en2 => t { De with nx := J, ct := J, bk := De.nx } en2) (hN : ∀ σ' H' en', J en' → R K C σ' H' en' → N σ' H') :
    lG K S tG v σ H fun σ2 H2 => lS K W t { Ds with nx := N, ct := N, bk := Ds.nx } σ2 H2 :=
  ⟨C, en, d, _, R1, hv, h, fun σ' en' q R' _ _ => ⟨C, en', _, R', q, ⟨fun σ2 en2 H2 q2 R2 => hN σ2 H2 en2 q2 R2, k.rt, k.nx, fun σ2 en2 H2 q2 R2 => hN σ2 H2 en2 q2 R2, k.ex⟩⟩⟩
theorem ds_forL (hp : PassesOwn (model X.prog X.w) X.A X.env X.xe) (hc : X.calm = true) (hi : DE X W iter ti) (hg : DG X S tg tG) (hb : DSs X W body t) (hs : ∀ x, foldedSetIterable iter X.env x = pure x := by intro _; rfl) :
    DS X W (.For tg iter body [] pos) (tForLD ti tG t) := PSi (ps_for hp hc (pi_list hi) hg hb hs) fun D σ H ⟨C, en, De, R0, h, k⟩ =>
  ⟨C, en, _, De.ex, R0, h, k.x σ, fun r en1 v H1 q R1 o1 _ _ _ => by
    cases e1 : vl r with
    | none => simp only [e1] at q
    | some d =>
      cases d <;> simp only [e1] at q
      rename_i ds
      obtain ⟨J, j0, step, done⟩ := q
      have hv := o1.rp R1 e1
      have R1' := R1.dropX
      cases hv with
      | lst h1 h2 =>
        rename_i a vs
        refine ⟨a, rfl, ⟨vs, h1.sq⟩, for_list (xs := vs) (fun i σ H => ∃ en, R X.K (C.re en1 H1) σ H en ∧ J i en) ⟨en1, R1'.re, j0⟩ (fun i σ2 H2 _ ⟨en2, R2, _⟩ => (h1.mono (R1'.stood R2)).sq) ?_ ?_⟩
        · rintro i x σ2 H2 hx ⟨en2, R2, j2⟩
          obtain ⟨d, hd, hr⟩ := h2.get' hx
          have sok := k.re R1'
          exact body_go sok R2 (Rp.mono (R1'.stood R2) _ _ hr) (step i d en2 hd j2) fun σ' H' en' z R' => ⟨en', R', z⟩
        · rintro σ2 H2 ⟨en2, R2, j2⟩
          rw [h2.length] at j2
          exact k.nx _ _ _ (done en2 j2) (R1'.un0 R2)⟩
theorem ds_forT (hp : PassesOwn (model X.prog X.w) X.A X.env X.xe) (hc : X.calm = true) (hi : DE X W iter ti) (hg : DG X S tg tG) (hb : DSs X W body t) (hs : ∀ x, foldedSetIterable iter X.env x = pure x := by intro _; rfl) :
    DS X W (.For tg iter body [] pos) (tForTD ti tG t) := PSi (ps_for hp hc (pi_tup hi) hg hb hs) fun D σ H ⟨C, en, De, R0, h, k⟩ =>
  ⟨C, en, _, De.ex, R0, h, k.x σ, fun r en1 v H1 q R1 o1 _ _ _ => by
    cases e1 : vl r with
    | none => simp only [e1] at q
    | some d =>
      cases d <;> simp only [e1] at q
      rename_i ds
      obtain ⟨J, j0, step, done⟩ := q
      have hv := o1.rp R1 e1
      have R1' := R1.dropX
      cases hv with
      | tup h1 h2 =>
        rename_i a vs
        refine ⟨a, rfl, ⟨vs, h1.sq⟩, for_tup (xs := vs) (fun i σ H => ∃ en, R X.K (C.re en1 H1) σ H en ∧ J i en) ⟨en1, R1'.re, j0⟩ (fun i σ2 H2 _ ⟨en2, R2, _⟩ => (h1.mono (R1'.stood R2)).sq) ?_ ?_⟩
        · rintro i x σ2 H2 hx ⟨en2, R2, j2⟩
          obtain ⟨d, hd, hr⟩ := h2.get' hx
          have sok := k.re R1'
          exact body_go sok R2 (Rp.mono (R1'.stood R2) _ _ hr) (step i d en2 hd j2) fun σ' H' en' z R' => ⟨en', R', z⟩
        · rintro σ2 H2 ⟨en2, R2, j2⟩
          rw [h2.length] at j2
          exact k.nx _ _ _ (done en2 j2) (R1'.un0 R2)⟩
theorem ds_forR1 (hm : X.mg "range" = none) (hp : PassesOwn (model X.prog X.w) X.A X.env X.xe) (hc : X.calm = true) (ha : DA X W [a] tR) (hg : DG X S tg tG) (hb : DSs X W body t) (hG : Gl X "range" := by rfl)
    (h1 : starEach [a] X.env = [(false, eval a X.env)] := by rfl) {p2 : Pos} (hs : ∀ x, foldedSetIterable (.Call (.Name "range" p) [a] [] p2) X.env x = pure x := by intro _; rfl) : DS X W (.For tg (.Call (.Name "range" p) [a] [] p2) body [] pos) (tForR1 tR tG t) :=
  PSi (ps_for hp hc (pi_range1 hG hm ha h1) hg hb hs) fun D σ H ⟨C, en, De, R0, h, k⟩ =>
  ⟨C, en, _, De.ex, R0, h, k.x σ, fun rs en1 vs H1 q R1 o1 _ _ _ => by
    match rs, q, R1, o1 with
    | [.val (.int n)], ⟨b1, b2, J, j0, step, done⟩, R1, ⟨v, ws, e1, h1, e2⟩ =>
      subst e1 e2
      have hv : v = .int n := by cases h1; rfl
      subst hv
      refine ⟨n, rfl, b1, b2, for_range (fun i σ H => ∃ en, R X.K C σ H en ∧ J i en) ⟨en1, R1, j0⟩ ?_ ?_⟩
      · rintro i σ2 H2 hi ⟨en2, R2, j2⟩
        rw [Int.zero_add]
        exact body_go k R2 (.int _) (step i en2 (by omega) j2) fun σ' H' en' z R' => ⟨en', R', z⟩
      · rintro σ2 H2 ⟨en2, R2, j2⟩
        exact k.nx _ _ _ (done en2 j2) R2⟩
theorem ds_forR2 (hm : X.mg "range" = none) (hp : PassesOwn (model X.prog X.w) X.A X.env X.xe) (hc : X.calm = true) (ha : DA X W [a, b] tR) (hg : DG X S tg tG) (hb : DSs X W body t) (hG : Gl X "range" := by rfl)
    (h1 : starEach [a, b] X.env = [(false, eval a X.env), (false, eval b X.env)] := by rfl) (h2 : starEach [b] X.env = [(false, eval b X.env)] := by rfl) {p2 : Pos} (hs : ∀ x, foldedSetIterable (.Call (.Name "range" p) [a, b] [] p2) X.env x = pure x := by intro _; rfl) :
    DS X W (.For tg (.Call (.Name "range" p) [a, b] [] p2) body [] pos) (tForR2 tR tG t) :=
  PSi (ps_for hp hc (pi_range2 hG hm ha h1 h2) hg hb hs) fun D σ H ⟨C, en, De, R0, h, k⟩ =>
  ⟨C, en, _, De.ex, R0, h, k.x σ, fun rs en1 vs H1 q R1 o1 _ _ _ => by
    match rs, q, R1, o1 with
    | [.val (.int lo), .val (.int n)], ⟨a1, a2, b1, b2, J, j0, step, done⟩, R1, ⟨v, ws, e1, h1, v2, ws2, e2, h2, e3⟩ =>
      subst e1 e2 e3
      have hv : v = .int lo := by cases h1; rfl
      have hv2 : v2 = .int n := by cases h2; rfl
      subst hv hv2
      refine ⟨lo, n, rfl, ⟨a1, a2, b1, b2⟩, for_range (fun i σ H => ∃ en, R X.K C σ H en ∧ J i en) ⟨en1, R1, j0⟩ ?_ ?_⟩
      · rintro i σ2 H2 hi ⟨en2, R2, j2⟩
        exact body_go k R2 (.int _) (step i en2 (by omega) j2) fun σ' H' en' z R' => ⟨en', R', z⟩
      · rintro σ2 H2 ⟨en2, R2, j2⟩
        exact k.nx _ _ _ (done en2 j2) R2⟩
end
end VS

namespace VS
open PySem L2 PySem.Spec PyProof.Rows

/-! ### comprehensions -/
def wipeD (en : En) : List Nat → En
  | [] => en
  | i :: is => (wipeD en is).set i .no
section
variable {K : PySem.W.Frag} {C : Cc} {σ σ' : L2.St} {H H' : Hp} {en en' : En} {a : Addr} {d : D} {v : V} {r : Res} {vs : List Nat}
theorem R.wipe (R1 : R K C σ H en) : ∀ vs : List Nat, R K C (L2.wipe σ vs) H (wipeD en vs)
  | [] => R1
  | i :: is => (R.wipe R1 is).setS (i := i) (s := .no) (o := none) rfl trivial
theorem wipe_len : ∀ vs : List Nat, (L2.wipe σ vs).length = σ.length
  | [] => rfl
  | i :: is => by simp only [L2.wipe, List.length_set, wipe_len is]
theorem wipeD_len : ∀ vs : List Nat, (wipeD en vs).length = en.length
  | [] => rfl
  | i :: is => by simp only [wipeD, List.length_set, wipeD_len is]
theorem wipe_at : ∀ (vs : List Nat) (j : Nat), (L2.wipe σ vs)[j]? = if j ∈ vs then (if j < σ.length then some none else none) else σ[j]?
  | [], j => by simp [L2.wipe]
  | i :: is, j => by
    have ih := wipe_at is j
    simp only [L2.wipe, List.getElem?_set, wipe_len]
    by_cases h : i = j
    · subst h
      simp
    · rw [if_neg h, ih]
      have h' : (j ∈ i :: is) ↔ j ∈ is := by simp [Ne.symm h]
      simp only [h']
theorem wipeD_at : ∀ (vs : List Nat) (j : Nat), (wipeD en vs)[j]? = if j ∈ vs then (if j < en.length then some .no else none) else en[j]?
  | [], j => by simp [wipeD]
  | i :: is, j => by
    have ih := wipeD_at is j
    simp only [wipeD, List.getElem?_set, wipeD_len]
    by_cases h : i = j
    · subst h
      simp
    · rw [if_neg h, ih]
      have h' : (j ∈ i :: is) ↔ j ∈ is := by simp [Ne.symm h]
      simp only [h']
theorem wipe_same (h : ∀ (j : Nat), j ∉ vs → σ'[j]? = σ[j]?) (hl : σ'.length = σ.length) : L2.wipe σ' vs = L2.wipe σ vs := by
  refine List.ext_getElem? fun j => ?_
  rw [wipe_at, wipe_at, hl]
  by_cases hj : j ∈ vs
  · rw [if_pos hj, if_pos hj]
  · rw [if_neg hj, if_neg hj, h j hj]
theorem wipe_idem : L2.wipe (L2.wipe σ vs) vs = L2.wipe σ vs := wipe_same (fun j hj => by rw [wipe_at, if_neg hj]) (wipe_len vs)
theorem wipeD_same (h : ∀ (j : Nat), j ∉ vs → en'[j]? = en[j]?) (hl : en'.length = en.length) : wipeD en' vs = wipeD en vs := by
  refine List.ext_getElem? fun j => ?_
  rw [wipeD_at, wipeD_at, hl]
  by_cases hj : j ∈ vs
  · rw [if_pos hj, if_pos hj]
  · rw [if_neg hj, if_neg hj, h j hj]
theorem Shape.wipe (s : Shape en en') : ∀ vs : List Nat, Shape (wipeD en vs) (wipeD en' vs)
  | [] => s
  | i :: is => by
    have ih := Shape.wipe s is
    unfold Shape at ih ⊢
    simp only [wipeD, List.map_set, ih]
/-- slots that hold nothing may be anything -/
theorem R.rep (R1 : R K C σ H en) (h : ∀ (j : Nat), en[j]? = some Sl.no ∨ σ'[j]? = σ[j]?) (hl : σ'.length = σ.length) : R K C σ' H en where
  sl := Pof (by rw [hl]; exact Plen R1.sl) fun i x y hx hy => by
    rcases h i with z | z
    · rw [z] at hy
      cases hy
      trivial
    · rw [z] at hx
      exact Pat R1.sl hx hy
  inj := R1.inj
  dom := R1.dom
  keep := R1.keep
/-- what is held aside is changed -/
theorem R.poke {p : Addr} {o : HO} (R1 : R K (C.add p) σ H en) (h : C.H p = none) : R K (C.add p) σ (upd H p o) en where
  sl := Pmap R1.sl fun i x y _ hy q => q.mono (fun b u n z => ⟨n, by rw [upd_ne (fun w => n (.inl (.inr w)))]; exact z⟩) fun b d e u z => by
    subst e
    have : b ∈ oas en := oas_mem.mpr ⟨i, d, hy⟩
    rw [upd_ne (fun w => R1.oM this (.inr w))]
    exact z
  inj := R1.inj
  dom := fun b w => by
    by_cases e : b = p
    · exact ⟨o, by rw [e]; exact upd_same⟩
    · obtain ⟨u, z⟩ := R1.dom b w
      exact ⟨u, by rw [upd_ne e]; exact z⟩
  keep := fun b u q n => by
    rw [upd_ne (fun e => by rw [e] at q; have q' : C.H p = some u := q; rw [h] at q'; cases q')]
    exact R1.keep b u q n
end
def XF : Px := fun _ _ => False
def tYesD : TDt := fun _ en Φ => Φ true en
/-- a turn: the item stored, the test, the element -/
def lcStep (tG : TDg) (tt : TDt) (te : TDe) (vs : List Nat) (J : List D → En → Prop) (d : D) (acc : List D) (en : En) : Prop :=
  tG d en fun en2 => tt XF en2 fun b en3 => if b = true then te XF en3 fun r en4 => (match vl r with
    | some y => acc.length < sizeLine ∧ J (acc ++ [y]) (wipeD en4 vs)
    | none => False) else J acc (wipeD en3 vs)
def tLcL (ti : TDe) (tG : TDg) (tt : TDt) (te : TDe) (vs : List Nat) : TDe := fun Ψ en Φ => ti Ψ en fun r en1 => match vl r with
  | some (.lst ds) => wipeD en1 vs = en1 ∧ ∃ J : Nat → List D → En → Prop, J 0 [] en1 ∧ (∀ i d acc en, ds[i]? = some d → J i acc en → lcStep tG tt te vs (J (i + 1)) d acc en) ∧ ∀ acc en2 p, J ds.length acc en2 → Φ (.own p (.lst acc)) en2
  | _ => False
def tLcT (ti : TDe) (tG : TDg) (tt : TDt) (te : TDe) (vs : List Nat) : TDe := fun Ψ en Φ => ti Ψ en fun r en1 => match vl r with
  | some (.tup ds) => wipeD en1 vs = en1 ∧ ∃ J : Nat → List D → En → Prop, J 0 [] en1 ∧ (∀ i d acc en, ds[i]? = some d → J i acc en → lcStep tG tt te vs (J (i + 1)) d acc en) ∧ ∀ acc en2 p, J ds.length acc en2 → Φ (.own p (.lst acc)) en2
  | _ => False
def tLcR1 (ti : TDa) (tG : TDg) (tt : TDt) (te : TDe) (vs : List Nat) : TDe := fun Ψ en Φ => ti Ψ en fun rs en1 => match rs with
  | [.val (.int n)] => -(2 ^ 62) ≤ n ∧ n < 2 ^ 62 ∧ wipeD en1 vs = en1 ∧ ∃ J : Nat → List D → En → Prop, J 0 [] en1 ∧ (∀ (i : Nat) acc en, (i : Int) < n → J i acc en → lcStep tG tt te vs (J (i + 1)) (.int i) acc en) ∧ ∀ acc en2 p, J n.toNat acc en2 → Φ (.own p (.lst acc)) en2
  | _ => False
abbrev DTs (X : Cx) (W : WX) (ifs : List Expr) (T : TDt) : Prop := PTs X ifs (lT X.K W T)
theorem PTsi {X : Cx} {e : List Expr} {t t' : TT} (h : PTs X e t) (i : ∀ σ H Q, t' σ H Q → t σ H Q) : PTs X e t' := ⟨fun pins s σ H Q I q => h.run pins s σ H Q I (i σ H Q q)⟩
theorem dts_nil {X : Cx} {W : WX} : DTs X W [] tYesD := PTsi pts_nil fun σ H Q ⟨C, en, Φ, Ψ, R1, h, _, k⟩ => k true en H h R1 rfl Keep.refl
theorem dts_one {X : Cx} {W : WX} {c : Expr} {t : TDt} (h : DT X W c t) : DTs X W [c] t := pts_one h
section
variable {K : PySem.W.Frag} {C : Cc} {σ : L2.St} {H H1 : Hp} {en en1 : En} {Dl : Addr} {tG : TDg} {tt : TDt} {te : TDe} {vs : List Nat} {S : List Nat} {d : VS.D} {x : V}
/-- what holds between two turns -/
def LcP (K : PySem.W.Frag) (C : Cc) (σ : L2.St) (H1 : Hp) (en1 : En) (vs : List Nat) (Dl : Addr) (J : List D → En → Prop) (H : Hp) : Prop :=
  ∃ acc en ws, R K ((C.re en1 H1).add Dl) (L2.wipe σ vs) H en ∧ Shape en1 en ∧ H Dl = some (.lst ws) ∧ RpA K (mm ((C.re en1 H1).add Dl) (oas en)) H ws acc ∧ J acc en
theorem lc_start {J : List D → En → Prop} (R1 : R K C σ H1 en1) (hD : H1 Dl = none) (hw : wipeD en1 vs = en1) (j0 : J [] en1) : LcP K C σ H1 en1 vs Dl J (upd H1 Dl (.lst [])) := by
  refine ⟨[], en1, [], ?_, rfl, upd_same, .nil, j0⟩
  have h := (R1.re.hold (p := Dl) (o := .lst []) hD).wipe vs
  rw [hw] at h
  exact h
theorem lc_turn {J J' : List D → En → Prop} (R1 : R K C σ H1 en1) (hD : H1 Dl = none) (hw : wipeD en1 vs = en1) (hS : ∀ j, j ∈ S → j ∈ vs) (P : LcP K C σ H1 en1 vs Dl J H) (hx : ∀ acc en, J acc en → R K ((C.re en1 H1).add Dl) (L2.wipe σ vs) H en → Rp K (mm ((C.re en1 H1).add Dl) (oas en)) H x d)
    (step : ∀ acc en, J acc en → lcStep tG tt te vs J' d acc en) : lG K S tG x (L2.wipe σ vs) H fun σ2 H2 => L2.wipe σ2 vs = L2.wipe σ vs ∧ lT K W0 tt σ2 H2 fun b H3 =>
      if b = true then lE K W0 te σ2 H3 fun y H4 => ∃ acc, H4 Dl = some (.lst acc) ∧ acc.length < sizeLine ∧ LcP K C σ H1 en1 vs Dl J' (upd H4 Dl (.lst (acc ++ [y]))) else LcP K C σ H1 en1 vs Dl J' H3 := by
  obtain ⟨acc, en, ws, R2, sh, hd, hr, j⟩ := P
  have hst := step acc en j
  refine ⟨_, en, d, _, R2, hx acc en j R2, hst, fun σ2 en2 q2 R3 le3 o3 => ?_⟩
  have e1 : L2.wipe σ2 vs = L2.wipe σ vs := by
    rw [wipe_same (σ := L2.wipe σ vs) (fun j hj => o3.1 j fun z => hj (hS j z)) o3.2.2.1, wipe_idem]
  have e2 : wipeD en2 vs = wipeD en vs := wipeD_same (fun j hj => o3.2.1 j fun z => hj (hS j z)) o3.2.2.2
  have shw : ∀ en', Shape en2 en' → Shape en1 (wipeD en' vs) := fun en' s => by
    have h1 := s.wipe vs
    rw [e2] at h1
    have h2 := sh.wipe vs
    rw [hw] at h2
    exact h2.trans h1
  have hr2 : RpA K (mm ((C.re en1 H1).add Dl) (oas en2)) H ws acc := RpA.mono le3 _ _ hr
  refine ⟨e1, _, en2, _, XF, R3, q2, fun _ _ _ _ _ z => z.elim, fun b en3 H3 q3 R4 s4 k4 => ?_⟩
  have nD : ∀ {e : En} {s : L2.St} {Hx : Hp}, R K ((C.re en1 H1).add Dl) s Hx e → Dl ∉ oas e := fun r z => r.oM z (.inr rfl)
  have hd3 := k4 Dl _ (nD R3) hd
  have hr3 := RpA.mono (k4.le (C := (C.re en1 H1).add Dl) s4) _ _ hr2
  have le_w : ∀ (e : En) (Hx : Hp), Le (mm ((C.re en1 H1).add Dl) (oas e)) Hx (mm ((C.re en1 H1).add Dl) (oas (wipeD e vs))) Hx := fun e Hx b u n q => by
    refine ⟨fun z => n (z.imp id fun z => ?_), q⟩
    have : ∀ vs : List Nat, b ∈ oas (wipeD e vs) → b ∈ oas e := fun vs => by
      induction vs with
      | nil => exact id
      | cons i is ih => exact fun z => ih ((oas_set_sub i rfl).subset z)
    exact this vs z
  cases b with
  | false =>
    refine ⟨acc, _, ws, ?_, shw en3 s4, hd3, RpA.mono (le_w en3 H3) _ _ hr3, q3⟩
    have := R4.wipe vs
    rw [e1] at this
    exact this
  | true =>
    refine ⟨_, en3, _, XF, R4, q3, fun _ _ _ _ _ z => z.elim, fun r en4 y H4 q4 R5 o5 s5 k5 _ => ?_⟩
    cases ey : vl r with
    | none => simp only [ey] at q4
    | some yd =>
      simp only [ey] at q4
      obtain ⟨q5, q6⟩ := q4
      have hy := o5.rp R5 ey
      have R6 := R5.dropX
      have hd4 := k5 Dl _ (nD R4) hd3
      have hr4 := RpA.mono (k5.le (C := (C.re en1 H1).add Dl) s5) _ _ hr3
      have lp : ∀ l : List Addr, Le (mm ((C.re en1 H1).add Dl) l) H4 (mm ((C.re en1 H1).add Dl) l) (upd H4 Dl (.lst (ws ++ [y]))) := fun l => le_upd (.inl (.inr rfl))
      refine ⟨ws, hd4, by rw [hr4.length]; exact q5, acc ++ [yd], _, ws ++ [y], ?_, shw en4 (s4.trans s5), upd_same, ?_, q6⟩
      · have := (R6.poke (o := .lst (ws ++ [y])) hD).wipe vs
        rw [e1] at this
        exact this
      · exact RpA.mono (lp _) _ _ (RpA.mono (le_w en4 H4) _ _ (hr4.append (.cons hy .nil)))
theorem lc_end {J : List D → En → Prop} {Φ : Res → En → Prop} (R1 : R K C σ H1 en1) (hD : H1 Dl = none) (hw : wipeD en1 vs = en1) (P : LcP K C σ H1 en1 vs Dl J H) (done : ∀ acc en2 p, J acc en2 → Φ (.own p (.lst acc)) en2) :
    ∃ acc en2, Φ (.own Dl (.lst acc)) en2 ∧ R K (C.add Dl) σ H en2 ∧ Hold K C (.own Dl (.lst acc)) en2 H (.ref Dl) ∧ Shape en1 en2 ∧ Keep en1 H1 H := by
  obtain ⟨acc, en, ws, R2, sh, hd, hr, j⟩ := P
  have R3 : R K (C.add Dl) (L2.wipe σ vs) H en := R.unx (r := .own Dl .non) R1 R2
  refine ⟨acc, en, done acc en Dl j, R3.rep (fun j => ?_) (wipe_len vs).symm, ⟨rfl, fun z => ?_, .inr (R1.new hD), ws, hd, hr⟩, sh, fun a u n q => R2.keep a u q n⟩
  · rw [wipe_at]
    by_cases hj : j ∈ vs
    · by_cases hl : j < σ.length
      · left
        have hl' : j < en1.length := by rw [← Plen R1.sl]; exact hl
        have h0 : en1[j]? = some .no := by
          rw [← hw, wipeD_at, if_pos hj, if_pos hl']
        obtain ⟨s', h1, h2⟩ := sh.at h0
        cases s' <;> simp only [shp] at h2 <;> first | exact h1 | cases h2
      · right
        rw [if_pos hj, if_neg hl]
        exact List.getElem?_eq_none_iff.mpr (by omega)
    · right
      rw [if_neg hj]
  · obtain ⟨u, q⟩ := R1.dom Dl (.inl z)
    rw [hD] at q; cases q
end
section
variable {X : Cx} {W : WX} {elt tg iter a : Expr} {ifs : List Expr} {scope : Scope} {own : List (Str × Nat)} {p pos : Pos} {ti te : TDe} {tG : TDg} {tt : TDt} {S : List Nat} {tR : TDa}
theorem lcL_go {σ : L2.St} {H : Hp} {Q : VK} (hS : ∀ j, j ∈ S → j ∈ own.map (·.2)) (h : lE X.K W (tLcL ti tG tt te (own.map (·.2))) σ H Q) : tLc (iList X.K (lE X.K W ti)) (lG X.K S tG) (lT X.K W0 tt) (lE X.K W0 te) (own.map (·.2)) σ H Q := by
  obtain ⟨C, en, Φ, Ψ, R0, hT, hX, k⟩ := h
  refine ⟨C, en, _, Ψ, R0, hT, hX, fun r en1 v H1 q R1 o1 s1 k1 _ => ?_⟩
  cases e1 : vl r with
  | none => simp only [e1] at q
  | some d =>
    cases d <;> simp only [e1] at q
    rename_i ds
    obtain ⟨hw, J, j0, step, done⟩ := q
    have hv := o1.rp R1 e1
    have R1' := R1.dropX
    cases hv with
    | lst h1 h2 =>
      rename_i a vs0
      have stood : ∀ {Hx : Hp} {ex : En} {Dl : Addr}, R X.K ((C.re en1 H1).add Dl) (L2.wipe σ (own.map (·.2))) Hx ex → H1 Dl = none → Le (mm C (oas en1)) H1 (mm ((C.re en1 H1).add Dl) (oas ex)) Hx := fun {Hx ex Dl} r hD b u n z => by
        obtain ⟨q1, q2⟩ := R1'.stood r.drop b u n z
        refine ⟨fun w => ?_, q2⟩
        rcases w with (w | w) | w
        · exact q1 (.inl w)
        · rw [w, hD] at z; cases z
        · exact q1 (.inr w)
      refine ⟨a, rfl, ⟨vs0, h1.sq⟩, fun Dl hD => lc_list (xs := vs0) (fun i H => LcP X.K C σ H1 en1 (own.map (·.2)) Dl (J i) H) (lc_start R1' hD hw j0) (fun i Hx _ ⟨_, ex, _, r, _⟩ => (h1.mono (stood r hD)).sq) (fun i x Hx hx P => ?_) fun Hx P => ?_⟩
      · obtain ⟨d, hd, hr⟩ := h2.get' hx
        exact lc_turn R1' hD hw hS P (fun _ ex _ r => Rp.mono (stood r hD) _ _ hr) fun acc ex j => step i d acc ex hd j
      · rw [h2.length] at P
        obtain ⟨acc, en2, z1, z2, z3, z4, z5⟩ := lc_end R1' hD hw P done
        exact k _ en2 _ Hx z1 z2 z3 (s1.trans z4) (k1.trans s1 z5) (k1.new s1 R1' hD)
theorem de_lcL (hc : X.calm = true) (hN : X.N.Nodup) (hi : DE X W iter ti) (ok : BlkOk X.N X.env.scope scope own)
    (hg : ∀ (s : Shared) (H : Hp) (C : Addr) (cl : List (Str × Addr)) (fp : List Addr), DG (X.blk s H scope (compEnvC scope cl C X.env) fp) S tg tG) (ht : ∀ (s : Shared) (H : Hp) (C : Addr) (cl : List (Str × Addr)) (fp : List Addr), DTs (X.blk s H scope (compEnvC scope cl C X.env) fp) W0 ifs tt)
    (he : ∀ (s : Shared) (H : Hp) (C : Addr) (cl : List (Str × Addr)) (fp : List Addr), DE (X.blk s H scope (compEnvC scope cl C X.env) fp) W0 elt te) (hS : ∀ j, j ∈ S → j ∈ own.map (·.2) := by decide) (hs : ∀ x, foldedSetIterable iter X.env x = pure x := by intro _; rfl) :
    DE X W (.ListComp elt [⟨tg, iter, ifs, 0⟩] scope pos) (tLcL ti tG tt te (own.map (·.2))) := PEi (pe_lc (g := lG X.K S tG) (tt := lT X.K W0 tt) (te := lE X.K W0 te) hc hN (pi_list hi) ok hg ht he hs) fun σ H Q h => lcL_go hS h
theorem lcT_go {σ : L2.St} {H : Hp} {Q : VK} (hS : ∀ j, j ∈ S → j ∈ own.map (·.2)) (h : lE X.K W (tLcT ti tG tt te (own.map (·.2))) σ H Q) : tLc (iTup X.K (lE X.K W ti)) (lG X.K S tG) (lT X.K W0 tt) (lE X.K W0 te) (own.map (·.2)) σ H Q := by
  obtain ⟨C, en, Φ, Ψ, R0, hT, hX, k⟩ := h
  refine ⟨C, en, _, Ψ, R0, hT, hX, fun r en1 v H1 q R1 o1 s1 k1 _ => ?_⟩
  cases e1 : vl r with
  | none => simp only [e1] at q
  | some d =>
    cases d <;> simp only [e1] at q
    rename_i ds
    obtain ⟨hw, J, j0, step, done⟩ := q
    have hv := o1.rp R1 e1
    have R1' := R1.dropX
    cases hv with
    | tup h1 h2 =>
      rename_i a vs0
      have stood : ∀ {Hx : Hp} {ex : En} {Dl : Addr}, R X.K ((C.re en1 H1).add Dl) (L2.wipe σ (own.map (·.2))) Hx ex → H1 Dl = none → Le (mm C (oas en1)) H1 (mm ((C.re en1 H1).add Dl) (oas ex)) Hx := fun {Hx ex Dl} r hD b u n z => by
        obtain ⟨q1, q2⟩ := R1'.stood r.drop b u n z
        refine ⟨fun w => ?_, q2⟩
        rcases w with (w | w) | w
        · exact q1 (.inl w)
        · rw [w, hD] at z; cases z
        · exact q1 (.inr w)
      refine ⟨a, rfl, ⟨vs0, h1.sq⟩, fun Dl hD => lc_tup (xs := vs0) (fun i H => LcP X.K C σ H1 en1 (own.map (·.2)) Dl (J i) H) (lc_start R1' hD hw j0) (fun i Hx _ ⟨_, ex, _, r, _⟩ => (h1.mono (stood r hD)).sq) (fun i x Hx hx P => ?_) fun Hx P => ?_⟩
      · obtain ⟨d, hd, hr⟩ := h2.get' hx
        exact lc_turn R1' hD hw hS P (fun _ ex _ r => Rp.mono (stood r hD) _ _ hr) fun acc ex j => step i d acc ex hd j
      · rw [h2.length] at P
        obtain ⟨acc, en2, z1, z2, z3, z4, z5⟩ := lc_end R1' hD hw P done
        exact k _ en2 _ Hx z1 z2 z3 (s1.trans z4) (k1.trans s1 z5) (k1.new s1 R1' hD)
theorem de_lcT (hc : X.calm = true) (hN : X.N.Nodup) (hi : DE X W iter ti) (ok : BlkOk X.N X.env.scope scope own)
    (hg : ∀ (s : Shared) (H : Hp) (C : Addr) (cl : List (Str × Addr)) (fp : List Addr), DG (X.blk s H scope (compEnvC scope cl C X.env) fp) S tg tG) (ht : ∀ (s : Shared) (H : Hp) (C : Addr) (cl : List (Str × Addr)) (fp : List Addr), DTs (X.blk s H scope (compEnvC scope cl C X.env) fp) W0 ifs tt)
    (he : ∀ (s : Shared) (H : Hp) (C : Addr) (cl : List (Str × Addr)) (fp : List Addr), DE (X.blk s H scope (compEnvC scope cl C X.env) fp) W0 elt te) (hS : ∀ j, j ∈ S → j ∈ own.map (·.2) := by decide) (hs : ∀ x, foldedSetIterable iter X.env x = pure x := by intro _; rfl) :
    DE X W (.ListComp elt [⟨tg, iter, ifs, 0⟩] scope pos) (tLcT ti tG tt te (own.map (·.2))) := PEi (pe_lc (g := lG X.K S tG) (tt := lT X.K W0 tt) (te := lE X.K W0 te) hc hN (pi_tup hi) ok hg ht he hs) fun σ H Q h => lcT_go hS h
theorem lcR1_go {σ : L2.St} {H : Hp} {Q : VK} (hS : ∀ j, j ∈ S → j ∈ own.map (·.2)) (h : lE X.K W (tLcR1 tR tG tt te (own.map (·.2))) σ H Q) : tLc (iRng1 (lA X.K W tR)) (lG X.K S tG) (lT X.K W0 tt) (lE X.K W0 te) (own.map (·.2)) σ H Q := by
  obtain ⟨C, en, Φ, Ψ, R0, hT, hX, k⟩ := h
  refine ⟨C, en, _, Ψ, R0, hT, hX, fun rs en1 ws H1 q R1 o1 s1 k1 _ => ?_⟩
  match rs, q, R1, o1 with
  | [.val (.int n)], ⟨b1, b2, hw, J, j0, step, done⟩, R1, ⟨v, ws', e1, h1, e2⟩ =>
    subst e1 e2
    have hv : v = .int n := by cases h1; rfl
    subst hv
    refine ⟨n, rfl, b1, b2, fun Dl hD => lc_range (fun i H => LcP X.K C σ H1 en1 (own.map (·.2)) Dl (J i) H) (lc_start R1 hD hw j0) (fun i Hx hi P => ?_) fun Hx P => ?_⟩
    · rw [Int.zero_add]
      exact lc_turn R1 hD hw hS P (fun _ ex _ r => .int _) fun acc ex j => step i acc ex (by omega) j
    · obtain ⟨acc, en2, z1, z2, z3, z4, z5⟩ := lc_end R1 hD hw P done
      exact k _ en2 _ Hx z1 z2 z3 (s1.trans z4) (k1.trans s1 z5) (k1.new s1 R1 hD)
theorem de_lcR1 (hm : X.mg "range" = none) (hc : X.calm = true) (hN : X.N.Nodup) (ha : DA X W [a] tR) (ok : BlkOk X.N X.env.scope scope own)
    (hg : ∀ (s : Shared) (H : Hp) (C : Addr) (cl : List (Str × Addr)) (fp : List Addr), DG (X.blk s H scope (compEnvC scope cl C X.env) fp) S tg tG) (ht : ∀ (s : Shared) (H : Hp) (C : Addr) (cl : List (Str × Addr)) (fp : List Addr), DTs (X.blk s H scope (compEnvC scope cl C X.env) fp) W0 ifs tt)
    (he : ∀ (s : Shared) (H : Hp) (C : Addr) (cl : List (Str × Addr)) (fp : List Addr), DE (X.blk s H scope (compEnvC scope cl C X.env) fp) W0 elt te) (hS : ∀ j, j ∈ S → j ∈ own.map (·.2) := by decide) (hG : Gl X "range" := by rfl)
    (h1 : starEach [a] X.env = [(false, eval a X.env)] := by rfl) {p2 : Pos} (hs : ∀ x, foldedSetIterable (.Call (.Name "range" p) [a] [] p2) X.env x = pure x := by intro _; rfl) :
    DE X W (.ListComp elt [⟨tg, .Call (.Name "range" p) [a] [] p2, ifs, 0⟩] scope pos) (tLcR1 tR tG tt te (own.map (·.2))) := PEi (pe_lc (g := lG X.K S tG) (tt := lT X.K W0 tt) (te := lE X.K W0 te) hc hN (pi_range1 hG hm ha h1) ok hg ht he hs) fun σ H Q h => lcR1_go hS h
end
end VS

namespace VS
open PySem L2 PySem.Spec PyProof.Rows

/-! ### list + list -/
def rCatS (K : PySem.W.Frag) : R2 := fun x y H Q => ∃ l b xs zs, x = .ref l ∧ y = .ref b ∧ SqL K H l xs ∧ SqL K H b zs ∧ xs.length + zs.length ≤ sizeLine ∧ ∀ p, H p = none → Q (.ref p) (upd H p (.lst (xs ++ zs)))
theorem op_catS {X : Cx} : OpR X (binaryOp .Add) (rCatS X.K) := by
  intro pins s σ H x y v u Q I rx ry h
  obtain ⟨l, b, xs, zs, rfl, rfl, hH, hB, hz, q⟩ := h
  cases rx
  cases ry
  obtain ⟨its, r, p1, z1⟩ := I.list hH
  obtain ⟨its2, r2, p2, z2⟩ := I.list hB
  have l1 := r.length
  have l2 := r2.length
  obtain ⟨⟨cls, dd, data, sl⟩, ho, hc, n, hd⟩ := id p1.isList
  obtain ⟨⟨cls2, dd2, data2, sl2⟩, ho2, hc2, n2, hd2⟩ := id p2.isList
  simp only at hc hd hc2 hd2
  subst hc hd hc2 hd2
  refine concat_meets ⟨_, ho, rfl⟩ ⟨_, ho2, rfl⟩ noFill_list_add seq_list_add PySem.F.slot_list_add PySem.F.entry_list_add (PySem.F.args_list_add_2 _ _) (list_addW l b its.toArray its2.toArray n n2 dd dd2 sl sl2 (by simp; omega)) ⟨ho, ho2, ?_⟩
  have e : its.toArray ++ its2.toArray = (its ++ its2).toArray := by simp
  rw [e]
  exact ⟨.ref _, _, I.lnew (t' := s.toks) (r.append r2) (by rw [List.length_append]; omega), rfl, q _ I.fresh⟩
def gCat : D → D → (Res → Prop) → Prop := fun x y Φ => match x, y with
  | .lst ds, .lst es => ds.length + es.length ≤ sizeLine ∧ ∀ p, Φ (.own p (.lst (ds ++ es)))
  | _, _ => False
theorem od_cat {X : Cx} : OpD X (rCatS X.K) gCat := by
  intro C σ H en x y v w Φ Q R1 hx hy h k
  cases x <;> cases y <;> try exact (show False from h).elim
  obtain ⟨a, vs, rfl, h1, h2⟩ := hx
  obtain ⟨b, ws, rfl, g1, g2⟩ := hy
  refine ⟨a, b, vs, ws, rfl, rfl, h1, g1, by rw [h2.length, g2.length]; exact h.1, fun p hp => ?_⟩
  obtain ⟨z1, z2⟩ := own_new R1 hp (h2.append g2)
  exact k _ _ _ (h.2 p) z1 z2 (same_new hp) hp
/-! ### slices of lists -/
def cutD (ds : List D) (lo hi : Option Int) : List D := (ds.drop (HT.sIx ds.length 0 lo)).take (HT.sIx ds.length ds.length hi - HT.sIx ds.length 0 lo)
abbrev TDo := Px → En → (Option Int → En → Prop) → Prop
def lO (K : PySem.W.Frag) (W : WX) (T : TDo) : TO := fun σ H Q => ∃ (C : Cc) (en : En) (Φ : Option Int → En → Prop) (Ψ : Px), R K C σ H en ∧ T Ψ en Φ ∧ XOk K C W σ Ψ ∧
  ∀ b en' H', Φ b en' → R K C σ H' en' → Shape en en' → Keep en H H' → Q b H'
abbrev DO (X : Cx) (W : WX) (e : Option Expr) (T : TDo) : Prop := PO X e (lO X.K W T)
def tNoPartD : TDo := fun _ en Φ => Φ none en
def tPartD (te : TDe) : TDo := fun Ψ en Φ => te Ψ en fun r en1 => match r with
  | .val (.int i) => Φ (some i) en1
  | _ => False
def tSlLD (te : TDe) (tl th : TDo) : TDe := fun Ψ en Φ => te Ψ en fun r en1 => tl Ψ en1 fun lo en2 => th Ψ en2 fun hi en3 => match rd en3 r with
  | some (.lst ds) => ∀ p, Φ (.own p (.lst (cutD ds lo hi))) en3
  | _ => False
section
variable {X : Cx} {W : WX} {a b c e : Expr} {ta tb te : TDe} {tl th : TDo} {pos p2 : Pos} {lo hi : Option Expr}
theorem de_cat (ha : DE X W a ta) (hb : DE X W b tb) : DE X W (.BinOp a .Add b pos) (tOpD gCat ta tb) := de_op op_catS od_cat ha hb
theorem POi {t t' : TO} {o : Option Expr} (h : PO X o t) (i : ∀ σ H Q, t' σ H Q → t σ H Q) : PO X o t' := ⟨fun pins s σ H Q I q => h.run pins s σ H Q I (i σ H Q q)⟩
theorem do_none : DO X W none tNoPartD := POi po_none fun σ H Q ⟨C, en, Φ, Ψ, R1, h, _, k⟩ => k none en H h R1 rfl Keep.refl
theorem do_some (he : DE X W e te) : DO X W (some e) (tPartD te) := POi (po_some he) fun σ H Q ⟨C, en, Φ, Ψ, R0, h, hX, k⟩ => by
  refine ⟨C, en, _, Ψ, R0, h, hX, fun r en1 v H1 q R1 o1 s1 k1 n1 => ?_⟩
  cases r with
  | own => exact (show False from q).elim
  | bor => exact (show False from q).elim
  | val d =>
    cases d <;> try exact (show False from q).elim
    cases o1
    exact ⟨_, rfl, k _ en1 H1 q R1 s1 k1⟩
theorem de_slL (he : DE X W e te) (hl : DO X W lo tl) (hh : DO X W hi th) : DE X W (.Subscript e (.Slice lo hi none p2) pos) (tSlLD te tl th) := PEi (pe_slice sl_list he hl hh) fun σ H Q ⟨C, en, Φ, Ψ, R0, h, hX, k⟩ => by
  refine ⟨C, en, _, Ψ, R0, h, hX, fun r en1 v H1 q1 R1 o1 s1 k1 n1 => ?_⟩
  refine ⟨C.ext r, en1, _, Ψ, R1, q1, hX.ext, fun l en2 H2 q2 R2 s2 k2 => ?_⟩
  refine ⟨C.ext r, en2, _, Ψ, R2, q2, hX.ext, fun u en3 H3 q3 R3 s3 k3 => ?_⟩
  have o3 := (o1.stay R2 s2 k2).stay R3 s3 k3
  cases ed : rd en3 r with
  | none => simp only [ed] at q3
  | some d =>
    cases d <;> simp only [ed] at q3
    rename_i ds
    obtain ⟨a, vs, rfl, h1, h2⟩ := o3.sq R3 ed
    refine ⟨a, vs, rfl, h1, fun p hp => ?_⟩
    have hc : RpA X.K (mm C (oas en3)) H3 (cutV vs l u) (cutD ds l u) := by
      unfold cutV cutD
      rw [h2.length]
      exact (h2.drop _).take _
    obtain ⟨z1, z2⟩ := own_new R3.dropX hp hc
    have kk := (k1.trans s1 k2).trans (s1.trans s2) k3
    exact k _ en3 _ _ (q3 p) z1 z2 ((s1.trans s2).trans s3) (kk.trans ((s1.trans s2).trans s3) (Keep.same (same_new hp))) (kk.new ((s1.trans s2).trans s3) R3.dropX hp)
end
/-! ### sum, all -/
def gSum : List D → (Res → Prop) → Prop := fun xs Φ => match xs with
  | [.lst ds] => ∃ ns : List Int, ds = ns.map D.int ∧ Φ (.val (.int ns.sum))
  | _ => False
def gAll : List D → (Res → Prop) → Prop := fun xs Φ => match xs with
  | [.lst ds] => ∃ bs : List Bool, ds = bs.map D.bl ∧ Φ (.val (.bl (bs.all id)))
  | _ => False
theorem RpA.bls {K : PySem.W.Frag} {M : Ms} {H : Hp} : ∀ {vs : List V} (ns : List Bool), RpA K M H vs (ns.map D.bl) → vs = ns.map V.bl
  | _, [], h => by cases h; rfl
  | _, n :: ns, h => by
    cases h with
    | cons h1 h2 =>
      cases h1
      rw [RpA.bls ns h2]
      rfl
section
variable {X : Cx} {W : WX} {a b c e : Expr} {ta tb te : TDe} {p pos : Pos} {es : List Expr} {t : TDa}
theorem ca_sum : CaD X (rSum X.K) gSum := by
  intro C σ H en ds vs Φ Q R1 hs h k
  unfold gSum at h
  split at h
  · obtain ⟨ns, rfl, h⟩ := h
    cases hs with
    | cons h1 h2 =>
      cases h2
      obtain ⟨a, ws, rfl, q1, q2⟩ := h1
      rw [RpA.ints ns q2] at q1
      exact ⟨a, ns, rfl, q1, k _ _ H h R1 (.int _) (fun _ _ q => q) trivial⟩
  · exact h.elim
theorem ca_all : CaD X (rAll X.K) gAll := by
  intro C σ H en ds vs Φ Q R1 hs h k
  unfold gAll at h
  split at h
  · obtain ⟨ns, rfl, h⟩ := h
    cases hs with
    | cons h1 h2 =>
      cases h2
      obtain ⟨a, ws, rfl, q1, q2⟩ := h1
      rw [RpA.bls ns q2] at q1
      exact ⟨a, ns, rfl, q1, k _ _ H h R1 (.bl _) (fun _ _ q => q) trivial⟩
  · exact h.elim
theorem de_sum (hc : X.calm = true) (hm : X.mg "sum" = none) (ha : DA X W (e :: es) t) (hg : Gl X "sum" := by rfl) (he : starEach (e :: es) X.env = (false, eval e X.env) :: starEach es X.env := by rfl) (hpl : (backTo pos (starEach es X.env)).any (·.1) = false := by rfl) :
    DE X W (.Call (.Name "sum" p) (e :: es) [] pos) (tCaD gSum t) := de_callB (cr_sum hc) ca_sum hg hm (by decide +kernel) ha (by decide) (by decide) he hpl
theorem de_all (hc : X.calm = true) (hm : X.mg "all" = none) (ha : DA X W (e :: es) t) (hg : Gl X "all" := by rfl) (he : starEach (e :: es) X.env = (false, eval e X.env) :: starEach es X.env := by rfl) (hpl : (backTo pos (starEach es X.env)).any (·.1) = false := by rfl) :
    DE X W (.Call (.Name "all" p) (e :: es) [] pos) (tCaD gAll t) := de_callB (cr_all hc) ca_all hg hm (by decide +kernel) ha (by decide) (by decide) he hpl
end
/-! ### tuple(list), tuple(tuple) -/
def gTup1 : List D → (Res → Prop) → Prop
  | [.lst ds], Φ => Φ (.val (.tup ds))
  | [.tup ds], Φ => Φ (.val (.tup ds))
  | _, _ => False
/-! ### isinstance -/
def tyN : D → String
  | .non => "NoneType"
  | .bl _ => "bool"
  | .int _ => "int"
  | .str _ => "str"
  | .tup _ => "tuple"
  | .lst _ => "list"
def isD (n : String) (d : D) : Bool := tyN d == n || (n == "int" && tyN d == "bool")
theorem Sq.ty {K : PySem.W.Frag} {C : Cc} {en : En} {H : Hp} {v : V} : ∀ {d : D}, Sq K C en H v d → TyX K H v (.type (tyN d))
  | .non, h => by cases h; exact .base .non
  | .bl _, h => by cases h; exact .base (.bl _)
  | .int _, h => by cases h; exact .base (.int _)
  | .str _, h => by cases h; exact .base (.str _)
  | .lst ds, ⟨a, vs, e, h, _⟩ => by
    subst e
    rcases h with (h | ⟨o, h⟩) | ⟨o, its, n, h1, h2, _⟩
    · exact .base (.lst h)
    · exact .base (.frz h)
    · exact .kList h1 h2
  | .tup ds, ⟨a, vs, e, h, _⟩ => by
    subst e
    rcases h with (h | ⟨o, h⟩) | ⟨o, its, n, h1, h2, _⟩
    · exact .base (.tup h)
    · exact .fTuple h
    · exact .kTuple h1 h2
def tIsiD (n : String) (te : TDe) : TDe := fun Ψ en Φ => te Ψ en fun r en1 => match rd en1 r with
  | some d => Φ (.val (.bl (isD n d))) en1
  | none => False
def tIsi2D (n m : String) (te : TDe) : TDe := fun Ψ en Φ => te Ψ en fun r en1 => match rd en1 r with
  | some d => Φ (.val (.bl (isD n d || isD m d))) en1
  | none => False
section
variable {X : Cx} {W : WX} {e : Expr} {te : TDe} {p pos p2 p3 p4 : Pos} {n m : Str} {sn sm : String}
theorem de_isi (hm : X.mg "isinstance" = none) (he : DE X W e te) (gn : Gl X n) (mn : X.mg n = none) (vn : bootBuiltins n = some (.type sn)) (hk : ∀ d, kitB (tyN d) sn = some (isD sn d))
    (hg : Gl X "isinstance" := by rfl) (nn : n ≠ "__name__" := by decide) (nd : (n == ("__debug__" : Str)) = false := by decide)
    (h1 : starEach [e, .Name n p2] X.env = (false, eval e X.env) :: starEach [.Name n p2] X.env := by rfl) (h2 : starEach [.Name n p2] X.env = (false, eval (.Name n p2) X.env) :: starEach [] X.env := by rfl)
    (hpl : (backTo pos (starEach [.Name n p2] X.env)).any (·.1) = false := by rfl) : DE X W (.Call (.Name "isinstance" p) [e, .Name n p2] [] pos) (tIsiD sn te) :=
  PEi (pe_callB call_isi hg hm PyProof.Rows.boot_isinstance (pa_cons he (pa_cons (pe_bltn (v := .ty sn) gn mn vn rfl nn nd) pa_nil h2) h1) (by decide) (by decide) h1 hpl) fun σ H Q ⟨C, en, Φ, Ψ, R0, h, hX, k⟩ => by
    refine ⟨C, en, _, Ψ, R0, h, hX, fun r en1 v H1 q R1 o1 s1 k1 n1 => ?_⟩
    cases ed : rd en1 r with
    | none => simp only [ed] at q
    | some d =>
      simp only [ed] at q
      exact ⟨v, .ty sn, _, _, _, rfl, .ty sn, (o1.sq R1 ed).ty, kit_ty (hk d), k _ en1 _ H1 q R1.dropX (.bl _) s1 k1 trivial⟩
theorem de_isi2 (hm : X.mg "isinstance" = none) (he : DE X W e te) (gn : Gl X n) (mn : X.mg n = none) (vn : bootBuiltins n = some (.type sn)) (hk : ∀ d, kitB (tyN d) sn = some (isD sn d))
    (gm : Gl X m) (mm' : X.mg m = none) (vm : bootBuiltins m = some (.type sm)) (hk2 : ∀ d, kitB (tyN d) sm = some (isD sm d))
    (hg : Gl X "isinstance" := by rfl) (nn : n ≠ "__name__" := by decide) (nd : (n == ("__debug__" : Str)) = false := by decide) (nn' : m ≠ "__name__" := by decide) (nd' : (m == ("__debug__" : Str)) = false := by decide) {x1 : _}
    (h1 : starEach [e, .Tuple [.Name n p2, .Name m p3] x1 p4] X.env = (false, eval e X.env) :: starEach [.Tuple [.Name n p2, .Name m p3] x1 p4] X.env := by rfl)
    (h2 : starEach [.Tuple [.Name n p2, .Name m p3] x1 p4] X.env = (false, eval (.Tuple [.Name n p2, .Name m p3] x1 p4) X.env) :: starEach [] X.env := by rfl)
    (h3 : starEach [.Name n p2, .Name m p3] X.env = (false, eval (.Name n p2) X.env) :: starEach [.Name m p3] X.env := by rfl) (h4 : starEach [.Name m p3] X.env = (false, eval (.Name m p3) X.env) :: starEach [] X.env := by rfl)
    (hpl : (backTo pos (starEach [.Tuple [.Name n p2, .Name m p3] x1 p4] X.env)).any (·.1) = false := by rfl) : DE X W (.Call (.Name "isinstance" p) [e, .Tuple [.Name n p2, .Name m p3] x1 p4] [] pos) (tIsi2D sn sm te) :=
  PEi (pe_callB call_isiT hg hm PyProof.Rows.boot_isinstance (pa_cons he (pa_cons (pe_tup (pa_cons (pe_bltn (v := .ty sn) gn mn vn rfl nn nd) (pa_cons (pe_bltn (v := .ty sm) gm mm' vm rfl nn' nd') pa_nil h4) h3)) pa_nil h2) h1) (by decide) (by decide) h1 hpl) fun σ H Q ⟨C, en, Φ, Ψ, R0, h, hX, k⟩ => by
    refine ⟨C, en, _, Ψ, R0, h, hX, fun r en1 v H1 q R1 o1 s1 k1 n1 => ?_⟩
    cases ed : rd en1 r with
    | none => simp only [ed] at q
    | some d =>
      simp only [ed] at q
      refine ⟨by show 2 ≤ sizeLine; decide, fun tp htp => ?_⟩
      have R2 := R1.dropX.grow (same_new (o := HO.tup [V.ty sn, V.ty sm]) htp)
      have ty : TyX X.K (upd H1 tp (.tup [V.ty sn, V.ty sm])) v (.type (tyN d)) := by
        have h0 := o1.sq R1 ed
        have lift : ∀ {d : D}, Sq X.K C en1 H1 v d → Sq X.K C en1 (upd H1 tp (.tup [V.ty sn, V.ty sm])) v d := fun {d} h => by
          have le : Le (mm C (oas en1)) H1 (mm C (oas en1)) (upd H1 tp (.tup [V.ty sn, V.ty sm])) := fun b u n q => ⟨n, same_new htp b u q⟩
          have sq : ∀ a xs, SqL X.K H1 a xs → SqL X.K (upd H1 tp (.tup [V.ty sn, V.ty sm])) a xs := fun a xs h => by
            rcases h with (h | ⟨o, h⟩) | h
            · exact .inl (.inl (same_new htp _ _ h))
            · exact .inl (.inr ⟨o, same_new htp _ _ h⟩)
            · exact .inr h
          have sq2 : ∀ a xs, SqT X.K H1 a xs → SqT X.K (upd H1 tp (.tup [V.ty sn, V.ty sm])) a xs := fun a xs h => by
            rcases h with (h | ⟨o, h⟩) | h
            · exact .inl (.inl (same_new htp _ _ h))
            · exact .inl (.inr ⟨o, same_new htp _ _ h⟩)
            · exact .inr h
          cases d with
          | lst ds => obtain ⟨a, vs, e1, e2, e3⟩ := h; exact ⟨a, vs, e1, sq _ _ e2, RpA.mono le _ _ e3⟩
          | tup ds => obtain ⟨a, vs, e1, e2, e3⟩ := h; exact ⟨a, vs, e1, sq2 _ _ e2, RpA.mono le _ _ e3⟩
          | non => exact Rp.mono le _ _ h
          | bl => exact Rp.mono le _ _ h
          | int => exact Rp.mono le _ _ h
          | str => exact Rp.mono le _ _ h
        exact (lift h0).ty
      have kk : PySem.W.kitAny X.K (.type (tyN d)) [.type sn, .type sm] = some (isD sn d || isD sm d) := by
        refine kitAny_cons (kit_ty (hk d)) (fun e => ?_) (fun e => by rw [e, Bool.true_or])
        rw [e, Bool.false_or]
        refine kitAny_cons (kit_ty (hk2 d)) (fun e => ?_) (fun e => e)
        rw [e]
        exact kitAny_nil
      exact ⟨v, tp, _, _, _, _, rfl, upd_same, .cons (.ty sn) (.cons (.ty sm) .nil), ty, kk, k _ en1 _ _ q R2 (.bl _) s1 (k1.trans s1 (Keep.same (same_new htp))) trivial⟩
end
theorem isD_dict : ∀ d, kitB (tyN d) "dict" = some (isD "dict" d) := by intro d; cases d <;> (dsimp only [tyN, isD]; decide +kernel)
theorem isD_list : ∀ d, kitB (tyN d) "list" = some (isD "list" d) := by intro d; cases d <;> (dsimp only [tyN, isD]; decide +kernel)
theorem isD_tuple : ∀ d, kitB (tyN d) "tuple" = some (isD "tuple" d) := by intro d; cases d <;> (dsimp only [tyN, isD]; decide +kernel)
theorem isD_bool : ∀ d, kitB (tyN d) "bool" = some (isD "bool" d) := by intro d; cases d <;> (dsimp only [tyN, isD]; decide +kernel)
theorem isD_str : ∀ d, kitB (tyN d) "str" = some (isD "str" d) := by intro d; cases d <;> (dsimp only [tyN, isD]; decide +kernel)
theorem isD_int : ∀ d, kitB (tyN d) "int" = some (isD "int" d) := by intro d; cases d <;> (dsimp only [tyN, isD]; decide +kernel)
/-! ### is None -/
def gIsN (f : Bool → Bool) : D → D → (Res → Prop) → Prop := fun x y Φ => match y with
  | .non => (match x with
    | .non => Φ (.val (.bl (f true)))
    | _ => Φ (.val (.bl (f false))))
  | _ => False
section
variable {X : Cx} {W : WX} {a b : Expr} {ta tb : TDe} {pos : Pos}
theorem sq_non {K : PySem.W.Frag} {C : Cc} {en : En} {H : Hp} {v : V} {d : D} (h : Sq K C en H v d) : decide (v = .non) = (match d with
    | .non => true
    | _ => false) := by
  cases d with
  | non => cases h; rfl
  | bl => cases h; rfl
  | int => cases h; rfl
  | str => cases h; rfl
  | lst => obtain ⟨a, _, rfl, _⟩ := h; rfl
  | tup => obtain ⟨a, _, rfl, _⟩ := h; rfl
theorem od_isN : OpD X (fun x y H Q => y = .non ∧ Q (.bl (decide (x = .non))) H) (gIsN id) := by
  intro C σ H en x y v w Φ Q R1 hx hy h k
  cases y <;> try exact (show False from h).elim
  cases hy
  refine ⟨rfl, ?_⟩
  rw [sq_non hx]
  cases x <;> exact k _ _ H h R1 (.bl _) (fun _ _ q => q) trivial
theorem od_notN : OpD X (fun x y H Q => y = .non ∧ Q (.bl (!decide (x = .non))) H) (gIsN not) := by
  intro C σ H en x y v w Φ Q R1 hx hy h k
  cases y <;> try exact (show False from h).elim
  cases hy
  refine ⟨rfl, ?_⟩
  rw [sq_non hx]
  cases x <;> exact k _ _ H h R1 (.bl _) (fun _ _ q => q) trivial
theorem de_isN (ha : DE X W a ta) (hb : DE X W b tb) : DE X W (.Compare a [.Is] [b] pos) (tOpD (gIsN id) ta tb) := de_cmp op_isN od_isN ha hb
theorem de_notN (ha : DE X W a ta) (hb : DE X W b tb) : DE X W (.Compare a [.IsNot] [b] pos) (tOpD (gIsN not) ta tb) := de_cmp op_notN od_notN ha hb
theorem dt_isN (ha : DE X W a ta) (hb : DE X W b tb) : DT X W (.Compare a [.Is] [b] pos) (tValD (tOpD (gIsN id) ta tb)) := dt_cmp op_isN od_isN ha hb
theorem dt_notN (ha : DE X W a ta) (hb : DE X W b tb) : DT X W (.Compare a [.IsNot] [b] pos) (tValD (tOpD (gIsN not) ta tb)) := dt_cmp op_notN od_notN ha hb
end
/-! ### never reached -/
def tNeverD : TDs := fun _ _ => False
theorem ds_never {X : Cx} {W : WX} {st : Stmt} : DS X W st tNeverD := PSi ps_never fun D σ H ⟨C, en, De, R1, h, k⟩ => h
end VS

namespace VS
open PySem L2 PySem.Spec PyProof.Rows

/-! ### comprehensions over zip -/
def tLcZ (ti : TDa) (tG : TDg) (tt : TDt) (te : TDe) (vs : List Nat) : TDe := fun Ψ en Φ => ti Ψ en fun rs en1 => match vls rs with
  | some [x, y] => ∃ ds es : List D, (x = .lst ds ∧ y = .lst es ∨ x = .tup ds ∧ y = .tup es) ∧ wipeD en1 vs = en1 ∧
      ∃ J : Nat → List D → En → Prop, J 0 [] en1 ∧ (∀ i d e acc en, ds[i]? = some d → es[i]? = some e → J i acc en → lcStep tG tt te vs (J (i + 1)) (.tup [d, e]) acc en) ∧ ∀ acc en2 p, J (min ds.length es.length) acc en2 → Φ (.own p (.lst acc)) en2
  | _ => False
theorem LcP.grow {K : PySem.W.Frag} {C : Cc} {σ : L2.St} {H1 H H' : Hp} {en1 : En} {vs : List Nat} {Dl : Addr} {J : List D → En → Prop} (P : LcP K C σ H1 en1 vs Dl J H) (e : Same H H') : LcP K C σ H1 en1 vs Dl J H' := by
  obtain ⟨acc, en, ws, R2, sh, hd, hr, j⟩ := P
  exact ⟨acc, en, ws, R2.grow e, sh, e _ _ hd, RpA.mono (fun b u n q => ⟨n, e b u q⟩) _ _ hr, j⟩
section
variable {X : Cx} {W : WX} {elt tg e1 e2 : Expr} {elts : List Expr} {kk : Nat} {tpos : Pos} {ifs : List Expr} {scope : Scope} {own : List (Str × Nat)} {p pos : Pos} {te : TDe} {tG : TDg} {tt : TDt} {S : List Nat} {tR : TDa}
theorem de_lcZ (hm : X.mg "zip" = none) (hc : X.calm = true) (hN : X.N.Nodup) (ha : DA X W [e1, e2] tR) (ok : BlkOk X.N X.env.scope scope own)
    (hg : ∀ (s : Shared) (H : Hp) (C : Addr) (cl : List (Str × Addr)) (fp : List Addr), DG (X.blk s H scope (compEnvC scope cl C X.env) fp) S (.Tuple elts kk tpos) tG) (ht : ∀ (s : Shared) (H : Hp) (C : Addr) (cl : List (Str × Addr)) (fp : List Addr), DTs (X.blk s H scope (compEnvC scope cl C X.env) fp) W0 ifs tt)
    (he : ∀ (s : Shared) (H : Hp) (C : Addr) (cl : List (Str × Addr)) (fp : List Addr), DE (X.blk s H scope (compEnvC scope cl C X.env) fp) W0 elt te) (hS : ∀ j, j ∈ S → j ∈ own.map (·.2) := by decide) (hG : Gl X "zip" := by rfl)
    (h1 : starEach [e1, e2] X.env = (false, eval e1 X.env) :: starEach [e2] X.env := by rfl) {p2 : Pos} (hpl : (backTo p2 (starEach [e2] X.env)).any (·.1) = false := by rfl) (hs : ∀ x, foldedSetIterable (.Call (.Name "zip" p) [e1, e2] [] p2) X.env x = pure x := by intro _; rfl) :
    DE X W (.ListComp elt [⟨.Tuple elts kk tpos, .Call (.Name "zip" p) [e1, e2] [] p2, ifs, 0⟩] scope pos) (tLcZ tR tG tt te (own.map (·.2))) :=
  PEi (pe_lc (g := lG X.K S tG) (tt := lT X.K W0 tt) (te := lE X.K W0 te) hc hN (RZ.pi_zipA hG hm ha h1 hpl) ok hg ht he hs) fun σ H Q ⟨C, en, Φ, Ψ, R0, hT, hX, k⟩ => by
  refine ⟨C, en, _, Ψ, R0, hT, hX, fun rs en1 ws H1 q R1 o1 s1 k1 _ => ?_⟩
  cases ev : vls rs with
  | none => simp only [ev] at q
  | some zs =>
    match zs, ev, q with
    | [], ev, q => simp only [ev] at q
    | [_], ev, q => simp only [ev] at q
    | _ :: _ :: _ :: _, ev, q => simp only [ev] at q
    | [x, y], ev, q =>
      simp only [ev] at q
      obtain ⟨ds, es, hxy, hw, J, j0, step, done⟩ := q
      have hr := o1.rp R1 ev
      have R1' := R1.dropA
      cases hr with
      | cons q1 q2 =>
        cases q2 with
        | cons q2 q3 =>
          cases q3
          have stood : ∀ {Hx : Hp} {ex : En} {Dl : Addr}, R X.K ((C.re en1 H1).add Dl) (L2.wipe σ (own.map (·.2))) Hx ex → H1 Dl = none → Le (mm C (oas en1)) H1 (mm ((C.re en1 H1).add Dl) (oas ex)) Hx := fun {Hx ex Dl} r hD b u n z => by
            obtain ⟨q1, q2⟩ := R1'.stood r.drop b u n z
            refine ⟨fun w => ?_, q2⟩
            rcases w with (w | w) | w
            · exact q1 (.inl w)
            · rw [w, hD] at z; cases z
            · exact q1 (.inr w)
          have fin : ∀ {Dl : Addr} {Hx : Hp}, H1 Dl = none → LcP X.K C σ H1 en1 (own.map (·.2)) Dl (J (min ds.length es.length)) Hx → Q (.ref Dl) Hx := fun {Dl Hx} hD P => by
            obtain ⟨acc, en2, z1, z2, z3, z4, z5⟩ := lc_end R1' hD hw P done
            exact k _ en2 _ Hx z1 z2 z3 (s1.trans z4) (k1.trans s1 z5) (k1.new s1 R1' hD)
          have turn : ∀ {Dl T : Addr} {Hx : Hp} {i : Nat} {d e : VS.D} {u v : V}, H1 Dl = none → LcP X.K C σ H1 en1 (own.map (·.2)) Dl (J i) Hx → Hx T = none → ds[i]? = some d → es[i]? = some e → Rp X.K (mm C (oas en1)) H1 u d → Rp X.K (mm C (oas en1)) H1 v e →
              lG X.K S tG (.ref T) (L2.wipe σ (own.map (·.2))) (upd Hx T (.tup [u, v])) fun σ2 H2 => L2.wipe σ2 (own.map (·.2)) = L2.wipe σ (own.map (·.2)) ∧ lT X.K W0 tt σ2 H2 fun b H3 =>
                if b = true then lE X.K W0 te σ2 H3 fun y H4 => ∃ acc, H4 Dl = some (.lst acc) ∧ acc.length < sizeLine ∧ LcP X.K C σ H1 en1 (own.map (·.2)) Dl (J (i + 1)) (upd H4 Dl (.lst (acc ++ [y]))) else LcP X.K C σ H1 en1 (own.map (·.2)) Dl (J (i + 1)) H3 :=
            fun {Dl T Hx i d e u v} hD P hT hd he ru rv => by
              obtain ⟨acc0, en0, ws0, R2, sh, hd0, hr0, j⟩ := P
              have P' : LcP X.K C σ H1 en1 (own.map (·.2)) Dl (fun a e => e = en0 ∧ J i a e) (upd Hx T (.tup [u, v])) := LcP.grow ⟨acc0, en0, ws0, R2, sh, hd0, hr0, rfl, j⟩ (same_new hT)
              refine lc_turn R1' hD hw hS P' (fun _ ex jx r => ?_) fun acc ex j => step i d e acc ex hd he j.2
              obtain ⟨rfl, _⟩ := jx
              refine .tup (.inl ⟨fun z => ?_, .inl upd_same⟩) (.cons (Rp.mono (stood r hD) _ _ ru) (.cons (Rp.mono (stood r hD) _ _ rv) .nil))
              obtain ⟨u', z'⟩ := R2.mD z
              rw [hT] at z'; cases z'
          have len2 : ∀ {Hx : Hp} {ex : En} {Dl : Addr} {a : Addr} {xs : List V}, SLx X.K (mm C (oas en1)) H1 a xs → H1 Dl = none → R X.K ((C.re en1 H1).add Dl) (L2.wipe σ (own.map (·.2))) Hx ex → SqL X.K Hx a xs := fun h hD r => (h.mono (stood r hD)).sq
          have len3 : ∀ {Hx : Hp} {ex : En} {Dl : Addr} {a : Addr} {xs : List V}, STx X.K (mm C (oas en1)) H1 a xs → H1 Dl = none → R X.K ((C.re en1 H1).add Dl) (L2.wipe σ (own.map (·.2))) Hx ex → SqT X.K Hx a xs := fun h hD r => (h.mono (stood r hD)).sq
          rcases hxy with ⟨rfl, rfl⟩ | ⟨rfl, rfl⟩
          · cases q1 with
            | lst a1 a2 =>
              cases q2 with
              | lst b1 b2 =>
                rename_i a vs b ws'
                refine ⟨a, b, vs, ws', rfl, .inl ⟨a1.sq, b1.sq, fun Dl hD => ?_⟩⟩
                refine ⟨fun i m Hx => m + i = min ds.length es.length ∧ LcP X.K C σ H1 en1 (own.map (·.2)) Dl (J i) Hx, ⟨_, rfl, lc_start R1' hD hw j0⟩, fun i m Hx ⟨hm, P⟩ => ?_⟩
                have sA : SqL X.K Hx a vs := by obtain ⟨_, _, _, r, _⟩ := P; exact len2 a1 hD r
                have sB : SqL X.K Hx b ws' := by obtain ⟨_, _, _, r, _⟩ := P; exact len2 b1 hD r
                have l1 := a2.length
                have l2 := b2.length
                by_cases hi : i < min ds.length es.length
                · obtain ⟨u, eu, ru⟩ := a2.get (List.getElem?_eq_getElem (show i < ds.length by omega))
                  obtain ⟨v, ev', rv⟩ := b2.get (List.getElem?_eq_getElem (show i < es.length by omega))
                  refine .inr ⟨⟨vs, ws', u, v, sA, sB, eu, ev'⟩, fun H' => LcP X.K C σ H1 en1 (own.map (·.2)) Dl (J (i + 1)) H', fun H' P' => ⟨m - 1, by omega, by omega, P'⟩, ?_⟩
                  rintro x H' ⟨T, x1, x2, rfl, hT, rfl, f1, f2⟩
                  have g1 := f1 _ sA
                  have g2 := f2 _ sB
                  rw [eu] at g1; rw [ev'] at g2
                  cases g1; cases g2
                  exact turn hD P hT (List.getElem?_eq_getElem _) (List.getElem?_eq_getElem _) ru rv
                · have hi' : i = min ds.length es.length := by omega
                  subst hi'
                  exact .inl ⟨⟨vs, ws', sA, sB, by omega⟩, fin hD P⟩
          · cases q1 with
            | tup a1 a2 =>
              cases q2 with
              | tup b1 b2 =>
                rename_i a vs b ws'
                refine ⟨a, b, vs, ws', rfl, .inr ⟨a1.sq, b1.sq, fun Dl hD => ?_⟩⟩
                refine ⟨fun i m Hx => m + i = min ds.length es.length ∧ LcP X.K C σ H1 en1 (own.map (·.2)) Dl (J i) Hx, ⟨_, rfl, lc_start R1' hD hw j0⟩, fun i m Hx ⟨hm, P⟩ => ?_⟩
                have sA : SqT X.K Hx a vs := by obtain ⟨_, _, _, r, _⟩ := P; exact len3 a1 hD r
                have sB : SqT X.K Hx b ws' := by obtain ⟨_, _, _, r, _⟩ := P; exact len3 b1 hD r
                have l1 := a2.length
                have l2 := b2.length
                by_cases hi : i < min ds.length es.length
                · obtain ⟨u, eu, ru⟩ := a2.get (List.getElem?_eq_getElem (show i < ds.length by omega))
                  obtain ⟨v, ev', rv⟩ := b2.get (List.getElem?_eq_getElem (show i < es.length by omega))
                  refine .inr ⟨⟨vs, ws', u, v, sA, sB, eu, ev'⟩, fun H' => LcP X.K C σ H1 en1 (own.map (·.2)) Dl (J (i + 1)) H', fun H' P' => ⟨m - 1, by omega, by omega, P'⟩, ?_⟩
                  rintro x H' ⟨T, x1, x2, rfl, hT, rfl, f1, f2⟩
                  have g1 := f1 _ sA
                  have g2 := f2 _ sB
                  rw [eu] at g1; rw [ev'] at g2
                  cases g1; cases g2
                  exact turn hD P hT (List.getElem?_eq_getElem _) (List.getElem?_eq_getElem _) ru rv
                · have hi' : i = min ds.length es.length := by omega
                  subst hi'
                  exact .inl ⟨⟨vs, ws', sA, sB, by omega⟩, fin hD P⟩
end
/-! ### x in (ints) -/
def gInI : D → D → (Res → Prop) → Prop := fun x y Φ => match x, y with
  | .int i, .tup ds => ∃ ns : List Int, ds = ns.map D.int ∧ Φ (.val (.bl (ns.any fun n => n == i)))
  | .int i, .lst ds => ∃ ns : List Int, ds = ns.map D.int ∧ Φ (.val (.bl (ns.any fun n => n == i)))
  | _, _ => False
theorem flat_ints : ∀ ns : List Int, (ns.map V.int).all flatV = true
  | [] => rfl
  | n :: ns => by rw [List.map_cons, List.all_cons, flat_ints ns] <;> rfl
theorem inV_ints (i : Int) : ∀ ns : List Int, inV (.int i) (ns.map V.int) = ns.any fun n => n == i
  | [] => rfl
  | n :: ns => by
    have ih := inV_ints i ns
    unfold inV at ih ⊢
    rw [List.map_cons, List.any_cons, List.any_cons, ih]
    rfl
section
variable {X : Cx} {W : WX} {a b : Expr} {ta tb : TDe} {pos : Pos}
theorem od_in : OpD X (rIn X.K false) gInI := by
  intro C σ H en x y v w Φ Q R1 hx hy h k
  cases x <;> try exact (show False from h).elim
  cases hx
  cases y <;> try exact (show False from h).elim
  · obtain ⟨ns, rfl, h⟩ := h
    obtain ⟨a, vs, rfl, h1, h2⟩ := hy
    rw [RpA.ints ns h2] at h1
    refine ⟨a, _, rfl, .inr h1, rfl, flat_ints ns, ?_⟩
    rw [if_neg Bool.false_ne_true, inV_ints]
    exact k _ _ H h R1 (.bl _) (fun _ _ q => q) trivial
  · obtain ⟨ns, rfl, h⟩ := h
    obtain ⟨a, vs, rfl, h1, h2⟩ := hy
    rw [RpA.ints ns h2] at h1
    refine ⟨a, _, rfl, .inl h1, rfl, flat_ints ns, ?_⟩
    rw [if_neg Bool.false_ne_true, inV_ints]
    exact k _ _ H h R1 (.bl _) (fun _ _ q => q) trivial
theorem de_in (ha : DE X W a ta) (hb : DE X W b tb) (hm : behindInMarks .In b = false := by rfl) : DE X W (.Compare a [.In] [b] pos) (tOpD gInI ta tb) := de_cmp op_in_seq od_in ha hb hm
theorem dt_in (ha : DE X W a ta) (hb : DE X W b tb) (hm : behindInMarks .In b = false := by rfl) : DT X W (.Compare a [.In] [b] pos) (tValD (tOpD gInI ta tb)) := dt_cmp op_in_seq od_in ha hb hm
end
end VS

namespace VS
open PySem L2 PySem.Spec PyProof.Rows

theorem Sq.lift {K : PySem.W.Frag} {C : Cc} {en : En} {H H' : Hp} {v : V} {d : D} (h : Sq K C en H v d) (e : Same H H') : Sq K C en H' v d := by
  have le : Le (mm C (oas en)) H (mm C (oas en)) H' := fun b u n q => ⟨n, e b u q⟩
  have sq : ∀ a xs, SqL K H a xs → SqL K H' a xs := fun a xs h => by
    rcases h with (h | ⟨o, h⟩) | h
    · exact .inl (.inl (e _ _ h))
    · exact .inl (.inr ⟨o, e _ _ h⟩)
    · exact .inr h
  have sq2 : ∀ a xs, SqT K H a xs → SqT K H' a xs := fun a xs h => by
    rcases h with (h | ⟨o, h⟩) | h
    · exact .inl (.inl (e _ _ h))
    · exact .inl (.inr ⟨o, e _ _ h⟩)
    · exact .inr h
  cases d with
  | lst ds => obtain ⟨a, vs, e1, e2, e3⟩ := h; exact ⟨a, vs, e1, sq _ _ e2, RpA.mono le _ _ e3⟩
  | tup ds => obtain ⟨a, vs, e1, e2, e3⟩ := h; exact ⟨a, vs, e1, sq2 _ _ e2, RpA.mono le _ _ e3⟩
  | non => exact Rp.mono le _ _ h
  | bl => exact Rp.mono le _ _ h
  | int => exact Rp.mono le _ _ h
  | str => exact Rp.mono le _ _ h
def tIsiTD (c0 c1 : String) (te : TDe) : TDe := fun Ψ en Φ => te Ψ en fun r en1 => match rd en1 r with
  | some d => Φ (.val (.bl (isD c0 d || isD c1 d))) en1
  | none => False
theorem de_isiT2 {X : Cx} {W : WX} {e : Expr} {te : TDe} {p pos q0 q1 q4 : Pos} {n0 n1 : Str} {c0 c1 : String} {x1 : Nat} (hm : X.mg "isinstance" = none) (he : DE X W e te)
    (g0 : Gl X n0) (m0 : X.mg n0 = none) (v0 : bootBuiltins n0 = some (.type c0)) (y0 : ∀ d, kitB (tyN d) c0 = some (isD c0 d))
    (g1 : Gl X n1) (m1 : X.mg n1 = none) (v1 : bootBuiltins n1 = some (.type c1)) (y1 : ∀ d, kitB (tyN d) c1 = some (isD c1 d))
    (hg : Gl X "isinstance" := by rfl) (a0 : n0 ≠ "__name__" := by decide) (b0 : (n0 == ("__debug__" : Str)) = false := by decide) (a1 : n1 ≠ "__name__" := by decide) (b1 : (n1 == ("__debug__" : Str)) = false := by decide)
    (h1 : starEach [e, .Tuple [.Name n0 q0, .Name n1 q1] x1 q4] X.env = (false, eval e X.env) :: starEach [.Tuple [.Name n0 q0, .Name n1 q1] x1 q4] X.env := by rfl)
    (h2 : starEach [.Tuple [.Name n0 q0, .Name n1 q1] x1 q4] X.env = (false, eval (.Tuple [.Name n0 q0, .Name n1 q1] x1 q4) X.env) :: starEach [] X.env := by rfl)
    (w0 : starEach [.Name n0 q0, .Name n1 q1] X.env = (false, eval (.Name n0 q0) X.env) :: starEach [.Name n1 q1] X.env := by rfl) (w1 : starEach [.Name n1 q1] X.env = (false, eval (.Name n1 q1) X.env) :: starEach [] X.env := by rfl)
    (hpl : (backTo pos (starEach [.Tuple [.Name n0 q0, .Name n1 q1] x1 q4] X.env)).any (·.1) = false := by rfl) : DE X W (.Call (.Name "isinstance" p) [e, .Tuple [.Name n0 q0, .Name n1 q1] x1 q4] [] pos) (tIsiTD c0 c1 te) :=
  PEi (pe_callB call_isiT hg hm PyProof.Rows.boot_isinstance (pa_cons he (pa_cons (pe_tup (pa_cons (pe_bltn (v := .ty c0) g0 m0 v0 rfl a0 b0) (pa_cons (pe_bltn (v := .ty c1) g1 m1 v1 rfl a1 b1) pa_nil w1) w0)) pa_nil h2) h1) (by decide) (by decide) h1 hpl) fun σ H Q ⟨C, en, Φ, Ψ, R0, h, hX, k⟩ => by
    refine ⟨C, en, _, Ψ, R0, h, hX, fun r en1 v H1 q R1 o1 s1 k1 n1 => ?_⟩
    cases ed : rd en1 r with
    | none => simp only [ed] at q
    | some d =>
      simp only [ed] at q
      refine ⟨by show 2 ≤ sizeLine; decide, fun tp htp => ?_⟩
      have R2 := R1.dropX.grow (same_new (o := HO.tup [V.ty c0, V.ty c1]) htp)
      have ty : TyX X.K (upd H1 tp (.tup [V.ty c0, V.ty c1])) v (.type (tyN d)) := ((o1.sq R1 ed).lift (same_new htp)).ty
      have kk : PySem.W.kitAny X.K (.type (tyN d)) [.type c0, .type c1] = some ((isD c0 d || isD c1 d)) := by
        refine kitAny_cons (kit_ty (y0 d)) (fun e => ?_) (fun e => by rw [e, Bool.true_or])
        rw [e, Bool.false_or]
        refine kitAny_cons (kit_ty (y1 d)) (fun e => ?_) (fun e => e)
        rw [e]
        exact kitAny_nil
      exact ⟨v, tp, _, _, _, _, rfl, upd_same, (.cons (.ty c0) (.cons (.ty c1) .nil)), ty, kk, k _ en1 _ _ q R2 (.bl _) s1 (k1.trans s1 (Keep.same (same_new htp))) trivial⟩
def tIsi3D (c0 c1 c2 : String) (te : TDe) : TDe := fun Ψ en Φ => te Ψ en fun r en1 => match rd en1 r with
  | some d => Φ (.val (.bl (isD c0 d || (isD c1 d || isD c2 d)))) en1
  | none => False
theorem de_isi3 {X : Cx} {W : WX} {e : Expr} {te : TDe} {p pos q0 q1 q2 q4 : Pos} {n0 n1 n2 : Str} {c0 c1 c2 : String} {x1 : Nat} (hm : X.mg "isinstance" = none) (he : DE X W e te)
    (g0 : Gl X n0) (m0 : X.mg n0 = none) (v0 : bootBuiltins n0 = some (.type c0)) (y0 : ∀ d, kitB (tyN d) c0 = some (isD c0 d))
    (g1 : Gl X n1) (m1 : X.mg n1 = none) (v1 : bootBuiltins n1 = some (.type c1)) (y1 : ∀ d, kitB (tyN d) c1 = some (isD c1 d))
    (g2 : Gl X n2) (m2 : X.mg n2 = none) (v2 : bootBuiltins n2 = some (.type c2)) (y2 : ∀ d, kitB (tyN d) c2 = some (isD c2 d))
    (hg : Gl X "isinstance" := by rfl) (a0 : n0 ≠ "__name__" := by decide) (b0 : (n0 == ("__debug__" : Str)) = false := by decide) (a1 : n1 ≠ "__name__" := by decide) (b1 : (n1 == ("__debug__" : Str)) = false := by decide) (a2 : n2 ≠ "__name__" := by decide) (b2 : (n2 == ("__debug__" : Str)) = false := by decide)
    (h1 : starEach [e, .Tuple [.Name n0 q0, .Name n1 q1, .Name n2 q2] x1 q4] X.env = (false, eval e X.env) :: starEach [.Tuple [.Name n0 q0, .Name n1 q1, .Name n2 q2] x1 q4] X.env := by rfl)
    (h2 : starEach [.Tuple [.Name n0 q0, .Name n1 q1, .Name n2 q2] x1 q4] X.env = (false, eval (.Tuple [.Name n0 q0, .Name n1 q1, .Name n2 q2] x1 q4) X.env) :: starEach [] X.env := by rfl)
    (w0 : starEach [.Name n0 q0, .Name n1 q1, .Name n2 q2] X.env = (false, eval (.Name n0 q0) X.env) :: starEach [.Name n1 q1, .Name n2 q2] X.env := by rfl) (w1 : starEach [.Name n1 q1, .Name n2 q2] X.env = (false, eval (.Name n1 q1) X.env) :: starEach [.Name n2 q2] X.env := by rfl) (w2 : starEach [.Name n2 q2] X.env = (false, eval (.Name n2 q2) X.env) :: starEach [] X.env := by rfl)
    (hpl : (backTo pos (starEach [.Tuple [.Name n0 q0, .Name n1 q1, .Name n2 q2] x1 q4] X.env)).any (·.1) = false := by rfl) : DE X W (.Call (.Name "isinstance" p) [e, .Tuple [.Name n0 q0, .Name n1 q1, .Name n2 q2] x1 q4] [] pos) (tIsi3D c0 c1 c2 te) :=
  PEi (pe_callB call_isiT hg hm PyProof.Rows.boot_isinstance (pa_cons he (pa_cons (pe_tup (pa_cons (pe_bltn (v := .ty c0) g0 m0 v0 rfl a0 b0) (pa_cons (pe_bltn (v := .ty c1) g1 m1 v1 rfl a1 b1) (pa_cons (pe_bltn (v := .ty c2) g2 m2 v2 rfl a2 b2) pa_nil w2) w1) w0)) pa_nil h2) h1) (by decide) (by decide) h1 hpl) fun σ H Q ⟨C, en, Φ, Ψ, R0, h, hX, k⟩ => by
    refine ⟨C, en, _, Ψ, R0, h, hX, fun r en1 v H1 q R1 o1 s1 k1 n1 => ?_⟩
    cases ed : rd en1 r with
    | none => simp only [ed] at q
    | some d =>
      simp only [ed] at q
      refine ⟨by show 3 ≤ sizeLine; decide, fun tp htp => ?_⟩
      have R2 := R1.dropX.grow (same_new (o := HO.tup [V.ty c0, V.ty c1, V.ty c2]) htp)
      have ty : TyX X.K (upd H1 tp (.tup [V.ty c0, V.ty c1, V.ty c2])) v (.type (tyN d)) := ((o1.sq R1 ed).lift (same_new htp)).ty
      have kk : PySem.W.kitAny X.K (.type (tyN d)) [.type c0, .type c1, .type c2] = some ((isD c0 d || (isD c1 d || isD c2 d))) := by
        refine kitAny_cons (kit_ty (y0 d)) (fun e => ?_) (fun e => by rw [e, Bool.true_or])
        rw [e, Bool.false_or]
        refine kitAny_cons (kit_ty (y1 d)) (fun e => ?_) (fun e => by rw [e, Bool.true_or])
        rw [e, Bool.false_or]
        refine kitAny_cons (kit_ty (y2 d)) (fun e => ?_) (fun e => e)
        rw [e]
        exact kitAny_nil
      exact ⟨v, tp, _, _, _, _, rfl, upd_same, (.cons (.ty c0) (.cons (.ty c1) (.cons (.ty c2) .nil))), ty, kk, k _ en1 _ _ q R2 (.bl _) s1 (k1.trans s1 (Keep.same (same_new htp))) trivial⟩

/-! ### +, * whatever the sizes -/
def CMulA (i j : Int) : Prop := CMul i j ∨ CMulW i j
theorem op_mulA {X : Cx} : OpR X (binaryOp .Mult) (rI CMulA fun i j => .int (i * j)) := opI fun _ _ _ _ _ _ _ hc q => mul_int q (hc.elim CMul.ok CMulW.ok)
def gAdd : D → D → (Res → Prop) → Prop := fun x y Φ => match x, y with
  | .int i, .int j => Φ (.val (.int (i + j)))
  | .lst ds, .lst es => ds.length + es.length ≤ sizeLine ∧ ∀ p, Φ (.own p (.lst (ds ++ es)))
  | _, _ => False
theorem od_add {X : Cx} : OpD X (fun x y H Q => rI0 (fun i j => .int (i + j)) x y H Q ∨ rCatS X.K x y H Q) gAdd := by
  intro C σ H en x y v w Φ Q R1 hx hy h k
  cases x <;> cases y <;> try exact (show False from h).elim
  · exact .inl (od_I0 (X := X) (g := (· + ·)) C σ H en _ _ v w Φ Q R1 hx hy h k)
  · exact .inr (od_cat C σ H en _ _ v w Φ Q R1 hx hy h k)
section
variable {X : Cx} {W : WX} {a b c e : Expr} {ta tb tc te : TDe} {p pos p2 : Pos} {es : List Expr} {t : TDa}
theorem de_addA (ha : DE X W a ta) (hb : DE X W b tb) : DE X W (.BinOp a .Add b pos) (tOpD gAdd ta tb) := de_op (op_add.or op_catS) od_add ha hb
theorem de_mulA (ha : DE X W a ta) (hb : DE X W b tb) : DE X W (.BinOp a .Mult b pos) (tOpD (gII CMulA (· * ·)) ta tb) := de_op op_mulA od_II ha hb
theorem ca_tup : CaD X (fun xs H Q => ∃ p ys, xs = [.ref p] ∧ ((SqL X.K H p ys ∧ ∀ l, H l = none → Q (.ref l) (upd H l (.tup ys))) ∨ (SqT X.K H p ys ∧ Q (.ref p) H))) (fun xs Φ => match xs with
    | [.lst ds] => Φ (.val (.tup ds))
    | _ => False) := by
  intro C σ H en ds vs Φ Q R1 hs h k
  split at h
  · cases hs with
    | cons h1 h2 =>
      cases h2
      obtain ⟨a, ws, rfl, q1, q2⟩ := h1
      refine ⟨a, ws, rfl, .inl ⟨q1, fun l hl => ?_⟩⟩
      refine k _ _ _ h (R1.grow (same_new hl)) (.tup (.inl ⟨fun z => ?_, .inl upd_same⟩) (RpA.mono (fun b u n q => ⟨n, same_new hl b u q⟩) _ _ q2)) (same_new hl) trivial
      obtain ⟨u, q⟩ := R1.mD z
      rw [hl] at q; cases q
  · exact h.elim
def gTupC : List D → (Res → Prop) → Prop := fun xs Φ => match xs with
    | [.lst ds] => Φ (.val (.tup ds))
    | _ => False
theorem de_tupc (hm : X.mg "tuple" = none) (ha : DA X W (e :: es) t) (hg : Gl X "tuple" := by rfl) (he : starEach (e :: es) X.env = (false, eval e X.env) :: starEach es X.env := by rfl) (hpl : (backTo pos (starEach es X.env)).any (·.1) = false := by rfl) :
    DE X W (.Call (.Name "tuple" p) (e :: es) [] pos) (tCaD gTupC t) := de_callTy call_tuple_of ca_tup hg hm (by decide +kernel) ha (by decide) (by decide) he hpl
end
/-! ### chains a < b < c of ints -/
def tChD (g h : Int → Int → Bool) (ta tb tc : TDe) : TDe := fun Ψ en Φ => ta Ψ en fun ra en1 => tb Ψ en1 fun rb en2 => match ra, rb with
  | .val (.int i), .val (.int j) => if g i j = true then tc Ψ en2 fun rc en3 => (match rc with
    | .val (.int k) => Φ (.val (.bl (h j k))) en3
    | _ => False) else Φ (.val (.bl false)) en2
  | _, _ => False
section
variable {X : Cx} {W : WX} {a b c : Expr} {ta tb tc : TDe} {pos : Pos} {op op' : CmpOp} {g h : Int → Int → Bool}
theorem chain_go {σ : L2.St} {H : Hp} {Q : VK} {K : PySem.W.Frag} (hh : lE K W (tChD g h ta tb tc) σ H Q) : tChain (rI0 fun i j => .bl (g i j)) (rI0 fun i j => .bl (h i j)) (lE K W ta) (lE K W tb) (lE K W tc) σ H Q := by
  obtain ⟨C, en, Φ, Ψ, R0, hT, hX, k⟩ := hh
  refine ⟨C, en, _, Ψ, R0, hT, hX, fun ra en1 v1 H1 h1 R1 o1 s1 k1 nn1 => ?_⟩
  refine ⟨C.ext ra, en1, _, Ψ, R1, h1, hX.ext, fun rb en2 v2 H2 h2 R2 o2 s2 k2 nn2 => ?_⟩
  split at h2
  · rename_i i j
    cases o1
    cases o2
    refine ⟨i, j, rfl, rfl, g i j, rfl, ?_⟩
    by_cases hg : g i j = true
    · rw [if_pos hg] at h2 ⊢
      refine ⟨C, en2, _, Ψ, R2, h2, hX, fun rc en3 v3 H3 h3 R3 o3 s3 k3 nn3 => ?_⟩
      split at h3
      · cases o3
        exact ⟨_, _, rfl, rfl, k _ en3 _ H3 h3 R3 (.bl _) ((s1.trans s2).trans s3) ((k1.trans s1 k2).trans (s1.trans s2) k3) trivial⟩
      · exact h3.elim
    · rw [if_neg hg] at h2 ⊢
      exact k _ en2 _ H2 h2 R2 (.bl _) (s1.trans s2) (k1.trans s1 k2) trivial
  · exact h2.elim
theorem de_chain (ho : OpR X (compareOp op) (rI0 fun i j => .bl (g i j))) (ho' : OpR X (compareOp op') (rI0 fun i j => .bl (h i j))) (ha : DE X W a ta) (hb : DE X W b tb) (hc : DE X W c tc)
    (hm : lastMarks [op, op'] [b, c] = false := by with_unfolding_all rfl) : DE X W (.Compare a [op, op'] [b, c] pos) (tChD g h ta tb tc) := PEi (pe_chain ho ho' ha hb hc hm) fun _ _ _ h => chain_go h
theorem dt_chain (ho : OpR X (compareOp op) (rI0 fun i j => .bl (g i j))) (ho' : OpR X (compareOp op') (rI0 fun i j => .bl (h i j))) (ha : DE X W a ta) (hb : DE X W b tb) (hc : DE X W c tc)
    (hm : lastMarks [op, op'] [b, c] = false := by with_unfolding_all rfl) : DT X W (.Compare a [op, op'] [b, c] pos) (tValD (tChD g h ta tb tc)) := PTi (pt_chain ho ho' ha hb hc hm) fun σ H Q hh => by
  obtain ⟨C, en, Φ, Ψ, R0, hT, hX, k⟩ := hh
  refine chain_go ⟨C, en, _, Ψ, R0, hT, hX, fun r en1 v1 H1 h1 R1 hold1 s1 k1 _ => ?_⟩
  cases r with
  | val d =>
    cases d <;> try exact (show False from h1).elim
    exact ⟨_, val_bl hold1, k _ en1 H1 h1 R1 s1 k1⟩
  | own => exact (show False from h1).elim
  | bor => exact (show False from h1).elim
end
/-! ### targets: a list's items; x = [.. for ..] -/
def tUnlG (n : Nat) (t : TDgs) : TDg := fun d en Φ => match d with
  | .lst ds => ds.length = n ∧ t ds en Φ
  | _ => False
section
variable {X : Cx} {S : List Nat} {tgs : List Expr} {u : TDgs} {pos : Pos}
theorem dg_unl {k n : Nat} (hc : X.calm = true) (h : DGs X S tgs u) (hn : (assignEach tgs X.env).length = n := by rfl) (hst : (assignEach tgs X.env).findIdx? (·.1) = none := by rfl) : DG X S (.Tuple tgs k pos) (tUnlG n u) :=
  PGi (pg_unl hc h hn hst) fun v σ H Q ⟨C, en, d, Φ, R1, hv, h, k⟩ => by
    cases d <;> try exact (show False from h).elim
    rename_i ds
    obtain ⟨hl, h⟩ := h
    cases hv with
    | lst h1 h2 => exact ⟨_, _, rfl, h1.sq, h2.length.trans hl, C, en, ds, Φ, R1, h2, h, k⟩
end
section
variable {X : Cx} {W : WX} {elt tg iter a : Expr} {ifs : List Expr} {scope : Scope} {own : List (Str × Nat)} {p pos spos : Pos} {ti te : TDe} {tG : TDg} {tt : TDt} {S : List Nat} {tR : TDa} {i : Nat} {y : Str} {py : Pos} {tl : TDe}
/-- the store of a comprehension's list: kept as it is (own), or let go (value) -/
theorem setD_go {t : TE} {Ds : Ends} {σ : L2.St} {H : Hp} (hl : ∀ σ H Q, lE X.K W tl σ H Q → t σ H Q) (h : lS X.K W (tSetD i tl) Ds σ H) : tAsg t (gName i) Ds σ H := by
  obtain ⟨C, en, De, R1, h, k⟩ := h
  refine hl _ _ _ ⟨C, en, _, De.ex, R1, h, k.x σ, fun r en' v H' q R' o' _ _ _ => ?_⟩
  cases r with
  | val d => exact k.nx _ _ H' q (R.setV R' o')
  | own a d =>
    obtain ⟨rfl, h1, h2, h3⟩ := o'
    exact k.nx _ _ H' q (R.setO R' h1 h2 h3)
  | bor i => exact (show False from q).elim
theorem setV_go {t : TE} {Ds : Ends} {σ : L2.St} {H : Hp} (hl : ∀ σ H Q, lE X.K W tl σ H Q → t σ H Q) (h : lS X.K W (tSetV i tl) Ds σ H) : tAsg t (gName i) Ds σ H := by
  obtain ⟨C, en, De, R1, h, k⟩ := h
  refine hl _ _ _ ⟨C, en, _, De.ex, R1, h, k.x σ, fun r en' v H' q R' o' _ _ _ => ?_⟩
  cases e : vl r with
  | none => simp only [e] at q
  | some d =>
    simp only [e] at q
    exact k.nx _ _ H' q (R'.dropX.setV (o'.rp R' e))
theorem ds_setDlcL (hc : X.calm = true) (hN : X.N.Nodup) (hy : X.N[i]? = some y) (hyl : X.env.scope.names.lookup y = some .local) (hsw : swapsWith (.ListComp elt [⟨tg, iter, ifs, 0⟩] scope pos) (some (.Name y py)) spos.line X.env = pure true) (hi : DE X W iter ti) (ok : BlkOk X.N X.env.scope scope own)
    (hg : ∀ (s : Shared) (H : Hp) (C : Addr) (cl : List (Str × Addr)) (fp : List Addr), DG (X.blk s H scope (compEnvC scope cl C X.env) fp) S tg tG) (ht : ∀ (s : Shared) (H : Hp) (C : Addr) (cl : List (Str × Addr)) (fp : List Addr), DTs (X.blk s H scope (compEnvC scope cl C X.env) fp) W0 ifs tt)
    (he : ∀ (s : Shared) (H : Hp) (C : Addr) (cl : List (Str × Addr)) (fp : List Addr), DE (X.blk s H scope (compEnvC scope cl C X.env) fp) W0 elt te) (hS : ∀ j, j ∈ S → j ∈ own.map (·.2) := by decide) (hs : ∀ x, foldedSetIterable iter X.env x = pure x := by intro _; rfl) :
    DS X W (.Assign [.Name y py] (.ListComp elt [⟨tg, iter, ifs, 0⟩] scope pos) spos) (tSetD i (tLcL ti tG tt te (own.map (·.2)))) :=
  PSi (ps_setLc (g := lG X.K S tG) (tt := lT X.K W0 tt) (te := lE X.K W0 te) hc hN hy hyl hsw (pi_list hi) ok hg ht he hs) fun Ds σ H h => setD_go (fun _ _ _ h => lcL_go hS h) h
theorem ds_setDlcT (hc : X.calm = true) (hN : X.N.Nodup) (hy : X.N[i]? = some y) (hyl : X.env.scope.names.lookup y = some .local) (hsw : swapsWith (.ListComp elt [⟨tg, iter, ifs, 0⟩] scope pos) (some (.Name y py)) spos.line X.env = pure true) (hi : DE X W iter ti) (ok : BlkOk X.N X.env.scope scope own)
    (hg : ∀ (s : Shared) (H : Hp) (C : Addr) (cl : List (Str × Addr)) (fp : List Addr), DG (X.blk s H scope (compEnvC scope cl C X.env) fp) S tg tG) (ht : ∀ (s : Shared) (H : Hp) (C : Addr) (cl : List (Str × Addr)) (fp : List Addr), DTs (X.blk s H scope (compEnvC scope cl C X.env) fp) W0 ifs tt)
    (he : ∀ (s : Shared) (H : Hp) (C : Addr) (cl : List (Str × Addr)) (fp : List Addr), DE (X.blk s H scope (compEnvC scope cl C X.env) fp) W0 elt te) (hS : ∀ j, j ∈ S → j ∈ own.map (·.2) := by decide) (hs : ∀ x, foldedSetIterable iter X.env x = pure x := by intro _; rfl) :
    DS X W (.Assign [.Name y py] (.ListComp elt [⟨tg, iter, ifs, 0⟩] scope pos) spos) (tSetD i (tLcT ti tG tt te (own.map (·.2)))) :=
  PSi (ps_setLc (g := lG X.K S tG) (tt := lT X.K W0 tt) (te := lE X.K W0 te) hc hN hy hyl hsw (pi_tup hi) ok hg ht he hs) fun Ds σ H h => setD_go (fun _ _ _ h => lcT_go hS h) h
theorem ds_setDlcR1 (hm : X.mg "range" = none) (hc : X.calm = true) (hN : X.N.Nodup) (hy : X.N[i]? = some y) (hyl : X.env.scope.names.lookup y = some .local) {p2 : Pos} (hsw : swapsWith (.ListComp elt [⟨tg, (.Call (.Name "range" p) [a] [] p2), ifs, 0⟩] scope pos) (some (.Name y py)) spos.line X.env = pure true) (ha : DA X W [a] tR) (ok : BlkOk X.N X.env.scope scope own)
    (hg : ∀ (s : Shared) (H : Hp) (C : Addr) (cl : List (Str × Addr)) (fp : List Addr), DG (X.blk s H scope (compEnvC scope cl C X.env) fp) S tg tG) (ht : ∀ (s : Shared) (H : Hp) (C : Addr) (cl : List (Str × Addr)) (fp : List Addr), DTs (X.blk s H scope (compEnvC scope cl C X.env) fp) W0 ifs tt)
    (he : ∀ (s : Shared) (H : Hp) (C : Addr) (cl : List (Str × Addr)) (fp : List Addr), DE (X.blk s H scope (compEnvC scope cl C X.env) fp) W0 elt te) (hS : ∀ j, j ∈ S → j ∈ own.map (·.2) := by decide) (hG : Gl X "range" := by rfl) (h1 : starEach [a] X.env = [(false, eval a X.env)] := by rfl) (hs : ∀ x, foldedSetIterable (.Call (.Name "range" p) [a] [] p2) X.env x = pure x := by intro _; rfl) :
    DS X W (.Assign [.Name y py] (.ListComp elt [⟨tg, (.Call (.Name "range" p) [a] [] p2), ifs, 0⟩] scope pos) spos) (tSetD i (tLcR1 tR tG tt te (own.map (·.2)))) :=
  PSi (ps_setLc (g := lG X.K S tG) (tt := lT X.K W0 tt) (te := lE X.K W0 te) hc hN hy hyl hsw (pi_range1 hG hm ha h1) ok hg ht he hs) fun Ds σ H h => setD_go (fun _ _ _ h => lcR1_go hS h) h
theorem ds_setVlcL (hc : X.calm = true) (hN : X.N.Nodup) (hy : X.N[i]? = some y) (hyl : X.env.scope.names.lookup y = some .local) (hsw : swapsWith (.ListComp elt [⟨tg, iter, ifs, 0⟩] scope pos) (some (.Name y py)) spos.line X.env = pure true) (hi : DE X W iter ti) (ok : BlkOk X.N X.env.scope scope own)
    (hg : ∀ (s : Shared) (H : Hp) (C : Addr) (cl : List (Str × Addr)) (fp : List Addr), DG (X.blk s H scope (compEnvC scope cl C X.env) fp) S tg tG) (ht : ∀ (s : Shared) (H : Hp) (C : Addr) (cl : List (Str × Addr)) (fp : List Addr), DTs (X.blk s H scope (compEnvC scope cl C X.env) fp) W0 ifs tt)
    (he : ∀ (s : Shared) (H : Hp) (C : Addr) (cl : List (Str × Addr)) (fp : List Addr), DE (X.blk s H scope (compEnvC scope cl C X.env) fp) W0 elt te) (hS : ∀ j, j ∈ S → j ∈ own.map (·.2) := by decide) (hs : ∀ x, foldedSetIterable iter X.env x = pure x := by intro _; rfl) :
    DS X W (.Assign [.Name y py] (.ListComp elt [⟨tg, iter, ifs, 0⟩] scope pos) spos) (tSetV i (tLcL ti tG tt te (own.map (·.2)))) :=
  PSi (ps_setLc (g := lG X.K S tG) (tt := lT X.K W0 tt) (te := lE X.K W0 te) hc hN hy hyl hsw (pi_list hi) ok hg ht he hs) fun Ds σ H h => setV_go (fun _ _ _ h => lcL_go hS h) h
theorem ds_setVlcT (hc : X.calm = true) (hN : X.N.Nodup) (hy : X.N[i]? = some y) (hyl : X.env.scope.names.lookup y = some .local) (hsw : swapsWith (.ListComp elt [⟨tg, iter, ifs, 0⟩] scope pos) (some (.Name y py)) spos.line X.env = pure true) (hi : DE X W iter ti) (ok : BlkOk X.N X.env.scope scope own)
    (hg : ∀ (s : Shared) (H : Hp) (C : Addr) (cl : List (Str × Addr)) (fp : List Addr), DG (X.blk s H scope (compEnvC scope cl C X.env) fp) S tg tG) (ht : ∀ (s : Shared) (H : Hp) (C : Addr) (cl : List (Str × Addr)) (fp : List Addr), DTs (X.blk s H scope (compEnvC scope cl C X.env) fp) W0 ifs tt)
    (he : ∀ (s : Shared) (H : Hp) (C : Addr) (cl : List (Str × Addr)) (fp : List Addr), DE (X.blk s H scope (compEnvC scope cl C X.env) fp) W0 elt te) (hS : ∀ j, j ∈ S → j ∈ own.map (·.2) := by decide) (hs : ∀ x, foldedSetIterable iter X.env x = pure x := by intro _; rfl) :
    DS X W (.Assign [.Name y py] (.ListComp elt [⟨tg, iter, ifs, 0⟩] scope pos) spos) (tSetV i (tLcT ti tG tt te (own.map (·.2)))) :=
  PSi (ps_setLc (g := lG X.K S tG) (tt := lT X.K W0 tt) (te := lE X.K W0 te) hc hN hy hyl hsw (pi_tup hi) ok hg ht he hs) fun Ds σ H h => setV_go (fun _ _ _ h => lcT_go hS h) h
theorem ds_setVlcR1 (hm : X.mg "range" = none) (hc : X.calm = true) (hN : X.N.Nodup) (hy : X.N[i]? = some y) (hyl : X.env.scope.names.lookup y = some .local) {p2 : Pos} (hsw : swapsWith (.ListComp elt [⟨tg, (.Call (.Name "range" p) [a] [] p2), ifs, 0⟩] scope pos) (some (.Name y py)) spos.line X.env = pure true) (ha : DA X W [a] tR) (ok : BlkOk X.N X.env.scope scope own)
    (hg : ∀ (s : Shared) (H : Hp) (C : Addr) (cl : List (Str × Addr)) (fp : List Addr), DG (X.blk s H scope (compEnvC scope cl C X.env) fp) S tg tG) (ht : ∀ (s : Shared) (H : Hp) (C : Addr) (cl : List (Str × Addr)) (fp : List Addr), DTs (X.blk s H scope (compEnvC scope cl C X.env) fp) W0 ifs tt)
    (he : ∀ (s : Shared) (H : Hp) (C : Addr) (cl : List (Str × Addr)) (fp : List Addr), DE (X.blk s H scope (compEnvC scope cl C X.env) fp) W0 elt te) (hS : ∀ j, j ∈ S → j ∈ own.map (·.2) := by decide) (hG : Gl X "range" := by rfl) (h1 : starEach [a] X.env = [(false, eval a X.env)] := by rfl) (hs : ∀ x, foldedSetIterable (.Call (.Name "range" p) [a] [] p2) X.env x = pure x := by intro _; rfl) :
    DS X W (.Assign [.Name y py] (.ListComp elt [⟨tg, (.Call (.Name "range" p) [a] [] p2), ifs, 0⟩] scope pos) spos) (tSetV i (tLcR1 tR tG tt te (own.map (·.2)))) :=
  PSi (ps_setLc (g := lG X.K S tG) (tt := lT X.K W0 tt) (te := lE X.K W0 te) hc hN hy hyl hsw (pi_range1 hG hm ha h1) ok hg ht he hs) fun Ds σ H h => setV_go (fun _ _ _ h => lcR1_go hS h) h
end
end VS

namespace VS
open PySem L2 PySem.Spec PyProof.Rows
abbrev q0 (sp : Spc) : Spc := fun a Φ _ => sp a Φ fun _ _ => False
/-- a def of the text that keeps its promise, as its callers want it -/
structure Cal (P : Program) (w : World) (K : PySem.W.Frag) (mg : Str → Option Value) (base : Heap) (CX : CXT) (k n : Nat) (sp : Spc) (x : Str) (f : Addr) (fd : FuncData) (ps : List Str) : Prop where
  F : FnOk P w K mg base CX k f fd ps (lSp K n sp)
  m : mg x = some (.ref f)
  kp : PySem.W.keepIn K (.ref f) = true
  b : Binds K fd ps []
section
variable {X : Cx} {W : WX} {j k n : Nat} {f : Addr} {fd : FuncData} {ps : List Str} {sp : Spc} {x : Str} {p pos : Pos} {e : Expr} {es : List Expr} {t : TDa}
theorem dc (G : Cal X.prog X.w X.K X.mg X.base CX0 j n sp x f fd ps) (hr : Room k X.A) (ha : DA X W (e :: es) t) (hj : j ≤ k := by decide) (hg : Gl X x := by rfl) (hdb : (x == ("__debug__" : Str)) = false := by decide)
    (he : starEach (e :: es) X.env = (false, eval e X.env) :: starEach es X.env := by rfl) (hpl : (backTo pos (starEach es X.env)).any (·.1) = false := by rfl) : DE X W (.Call (.Name x p) (e :: es) [] pos) (tCallD n (q0 sp) t) :=
  de_call G.F (hr.mono hj) hg G.m G.kp G.b ha hdb he hpl
theorem dcQ (G : Cal X.prog X.w X.K X.mg X.base (L2.CX X.prog X.w) j n sp x f fd ps) (hr : Room k X.A) (ha : DA X W (e :: es) t) (hj : j ≤ k := by decide) (hg : Gl X x := by rfl) (hdb : (x == ("__debug__" : Str)) = false := by decide)
    (he : starEach (e :: es) X.env = (false, eval e X.env) :: starEach es X.env := by rfl) (hpl : (backTo pos (starEach es X.env)).any (·.1) = false := by rfl) : DE X W (.Call (.Name x p) (e :: es) [] pos) (tCallD n (q0 sp) t) :=
  de_callQ G.F (hr.mono hj) hg G.m G.kp G.b ha hdb he hpl
theorem dcX (G : Cal X.prog X.w X.K X.mg X.base (L2.CX X.prog X.w) j n sp x f fd ps) (tk : Takes X W) (hr : Room k X.A) (ha : DA X W (e :: es) t) (hj : j ≤ k := by decide) (hg : Gl X x := by rfl) (hdb : (x == ("__debug__" : Str)) = false := by decide)
    (he : starEach (e :: es) X.env = (false, eval e X.env) :: starEach es X.env := by rfl) (hpl : (backTo pos (starEach es X.env)).any (·.1) = false := by rfl) : DE X W (.Call (.Name x p) (e :: es) [] pos) (tCallD n sp t) :=
  de_callX G.F (hr.mono hj) hg G.m G.kp G.b tk ha hdb he hpl
theorem dm_append {i : Nat} {o : Expr} {apos cpos : Pos} {tR : TDa} (ho : PE X o (tVar i)) (ha : DA X W (e :: es) tR) (hbase : attributeBase o "append" X.env (eval o X.env) = eval o X.env := by rfl)
    (hfew : ((backTo cpos (starEach (e :: es) X.env)).all (fun x => !x.1) && (backToKw cpos (keywordEach [] X.env)).all (fun x => x.1.isSome)
      && decide ((e :: es).length + ([] : List Keyword).length + (if ([] : List Keyword).isEmpty then 0 else 1) < 30)) = true := by rfl)
    (hline : (apos.endLine == cpos.line) = true := by rfl) (hs : starEach (e :: es) X.env = (false, eval e X.env) :: starEach es X.env := by rfl) (hplain : (backTo cpos (starEach es X.env)).any (·.1) = false := by rfl) :
    DE X W (.Call (.Attribute o "append" apos) (e :: es) [] cpos) (tMetD i mAppend tR) := de_met PySem.F.slot_list_append PySem.F.type_list_append mt_append me_append ho ha hbase hfew hline hs hplain
theorem dm_popAt {i : Nat} {o : Expr} {apos cpos : Pos} {tR : TDa} (ho : PE X o (tVar i)) (ha : DA X W (e :: es) tR) (hbase : attributeBase o "pop" X.env (eval o X.env) = eval o X.env := by rfl)
    (hfew : ((backTo cpos (starEach (e :: es) X.env)).all (fun x => !x.1) && (backToKw cpos (keywordEach [] X.env)).all (fun x => x.1.isSome)
      && decide ((e :: es).length + ([] : List Keyword).length + (if ([] : List Keyword).isEmpty then 0 else 1) < 30)) = true := by rfl)
    (hline : (apos.endLine == cpos.line) = true := by rfl) (hs : starEach (e :: es) X.env = (false, eval e X.env) :: starEach es X.env := by rfl) (hplain : (backTo cpos (starEach es X.env)).any (·.1) = false := by rfl) :
    DE X W (.Call (.Attribute o "pop" apos) (e :: es) [] cpos) (tMetD i mPopAt tR) := de_met PySem.F.slot_list_pop PySem.F.type_list_pop mt_popAt me_popAt ho ha hbase hfew hline hs hplain
theorem dm_insert {i : Nat} {o : Expr} {apos cpos : Pos} {tR : TDa} (ho : PE X o (tVar i)) (ha : DA X W (e :: es) tR) (hbase : attributeBase o "insert" X.env (eval o X.env) = eval o X.env := by rfl)
    (hfew : ((backTo cpos (starEach (e :: es) X.env)).all (fun x => !x.1) && (backToKw cpos (keywordEach [] X.env)).all (fun x => x.1.isSome)
      && decide ((e :: es).length + ([] : List Keyword).length + (if ([] : List Keyword).isEmpty then 0 else 1) < 30)) = true := by rfl)
    (hline : (apos.endLine == cpos.line) = true := by rfl) (hs : starEach (e :: es) X.env = (false, eval e X.env) :: starEach es X.env := by rfl) (hplain : (backTo cpos (starEach es X.env)).any (·.1) = false := by rfl) :
    DE X W (.Call (.Attribute o "insert" apos) (e :: es) [] cpos) (tMetD i mInsert tR) := de_met PySem.F.slot_list_insert PySem.F.type_list_insert mt_insert me_insert ho ha hbase hfew hline hs hplain
theorem dm_pop {i : Nat} {o : Expr} {apos cpos : Pos} (ho : PE X o (tVar i)) (hbase : attributeBase o "pop" X.env (eval o X.env) = eval o X.env := by rfl) (hline : (apos.endLine == cpos.line) = true := by rfl) :
    DE X W (.Call (.Attribute o "pop" apos) [] [] cpos) (tMetD i mPop tNilD) := de_met0 PySem.F.slot_list_pop PySem.F.type_list_pop mt_pop me_pop ho hbase hline
theorem dm_reverse {i : Nat} {o : Expr} {apos cpos : Pos} (ho : PE X o (tVar i)) (hbase : attributeBase o "reverse" X.env (eval o X.env) = eval o X.env := by rfl) (hline : (apos.endLine == cpos.line) = true := by rfl) :
    DE X W (.Call (.Attribute o "reverse" apos) [] [] cpos) (tMetD i mReverse tNilD) := de_met0 PySem.F.slot_list_reverse PySem.F.type_list_reverse mt_reverse me_reverse ho hbase hline
end
end VS

namespace VS
open PySem L2 PySem.Spec PyProof.Rows
/-! ### plain facts for the readings -/
theorem atI0 {α : Type} (x : α) (xs : List α) : atI (x :: xs) 0 = some x := atI_nat (j := 0) rfl
theorem atI1 {α : Type} (x y : α) (xs : List α) : atI (x :: y :: xs) 1 = some y := atI_nat (j := 1) rfl
theorem atI2 {α : Type} (x y z : α) (xs : List α) : atI (x :: y :: z :: xs) 2 = some z := atI_nat (j := 2) rfl
theorem atI3 {α : Type} (x y z u : α) (xs : List α) : atI (x :: y :: z :: u :: xs) 3 = some u := atI_nat (j := 3) rfl
theorem atI4 {α : Type} (x y z u v : α) (xs : List α) : atI (x :: y :: z :: u :: v :: xs) 4 = some v := atI_nat (j := 4) rfl
theorem ixN51 : ixN 5 1 = some 1 := by decide
theorem ixN52 : ixN 5 2 = some 2 := by decide
theorem ixN53 : ixN 5 3 = some 3 := by decide
theorem ixN54 : ixN 5 4 = some 4 := by decide
theorem atI_int {α : Type} {xs : List α} {i : Int} {v : α} (h0 : 0 ≤ i) (h : xs[i.toNat]? = some v) : atI xs i = some v := by
  have e : i = (i.toNat : Int) := by omega
  rw [e]
  exact atI_nat h
theorem atI_neg1 {α : Type} {xs : List α} {v : α} (h : xs[xs.length - 1]? = some v) : atI xs (-1) = some v := by
  have hl := (List.getElem?_eq_some_iff.mp h).1
  unfold atI ixN
  rw [if_neg (by omega), if_pos (by omega)]
  have : (-1 + (xs.length : Int)).toNat = xs.length - 1 := by omega
  simp only [Option.bind_some, this, h]
theorem mulR {i j : Int} (h1 : -(2 ^ 64) < j) (h2 : j < 2 ^ 64) : CMulA i j := .inl (.inr ⟨h1, h2⟩)
theorem mulL {i j : Int} (h1 : -(2 ^ 64) < i) (h2 : i < 2 ^ 64) : CMulA i j := .inl (.inl ⟨h1, h2⟩)
theorem mulB {i j : Int} (a b : Nat) (ha : i.natAbs < 2 ^ a) (hb : j.natAbs < 2 ^ b) (h0 : 0 < a := by decide) (h1 : 0 < b := by decide) (h : a + b ≤ 1000000 := by decide) : CMulA i j := .inr (wide_mul ha hb h0 h1 h)
theorem divB {i j : Int} (h : 0 < j) (hb : j < 2 ^ 63) : CDivW i j := wide_div (b := 63) h (by omega) (by decide) (by decide)
theorem pow3 {i : Int} (h : i.natAbs < 2 ^ 64) : CPow i 3 := ⟨by decide, by decide, h⟩
theorem pow1018 : CPow 10 18 := ⟨by decide, by decide, by decide⟩
theorem get_map {α β : Type} {f : α → β} {xs : List α} {i : Nat} {d : β} (h : (xs.map f)[i]? = some d) : ∃ x, xs[i]? = some x ∧ d = f x := by
  rw [List.getElem?_map] at h
  cases e : xs[i]? with
  | none => rw [e] at h; cases h
  | some x => rw [e] at h; exact ⟨x, rfl, (Option.some.inj h).symm⟩
def cutG {α : Type} (xs : List α) (lo hi : Option Int) : List α := (xs.drop (HT.sIx xs.length 0 lo)).take (HT.sIx xs.length xs.length hi - HT.sIx xs.length 0 lo)
theorem cut_map {α : Type} (f : α → D) (xs : List α) (lo hi : Option Int) : cutD (xs.map f) lo hi = (cutG xs lo hi).map f := by
  unfold cutD cutG
  rw [List.length_map, List.map_take, List.map_drop]
theorem cutG_len {α : Type} (xs : List α) (lo hi : Option Int) : (cutG xs lo hi).length ≤ xs.length := by
  unfold cutG
  rw [List.length_take, List.length_drop]
  omega
theorem sz1000 {n : Nat} (h : n ≤ 1000000) : n ≤ sizeLine := Nat.le_trans h (by decide)
theorem sz1001 {n : Nat} (h : n ≤ 1000000) : n < sizeLine := Nat.lt_of_le_of_lt h (by decide)
abbrev XN : Xc → List D → Prop := fun _ _ => False
/-! ### the law's bag -/
def bagD (ns : List Int) (i b m c : Int) : D := .lst [.lst (ns.map D.int), .int i, .int b, .int m, .int c]
def BagOk (d : D) : Prop := ∃ ns i b m c, d = bagD ns i b m c ∧ 0 ≤ i ∧ 0 ≤ b ∧ 0 ≤ m ∧ m < 2147483648
def sp__law_bag : Spc := fun args Φ _ => ∃ ns : List Int, args = [.val (.lst (ns.map D.int))] ∧ ∀ p d, BagOk d → Φ (.own p d) []
def sp__law_draw : Spc := fun args Φ _ => ∃ a d size, args = [.own a d, .val (.int size)] ∧ BagOk d ∧ 0 < size ∧ size < 2 ^ 62 ∧ ∀ k d', 0 ≤ k → k < size → BagOk d' → Φ (.val (.int k)) [d']
def sp__law_of : Spc := fun args Φ _ => ∃ a d ds, args = [.own a d, .val (.lst ds)] ∧ BagOk d ∧ ds ≠ [] ∧ ds.length < 2 ^ 62 ∧ ∀ x d', x ∈ ds → BagOk d' → Φ (.val x) [d']
/-! ### what compares as itself -/
mutual
def okD : D → Bool
  | .non => true
  | .bl _ => true
  | .int _ => true
  | .str x => SeqAt.shaped (.str x)
  | .tup xs => okDs xs && decide (xs.length ≤ 1000000)
  | .lst xs => okDs xs && decide (xs.length ≤ 1000000)
def okDs : List D → Bool
  | [] => true
  | d :: ds => okD d && okDs ds
end
mutual
def depD : D → Nat
  | .tup xs => depDs xs + 1
  | .lst xs => depDs xs + 1
  | _ => 0
def depDs : List D → Nat
  | [] => 0
  | d :: ds => max (depD d) (depDs ds)
end
/-- _law_like(d, d), n deep at most -/
def sp__law_like (n : Nat) : Spc := fun args Φ _ => ∃ d, args = [.val d, .val d] ∧ okD d = true ∧ depD d ≤ n ∧ Φ (.val (.bl true)) []
/-- what it promises of its own call, one level down -/
def spL__law_like : Nat → Spc
  | 0 => fun _ _ _ => False
  | n + 1 => sp__law_like n
theorem okDs_get : ∀ {ds : List D} {i : Nat} {d : D}, okDs ds = true → ds[i]? = some d → okD d = true
  | [], _, _, _, h => by simp at h
  | x :: r, 0, d, h, e => by
    simp only [List.getElem?_cons_zero, Option.some.injEq] at e
    subst e
    simp only [okDs, Bool.and_eq_true] at h
    exact h.1
  | x :: r, i + 1, d, h, e => by
    simp only [okDs, Bool.and_eq_true] at h
    exact okDs_get h.2 (by simpa using e)
theorem depDs_get : ∀ {ds : List D} {i : Nat} {d : D}, ds[i]? = some d → depD d ≤ depDs ds
  | [], _, _, h => by simp at h
  | x :: r, 0, d, e => by
    simp only [List.getElem?_cons_zero, Option.some.injEq] at e
    subst e
    simp only [depDs]
    omega
  | x :: r, i + 1, d, e => by
    have := depDs_get (ds := r) (i := i) (by simpa using e)
    simp only [depDs]
    omega
theorem okDs_map {α : Type} {f : α → D} {xs : List α} (h : ∀ x ∈ xs, okD (f x) = true) : okDs (xs.map f) = true := by
  induction xs with
  | nil => rfl
  | cons x r ih => simp only [List.map_cons, okDs, Bool.and_eq_true]; exact ⟨h x List.mem_cons_self, ih fun y hy => h y (List.mem_cons_of_mem _ hy)⟩
theorem depDs_map {α : Type} {f : α → D} {xs : List α} {n : Nat} (h : ∀ x ∈ xs, depD (f x) ≤ n) : depDs (xs.map f) ≤ n := by
  induction xs with
  | nil => exact Nat.zero_le _
  | cons x r ih =>
    have h1 := h x List.mem_cons_self
    have h2 := ih fun y hy => h y (List.mem_cons_of_mem _ hy)
    simp only [List.map_cons, depDs]
    omega
end VS

namespace VS
open PySem L2 PySem.Spec PyProof.Rows
/-! ### loops ahead of a rest: the invariant first, the text after -/
section
variable {ta : TDe} {ts : TDa} {tg : TDg} {tb u : TDs} {De : Ed} {en en1 : En} {n lo : Int} {ds : List D}
theorem forR1_i (J : Nat → En → Prop) (hta : ∀ Φ : List Res → En → Prop, Φ [.val (.int n)] en1 → ts De.ex en Φ) (l1 : -(2 ^ 62) ≤ n) (l2 : n < 2 ^ 62) (j0 : J 0 en1)
    (step : ∀ (i : Nat) en, (i : Int) < n → J i en → tg (.int i) en fun en2 => tb { De with nx := J (i + 1), ct := J (i + 1), bk := De.nx } en2) (fin : ∀ en, J n.toNat en → De.nx en) : tForR1 ts tg tb De en :=
  hta _ ⟨l1, l2, J, j0, step, fin⟩
theorem forR1_w (Pn : Int → En → Prop) (J : Nat → En → Prop) (hta : ∀ Φ : List Res → En → Prop, (∀ n en1, Pn n en1 → Φ [.val (.int n)] en1) → ts De.ex en Φ) (hb : ∀ n en1, Pn n en1 → -(2 ^ 62) ≤ n ∧ n < 2 ^ 62) (j0 : ∀ n en1, Pn n en1 → J 0 en1)
    (step : ∀ (n : Int) (e1 : En) (i : Nat) (en : En), Pn n e1 → (i : Int) < n → J i en → tg (.int i) en fun en2 => tb { De with nx := J (i + 1), ct := J (i + 1), bk := De.nx } en2) (fin : ∀ n e1 en, Pn n e1 → J n.toNat en → De.nx en) : tForR1 ts tg tb De en :=
  hta _ fun n en1 hP => ⟨(hb n en1 hP).1, (hb n en1 hP).2, J, j0 n en1 hP, fun i en hi hj => step n en1 i en hP hi hj, fun en hj => fin n en1 en hP hj⟩
theorem forR2_i (J : Nat → En → Prop) (hta : ∀ Φ : List Res → En → Prop, Φ [.val (.int lo), .val (.int n)] en1 → ts De.ex en Φ) (l1 : -(2 ^ 62) ≤ lo) (l2 : lo < 2 ^ 62) (l3 : -(2 ^ 62) ≤ n) (l4 : n < 2 ^ 62) (j0 : J 0 en1)
    (step : ∀ (i : Nat) en, lo + (i : Int) < n → J i en → tg (.int (lo + i)) en fun en2 => tb { De with nx := J (i + 1), ct := J (i + 1), bk := De.nx } en2) (fin : ∀ en, J (n - lo).toNat en → De.nx en) : tForR2 ts tg tb De en :=
  hta _ ⟨l1, l2, l3, l4, J, j0, step, fin⟩
theorem forL_i (J : Nat → En → Prop) (hta : ∀ Φ : Res → En → Prop, Φ (.val (.lst ds)) en1 → ta De.ex en Φ) (j0 : J 0 en1)
    (step : ∀ (i : Nat) d en, ds[i]? = some d → J i en → tg d en fun en2 => tb { De with nx := J (i + 1), ct := J (i + 1), bk := De.nx } en2) (fin : ∀ en, J ds.length en → De.nx en) : tForLD ta tg tb De en :=
  hta _ ⟨J, j0, step, fin⟩
theorem forLo_i (J : Nat → En → Prop) (hta : ∀ Φ : Res → En → Prop, (∀ p, Φ (.own p (.lst ds)) en1) → ta De.ex en Φ) (j0 : J 0 en1)
    (step : ∀ (i : Nat) d en, ds[i]? = some d → J i en → tg d en fun en2 => tb { De with nx := J (i + 1), ct := J (i + 1), bk := De.nx } en2) (fin : ∀ en, J ds.length en → De.nx en) : tForLD ta tg tb De en :=
  hta _ fun _ => ⟨J, j0, step, fin⟩
theorem forT_i (J : Nat → En → Prop) (hta : ∀ Φ : Res → En → Prop, Φ (.val (.tup ds)) en1 → ta De.ex en Φ) (j0 : J 0 en1)
    (step : ∀ (i : Nat) d en, ds[i]? = some d → J i en → tg d en fun en2 => tb { De with nx := J (i + 1), ct := J (i + 1), bk := De.nx } en2) (fin : ∀ en, J ds.length en → De.nx en) : tForTD ta tg tb De en :=
  hta _ ⟨J, j0, step, fin⟩
end
section
variable {ti : TDe} {ts : TDa} {tG : TDg} {tt : TDt} {te : TDe} {vs : List Nat} {Ψ : Px} {en en1 : En} {Φ : Res → En → Prop} {n : Int} {ds : List D}
theorem lcL_i (J : Nat → List D → En → Prop) (hti : ∀ Φ : Res → En → Prop, Φ (.val (.lst ds)) en1 → ti Ψ en Φ) (hw : wipeD en1 vs = en1) (j0 : J 0 [] en1)
    (step : ∀ i d acc en, ds[i]? = some d → J i acc en → lcStep tG tt te vs (J (i + 1)) d acc en) (fin : ∀ acc en2 p, J ds.length acc en2 → Φ (.own p (.lst acc)) en2) : tLcL ti tG tt te vs Ψ en Φ :=
  hti _ ⟨hw, J, j0, step, fin⟩
theorem lcT_i (J : Nat → List D → En → Prop) (hti : ∀ Φ : Res → En → Prop, Φ (.val (.tup ds)) en1 → ti Ψ en Φ) (hw : wipeD en1 vs = en1) (j0 : J 0 [] en1)
    (step : ∀ i d acc en, ds[i]? = some d → J i acc en → lcStep tG tt te vs (J (i + 1)) d acc en) (fin : ∀ acc en2 p, J ds.length acc en2 → Φ (.own p (.lst acc)) en2) : tLcT ti tG tt te vs Ψ en Φ :=
  hti _ ⟨hw, J, j0, step, fin⟩
theorem lcR1_i (J : Nat → List D → En → Prop) (hti : ∀ Φ : List Res → En → Prop, Φ [.val (.int n)] en1 → ts Ψ en Φ) (l1 : -(2 ^ 62) ≤ n) (l2 : n < 2 ^ 62) (hw : wipeD en1 vs = en1) (j0 : J 0 [] en1)
    (step : ∀ (i : Nat) acc en, (i : Int) < n → J i acc en → lcStep tG tt te vs (J (i + 1)) (.int i) acc en) (fin : ∀ acc en2 p, J n.toNat acc en2 → Φ (.own p (.lst acc)) en2) : tLcR1 ts tG tt te vs Ψ en Φ :=
  hti _ ⟨l1, l2, hw, J, j0, step, fin⟩
/-- a comprehension without a test whose elements are read off one by one -/
theorem lcL_map {f : D → D} (hl : ds.length ≤ 1000000) (hti : ∀ Φ : Res → En → Prop, Φ (.val (.lst ds)) en → ti Ψ en Φ) (hw : wipeD en vs = en)
    (step : ∀ d acc (J : List D → En → Prop), d ∈ ds → acc.length < sizeLine → J (acc ++ [f d]) en → lcStep tG tt te vs J d acc en) (fin : ∀ p, Φ (.own p (.lst (ds.map f))) en) : tLcL ti tG tt te vs Ψ en Φ :=
  lcL_i (fun i acc e => e = en ∧ acc = (ds.take i).map f) hti hw ⟨rfl, rfl⟩ (fun i d acc e hd ⟨h1, h2⟩ => by
    subst h1 h2
    have hi := (List.getElem?_eq_some_iff.mp hd).1
    refine step d _ _ (List.mem_of_getElem? hd) (sz1001 (by rw [List.length_map, List.length_take]; omega)) ⟨rfl, ?_⟩
    rw [List.take_succ, hd]
    simp) (fun acc e p ⟨h1, h2⟩ => by subst h1 h2; rw [List.take_length]; exact fin p)
theorem lcR1_map {f : Nat → D} {m : Nat} (hl : m ≤ 1000000) (hti : ∀ Φ : List Res → En → Prop, Φ [.val (.int m)] en → ts Ψ en Φ) (hw : wipeD en vs = en)
    (step : ∀ i acc (J : List D → En → Prop), i < m → acc.length < sizeLine → J (acc ++ [f i]) en → lcStep tG tt te vs J (.int i) acc en) (fin : ∀ p, Φ (.own p (.lst ((List.range m).map f))) en) : tLcR1 ts tG tt te vs Ψ en Φ :=
  lcR1_i (fun i acc e => e = en ∧ acc = (List.range i).map f) hti (by omega) (by omega) hw ⟨rfl, rfl⟩ (fun i acc e hi ⟨h1, h2⟩ => by
    subst h1 h2
    refine step i _ _ (by omega) (sz1001 (by rw [List.length_map, List.length_range]; omega)) ⟨rfl, ?_⟩
    rw [List.range_succ]
    simp) (fun acc e p ⟨h1, h2⟩ => by subst h1 h2; exact fin p)
end
/-! ### isinstance of each kind -/
theorem isT_dict_non : isD "dict" .non = false := by dsimp only [isD, tyN]; decide +kernel
theorem isT_dict_bl (b : Bool) : isD "dict" (.bl b) = false := by dsimp only [isD, tyN]; decide +kernel
theorem isT_dict_int (i : Int) : isD "dict" (.int i) = false := by dsimp only [isD, tyN]; decide +kernel
theorem isT_dict_str (x : Str) : isD "dict" (.str x) = false := by dsimp only [isD, tyN]; decide +kernel
theorem isT_dict_tup (ds : List D) : isD "dict" (.tup ds) = false := by dsimp only [isD, tyN]; decide +kernel
theorem isT_dict_lst (ds : List D) : isD "dict" (.lst ds) = false := by dsimp only [isD, tyN]; decide +kernel
theorem isT_list_non : isD "list" .non = false := by dsimp only [isD, tyN]; decide +kernel
theorem isT_list_bl (b : Bool) : isD "list" (.bl b) = false := by dsimp only [isD, tyN]; decide +kernel
theorem isT_list_int (i : Int) : isD "list" (.int i) = false := by dsimp only [isD, tyN]; decide +kernel
theorem isT_list_str (x : Str) : isD "list" (.str x) = false := by dsimp only [isD, tyN]; decide +kernel
theorem isT_list_tup (ds : List D) : isD "list" (.tup ds) = false := by dsimp only [isD, tyN]; decide +kernel
theorem isT_list_lst (ds : List D) : isD "list" (.lst ds) = true := by dsimp only [isD, tyN]; decide +kernel
theorem isT_tuple_non : isD "tuple" .non = false := by dsimp only [isD, tyN]; decide +kernel
theorem isT_tuple_bl (b : Bool) : isD "tuple" (.bl b) = false := by dsimp only [isD, tyN]; decide +kernel
theorem isT_tuple_int (i : Int) : isD "tuple" (.int i) = false := by dsimp only [isD, tyN]; decide +kernel
theorem isT_tuple_str (x : Str) : isD "tuple" (.str x) = false := by dsimp only [isD, tyN]; decide +kernel
theorem isT_tuple_tup (ds : List D) : isD "tuple" (.tup ds) = true := by dsimp only [isD, tyN]; decide +kernel
theorem isT_tuple_lst (ds : List D) : isD "tuple" (.lst ds) = false := by dsimp only [isD, tyN]; decide +kernel
theorem isT_bool_non : isD "bool" .non = false := by dsimp only [isD, tyN]; decide +kernel
theorem isT_bool_bl (b : Bool) : isD "bool" (.bl b) = true := by dsimp only [isD, tyN]; decide +kernel
theorem isT_bool_int (i : Int) : isD "bool" (.int i) = false := by dsimp only [isD, tyN]; decide +kernel
theorem isT_bool_str (x : Str) : isD "bool" (.str x) = false := by dsimp only [isD, tyN]; decide +kernel
theorem isT_bool_tup (ds : List D) : isD "bool" (.tup ds) = false := by dsimp only [isD, tyN]; decide +kernel
theorem isT_bool_lst (ds : List D) : isD "bool" (.lst ds) = false := by dsimp only [isD, tyN]; decide +kernel
theorem isT_str_non : isD "str" .non = false := by dsimp only [isD, tyN]; decide +kernel
theorem isT_str_bl (b : Bool) : isD "str" (.bl b) = false := by dsimp only [isD, tyN]; decide +kernel
theorem isT_str_int (i : Int) : isD "str" (.int i) = false := by dsimp only [isD, tyN]; decide +kernel
theorem isT_str_str (x : Str) : isD "str" (.str x) = true := by dsimp only [isD, tyN]; decide +kernel
theorem isT_str_tup (ds : List D) : isD "str" (.tup ds) = false := by dsimp only [isD, tyN]; decide +kernel
theorem isT_str_lst (ds : List D) : isD "str" (.lst ds) = false := by dsimp only [isD, tyN]; decide +kernel
theorem isT_int_non : isD "int" .non = false := by dsimp only [isD, tyN]; decide +kernel
theorem isT_int_bl (b : Bool) : isD "int" (.bl b) = true := by dsimp only [isD, tyN]; decide +kernel
theorem isT_int_int (i : Int) : isD "int" (.int i) = true := by dsimp only [isD, tyN]; decide +kernel
theorem isT_int_str (x : Str) : isD "int" (.str x) = false := by dsimp only [isD, tyN]; decide +kernel
theorem isT_int_tup (ds : List D) : isD "int" (.tup ds) = false := by dsimp only [isD, tyN]; decide +kernel
theorem isT_int_lst (ds : List D) : isD "int" (.lst ds) = false := by dsimp only [isD, tyN]; decide +kernel
end VS

namespace VS
open PySem L2 PySem.Spec PyProof.Rows
/-! ### try .. except C as n -/
def tTryD (C : Addr) (i : Nat) (tb : TDs) (ts : Addr → Value → Option Addr → TDs) : TDs := fun De en =>
  tb { De with ex := fun x en1 => x.cls = .ref C ∧ ∀ a cls d, ts a cls d { nx := fun e => De.nx (e.set i .no), rt := De.rt, bk := fun e => De.bk (e.set i .no), ct := fun e => De.ct (e.set i .no), ex := fun _ _ => False } (en1.set i (.exc a cls d x)) } en
section
variable {X : Cx} {W : WX} {x n : Str} {C : Addr} {i : Nat} {body suite : List Stmt} {b₀ : Stmt} {np pos pos' : Pos} {tb : TDs} {ts : Addr → Value → Option Addr → TDs}
theorem ds_try1 (hs : X.stack = X.env :: X.outer) (hf : X.env.frame = some X.env.locals) (hN : X.N.Nodup) (hi : X.N[i]? = some n) (hln : X.env.kindOf n = some .local) (hc : Names X x (.ref C)) (te : PySem.W.exmOne X.K (.ref C) (.ref C) = some true)
    (hb : ∀ (W : WX) (pn : List (Addr × Obj)) (xe : Value → Shared → Prop), Takes (X.tr pn xe) W → PassesOwn (model X.prog X.w) X.A X.env xe → DSs (X.tr pn xe) W body tb)
    (hsu : ∀ (a : Addr) (oe : Obj) (cls : Value) (d : Option Addr) (pn : List (Addr × Obj)), Zc cls d oe → (∃ vs, oe.data = .fields vs) → DSs (X.suite a ((a, oe) :: pn)) W0 (b₀ :: suite) (ts a cls d)) :
    DS X W (.Try body [.ExceptHandler (some (.Name x np)) (some n) (b₀ :: suite) pos'] [] [] pos) (tTryD C i tb ts) :=
  PSi (ps_try_as (tb := fun W => lS X.K W tb) (ts := fun a cls d => lS X.K W0 (ts a cls d)) (Wout := fun _ _ _ _ => False) hs hf hN hi hln hc takes0 hb hsu) fun Ds σ H ⟨Cc, en, De, R1, h, k⟩ =>
    ⟨Cc, en, _, R1, h, ⟨k.nx, k.rt, k.bk, k.ct, fun xx en1 σ1 cls d H1 hq R2 hx2 => by
      obtain ⟨hx, q⟩ := hq
      refine ⟨true, by rw [hx2.1, hx]; exact te, fun _ a ha => ?_, fun z => by cases z⟩
      refine ⟨Cc, _, _, R2.setS (o := some (.ref a)) (s := .exc a cls d xx) rfl ⟨rfl, hx2⟩, q a cls d, ?_⟩
      exact ⟨fun σ2 en2 H2 q2 r2 => k.nx _ _ H2 q2 (r2.setS rfl trivial), k.rt, fun σ2 en2 H2 q2 r2 => k.bk _ _ H2 q2 (r2.setS rfl trivial), fun σ2 en2 H2 q2 r2 => k.ct _ _ H2 q2 (r2.setS rfl trivial), fun _ _ _ _ _ _ z => z.elim⟩⟩⟩
end
/-! ### calls by keywords alone, in the parameters' order -/
abbrev DK (X : Cx) (W : WX) (kws : List Keyword) (T : TDa) : Prop := PK X kws (lA X.K W T)
def KwB (fd : FuncData) (ps : List Str) : Prop := ∀ (s : Shared) (ws : List Value), ws.length = ps.length → BindsTo s fd ⟨[], ps.zip ws⟩ (ps.zip ws)
section
variable {X : Cx} {W : WX} {e : Expr} {te : TDe} {t : TDa} {kws : List Keyword} {nm : Option Str} {kpos : Pos}
theorem PKi {t t' : TA} (h : PK X kws t) (i : ∀ σ H Q, t' σ H Q → t σ H Q) : PK X kws t' := ⟨fun pos pins s σ H Q I q => h.run pos pins s σ H Q I (i σ H Q q)⟩
theorem dk_nil : DK X W [] tNilD := PKi pk_nil fun σ H Q h => by
  obtain ⟨C, en, Φ, Ψ, R1, hT, hX, k⟩ := h
  exact k _ _ [] H hT R1 rfl rfl Keep.refl (fun _ z => by cases z)
theorem dk_cons (ha : DE X W e te) (hb : DK X W kws t) : DK X W (⟨nm, e, kpos⟩ :: kws) (tConsD te t) := PKi (pk_cons ha hb) fun σ H Q h => by
  obtain ⟨C, en, Φ, Ψ, R0, hT, hX, k⟩ := h
  refine ⟨C, en, _, Ψ, R0, hT, hX, fun ra en1 v1 H1 h1 R1 hold1 s1 k1 n1 => ?_⟩
  refine ⟨C.ext ra, en1, _, Ψ, R1, h1, hX.ext, fun rs en2 vs H2 h2 R2 hold2 s2 k2 n2 => ?_⟩
  refine k (ra :: rs) en2 (v1 :: vs) H2 h2 R2 ⟨v1, vs, rfl, hold1.later R1 R2 s2 k2 n2, hold2⟩ (s1.trans s2) (k1.trans s1 k2) fun r hr => ?_
  rcases List.mem_cons.mp hr with rfl | hr
  · exact n1
  · exact (n2 r hr).back k1 s1 R1
end
section
variable {X : Cx} {CX : CXT} {W : WX} {k n : Nat} {f : Addr} {fd : FuncData} {ps : List Str} {sp : Sp} {E : L2.St → XK} {x : Str} {p pos : Pos} {kws : List Keyword} {t : TA}
theorem pe_callKw (F : FnOk X.prog X.w X.K X.mg X.base CX k f fd ps sp) (hr : Room k X.A) (hg : Gl X x) (hm : X.mg x = some (.ref f)) (hk : PySem.W.keepIn X.K (.ref f) = true) (hb : KwB fd ps) (hx : ∀ σ, PassesAt CX X σ (E σ)) (ha : PK X kws t)
    (hall : (backToKw pos (keywordEach kws X.env)).all (·.1.isSome) = true) (hks : (backToKw pos (keywordEach kws X.env)).filterMap (·.1) = ps) (hdb : (x == ("__debug__" : Str)) = false)
    (hpl : ((backTo pos (starEach [] X.env)).any (·.1) || (backToKw pos (keywordEach kws X.env)).any (·.1.isNone)) = false) : PE X (.Call (.Name x p) [] kws pos) (tCallS sp E t) := by
  refine ⟨fun pins s σ H Q I h => ?_⟩
  refine wpAny_Call_Name_kw (ld_glob I hg hm ?_ hdb)
  refine PySem.W.callWith_KW0 (h₀ := X.base) I.ok.mod.kin hk hall (thn (ha.run pos pins s σ H _ I h) fun us s1 ⟨vs, H1, I1, r, q⟩ => ⟨I1.kIn, ?_⟩) hpl
  rw [hks]
  have hl : us.length = ps.length := by rw [← r.length]; exact F.len _ _ _ _ q
  refine wpAny_call (codeAny_mono (F.run X.A X.stack s1 H1 ⟨[], ps.zip us⟩ us vs Q (E σ) hr I1.env0 (hb s1 us hl) r q) fun r s' hq => ?_)
  cases r with
  | error e => exact hx σ pins H1 s1 e s' I1 hq
  | ok fl =>
    cases fl with
    | ret u => exact I1.after hq
    | next => exact False.elim hq
    | brk => exact False.elim hq
    | cont => exact False.elim hq
end
section
variable {X : Cx} {W : WX} {j k n : Nat} {f : Addr} {fd : FuncData} {ps : List Str} {sp : Spc} {x : Str} {p pos : Pos} {kws : List Keyword} {t : TDa}
theorem dcKQ (G : Cal X.prog X.w X.K X.mg X.base (L2.CX X.prog X.w) j n sp x f fd ps) (kb : KwB fd ps) (hr : Room k X.A) (ha : DK X W kws t) (hj : j ≤ k := by decide) (hg : Gl X x := by rfl) (hdb : (x == ("__debug__" : Str)) = false := by decide)
    (hall : (backToKw pos (keywordEach kws X.env)).all (·.1.isSome) = true := by rfl) (hks : (backToKw pos (keywordEach kws X.env)).filterMap (·.1) = ps := by rfl)
    (hpl : ((backTo pos (starEach [] X.env)).any (·.1) || (backToKw pos (keywordEach kws X.env)).any (·.1.isNone)) = false := by rfl) : DE X W (.Call (.Name x p) [] kws pos) (tCallD n (q0 sp) t) :=
  PEi (pe_callKw G.F (hr.mono hj) hg G.m G.kp kb (E := fun _ => E0) (fun σ pins H s e s' I z => passL pins σ H s e s' I z) ha hall hks hdb hpl) fun σ H Q h => call_go0 h
theorem dcK (G : Cal X.prog X.w X.K X.mg X.base CX0 j n sp x f fd ps) (kb : KwB fd ps) (hr : Room k X.A) (ha : DK X W kws t) (hj : j ≤ k := by decide) (hg : Gl X x := by rfl) (hdb : (x == ("__debug__" : Str)) = false := by decide)
    (hall : (backToKw pos (keywordEach kws X.env)).all (·.1.isSome) = true := by rfl) (hks : (backToKw pos (keywordEach kws X.env)).filterMap (·.1) = ps := by rfl)
    (hpl : ((backTo pos (starEach [] X.env)).any (·.1) || (backToKw pos (keywordEach kws X.env)).any (·.1.isNone)) = false := by rfl) : DE X W (.Call (.Name x p) [] kws pos) (tCallD n (q0 sp) t) :=
  PEi (pe_callKw G.F (hr.mono hj) hg G.m G.kp kb (E := fun _ => E0) (fun σ _ _ _ _ _ _ z => z.elim) ha hall hks hdb hpl) fun σ H Q h => call_go0 h
theorem dcKX (G : Cal X.prog X.w X.K X.mg X.base (L2.CX X.prog X.w) j n sp x f fd ps) (kb : KwB fd ps) (tk : Takes X W) (hr : Room k X.A) (ha : DK X W kws t) (hj : j ≤ k := by decide) (hg : Gl X x := by rfl) (hdb : (x == ("__debug__" : Str)) = false := by decide)
    (hall : (backToKw pos (keywordEach kws X.env)).all (·.1.isSome) = true := by rfl) (hks : (backToKw pos (keywordEach kws X.env)).filterMap (·.1) = ps := by rfl)
    (hpl : ((backTo pos (starEach [] X.env)).any (·.1) || (backToKw pos (keywordEach kws X.env)).any (·.1.isNone)) = false := by rfl) : DE X W (.Call (.Name x p) [] kws pos) (tCallD n sp t) :=
  PEi (pe_callKw G.F (hr.mono hj) hg G.m G.kp kb (E := fun σ => WE W σ) (fun σ => passAt tk σ) ha hall hks hdb hpl) fun σ H Q h => call_go (fun _ _ _ _ z => z) h
end
end VS

set_option maxHeartbeats 2000000
namespace PySem
namespace CrossesX
open PySem.W PySem.Calls PyProof.Rows PySem.HandSPX
def iA (p1 p2 : Pos) : Arguments := { posonlyargs := [], args := [{ arg := "self", annotation := none, pos := p1 }, { arg := "where", annotation := none, pos := p2 }], vararg := none, kwonlyargs := [], kw_defaults := [], kwarg := none, defaults := [] }
def iB (q1 q2 q3 q4 : Pos) : List Stmt := [.Assign [.Attribute (.Name "self" q1) "where" q2] (.Name "where" q3) q4]
def iS : Scope := { kind := .function, names := [(PySem.Str.ofString "self", .local), (PySem.Str.ofString "where", .local)], isGenerator := false, isCoroutine := false, more := [] }
structure CrossesTxt (K : Frag) (mg : Str → Option Value) (C fI : Addr) : Prop where
  gC : mg "Crosses" = some (.ref C)
  cls : ∃ nm q N bs bm sn sub ab col dd k0 k1 k2 k3 k5, K.lookup C = some (excClassObj nm q C N bs bm true sn sub ab col dd k0 k1 k2 k3 k5 "ValueError.__new__") ∧ refsVE bm = true
  sa : findIn K (.ref C) "__setattr__" = some (some (.builtin "object.__setattr__"))
  ga : findIn K (.ref C) "__getattribute__" = some (some (.builtin "BaseException.__getattribute__"))
  gg : findIn K (.ref C) "__getattr__" = some none
  noN : findIn K (.ref C) "where" = some none
  iC : findIn K (.ref C) "__init__" = some (some (.ref fI))
  tC : typeIn K (.ref fI) = some (.type "function")
  kC : keepIn K (.ref C) = true
  exC : subIn K (.ref C) (.type "BaseException") = some true
  tyC : typeIn K (.ref C) = some (.type "type")
  hdC : hasDictIn K C = true
  te : exmOne K (.ref C) (.ref C) = some true
  fn : ∃ (oc : Value) (od : Option Addr) (doc pm : Value) (an : Option Addr) (cdv ct : Value) (osl : Array (Option Value)) (p1 p2 q1 q2 q3 q4 : Pos),
    K.lookup fI = some ⟨oc, od, .func (fnOf "__init__" "Crosses.__init__" (iA p1 p2) (iB q1 q2 q3 q4) iS .none .none doc pm an cdv ct), osl⟩ ∧ codeIn K cdv "Crosses.__init__" = true
theorem one_size (v : Value) : [v].length ≤ sizeLine := by
  rw [sizeLine_eq]
  exact (by decide : 1 ≤ 16777216)
theorem kept_but {K : Frag} {h h' : Heap} {x : Addr} (X : K.In h) (hx : K.lookup x = none) (k : ∀ b o, b ≠ x → h.get? b = some o → h'.get? b = some o) : K.In h' := fun a o e =>
  k a o (fun z => by rw [z, hx] at e; cases e) (X a o e)
theorem ldC {M : Model} {s : Shared} {name : Str} {scope : Scope} {L a : Addr} {cd : Value} {m : Str → Option Value} {x : Str} {pos : Pos} {v : Value} {Q : Value → Shared → Prop} {A : Around} {E : Value → Shared → Prop} (hn : s.heap.Ns L m) (hv : m x = some v) (h : Q v s)
    (hk : scope.kind = .function := by rfl) (hl : (envOfC name scope L a cd).kindOf x = some .local := by rfl) (hd : (x == ("__debug__" : Str)) = false := by decide) :
    wpAny M A (eval (.Name x pos) (envOfC name scope L a cd)) Q E s := wpAny_Name (wpAny_loadName_local hk hl hn hv h) hd
structure InitEnd (h h' : Heap) (x C dx t1 : Addr) (v : Value) : Prop where
  keep : ∀ b o, b ≠ x → h.get? b = some o → h'.get? b = some o
  obj : h'.get? x = some { cls := .ref C, dict := some dx, data := .fields #[.ref t1, .none, .none, .none, .bool false, .none] }
  dbig : h.objs.size ≤ dx
  dne : dx ≠ x
  ns : h'.Ns1 dx (fun y => if y = "where" then some v else none)
structure OwnMade (h h' : Heap) (e C d : Addr) (v : Value) : Prop where
  keep : ∀ b o, h.get? b = some o → h'.get? b = some o
  new : h.objs.size ≤ e
  obj : ∃ oe vs, h'.get? e = some oe ∧ oe.cls = .ref C ∧ oe.dict = some d ∧ oe.data = .fields vs ∧ vs[1]? = some .none
  dbig : h.objs.size ≤ d
  dne : d ≠ e
  ns : h'.Ns1 d (fun y => if y = "where" then some v else none)
section
variable {prog : Program} {w : World} {A : Around} {E : Value → Shared → Prop} {R : Result → Shared → Prop} {s : Shared} {K : Frag} {mg : Str → Option Value} {C fI : Addr}
theorem crosses_init (T : CrossesTxt K mg C fI) {x t0 : Addr} {v : Value} (X : K.In s.heap) (hlim : s.heap.NoLimit) (hx : s.heap.get? x = some (excO C t0)) (hnx : K.lookup x = none) (hroom : A.depth < recursionLimit)
    (hq : ∀ h' tk dx, InitEnd s.heap h' x C dx t0 v → R (.ok (.ret .none)) { s with heap := h', toks := tk }) :
    codeAny (model prog w) A (.call (.ref fI) ⟨[.ref x, v], []⟩) R s := by
  obtain ⟨oc, od, doc, pm, an, cdv, ct, osl, p1, p2, q1, q2, q3, q4, ho, hcd⟩ := T.fn
  obtain ⟨nm, q, N, bs, bm, sn, sub, ab, col, dd, k0, k1, k2, k3, k5, hC, hbm⟩ := T.cls
  have hcl : clsIn K C = some { name := nm, bases := bs, mro := .ref C :: bm, ns := N, qualname := q, hasDict := true, slotNames := sn, subclasses := sub, abstract := ab, collection := col, hasDel := false } := by unfold clsIn; rw [hC] <;> rfl
  refine Att.call_fn (binds := [("self", .ref x), ("where", v)]) X hlim ho hcd hroom (BindsTo.of_eq (by first | rfl | with_unfolding_all rfl)) (by first | rfl | decide | with_unfolding_all rfl) (fun s₁ IC => ?_) rfl rfl rfl
  obtain ⟨h₁, tk₁, rfl⟩ := IC.toInCall.same
  have k : ∀ b o, s.heap.get? b = some o → h₁.get? b = some o := IC.toInCall.keep
  have hn := IC.toInCall.ns
  have hxL : s.heap.objs.size ≠ x := Nat.ne_of_gt (Heap.lt_size hx)
  have X₁ : K.In h₁ := X.keeps k
  have hx₁ := k _ _ hx
  show wpAny _ _ (execs _ _) _ _ _
  refine wpAny_execs_cons (plainObj_wpAny_Assign_Attribute ?_)
  refine ldC (v := v) hn (by first | rfl | with_unfolding_all rfl | kernel_rfl) (ldC (v := .ref x) hn (by first | rfl | with_unfolding_all rfl | kernel_rfl) ?_)
  refine set_plain X₁ (ox := excO C t0) (od := none) ⟨hx₁, rfl, rfl, trivial⟩ T.sa ?_
  refine exc_osa X₁ hx₁ hcl (show refsVE (.ref C :: bm) = true from hbm) rfl T.noN (fun h₃ tk₃ dx k₃ dn dne hx₃ hn₃ => ?_)
  show wpAny _ _ (execs _ _) _ _ _
  have z : s.heap.objs.size < h₁.objs.size := hn.lt
  exact wpAny_execs_nil (hq h₃ tk₃ dx ⟨fun b o hb e => k₃ b o hb (k b o e), hx₃, Nat.le_of_lt (Nat.lt_of_lt_of_le z dn), dne, hn₃⟩)
theorem crosses_made (T : CrossesTxt K mg C fI) {v : Value} (X : K.In s.heap) (hlim : s.heap.NoLimit) (hroom : A.depth + 1 < recursionLimit)
    (hq : ∀ h' tk e d, OwnMade s.heap h' e C d v → R (.ok (.ret (.ref e))) { s with heap := h', toks := tk }) :
    codeAny (model prog w) A (.call (.ref C) ⟨[v], []⟩) R s := by
  obtain ⟨nm, q, N, bs, bm, sn, sub, ab, col, dd, k0, k1, k2, k3, k5, hC, hbm⟩ := T.cls
  obtain ⟨hp, g, dr, tk, os⟩ := s
  have k : ∀ b o, hp.get? b = some o → ((hp.push (kdv_tup [v])).push (excO C hp.objs.size)).get? b = some o := fun b o e => Heap.get?_push_of_some _ (Heap.get?_push_of_some _ e)
  have hget : ((hp.push (kdv_tup [v])).push (excO C hp.objs.size)).get? (hp.objs.size + 1) = some (excO C hp.objs.size) := by heap_get
  have hnx : K.lookup (hp.objs.size + 1) = none := by
    cases e : K.lookup (hp.objs.size + 1) with
    | none => rfl
    | some o =>
      have z : hp.get? (hp.objs.size + 1) = some o := X _ _ e
      exact absurd (Nat.lt_of_succ_lt (Heap.lt_size z)) (Nat.lt_irrefl _)
  refine call_own F.excBase_ValueError (fun X => refsVE_contains X bm hbm) (X _ _ hC) (looks_findIn X T.iC) (fun self => bind_fn X self T.tC) (one_size v) ?_
  refine crosses_init (s := ⟨(hp.push (kdv_tup [v])).push (excO C hp.objs.size), g, dr, tk, os⟩) T (X.keeps k) (hlim.keeps k) hget hnx ?_ fun h' tk' dx ⟨k', hx, dn, dne, hns⟩ => ?_
  · show A.depth + 1 < recursionLimit
    exact hroom
  · have old : ∀ b o, hp.get? b = some o → h'.get? b = some o := fun b o e => k' b o (Nat.ne_of_lt (Nat.lt_succ_of_lt (Heap.lt_size e))) (k b o e)
    have z : hp.objs.size + 1 + 1 ≤ dx := by
      first
        | (simpa only [Heap.size_push] using dn)
        | exact dn
        | (have q := dn; rw [Heap.size_push, Heap.size_push] at q; exact q)
    exact ⟨rfl, hq h' tk' (hp.objs.size + 1) dx ⟨old, Nat.le_succ _, ⟨_, _, hx, rfl, rfl, rfl, rfl⟩, Nat.le_trans (Nat.le_trans (Nat.le_succ _) (Nat.le_succ _)) z, dne, hns⟩⟩
end
end CrossesX
end PySem
namespace L2
open PySem PySem.Spec PyProof.Rows
theorem relO_crosses {v : V} {v' : Value} (r : RelV v v') (f : Str) : RelO (List.lookup f [(("where" : Str), v)]) (if f = "where" then some v' else none) := by
  by_cases hw : f = "where"
  · subst hw
    rw [if_pos rfl]
    have q : List.lookup ("where" : Str) [(("where" : Str), v)] = some v := by simp [List.lookup]
    rw [q]
    exact r
  · rw [if_neg hw]
    have qw : (f == ("where" : Str)) = false := by simpa using hw
    have q2 : List.lookup f [(("where" : Str), v)] = none := by simp [List.lookup, qw]
    rw [q2]
    trivial
section
variable {X : Cx} {C fI : Addr}
def tMkCrosses (C : Addr) (ta : TA) : St → Hp → XK → Prop := fun σ H Q => ta σ H fun vs H1 => ∃ v, vs = [v] ∧ ∀ d, H1 d = none → Q (.ref C) (some d) (upd H1 d (.xd [(("where" : Str), v)]))
theorem pmk_crosses {a : Expr} {ta : TA} {p pos : Pos} {k : Nat} (T : PySem.CrossesX.CrossesTxt X.K X.mg C fI) (hr : Room k X.A) (ha : PA X [a] ta) (hg : Gl X "Crosses" := by rfl)
    (he : starEach (a :: []) X.env = (false, eval a X.env) :: starEach [] X.env := by rfl) (hpl : (backTo pos (starEach [] X.env)).any (·.1) = false := by rfl) :
    PMk X (.Call (.Name "Crosses" p) [a] [] pos) (tMkCrosses C ta) := by
  intro pins s σ H Q I h
  refine wpAny_Call_Name_kw (ld_glob I hg T.gC ?_)
  refine PySem.W.callWith_K (h₀ := X.base) I.ok.mod.kin T.kC (thn (ha.run pos pins s σ H _ I h) fun us s1 hh => ?_) he hpl
  obtain ⟨vs, H1, I1, r1, v, ev, q1⟩ := hh
  subst ev
  refine ⟨I1.kIn, ?_⟩
  cases r1 with
  | cons rv rn =>
    rename_i v' us'
    cases rn
    show wpAny _ _ (call (.ref C) [v']) _ _ _
    have hlim := I1.nolimit
    obtain ⟨hp, g, dr, tk, os⟩ := s1
    refine wpAny_call (PySem.CrossesX.crosses_made T I1.kIn hlim (by have := hr.dp; omega) fun h' tk' e d M => ?_)
    show MkP X pins σ Q (.ref e) ⟨h', g, dr, tk', os⟩
    obtain ⟨oe, fv, hoe, hc, hd, hdat, h1⟩ := M.obj
    have hns := M.ns
    obtain ⟨G', g1, g2⟩ := restrict h' fun b => decide (b ≠ e)
    have gk : ∀ b, b ≠ e → G'.get? b = h'.get? b := fun b hb => g1 b (decide_eq_true hb)
    have ge : G'.get? e = none := g2 e (by simp)
    have old : ∀ b o, hp.get? b = some o → G'.get? b = some o := fun b o q => (gk b (Nat.ne_of_lt (Nat.lt_of_lt_of_le (Heap.lt_size q) M.new))).trans (M.keep b o q)
    have ob : ObjOk X.prog X.w (upd H1 d (.xd [(("where" : Str), v)])) G' d (.xd [(("where" : Str), v)]) :=
      ⟨_, hns.at (fun o q => (gk d M.dne).trans q), fun f => relO_crosses rv f⟩
    have J : Inv X pins σ (upd H1 d (.xd [(("where" : Str), v)])) ⟨G', g, dr, tk', os⟩ := I1.laid (t' := tk') old M.dbig ob
    refine ⟨e, oe, fv, ⟨G', g, dr, tk', os⟩, _, .ref C, some d, rfl, J, fun b o q => ?_, ge, hoe, ⟨hc, hd⟩, hdat, h1, ?_, rfl, I1.bare, raises_own T.exC T.tyC, q1 d (I1.hok.fresh M.dbig)⟩
    · by_cases hb : b = e
      · have q' : G'.get? b = some o := q
        rw [hb, ge] at q'; cases q'
      · exact (gk b hb).symm.trans q
    · rw [upd_ne (Ne.symm M.dne)]
      exact I1.hok.fresh M.new
def tRaiseCrosses (C : Addr) (W : WX) (ta : TA) : TS := fun _ σ H => tMkCrosses C ta σ H fun cls d H' => W cls d σ H'
theorem ps_raiseCrosses {a : Expr} {ta : TA} {W : WX} {p pos pos2 : Pos} {k : Nat} (hc : X.calm = true) (T : PySem.CrossesX.CrossesTxt X.K X.mg C fI) (hr : Room k X.A) (tk : Takes X W) (ha : PA X [a] ta) (hg : Gl X "Crosses" := by rfl)
    (he : starEach (a :: []) X.env = (false, eval a X.env) :: starEach [] X.env := by rfl) (hpl : (backTo pos (starEach [] X.env)).any (·.1) = false := by rfl) :
    PS X (.Raise (some (.Call (.Name "Crosses" p) [a] [] pos)) none pos2) (tRaiseCrosses C W ta) := ps_raise hc tk (pmk_crosses T hr ha hg he hpl)
def tFldCrosses (C : Addr) (a : Addr) (cls : Value) (d : Option Addr) (te : TE) : TE := fun σ H Q => te σ H fun x H1 => x = .ref a ∧ cls = .ref C ∧ ∃ (dd : Addr) (v : V), d = some dd ∧ H1 dd = some (.xd [(("where" : Str), v)]) ∧ Q v H1
theorem pe_fldCrosses {a : Addr} {oe : Obj} {cls : Value} {d : Option Addr} {pn : List (Addr × Obj)} {e : Expr} {te : TE} {pos : Pos} (T : PySem.CrossesX.CrossesTxt X.K X.mg C fI) (hz : Zc cls d oe) (hf : ∃ vs, oe.data = .fields vs) (he : PE (X.suite a ((a, oe) :: pn)) e te)
    (hb : attributeBase e "where" X.env (eval e X.env) = eval e X.env := by rfl) :
    PE (X.suite a ((a, oe) :: pn)) (.Attribute e "where" pos) (tFldCrosses C a cls d te) := by
  refine ⟨fun pins s σ H Q I h => ?_⟩
  refine attr_of hb (thn (he.run pins s σ H _ I h) fun u s1 hh => ?_)
  obtain ⟨x, H1, I1, rx, ex, ec, dd, v, ed, ea, q⟩ := hh
  subst ex
  obtain rfl : u = Value.ref a := rx
  subst ec
  subst ed
  obtain ⟨ha, _⟩ := I1.pin (a, oe) (List.mem_append_left _ List.mem_cons_self)
  obtain ⟨vs, hd⟩ := hf
  have hx : ObjOk X.prog X.w H1 s1.heap dd (.xd [(("where" : Str), v)]) := I1.hok dd _ ea
  obtain ⟨mA, hns, hr⟩ := hx
  obtain ⟨od, ho, hl⟩ := lookIn_ns hns
  have l : List.lookup ("where" : Str) [(("where" : Str), v)] = some v := by simp [List.lookup]
  obtain ⟨u, hu, ru⟩ := RelO.some_of (v := v) (o := mA "where") (by rw [← l]; exact hr "where")
  have J : PySem.W.InstAt s1.heap a oe C (some od) := ⟨ha, hz.1, by unfold PySem.W.notCls; rw [hd] <;> rfl, by rw [hz.2]; exact ho⟩
  exact HandSPX.exc_get I1.kIn J T.ga T.gg T.exC (PySem.W.findObj_own T.hdC T.noN rfl (by rw [hl, hu])) (handed_of ru) ⟨v, H1, I1.tok _, ru, q⟩
end
end L2
namespace VS
open PySem L2 PySem.Spec PyProof.Rows
/-! ### Crosses: raised, read, as readings -/
def tRaiseCrosses (C : Addr) (ts : TDa) : TDs := fun De en => ts De.ex en fun rs en1 => match rs with
  | [r] => (match vl r with
    | some d => De.ex ⟨.ref C, some ("where", d)⟩ en1
    | none => False)
  | _ => False
theorem ds_raiseCrosses {X : Cx} {W : WX} {C fI : Addr} {a : Expr} {ts : TDa} {p pos pos2 : Pos} {k : Nat} (hc : X.calm = true) (T : PySem.CrossesX.CrossesTxt X.K X.mg C fI) (hr : Room k X.A) (tk : Takes X W) (ha : DA X W [a] ts) (hg : Gl X "Crosses" := by rfl)
    (he : starEach [a] X.env = (false, eval a X.env) :: starEach [] X.env := by rfl) (hpl : (backTo pos (starEach [] X.env)).any (·.1) = false := by rfl) :
    DS X W (.Raise (some (.Call (.Name "Crosses" p) [a] [] pos)) none pos2) (tRaiseCrosses C ts) :=
  PSi (ps_raiseCrosses hc T hr tk ha hg he hpl) fun Ds σ H ⟨Cc, en, De, R1, h, k⟩ =>
    ⟨Cc, en, _, De.ex, R1, h, k.x σ, fun rs en1 vs H1 q R2 hv _ _ _ => by
      match rs, hv, R2, q with
      | [r], ⟨v, ws, e1, h1, h2⟩, R2, q =>
        cases h2
        refine ⟨v, e1, fun d hd => ?_⟩
        cases e : vl r with
        | none => simp only [e] at q
        | some dd =>
          simp only [e] at q
          have R3 : R X.K (Cc.ext r) σ H1 en1 := R2
          have rp := h1.rp R3 e
          have R4 := R3.dropX
          have nm : ¬ mm Cc (oas en1) d := fun z => by
            rcases z with z | z
            · obtain ⟨u, eu⟩ := R4.dom d (.inl z)
              rw [hd] at eu
              cases eu
            · obtain ⟨u, eu⟩ := R4.oD z
              rw [hd] at eu
              cases eu
          have sm : Same H1 (upd H1 d (.xd [(("where" : Str), v)])) := same_new hd
          exact k.ex _ _ σ _ _ _ q (R4.grow sm) ⟨rfl, d, v, rfl, nm, upd_same, Rp.mono (fun b u n z => ⟨n, sm b u z⟩) _ _ rp⟩⟩
/-- the field of the error that the suite holds in slot i -/
def tFldCrosses (C : Addr) (a : Addr) (cls : Value) (dd : Option Addr) (i : Nat) : TDe := fun _ en Φ => match en[i]? with
  | some (.exc a' cls' dd' x) => a' = a ∧ cls' = cls ∧ dd' = dd ∧ x.cls = .ref C ∧ (match x.fld with
    | some (f, d) => f = "where" ∧ Φ (.val d) en
    | none => False)
  | _ => False
theorem de_fldCrosses {X : Cx} {W : WX} {C fI a : Addr} {oe : Obj} {cls : Value} {dd : Option Addr} {pn : List (Addr × Obj)} {e : Expr} {i : Nat} {pos : Pos} (T : PySem.CrossesX.CrossesTxt X.K X.mg C fI) (hz : Zc cls dd oe) (hf : ∃ vs, oe.data = .fields vs) (he : PE (X.suite a ((a, oe) :: pn)) e (L2.tVar i))
    (hb : attributeBase e "where" X.env (eval e X.env) = eval e X.env := by rfl) : DE (X.suite a ((a, oe) :: pn)) W (.Attribute e "where" pos) (tFldCrosses C a cls dd i) :=
  PEi (pe_fldCrosses T hz hf he hb) fun σ H Q ⟨Cc, en, Φ, Ψ, R1, h, _, k⟩ => by
    unfold tFldCrosses at h
    cases e1 : en[i]? with
    | none => simp only [e1] at h
    | some s =>
      cases s with
      | exc a' cls' dd' x =>
        simp only [e1] at h
        obtain ⟨rfl, rfl, rfl, hx, h⟩ := h
        obtain ⟨xc, xf⟩ := x
        cases xf with
        | none => exact h.elim
        | some fd =>
          obtain ⟨f, d⟩ := fd
          obtain ⟨rfl, h⟩ := h
          obtain ⟨y, hy, hs⟩ := Pget R1.sl e1
          cases y with
          | none => exact hs.elim
          | some v =>
            obtain ⟨rfl, hc, d0, w, e2, _, e3, hv⟩ := hs
            refine ⟨_, hy, rfl, hc.trans hx, d0, w, e2, e3, k (.val d) en w H h R1 hv rfl Keep.refl trivial⟩
      | _ => simp only [e1] at h
end VS

namespace VS
open PySem L2 PySem.Spec PyProof.Rows
/-! ### isinstance(error, T), error what the suite holds: an own class with its own dict -/
structure ExI (K : PySem.W.Frag) (C : Addr) : Prop where
  ga : PySem.W.findIn K (.ref C) "__getattribute__" = some (some (.builtin "BaseException.__getattribute__"))
  gg : PySem.W.findIn K (.ref C) "__getattr__" = some none
  exC : PySem.W.subIn K (.ref C) (.type "BaseException") = some true
  hd : PySem.W.isClsIn K C = true
  ca : PySem.W.findIn K (.ref C) "__class__" = some (some (.builtin "object.__class__"))
  sp : PySem.W.specialIn K (.builtin "object.__class__") "__get__" = some (some (.builtin "getset_descriptor.__get__"))
  tk : PySem.W.takesIn K (.builtin "object.__class__") = some true
  mo : PySem.W.mroIn K C (.type "object") = some true
def rIsX (C a : Addr) (cls : Value) (dd : Option Addr) (T : String) (b : Bool) : List V → Hp → VK → Prop := fun xs H Q => xs = [.ref a, .ty T] ∧ cls = .ref C ∧ (∃ (d0 : Addr) (f : Str) (v : V), dd = some d0 ∧ H d0 = some (.xd [(f, v)])) ∧ Q (.bl b) H
theorem call_isX {X : Cx} {a C : Addr} {oe : Obj} {cls : Value} {dd : Option Addr} {pn : List (Addr × Obj)} {T : String} {b : Bool} (E : ExI X.K C) (hz : Zc cls dd oe) (hf : ∃ vs, oe.data = .fields vs) (hk : PySem.W.kitOne X.K (.ref C) (.type T) = some b) :
    CallR (X.suite a ((a, oe) :: pn)) (.builtin "isinstance") (rIsX C a cls dd T b) := by
  intro pins s σ H xs us Q I r h
  obtain ⟨rfl, rfl, ⟨d0, f, v, rfl, hd0⟩, q⟩ := h
  cases r with
  | cons rx rr =>
    cases rr with
    | cons rt rr =>
      cases rr
      cases rx
      obtain rfl := rt
      obtain ⟨ha, _⟩ := I.pin (a, oe) (List.mem_append_left _ List.mem_cons_self)
      obtain ⟨vs, hv⟩ := hf
      have hx : ObjOk X.prog X.w H s.heap d0 (.xd [(f, v)]) := I.hok d0 _ hd0
      obtain ⟨mA, hns, hr⟩ := hx
      obtain ⟨od, ho, hl⟩ := lookIn_ns hns
      have J : PySem.W.InstAt s.heap a oe C (some od) := ⟨ha, hz.1, by unfold PySem.W.notCls; rw [hv] <;> rfl, by rw [hz.2]; exact ho⟩
      exact PySem.W.kia_one (PySem.W.kitx_exc E.hd E.ga E.gg E.exC E.ca E.sp E.tk E.mo) I.kIn J hk (fun z => nomatch z) fun tk => ⟨.bl b, H, I.kept (t' := tk) fun _ _ z => z, rfl, q⟩
def tIsX (C a : Addr) (cls : Value) (dd : Option Addr) (b : Bool) (i : Nat) : TDe := fun _ en Φ => match en[i]? with
  | some (.exc a' cls' dd' x) => a' = a ∧ cls' = cls ∧ dd' = dd ∧ x.cls = .ref C ∧ x.fld.isSome = true ∧ Φ (.val (.bl b)) en
  | _ => False
theorem de_isX {X : Cx} {W : WX} {a C : Addr} {oe : Obj} {cls : Value} {dd : Option Addr} {pn : List (Addr × Obj)} {T : String} {b : Bool} {e : Expr} {i : Nat} {n : Str} {p pos p2 : Pos} (E : ExI X.K C) (hz : Zc cls dd oe) (hf : ∃ vs, oe.data = .fields vs)
    (hk : PySem.W.kitOne X.K (.ref C) (.type T) = some b) (hm : X.mg "isinstance" = none) (he : PE (X.suite a ((a, oe) :: pn)) e (L2.tVar i)) (gn : Gl (X.suite a ((a, oe) :: pn)) n) (mn : X.mg n = none) (vn : bootBuiltins n = some (.type T))
    (hg : Gl (X.suite a ((a, oe) :: pn)) "isinstance" := by rfl) (nn : n ≠ "__name__" := by decide) (nd : (n == ("__debug__" : Str)) = false := by decide)
    (h1 : starEach [e, .Name n p2] X.env = (false, eval e X.env) :: starEach [.Name n p2] X.env := by rfl) (h2 : starEach [.Name n p2] X.env = (false, eval (.Name n p2) X.env) :: starEach [] X.env := by rfl)
    (hpl : (backTo pos (starEach [.Name n p2] X.env)).any (·.1) = false := by rfl) : DE (X.suite a ((a, oe) :: pn)) W (.Call (.Name "isinstance" p) [e, .Name n p2] [] pos) (tIsX C a cls dd b i) :=
  PEi (pe_callB (call_isX E hz hf hk) hg hm PyProof.Rows.boot_isinstance (pa_cons he (pa_cons (pe_bltn (v := .ty T) gn mn vn rfl nn nd) pa_nil h2) h1) (by decide) (by decide) h1 hpl) fun σ H Q ⟨Cc, en, Φ, Ψ, R1, h, _, k⟩ => by
    unfold tIsX at h
    cases e1 : en[i]? with
    | none => simp only [e1] at h
    | some s =>
      cases s with
      | exc a' cls' dd' x =>
        simp only [e1] at h
        obtain ⟨rfl, rfl, rfl, hx, hs, h⟩ := h
        obtain ⟨xc, xf⟩ := x
        cases xf with
        | none => cases hs
        | some fd =>
          obtain ⟨f, d⟩ := fd
          obtain ⟨y, hy, hs⟩ := Pget R1.sl e1
          cases y with
          | none => exact hs.elim
          | some v =>
            obtain ⟨rfl, hc, d0, w, e2, _, e3, hv⟩ := hs
            exact ⟨_, hy, rfl, hc.trans hx, ⟨d0, f, w, e2, e3⟩, k (.val (.bl b)) en (.bl b) H h R1 (.bl b) rfl Keep.refl trivial⟩
      | _ => simp only [e1] at h
end VS

namespace VS
open PySem L2 PySem.Spec PyProof.Rows
/-! ### ahead of a statement a slot is forgotten -/
def tFgtD (i : Nat) (t : TDs) : TDs := fun De en => t De (en.set i .no)
theorem dss_fgt {X : Cx} {W : WX} {rest : List Stmt} {u : TDs} (i : Nat) (h2 : DSs X W rest u) : DSs X W rest (tFgtD i u) := PSsi h2 fun D σ H ⟨C, en, De, R1, h, k⟩ =>
  ⟨C, en.set i .no, De, R1.forget (i := i), h, k⟩
end VS

namespace VS
/-! ### rows of points: counts by the ray, by quarters (plain Lean) -/
abbrev P3 := Int × Int × Int
def z3 : P3 := (0, 0, 0)
def crossI (p q : P3) : Int := p.1 * q.2.1 - p.2.1 * q.1
def dotI (p q : P3) : Int := p.1 * q.1 + p.2.1 * q.2.1
def Miss (p q : P3) : Prop := crossI p q ≠ 0 ∨ 0 < dotI p q
instance (p q : P3) : Decidable (Miss p q) := by unfold Miss; infer_instance
def rayX (b d X : Int) : Int := if b < 0 ∧ 0 ≤ d ∧ 0 < X then 1 else if 0 ≤ b ∧ d < 0 ∧ X < 0 then -1 else 0
def rayI (p q : P3) : Int := rayX p.2.1 q.2.1 (crossI p q)
def quadX (a b : Int) : Int := if 0 ≤ b then (if 0 < a then 0 else if 0 < b then 1 else 2) else if a < 0 then 2 else 3
def quadI (p : P3) : Int := quadX p.1 p.2.1
def moveX (m X : Int) : Int := if m % 4 = 2 then (if 0 < X then 2 else -2) else if m % 4 = 3 then -1 else m % 4
def moveI (p q : P3) : Int := moveX (quadI q - quadI p) (crossI p q)
theorem sg_nn {x y : Int} (h : 0 ≤ x) (k : 0 ≤ y) : 0 ≤ x * y := Int.mul_nonneg h k
theorem sg_np {x y : Int} (h : 0 ≤ x) (k : y ≤ 0) : x * y ≤ 0 := by
  have := Int.mul_nonneg h (show 0 ≤ -y by omega)
  rw [Int.mul_neg] at this
  omega
theorem sg_pn {x y : Int} (h : x ≤ 0) (k : 0 ≤ y) : x * y ≤ 0 := by
  rw [Int.mul_comm]
  exact sg_np k h
theorem sg_pp {x y : Int} (h : x ≤ 0) (k : y ≤ 0) : 0 ≤ x * y := by
  have := Int.mul_nonneg (show 0 ≤ -x by omega) (show 0 ≤ -y by omega)
  rw [Int.neg_mul_neg] at this
  exact this
theorem sg_P {x y : Int} (h : 0 < x) (k : 0 < y) : 0 < x * y := Int.mul_pos h k
theorem sg_N {x y : Int} (h : 0 < x) (k : y < 0) : x * y < 0 := Int.mul_neg_of_pos_of_neg h k
theorem sg_N' {x y : Int} (h : x < 0) (k : 0 < y) : x * y < 0 := Int.mul_neg_of_neg_of_pos h k
theorem sg_P' {x y : Int} (h : x < 0) (k : y < 0) : 0 < x * y := Int.mul_pos_of_neg_of_neg h k
/-- where the quarters lie -/
theorem quad_at (a b : Int) (h : ¬ (a = 0 ∧ b = 0)) : (quadX a b = 0 ∧ 0 ≤ b ∧ 0 < a) ∨ (quadX a b = 1 ∧ 0 < b ∧ a ≤ 0) ∨ (quadX a b = 2 ∧ b ≤ 0 ∧ a < 0) ∨ (quadX a b = 3 ∧ b < 0 ∧ 0 ≤ a) := by
  unfold quadX
  repeat' split
  all_goals omega
/-- the same, by the four numbers: X = a d - b c, Y = a c + b d -/
theorem move_rayX {a b c d X Y : Int} (hX : X = a * d - b * c) (hY : Y = a * c + b * d) (h : X ≠ 0 ∨ 0 < Y) (n1 : ¬ (a = 0 ∧ b = 0)) (n2 : ¬ (c = 0 ∧ d = 0)) :
    moveX (quadX c d - quadX a b) X = 4 * rayX b d X + quadX c d - quadX a b := by
  rcases quad_at a b n1 with ⟨e1, h1, h2⟩ | ⟨e1, h1, h2⟩ | ⟨e1, h1, h2⟩ | ⟨e1, h1, h2⟩ <;> rcases quad_at c d n2 with ⟨e2, h3, h4⟩ | ⟨e2, h3, h4⟩ | ⟨e2, h3, h4⟩ | ⟨e2, h3, h4⟩ <;> rw [e1, e2] <;> unfold moveX rayX
  -- 0 -> 0, 1, 2, 3
  · simp; omega
  · simp; omega
  · have t1 : a * c < 0 := sg_N h2 h4
    have t2 : b * d ≤ 0 := sg_np h1 h3
    have t3 : X ≠ 0 := by omega
    by_cases hd : d = 0
    · subst hd
      have t4 : b * c ≤ 0 := sg_np h1 (by omega)
      have t5 : a * 0 = 0 := Int.mul_zero a
      rw [if_pos (by decide), if_pos (by omega), if_neg (by omega), if_neg (by omega)]
      omega
    · by_cases hx : 0 < X
      · rw [if_pos (by decide), if_pos hx, if_neg (by omega), if_neg (by omega)]
        omega
      · rw [if_pos (by decide), if_neg hx, if_neg (by omega), if_pos (by omega)]
        omega
  · have t1 : a * d < 0 := sg_N h2 h3
    have t2 : 0 ≤ b * c := sg_nn h1 h4
    rw [if_neg (by decide), if_pos (by decide), if_neg (by omega), if_pos (by omega)]
    omega
  -- 1 -> 0, 1, 2, 3
  · simp; omega
  · simp; omega
  · have t1 : b * c < 0 := sg_N h1 h4
    have t2 : 0 ≤ a * d := sg_pp h2 h3
    rw [if_neg (by decide), if_neg (by decide), if_neg (by omega), if_neg (by omega)]
    omega
  · have t1 : a * c ≤ 0 := sg_pn h2 h4
    have t2 : b * d < 0 := sg_N h1 h3
    by_cases hx : 0 < X
    · rw [if_pos (by decide), if_pos hx, if_neg (by omega), if_neg (by omega)]
      omega
    · rw [if_pos (by decide), if_neg hx, if_neg (by omega), if_pos (by omega)]
      omega
  -- 2 -> 0, 1, 2, 3
  · have t1 : a * c < 0 := sg_N' h2 h4
    have t2 : b * d ≤ 0 := sg_pn h1 h3
    by_cases hb : b = 0
    · subst hb
      have t3 : a * d ≤ 0 := sg_pn (by omega) h3
      have t4 : 0 * c = 0 := Int.zero_mul c
      rw [if_pos (by decide), if_neg (by omega), if_neg (by omega), if_neg (by omega)]
      omega
    · by_cases hx : 0 < X
      · rw [if_pos (by decide), if_pos hx, if_pos (by omega)]
        omega
      · rw [if_pos (by decide), if_neg hx, if_neg (by omega), if_neg (by omega)]
        omega
  · have t1 : a * d < 0 := sg_N' h2 h3
    have t2 : 0 ≤ b * c := sg_pp h1 h4
    rw [if_neg (by decide), if_pos (by decide), if_neg (by omega), if_neg (by omega)]
    omega
  · by_cases hd : d = 0
    · subst hd
      have t1 : a * 0 = 0 := Int.mul_zero a
      have t2 : 0 ≤ b * c := sg_pp h1 (by omega)
      rw [if_neg (by decide), if_neg (by decide), if_neg (by omega), if_neg (by omega)]
      omega
    · have t1 : 0 < a * d := sg_P' h2 (by omega)
      by_cases hb : b = 0
      · subst hb
        have t2 : 0 * c = 0 := Int.zero_mul c
        rw [if_neg (by decide), if_neg (by decide), if_neg (by omega), if_neg (by omega)]
        omega
      · rw [if_neg (by decide), if_neg (by decide), if_neg (by omega), if_neg (by omega)]
        omega
  · have t1 : 0 < a * d := sg_P' h2 h3
    by_cases hb : b = 0
    · subst hb
      have t2 : 0 * c = 0 := Int.zero_mul c
      rw [if_neg (by decide), if_neg (by decide), if_neg (by omega), if_neg (by omega)]
      omega
    · rw [if_neg (by decide), if_neg (by decide), if_neg (by omega), if_neg (by omega)]
      omega
  -- 3 -> 0, 1, 2, 3
  · have t1 : 0 ≤ a * d := sg_nn h2 h3
    have t2 : b * c < 0 := sg_N' h1 h4
    rw [if_neg (by decide), if_neg (by decide), if_pos (by omega)]
    omega
  · have t1 : a * c ≤ 0 := sg_np h2 h4
    have t2 : b * d < 0 := sg_N' h1 h3
    by_cases hx : 0 < X
    · rw [if_pos (by decide), if_pos hx, if_pos (by omega)]
      omega
    · rw [if_pos (by decide), if_neg hx, if_neg (by omega), if_neg (by omega)]
      omega
  · have t1 : 0 < b * c := sg_P' h1 h4
    have t2 : a * d ≤ 0 := sg_np h2 h3
    rw [if_neg (by decide), if_pos (by decide), if_neg (by omega), if_neg (by omega)]
    omega
  · simp; omega
theorem miss_nz {p q : P3} (h : Miss p q) : ¬ (p.1 = 0 ∧ p.2.1 = 0) ∧ ¬ (q.1 = 0 ∧ q.2.1 = 0) := by
  constructor
  · rintro ⟨e1, e2⟩
    rcases h with h | h
    · exact h (by simp [crossI, e1, e2])
    · simp [dotI, e1, e2] at h
  · rintro ⟨e1, e2⟩
    rcases h with h | h
    · exact h (by simp [crossI, e1, e2])
    · simp [dotI, e1, e2] at h
theorem move_ray {p q : P3} (h : Miss p q) : moveI p q = 4 * rayI p q + quadI q - quadI p :=
  move_rayX (a := p.1) (b := p.2.1) (c := q.1) (d := q.2.1) (X := crossI p q) (Y := dotI p q) rfl rfl h (miss_nz h).1 (miss_nz h).2
/-! ### sums along a closed row -/
def sumTo (f : Nat → Int) : Nat → Int
  | 0 => 0
  | n + 1 => sumTo f n + f n
theorem sumTo_congr {f g : Nat → Int} : ∀ n, (∀ i, i < n → f i = g i) → sumTo f n = sumTo g n
  | 0, _ => rfl
  | n + 1, h => by
    simp only [sumTo]
    rw [sumTo_congr n fun i hi => h i (by omega), h n (by omega)]
theorem sumTo_tele (k : Nat → Int) : ∀ n, sumTo (fun i => k (i + 1) - k i) n = k n - k 0
  | 0 => by simp [sumTo]
  | n + 1 => by simp only [sumTo]; rw [sumTo_tele k n]; omega
theorem sumTo_lin (a : Int) (f g : Nat → Int) : ∀ n, sumTo (fun i => a * f i + g i) n = a * sumTo f n + sumTo g n
  | 0 => by simp [sumTo]
  | n + 1 => by simp only [sumTo]; rw [sumTo_lin a f g n, Int.mul_add]; omega
theorem sumTo_neg (f : Nat → Int) : ∀ n, sumTo (fun i => - f i) n = - sumTo f n
  | 0 => by simp [sumTo]
  | n + 1 => by simp only [sumTo]; rw [sumTo_neg f n]; omega
/-- around a closed row what is a difference of a number of the points is nothing -/
theorem sumTo_cyc (k : Nat → Int) (n : Nat) : sumTo (fun i => k ((i + 1) % n) - k i) n = 0 := by
  cases n with
  | zero => rfl
  | succ m =>
    have h1 : sumTo (fun i => k ((i + 1) % (m + 1)) - k i) m = sumTo (fun i => k (i + 1) - k i) m := sumTo_congr m fun i hi => by rw [Nat.mod_eq_of_lt (by omega)]
    simp only [sumTo]
    rw [h1, sumTo_tele, Nat.mod_self]
    omega
def at3 (ps : List P3) (i : Nat) : P3 := ps.getD i z3
def nxt (ps : List P3) (i : Nat) : P3 := at3 ps ((i + 1) % ps.length)
def Cyc (ps : List P3) : Prop := ∀ i, i < ps.length → Miss (at3 ps i) (nxt ps i)
def roundsI (ps : List P3) : Int := sumTo (fun i => rayI (at3 ps i) (nxt ps i)) ps.length
def movesI (ps : List P3) : Int := sumTo (fun i => moveI (at3 ps i) (nxt ps i)) ps.length
theorem moves_rounds {ps : List P3} (h : Cyc ps) : movesI ps = 4 * roundsI ps := by
  unfold movesI roundsI
  have h1 : sumTo (fun i => moveI (at3 ps i) (nxt ps i)) ps.length = sumTo (fun i => 4 * rayI (at3 ps i) (nxt ps i) + (quadI (at3 ps ((i + 1) % ps.length)) - quadI (at3 ps i))) ps.length :=
    sumTo_congr _ fun i hi => by
      rw [move_ray (h i hi)]
      show 4 * rayI (at3 ps i) (nxt ps i) + quadI (at3 ps ((i + 1) % ps.length)) - quadI (at3 ps i) = _
      omega
  rw [h1, sumTo_lin, sumTo_cyc fun i => quadI (at3 ps i)]
  omega
/-! ### mapped rows -/
/-- crossings of the ray of a linear form: l at both ends, X the turn -/
def mapP (a b c d : Int) (p : P3) : P3 := (a * p.1 + b * p.2.1, c * p.1 + d * p.2.1, p.2.2)
def lin (c d : Int) (p : P3) : Int := c * p.1 + d * p.2.1
theorem cross_map (a b c d : Int) (p q : P3) : crossI (mapP a b c d p) (mapP a b c d q) = (a * d - b * c) * crossI p q := by
  unfold crossI mapP
  simp only
  grind
theorem ray_map (a b c d : Int) (p q : P3) : rayI (mapP a b c d p) (mapP a b c d q) = rayX (lin c d p) (lin c d q) ((a * d - b * c) * crossI p q) := by
  unfold rayI
  rw [cross_map]
  rfl
/-- with the turn the other way the ray of a form is crossed on its other side -/
theorem ray_flip {A B X : Int} (h : X = 0 → (A < 0 ↔ B < 0)) : rayX A B (-X) = (if 0 ≤ B then 1 else 0) - (if 0 ≤ A then 1 else 0) - rayX A B X := by
  unfold rayX
  repeat' split
  all_goals omega
theorem ray_scale {A B X k : Int} (hk : 0 < k) : rayX A B (k * X) = rayX A B X := by
  have h1 : (0 < k * X ↔ 0 < X) := ⟨fun h => by
    rcases Int.lt_trichotomy X 0 with z | z | z
    · have := sg_N hk z; omega
    · rw [z, Int.mul_zero] at h; omega
    · exact z, fun h => sg_P hk h⟩
  have h2 : (k * X < 0 ↔ X < 0) := ⟨fun h => by
    rcases Int.lt_trichotomy X 0 with z | z | z
    · exact z
    · rw [z, Int.mul_zero] at h; omega
    · have := sg_P hk z; omega, fun h => sg_N hk h⟩
  unfold rayX
  simp only [h1, h2]
/-! ### which ray is counted is nothing to a closed row -/
def secX (A B : Int) : Int := if 0 ≤ A ∧ B < 0 then 1 else 0
theorem ray_two {A B A' B' X K : Int} (hK : 0 < K) (hZ : K * X = A * B' - A' * B) (h0 : X = 0 → (A < 0 ↔ A' < 0) ∧ (B < 0 ↔ B' < 0)) : rayX A A' X - rayX B B' X = secX A' B' - secX A B := by
  have p1 : 0 < X → 0 < K * X := fun h => sg_P hK h
  have p2 : X < 0 → K * X < 0 := fun h => sg_N hK h
  generalize K * X = Z at *
  unfold rayX secX
  by_cases a : A < 0 <;> by_cases a' : A' < 0 <;> by_cases b : B < 0 <;> by_cases b' : B' < 0
  · simp [a, a', b, b']; omega
  · simp [a, a', b, b']
    have t1 : A * B' ≤ 0 := sg_pn (by omega) (by omega)
    have t2 : 0 < A' * B := sg_P' a' b
    omega
  · simp [a, a', b, b']
    have t1 : 0 < A * B' := sg_P' a b'
    have t2 : A' * B ≤ 0 := sg_pn (by omega) (by omega)
    omega
  · simp [a, a', b, b']; omega
  · have t1 : 0 < A * B' := sg_P' a b'
    have t2 : A' * B ≤ 0 := sg_np (by omega) (by omega)
    simp [a, a', b, b']
    omega
  · simp [a, a', b, b']
    repeat' split
    all_goals omega
  · simp [a, a', b, b']
    repeat' split
    all_goals omega
  · have t1 : A * B' ≤ 0 := sg_pn (by omega) (by omega)
    have t2 : 0 ≤ A' * B := sg_nn (by omega) (by omega)
    simp [a, a', b, b']
    repeat' split
    all_goals omega
  · have t1 : A * B' ≤ 0 := sg_np (by omega) (by omega)
    have t2 : 0 < A' * B := sg_P' a' b
    simp [a, a', b, b']
    repeat' split
    all_goals omega
  · simp [a, a', b, b']
    repeat' split
    all_goals omega
  · simp [a, a', b, b']
    repeat' split
    all_goals omega
  · have t1 : 0 ≤ A * B' := sg_nn (by omega) (by omega)
    have t2 : A' * B ≤ 0 := sg_pn (by omega) (by omega)
    simp [a, a', b, b']
    repeat' split
    all_goals omega
  all_goals
    simp [a, a', b, b']
    first
      | omega
      | (have t1 : A * B' ≤ 0 := sg_np (by omega) (by omega)
         have t2 : 0 ≤ A' * B := sg_nn (by omega) (by omega)
         repeat' split
         all_goals omega)
      | (have t1 : 0 ≤ A * B' := sg_nn (by omega) (by omega)
         have t2 : A' * B ≤ 0 := sg_np (by omega) (by omega)
         repeat' split
         all_goals omega)
      | (repeat' split
         all_goals omega)
theorem lin_two (c d c' d' : Int) (p q : P3) : (c * d' - d * c') * crossI p q = lin c d p * lin c' d' q - lin c d q * lin c' d' p := by
  unfold lin crossI
  grind
theorem same_way {p q : P3} (h : Miss p q) (hx : crossI p q = 0) (c d : Int) : ∃ k Y : Int, 0 < k ∧ 0 < Y ∧ k * lin c d q = Y * lin c d p := by
  have hY : 0 < dotI p q := h.resolve_left fun z => z hx
  refine ⟨p.1 * p.1 + p.2.1 * p.2.1, dotI p q, ?_, hY, ?_⟩
  · have n := (miss_nz h).1
    have h1 : 0 ≤ p.1 * p.1 := by
      rcases Int.le_total 0 p.1 with z | z
      · exact sg_nn z z
      · exact sg_pp z z
    have h2 : 0 ≤ p.2.1 * p.2.1 := by
      rcases Int.le_total 0 p.2.1 with z | z
      · exact sg_nn z z
      · exact sg_pp z z
    by_cases e : p.1 = 0
    · have e2 : p.2.1 ≠ 0 := fun z => n ⟨e, z⟩
      have : 0 < p.2.1 * p.2.1 := by
        rcases Int.lt_or_gt_of_ne e2 with z | z
        · exact sg_P' z z
        · exact sg_P z z
      omega
    · have : 0 < p.1 * p.1 := by
        rcases Int.lt_or_gt_of_ne e with z | z
        · exact sg_P' z z
        · exact sg_P z z
      omega
  · unfold crossI at hx
    unfold lin dotI
    grind
theorem pos_iff {k Y x y : Int} (hk : 0 < k) (hY : 0 < Y) (h : k * x = Y * y) : (y < 0 ↔ x < 0) := by
  constructor
  · intro z
    rcases Int.lt_trichotomy x 0 with w | w | w
    · exact w
    · rw [w, Int.mul_zero] at h
      have := sg_N hY z
      omega
    · have h1 := sg_P hk w
      have h2 := sg_N hY z
      omega
  · intro z
    rcases Int.lt_trichotomy y 0 with w | w | w
    · exact w
    · rw [w, Int.mul_zero] at h
      have := sg_N hk z
      omega
    · have h1 := sg_P hY w
      have h2 := sg_N hk z
      omega
def linSum (c d : Int) (ps : List P3) : Int := sumTo (fun i => rayX (lin c d (at3 ps i)) (lin c d (nxt ps i)) (crossI (at3 ps i) (nxt ps i))) ps.length
theorem lin_sum_pos {ps : List P3} (h : Cyc ps) {c d c' d' : Int} (hK : 0 < c * d' - d * c') : linSum c d ps = linSum c' d' ps := by
  have key : ∀ i, i < ps.length → rayX (lin c d (at3 ps i)) (lin c d (nxt ps i)) (crossI (at3 ps i) (nxt ps i)) =
      1 * rayX (lin c' d' (at3 ps i)) (lin c' d' (nxt ps i)) (crossI (at3 ps i) (nxt ps i)) + (secX (lin c d (at3 ps ((i + 1) % ps.length))) (lin c' d' (at3 ps ((i + 1) % ps.length))) - secX (lin c d (at3 ps i)) (lin c' d' (at3 ps i))) := fun i hi => by
    have h1 := ray_two hK (X := crossI (at3 ps i) (nxt ps i)) (lin_two c d c' d' (at3 ps i) (nxt ps i)) fun hx => by
      obtain ⟨k, Y, k1, k2, k3⟩ := same_way (h i hi) hx c d
      obtain ⟨l, Z, l1, l2, l3⟩ := same_way (h i hi) hx c' d'
      exact ⟨pos_iff k1 k2 k3, pos_iff l1 l2 l3⟩
    unfold nxt at h1 ⊢
    omega
  unfold linSum
  rw [sumTo_congr _ key, sumTo_lin, sumTo_cyc fun i => secX (lin c d (at3 ps i)) (lin c' d' (at3 ps i))]
  omega
theorem lin_sum_ne {ps : List P3} (h : Cyc ps) {c d c' d' : Int} (hK : c * d' - d * c' ≠ 0) : linSum c d ps = linSum c' d' ps := by
  rcases Int.lt_or_gt_of_ne hK with z | z
  · refine (lin_sum_pos h ?_).symm
    have e1 : c' * d = d * c' := Int.mul_comm _ _
    have e2 : d' * c = c * d' := Int.mul_comm _ _
    omega
  · exact lin_sum_pos h z
theorem sq_pos {a b : Int} (h : ¬ (a = 0 ∧ b = 0)) : 0 < a * a + b * b := by
  have h1 : 0 ≤ a * a := by
    rcases Int.le_total 0 a with z | z
    · exact sg_nn z z
    · exact sg_pp z z
  have h2 : 0 ≤ b * b := by
    rcases Int.le_total 0 b with z | z
    · exact sg_nn z z
    · exact sg_pp z z
  by_cases e : a = 0
  · have e2 : b ≠ 0 := fun z => h ⟨e, z⟩
    have : 0 < b * b := by
      rcases Int.lt_or_gt_of_ne e2 with z | z
      · exact sg_P' z z
      · exact sg_P z z
    omega
  · have : 0 < a * a := by
      rcases Int.lt_or_gt_of_ne e with z | z
      · exact sg_P' z z
      · exact sg_P z z
    omega
theorem lin_sum_any {ps : List P3} (h : Cyc ps) {c d c' d' : Int} (n1 : ¬ (c = 0 ∧ d = 0)) (n2 : ¬ (c' = 0 ∧ d' = 0)) : linSum c d ps = linSum c' d' ps := by
  by_cases hK : c * d' - d * c' = 0
  · have h1 : linSum c d ps = linSum (-d) c ps := lin_sum_pos h (by
      have := sq_pos n1
      have e : d * -d = -(d * d) := Int.mul_neg _ _
      omega)
    have h2 : linSum (-d) c ps = linSum c' d' ps := lin_sum_ne h (fun z => by
      have e : (-d) * d' = -(d * d') := Int.neg_mul _ _
      have w : c * c' + d * d' = 0 := by omega
      have s1 := sq_pos n1
      have s2 := sq_pos n2
      have s3 := sg_P s1 s2
      have id : (c * c + d * d) * (c' * c' + d' * d') = (c * c' + d * d') * (c * c' + d * d') + (c * d' - d * c') * (c * d' - d * c') := by grind
      rw [w, hK] at id
      omega)
    exact h1.trans h2
  · exact lin_sum_ne h hK
theorem lin_y (ps : List P3) : linSum 0 1 ps = roundsI ps := by
  unfold linSum roundsI rayI lin
  simp
theorem at3_map (f : P3 → P3) (ps : List P3) {i : Nat} (hi : i < ps.length) : at3 (ps.map f) i = f (at3 ps i) := by
  unfold at3
  simp [List.getD, hi]
theorem nxt_map (f : P3 → P3) (ps : List P3) {i : Nat} (hi : i < ps.length) : nxt (ps.map f) i = f (nxt ps i) := by
  unfold nxt
  rw [List.length_map]
  exact at3_map f ps (Nat.mod_lt _ (by omega))
theorem cyc_map {a b c d : Int} {ps : List P3} (h : Cyc ps) (hD : a * d - b * c ≠ 0) : Cyc (ps.map (mapP a b c d)) := fun i hi => by
  rw [List.length_map] at hi
  rw [at3_map _ _ hi, nxt_map _ _ hi]
  have hm := h i hi
  generalize at3 ps i = p at *
  generalize nxt ps i = q at *
  by_cases hx : crossI p q = 0
  · right
    obtain ⟨k, Y, k1, k2, k3⟩ := same_way hm hx a b
    have hY : 0 < dotI p q := hm.resolve_left fun z => z hx
    have np : ¬ ((mapP a b c d p).1 = 0 ∧ (mapP a b c d p).2.1 = 0) := by
      rintro ⟨e1, e2⟩
      have n := (miss_nz hm).1
      unfold mapP at e1 e2
      simp only at e1 e2
      have f1 : (a * d - b * c) * p.1 = 0 := by grind
      have f2 : (a * d - b * c) * p.2.1 = 0 := by grind
      rcases Int.mul_eq_zero.mp f1 with z | z
      · exact hD z
      · rcases Int.mul_eq_zero.mp f2 with w | w
        · exact hD w
        · exact n ⟨z, w⟩
    have s := sq_pos np
    have n := sq_pos (miss_nz hm).1
    have id : (p.1 * p.1 + p.2.1 * p.2.1) * dotI (mapP a b c d p) (mapP a b c d q) = dotI p q * ((mapP a b c d p).1 * (mapP a b c d p).1 + (mapP a b c d p).2.1 * (mapP a b c d p).2.1) := by
      unfold crossI at hx
      unfold dotI mapP
      simp only
      grind
    have s2 := sg_P hY s
    rw [← id] at s2
    rcases Int.lt_trichotomy (dotI (mapP a b c d p) (mapP a b c d q)) 0 with z | z | z
    · have := sg_N n z; omega
    · rw [z, Int.mul_zero] at s2; omega
    · exact z
  · left
    rw [cross_map]
    exact fun z => (Int.mul_eq_zero.mp z).elim hD hx
/-- a mapped row goes round as often, or as often the other way -/
theorem rounds_map {a b c d : Int} {ps : List P3} (h : Cyc ps) (hD : a * d - b * c ≠ 0) : roundsI (ps.map (mapP a b c d)) = (if b * c < a * d then 1 else -1) * roundsI ps := by
  have ncd : ¬ (c = 0 ∧ d = 0) := by
    rintro ⟨rfl, rfl⟩
    simp at hD
  have e0 : roundsI (ps.map (mapP a b c d)) = sumTo (fun i => rayX (lin c d (at3 ps i)) (lin c d (nxt ps i)) ((a * d - b * c) * crossI (at3 ps i) (nxt ps i))) ps.length := by
    unfold roundsI
    rw [List.length_map]
    exact sumTo_congr _ fun i hi => by rw [at3_map _ _ hi, nxt_map _ _ hi, ray_map]
  have e1 : linSum c d ps = roundsI ps := (lin_sum_any h ncd (by omega)).trans (lin_y ps)
  rw [e0]
  by_cases hp : b * c < a * d
  · rw [if_pos hp, ← e1]
    unfold linSum
    rw [Int.one_mul]
    exact sumTo_congr _ fun i hi => ray_scale (by omega)
  · rw [if_neg hp, ← e1]
    unfold linSum
    have key : ∀ i, i < ps.length → rayX (lin c d (at3 ps i)) (lin c d (nxt ps i)) ((a * d - b * c) * crossI (at3 ps i) (nxt ps i)) =
        (-1) * rayX (lin c d (at3 ps i)) (lin c d (nxt ps i)) (crossI (at3 ps i) (nxt ps i)) + ((if 0 ≤ lin c d (at3 ps ((i + 1) % ps.length)) then 1 else 0) - (if 0 ≤ lin c d (at3 ps i) then 1 else 0)) := fun i hi => by
      have f1 : (a * d - b * c) * crossI (at3 ps i) (nxt ps i) = -(a * d - b * c) * -crossI (at3 ps i) (nxt ps i) := by rw [Int.neg_mul_neg]
      rw [f1, ray_scale (by omega), ray_flip fun hx => by
        obtain ⟨k, Y, k1, k2, k3⟩ := same_way (h i hi) hx c d
        exact pos_iff k1 k2 k3]
      unfold nxt
      omega
    rw [sumTo_congr _ key, sumTo_lin, sumTo_cyc fun i => if 0 ≤ lin c d (at3 ps i) then 1 else 0]
    omega
end VS

namespace VS
/-! ### a closed row begun elsewhere, backward, with points put in -/
theorem sumTo_sub (f g : Nat → Int) : ∀ n, sumTo (fun i => f i - g i) n = sumTo f n - sumTo g n
  | 0 => by simp [sumTo]
  | n + 1 => by simp only [sumTo]; rw [sumTo_sub f g n]; omega
theorem sumTo_one (g : Nat → Int) (n : Nat) : sumTo (fun i => g ((i + 1) % n)) n = sumTo g n := by
  have h := sumTo_cyc g n
  rw [sumTo_sub (fun i => g ((i + 1) % n)) g] at h
  omega
theorem sumTo_rot (f : Nat → Int) (n : Nat) : ∀ k, sumTo (fun i => f ((i + k) % n)) n = sumTo f n
  | 0 => sumTo_congr n fun i hi => by rw [Nat.add_zero, Nat.mod_eq_of_lt hi]
  | k + 1 => by
    rw [← sumTo_rot f n k, ← sumTo_one (fun j => f ((j + k) % n)) n]
    refine sumTo_congr n fun i hi => ?_
    show f ((i + (k + 1)) % n) = f (((i + 1) % n + k) % n)
    rw [Nat.mod_add_mod, show i + (k + 1) = i + 1 + k by omega]
theorem sumTo_head (g : Nat → Int) : ∀ n, sumTo g (n + 1) = g 0 + sumTo (fun i => g (i + 1)) n
  | 0 => by simp [sumTo]
  | n + 1 => by
    have := sumTo_head g n
    simp only [sumTo] at *
    omega
theorem sumTo_rev (f : Nat → Int) : ∀ n, sumTo (fun m => f (n - 1 - m)) n = sumTo f n
  | 0 => rfl
  | n + 1 => by
    rw [sumTo_head]
    have e : sumTo (fun i => f (n + 1 - 1 - (i + 1))) n = sumTo (fun m => f (n - 1 - m)) n := sumTo_congr n fun i hi => by rw [show n + 1 - 1 - (i + 1) = n - 1 - i by omega]
    rw [e, sumTo_rev f n]
    show f (n + 1 - 1 - 0) + sumTo f n = sumTo f n + f n
    rw [show n + 1 - 1 - 0 = n by omega]
    omega
def rot (ps : List P3) (k : Nat) : List P3 := ps.drop k ++ ps.take k
theorem rot_len (ps : List P3) (k : Nat) : (rot ps k).length = ps.length := by
  unfold rot
  rw [List.length_append, List.length_drop, List.length_take]
  omega
theorem at3_rot {ps : List P3} {k i : Nat} (hk : k ≤ ps.length) (hi : i < ps.length) : at3 (rot ps k) i = at3 ps ((i + k) % ps.length) := by
  unfold at3 rot
  simp only [List.getD]
  congr 1
  by_cases h : i < ps.length - k
  · rw [List.getElem?_append_left (by rw [List.length_drop]; omega), List.getElem?_drop, Nat.mod_eq_of_lt (by omega), Nat.add_comm k i]
  · rw [List.getElem?_append_right (by rw [List.length_drop]; omega), List.length_drop, List.getElem?_take, if_pos (by omega)]
    have e : (i + k) % ps.length = i - (ps.length - k) := by
      rw [show i + k = (i - (ps.length - k)) + ps.length by omega, Nat.add_mod_right, Nat.mod_eq_of_lt (by omega)]
    rw [e]
theorem nxt_rot {ps : List P3} {k i : Nat} (hk : k ≤ ps.length) (hi : i < ps.length) : nxt (rot ps k) i = nxt ps ((i + k) % ps.length) := by
  unfold nxt
  rw [rot_len, at3_rot hk (Nat.mod_lt _ (by omega)), Nat.mod_add_mod, Nat.mod_add_mod, show i + 1 + k = i + k + 1 by omega]
theorem cyc_rot {ps : List P3} {k : Nat} (hk : k ≤ ps.length) (h : Cyc ps) : Cyc (rot ps k) := fun i hi => by
  rw [rot_len] at hi
  rw [at3_rot hk hi, nxt_rot hk hi]
  exact h _ (Nat.mod_lt _ (by omega))
theorem rounds_rot {ps : List P3} {k : Nat} (hk : k ≤ ps.length) : roundsI (rot ps k) = roundsI ps := by
  unfold roundsI
  rw [rot_len, ← sumTo_rot (fun i => rayI (at3 ps i) (nxt ps i)) ps.length k]
  exact sumTo_congr _ fun i hi => by rw [at3_rot hk hi, nxt_rot hk hi]
def bwd (ps : List P3) : List P3 := (List.range ps.length).map fun k => at3 ps (ps.length - 1 - k)
theorem bwd_len (ps : List P3) : (bwd ps).length = ps.length := by simp [bwd]
theorem at3_bwd {ps : List P3} {i : Nat} (hi : i < ps.length) : at3 (bwd ps) i = at3 ps (ps.length - 1 - i) := by
  unfold bwd
  conv => lhs; unfold at3
  simp [List.getD, hi]
  rfl
theorem cross_sym (p q : P3) : crossI q p = - crossI p q := by
  unfold crossI
  grind
theorem miss_sym {p q : P3} (h : Miss p q) : Miss q p := by
  rcases h with h | h
  · left
    rw [cross_sym]
    omega
  · right
    have e : dotI q p = dotI p q := by
      unfold dotI
      grind
    omega
theorem ray_sym (p q : P3) : rayI q p = - rayI p q := by
  unfold rayI
  rw [cross_sym]
  unfold rayX
  repeat' split
  all_goals omega
theorem bwd_step {ps : List P3} {i : Nat} (hi : i < ps.length) : at3 (bwd ps) i = nxt ps (ps.length - 1 - (i + 1) % ps.length) ∧ nxt (bwd ps) i = at3 ps (ps.length - 1 - (i + 1) % ps.length) := by
  constructor
  · rw [at3_bwd hi]
    unfold nxt
    by_cases e : i + 1 = ps.length
    · rw [e, Nat.mod_self, show ps.length - 1 - 0 + 1 = ps.length by omega, Nat.mod_self, show ps.length - 1 - i = 0 by omega]
    · rw [Nat.mod_eq_of_lt (show i + 1 < ps.length by omega), show ps.length - 1 - (i + 1) + 1 = ps.length - 1 - i by omega, Nat.mod_eq_of_lt (by omega)]
  · have hn : (i + 1) % ps.length < ps.length := Nat.mod_lt _ (by omega)
    conv => lhs; unfold nxt
    rw [bwd_len, at3_bwd hn]
theorem cyc_bwd {ps : List P3} (h : Cyc ps) : Cyc (bwd ps) := fun i hi => by
  rw [bwd_len] at hi
  rw [(bwd_step hi).1, (bwd_step hi).2]
  exact miss_sym (h _ (by omega))
theorem rounds_bwd (ps : List P3) : roundsI (bwd ps) = - roundsI ps := by
  unfold roundsI
  rw [bwd_len, ← sumTo_neg, ← sumTo_rev (fun i => - rayI (at3 ps i) (nxt ps i)) ps.length, ← sumTo_one (fun m => - rayI (at3 ps (ps.length - 1 - m)) (nxt ps (ps.length - 1 - m))) ps.length]
  exact sumTo_congr _ fun i hi => by rw [(bwd_step hi).1, (bwd_step hi).2, ray_sym]
/-- a point between p and q -/
theorem between {p q r : P3} {u v : Int} (h : Miss p q) (hu : 0 < u) (hv : 0 < v) (h1 : r.1 = u * p.1 + v * q.1) (h2 : r.2.1 = u * p.2.1 + v * q.2.1) :
    Miss p r ∧ Miss r q ∧ rayI p r + rayI r q = rayI p q := by
  have c1 : crossI p r = v * crossI p q := by
    unfold crossI
    rw [h1, h2]
    grind
  have c2 : crossI r q = u * crossI p q := by
    unfold crossI
    rw [h1, h2]
    grind
  have n1 := sq_pos (miss_nz h).1
  have n2 := sq_pos (miss_nz h).2
  have d1 : dotI p r = u * (p.1 * p.1 + p.2.1 * p.2.1) + v * dotI p q := by
    unfold dotI
    rw [h1, h2]
    grind
  have d2 : dotI r q = u * dotI p q + v * (q.1 * q.1 + q.2.1 * q.2.1) := by
    unfold dotI
    rw [h1, h2]
    grind
  have m1 := sg_P hu n1
  have m2 := sg_P hv n2
  have r1 : rayI p r = rayX p.2.1 r.2.1 (crossI p q) := by
    unfold rayI
    rw [c1, ray_scale hv]
  have r2 : rayI r q = rayX r.2.1 q.2.1 (crossI p q) := by
    unfold rayI
    rw [c2, ray_scale hu]
  by_cases hx : crossI p q = 0
  · have hd : 0 < dotI p q := h.resolve_left fun z => z hx
    have m3 := sg_P hv hd
    have m4 := sg_P hu hd
    refine ⟨.inr (by omega), .inr (by omega), ?_⟩
    rw [r1, r2]
    unfold rayI rayX
    rw [hx]
    simp
  · refine ⟨.inl ?_, .inl ?_, ?_⟩
    · rw [c1]
      exact fun z => (Int.mul_eq_zero.mp z).elim (by omega) hx
    · rw [c2]
      exact fun z => (Int.mul_eq_zero.mp z).elim (by omega) hx
    · rw [r1, r2]
      unfold rayI
      have s1 : 0 ≤ p.2.1 → 0 ≤ q.2.1 → 0 ≤ r.2.1 := fun a b => by
        have := sg_nn (show 0 ≤ u by omega) a
        have := sg_nn (show 0 ≤ v by omega) b
        omega
      have s2 : p.2.1 < 0 → q.2.1 < 0 → r.2.1 < 0 := fun a b => by
        have := sg_N hu a
        have := sg_N hv b
        omega
      generalize crossI p q = X at *
      generalize r.2.1 = z at *
      generalize p.2.1 = y1 at *
      generalize q.2.1 = y2 at *
      unfold rayX
      by_cases a : y1 < 0 <;> by_cases b : y2 < 0
      · have := s2 a b
        repeat' split
        all_goals omega
      · repeat' split
        all_goals omega
      · repeat' split
        all_goals omega
      · have := s1 (by omega) (by omega)
        repeat' split
        all_goals omega
end VS

namespace VS
open PySem L2 PySem.Spec PyProof.Rows
local macro_rules | `(tactic| walk_at "vs") => `(tactic| simp (maxSteps := 400000) only [tSeqD, tIfSD, tRetD, retD, tSetD, tSetV, tVarD, tConD, tOpD, tUnD, tCaD, tCallD, tConsD, tNilD, tTupD, tLstD, tValD, tAndD, tOrD, tNotD, tIfD, tAndDV, tOrDV, tNotDV, tAsgD, tParD, tPar3D, tNamG, tTupG, tNilG, tConsG, tUnlG, tDropD, tNextD, tBrkD, tCntD, tNeverD, tStoD, tMetD, tSlLD, tNoPartD, tPartD, tChD, tIsiD, tIsiTD, tIsi3D, tFrzD, q0, tYesD, wipeD,
  gI0, gII, gIB, gAdd, gU, gEq, gIx, gIsN, gLen, gInt, gAbs, gBool, gList, gTupC, mAppend, mPop, mPopAt, mInsert, mReverse, rd, rds, vl, vls, slR, nob, mkArgs, bors, putOwns, edOf, outsP, noR, shD, eqD,
  List.getElem?_cons_zero, List.getElem?_cons_succ, List.getElem?_nil, List.set_cons_zero, List.set_cons_succ, List.cons_append, List.nil_append, List.length_cons, List.length_nil, List.replicate, Nat.add_sub_cancel, Nat.sub_self, Nat.reduceAdd, Nat.reduceSub, Int.reduceToNat, Int.reducePow, Int.reduceNeg, Int.reduceAdd, Int.reduceSub, Int.reduceMul, id_eq, true_and, and_true, List.nodup_nil, if_true, if_false, List.nodup_cons, List.not_mem_nil, not_false_eq_true, Bool.not_true, Bool.not_false, Bool.true_or, Bool.or_false, Bool.false_or, decide_eq_true_eq, Bool.false_eq_true, XF,
  Bool.or_true, bne_self_eq_false, isT_dict_non, isT_dict_bl, isT_dict_int, isT_dict_str, isT_dict_tup, isT_dict_lst, isT_list_non, isT_list_bl, isT_list_int, isT_list_str, isT_list_tup, isT_list_lst, isT_tuple_non, isT_tuple_bl, isT_tuple_int, isT_tuple_str, isT_tuple_tup, isT_tuple_lst, isT_bool_non, isT_bool_bl, isT_bool_int, isT_bool_str, isT_bool_tup, isT_bool_lst, isT_str_non, isT_str_bl, isT_str_int, isT_str_str, isT_str_tup, isT_str_lst, isT_int_non, isT_int_bl, isT_int_int, isT_int_str, isT_int_tup, isT_int_lst,
  atI0, atI1, atI2, atI3, atI4, ixN51, ixN52, ixN53, ixN54])
local macro_rules | `(tactic| walk_at "vh") => `(tactic| simp (maxSteps := 400000) only [tSeqD, tIfSD, tRetD, retD, tSetD, tSetV, tVarD, tConD, tOpD, tUnD, tCaD, tCallD, tConsD, tNilD, tTupD, tLstD, tValD, tAndD, tOrD, tNotD, tIfD, tAndDV, tOrDV, tNotDV, tAsgD, tParD, tPar3D, tNamG, tTupG, tNilG, tConsG, tUnlG, tDropD, tNextD, tBrkD, tCntD, tNeverD, tStoD, tMetD, tSlLD, tNoPartD, tPartD, tChD, tIsiD, tIsiTD, tIsi3D, tFrzD, q0, tYesD, wipeD,
  gI0, gII, gIB, gAdd, gU, gEq, gIx, gIsN, gLen, gInt, gAbs, gBool, gList, gTupC, mAppend, mPop, mPopAt, mInsert, mReverse, rd, rds, vl, vls, slR, nob, mkArgs, bors, putOwns, edOf, outsP, noR, shD, eqD,
  List.getElem?_cons_zero, List.getElem?_cons_succ, List.getElem?_nil, List.set_cons_zero, List.set_cons_succ, List.cons_append, List.nil_append, List.length_cons, List.length_nil, List.replicate, Nat.add_sub_cancel, Nat.sub_self, Nat.reduceAdd, Nat.reduceSub, Int.reduceToNat, Int.reducePow, Int.reduceNeg, Int.reduceAdd, Int.reduceSub, Int.reduceMul, id_eq, true_and, and_true, List.nodup_nil, if_true, if_false, List.nodup_cons, List.not_mem_nil, not_false_eq_true, Bool.not_true, Bool.not_false, Bool.true_or, Bool.or_false, Bool.false_or, decide_eq_true_eq, Bool.false_eq_true, XF,
  Bool.or_true, bne_self_eq_false, isT_dict_non, isT_dict_bl, isT_dict_int, isT_dict_str, isT_dict_tup, isT_dict_lst, isT_list_non, isT_list_bl, isT_list_int, isT_list_str, isT_list_tup, isT_list_lst, isT_tuple_non, isT_tuple_bl, isT_tuple_int, isT_tuple_str, isT_tuple_tup, isT_tuple_lst, isT_bool_non, isT_bool_bl, isT_bool_int, isT_bool_str, isT_bool_tup, isT_bool_lst, isT_str_non, isT_str_bl, isT_str_int, isT_str_str, isT_str_tup, isT_str_lst, isT_int_non, isT_int_bl, isT_int_int, isT_int_str, isT_int_tup, isT_int_lst,
  atI0, atI1, atI2, atI3, atI4, ixN51, ixN52, ixN53, ixN54, *])
local macro_rules | `(tactic| walk_at "lf") => `(tactic| ((repeat' (with_reducible apply And.intro)) <;> first | exact mulR (by decide) (by decide) | exact pow1018 | exact pow3 (by omega) | exact divB (by omega) (by omega) | exact Int.emod_nonneg _ (by omega) | exact Int.emod_lt_of_pos _ (by omega) | exact Int.ediv_nonneg (by omega) (by omega) | omega | decide | assumption | skip))

/-- slots: 0 script, 1 mix, 2 item -/
def T__law_bag : TDs :=
  (tSeqD (tSetV 1 (tOpD gAdd (tConD (.int 1618000)) (tConD (.int 23))))
  (tCutD (tForLD (tSlLD (tVarD 0) tNoPartD (tPartD (tConD (.int 63)))) (tNamG 2) (tSetV 1 (tOpD (gII (fun _ j => 0 < j) (· % ·)) (tCaD gInt (tConsD (tOpD gAdd (tOpD gAdd (tOpD (gII CMulA (· * ·)) (tVarD 1) (tConD (.int 48271))) (tOpD (gII (fun _ j => 0 < j) (· % ·)) (tCaD gInt (tConsD (tVarD 2) tNilD)) (tConD (.int 2147483587)))) (tConD (.int 311))) tNilD)) (tConD (.int 2147483629)))))
  (tRetD (tLstD (tConsD (tCaD gList (tConsD (tSlLD (tVarD 0) tNoPartD (tPartD (tConD (.int 63)))) tNilD)) (tConsD (tConD (.int 0)) (tConsD (tConD (.int 0)) (tConsD (tVarD 1) (tConsD (tConD (.int 0)) tNilD)))))))))
theorem rd__law_bag {args : En} {Φ : Res → List D → Prop} {Ψ : Xc → List D → Prop} (h : sp__law_bag args Φ Ψ) : T__law_bag (edOf args Φ XN) (noR ["script", "mix", "item"] args) := by
  obtain ⟨ns, rfl, h⟩ := h
  unfold T__law_bag
  walk_at "vs"
  refine ⟨fun en => ∃ m v, en = [.val (.lst (ns.map D.int)), .val (.int m), v] ∧ 0 ≤ m ∧ m < 2147483648, forLo_i (fun _ en => ∃ m v, en = [.val (.lst (ns.map D.int)), .val (.int m), v] ∧ 0 ≤ m ∧ m < 2147483648) (en1 := [.val (.lst (ns.map D.int)), .val (.int 1618023), .no]) (ds := (cutG ns none (some 63)).map D.int) (fun Φ z => ?_) ⟨_, _, rfl, by omega, by omega⟩ ?_ fun en z => z, ?_⟩
  · walk_at "vs"
    simp only [cut_map]
    exact z
  · rintro i d en hd ⟨m, v, rfl, h0, h1⟩
    obtain ⟨z, _, rfl⟩ := get_map hd
    walk_at "vs"
    exact ⟨mulR (by decide) (by decide), by decide, by decide, _, _, rfl, by omega, by omega⟩
  · rintro en ⟨m, v, rfl, h0, h1⟩
    walk_at "vs"
    simp only [cut_map]
    intro p1 p2
    exact ⟨sz1000 (by decide), fun p3 => h p3 _ ⟨_, _, _, _, _, rfl, by omega, by omega, h0, h1⟩⟩
/-- slots: 0 bag, 1 size, 2 item, 3 digit -/
def T__law_draw : TDs :=
  (tSeqD (tStoD 0 (tOpD gAdd (tOpD gIx (tVarD 0) (tConD (.int 4))) (tConD (.int 1))) (tConD (.int 4)))
  (tSeqD (tIfSD (tAndD (tValD (tOpD (gEq id) (tOpD gIx (tVarD 0) (tConD (.int 2))) (tConD (.int 0)))) (tValD (tOpD (gIB fun i j => decide (i < j)) (tOpD gIx (tVarD 0) (tConD (.int 1))) (tCaD gLen (tConsD (tOpD gIx (tVarD 0) (tConD (.int 0))) tNilD))))) (tSeqD (tSetV 2 (tOpD gIx (tOpD gIx (tVarD 0) (tConD (.int 0))) (tOpD gIx (tVarD 0) (tConD (.int 1)))))
  (tSeqD (tStoD 0 (tOpD gAdd (tOpD gIx (tVarD 0) (tConD (.int 1))) (tConD (.int 1))) (tConD (.int 1)))
  (tIfSD (tValD (tOpD (gIB fun i j => decide (j ≤ i)) (tVarD 2) (tOpD (gII CPow fun i j => i ^ j.toNat) (tConD (.int 10)) (tConD (.int 18))))) (tStoD 0 (tVarD 2) (tConD (.int 2))) (tStoD 0 (tOpD (gII (fun _ j => 0 < j) (· % ·)) (tCaD gInt (tConsD (tOpD gAdd (tOpD gAdd (tOpD (gII CMulA (· * ·)) (tOpD gIx (tVarD 0) (tConD (.int 3))) (tConD (.int 69621))) (tOpD (gII CMulA (· * ·)) (tOpD (gII (fun _ j => 0 < j) (· % ·)) (tCaD gInt (tConsD (tVarD 2) tNilD)) (tConD (.int 2147483549))) (tConD (.int 30103)))) (tConD (.int 97))) tNilD)) (tConD (.int 2147483629))) (tConD (.int 3)))))) tNextD)
  (tSeqD (tIfSD (tValD (tOpD (gIB fun i j => decide (j < i)) (tOpD gIx (tVarD 0) (tConD (.int 2))) (tConD (.int 0)))) (tSeqD (tSetV 3 (tOpD (gII (fun _ j => 0 < j) (· % ·)) (tCaD gInt (tConsD (tOpD gIx (tVarD 0) (tConD (.int 2))) tNilD)) (tVarD 1)))
  (tSeqD (tStoD 0 (tOpD (gII CDivW (· / ·)) (tOpD gIx (tVarD 0) (tConD (.int 2))) (tVarD 1)) (tConD (.int 2)))
  (tRetD (tVarD 3)))) tNextD)
  (tSeqD (tStoD 0 (tOpD (gII (fun _ j => 0 < j) (· % ·)) (tCaD gInt (tConsD (tOpD gAdd (tOpD gAdd (tOpD (gII CPow fun i j => i ^ j.toNat) (tOpD gIx (tVarD 0) (tConD (.int 3))) (tConD (.int 3))) (tOpD (gII CMulA (· * ·)) (tOpD gIx (tVarD 0) (tConD (.int 4))) (tConD (.int 1299709)))) (tConD (.int 60013))) tNilD)) (tConD (.int 2147483629))) (tConD (.int 3)))
  (tRetD (tOpD (gII (fun _ j => 0 < j) (· % ·)) (tCaD gInt (tConsD (tOpD gAdd (tOpD (gII CDivW (· / ·)) (tOpD gIx (tVarD 0) (tConD (.int 3))) (tConD (.int 97))) (tOpD (gII CMulA (· * ·)) (tOpD (gII (fun _ j => 0 < j) (· % ·)) (tCaD gInt (tConsD (tOpD gIx (tVarD 0) (tConD (.int 3))) tNilD)) (tConD (.int 7901))) (tConD (.int 67)))) tNilD)) (tVarD 1)))))))
theorem rd__law_draw {args : En} {Φ : Res → List D → Prop} {Ψ : Xc → List D → Prop} (h : sp__law_draw args Φ Ψ) : T__law_draw (edOf args Φ XN) (noR ["bag", "size", "item", "digit"] args) := by
  obtain ⟨a, d, size, rfl, ⟨ns, i, b, m, c, rfl, hi, hb, hm, hm2⟩, hs, hs2, h⟩ := h
  unfold T__law_draw bagD
  walk_at "vs"
  have tail : ∀ (i' b' m' : Int) (z : Sl), 0 ≤ i' → 0 ≤ b' → 0 ≤ m' → m' < 2147483648 → True := fun _ _ _ _ _ _ _ _ => trivial
  by_cases hb0 : b = 0
  · rw [if_pos hb0]
    by_cases hi2 : i < ((ns.map D.int).length : Int)
    · rw [if_pos hi2]
      rw [List.length_map] at hi2
      obtain ⟨z, hz⟩ : ∃ z, ns[i.toNat]? = some z := ⟨_, List.getElem?_eq_getElem (by omega)⟩
      rw [atI_int hi (v := D.int z) (by rw [List.getElem?_map, hz]; rfl)]
      walk_at "vs"
      refine ⟨pow1018, ?_⟩
      split
      · split
        · walk_at "lf"
          all_goals exact h _ _ (Int.emod_nonneg _ (by omega)) (Int.emod_lt_of_pos _ hs) ⟨_, _, _, _, _, rfl, by omega, Int.ediv_nonneg (by omega) (by omega), hm, hm2⟩
        · walk_at "lf"
          all_goals exact h _ _ (Int.emod_nonneg _ (by omega)) (Int.emod_lt_of_pos _ hs) ⟨_, _, _, _, _, rfl, by omega, by omega, by omega, by omega⟩
      · refine ⟨mulR (by decide) (by decide), by decide, mulR (by decide) (by decide), by decide, ?_⟩
        split
        · omega
        · walk_at "lf"
          all_goals exact h _ _ (Int.emod_nonneg _ (by omega)) (Int.emod_lt_of_pos _ hs) ⟨_, _, _, _, _, rfl, by omega, by omega, by omega, by omega⟩
    · rw [if_neg hi2]
      split
      · exfalso; omega
      · walk_at "lf"
        all_goals exact h _ _ (Int.emod_nonneg _ (by omega)) (Int.emod_lt_of_pos _ hs) ⟨_, _, _, _, _, rfl, by omega, by omega, by omega, by omega⟩
  · rw [if_neg hb0]
    split
    · walk_at "lf"
      all_goals exact h _ _ (Int.emod_nonneg _ (by omega)) (Int.emod_lt_of_pos _ hs) ⟨_, _, _, _, _, rfl, by omega, Int.ediv_nonneg (by omega) (by omega), hm, hm2⟩
    · walk_at "lf"
      all_goals exact h _ _ (Int.emod_nonneg _ (by omega)) (Int.emod_lt_of_pos _ hs) ⟨_, _, _, _, _, rfl, by omega, by omega, by omega, by omega⟩
/-- slots: 0 bag, 1 things -/
def T__law_of : TDs :=
  (tRetD (tOpD gIx (tVarD 1) (tCallD 2 (q0 sp__law_draw) (tConsD (tVarD 0) (tConsD (tCaD gLen (tConsD (tVarD 1) tNilD)) tNilD)))))
theorem rd__law_of {args : En} {Φ : Res → List D → Prop} {Ψ : Xc → List D → Prop} (h : sp__law_of args Φ Ψ) : T__law_of (edOf args Φ XN) (noR ["bag", "things"] args) := by
  obtain ⟨a, d, ds, rfl, hb, hne, hl, h⟩ := h
  unfold T__law_of sp__law_draw
  walk_at "vs"
  have hp : 0 < ds.length := List.length_pos_iff.mpr hne
  refine ⟨a, d, _, rfl, hb, by omega, by omega, fun k d' h0 h1 hb' => ?_⟩
  obtain ⟨x, hx⟩ : ∃ x, ds[k.toNat]? = some x := ⟨_, List.getElem?_eq_getElem (by omega)⟩
  rw [atI_int h0 hx]
  exact h x d' (List.mem_of_getElem? hx) hb'
end VS

namespace VS
open PySem L2 PySem.Spec PyProof.Rows
local macro_rules | `(tactic| walk_at "vs") => `(tactic| simp (maxSteps := 400000) only [tSeqD, tRaiseCrosses, tTryD, tFldCrosses, tIfSD, tRetD, retD, tSetD, tSetV, tVarD, tConD, tOpD, tUnD, tCaD, tCallD, tConsD, tNilD, tTupD, tLstD, tValD, tAndD, tOrD, tNotD, tIfD, tAndDV, tOrDV, tNotDV, tAsgD, tParD, tPar3D, tNamG, tTupG, tNilG, tConsG, tUnlG, tDropD, tNextD, tBrkD, tCntD, tNeverD, tStoD, tMetD, tSlLD, tNoPartD, tPartD, tChD, tIsiD, tIsiTD, tIsi3D, tFrzD, q0, tYesD, wipeD,
  gI0, gII, gIB, gAdd, gU, gEq, gIx, gIsN, gLen, gInt, gAbs, gBool, gList, gTupC, mAppend, mPop, mPopAt, mInsert, mReverse, rd, rds, vl, vls, slR, nob, mkArgs, bors, putOwns, edOf, outsP, noR, shD, eqD,
  List.getElem?_cons_zero, List.getElem?_cons_succ, List.getElem?_nil, List.set_cons_zero, List.set_cons_succ, List.cons_append, List.nil_append, List.length_cons, List.length_nil, List.replicate, Nat.add_sub_cancel, Nat.sub_self, Nat.reduceAdd, Nat.reduceSub, Int.reduceToNat, Int.reducePow, Int.reduceNeg, Int.reduceAdd, Int.reduceSub, Int.reduceMul, id_eq, true_and, and_true, List.nodup_nil, if_true, if_false, List.nodup_cons, List.not_mem_nil, not_false_eq_true, Bool.not_true, Bool.not_false, Bool.true_or, Bool.or_false, Bool.false_or, decide_eq_true_eq, Bool.false_eq_true, XF,
  Bool.or_true, bne_self_eq_false, isT_dict_non, isT_dict_bl, isT_dict_int, isT_dict_str, isT_dict_tup, isT_dict_lst, isT_list_non, isT_list_bl, isT_list_int, isT_list_str, isT_list_tup, isT_list_lst, isT_tuple_non, isT_tuple_bl, isT_tuple_int, isT_tuple_str, isT_tuple_tup, isT_tuple_lst, isT_bool_non, isT_bool_bl, isT_bool_int, isT_bool_str, isT_bool_tup, isT_bool_lst, isT_str_non, isT_str_bl, isT_str_int, isT_str_str, isT_str_tup, isT_str_lst, isT_int_non, isT_int_bl, isT_int_int, isT_int_str, isT_int_tup, isT_int_lst,
  atI0, atI1, atI2, atI3, atI4, ixN51, ixN52, ixN53, ixN54])
local macro_rules | `(tactic| walk_at "vh") => `(tactic| simp (maxSteps := 400000) only [tSeqD, tRaiseCrosses, tTryD, tFldCrosses, tIfSD, tRetD, retD, tSetD, tSetV, tVarD, tConD, tOpD, tUnD, tCaD, tCallD, tConsD, tNilD, tTupD, tLstD, tValD, tAndD, tOrD, tNotD, tIfD, tAndDV, tOrDV, tNotDV, tAsgD, tParD, tPar3D, tNamG, tTupG, tNilG, tConsG, tUnlG, tDropD, tNextD, tBrkD, tCntD, tNeverD, tStoD, tMetD, tSlLD, tNoPartD, tPartD, tChD, tIsiD, tIsiTD, tIsi3D, tFrzD, q0, tYesD, wipeD,
  gI0, gII, gIB, gAdd, gU, gEq, gIx, gIsN, gLen, gInt, gAbs, gBool, gList, gTupC, mAppend, mPop, mPopAt, mInsert, mReverse, rd, rds, vl, vls, slR, nob, mkArgs, bors, putOwns, edOf, outsP, noR, shD, eqD,
  List.getElem?_cons_zero, List.getElem?_cons_succ, List.getElem?_nil, List.set_cons_zero, List.set_cons_succ, List.cons_append, List.nil_append, List.length_cons, List.length_nil, List.replicate, Nat.add_sub_cancel, Nat.sub_self, Nat.reduceAdd, Nat.reduceSub, Int.reduceToNat, Int.reducePow, Int.reduceNeg, Int.reduceAdd, Int.reduceSub, Int.reduceMul, id_eq, true_and, and_true, List.nodup_nil, if_true, if_false, List.nodup_cons, List.not_mem_nil, not_false_eq_true, Bool.not_true, Bool.not_false, Bool.true_or, Bool.or_false, Bool.false_or, decide_eq_true_eq, Bool.false_eq_true, XF,
  Bool.or_true, bne_self_eq_false, isT_dict_non, isT_dict_bl, isT_dict_int, isT_dict_str, isT_dict_tup, isT_dict_lst, isT_list_non, isT_list_bl, isT_list_int, isT_list_str, isT_list_tup, isT_list_lst, isT_tuple_non, isT_tuple_bl, isT_tuple_int, isT_tuple_str, isT_tuple_tup, isT_tuple_lst, isT_bool_non, isT_bool_bl, isT_bool_int, isT_bool_str, isT_bool_tup, isT_bool_lst, isT_str_non, isT_str_bl, isT_str_int, isT_str_str, isT_str_tup, isT_str_lst, isT_int_non, isT_int_bl, isT_int_int, isT_int_str, isT_int_tup, isT_int_lst,
  atI0, atI1, atI2, atI3, atI4, ixN51, ixN52, ixN53, ixN54, *])
local macro_rules | `(tactic| walk_at "lf") => `(tactic| ((repeat' (with_reducible apply And.intro)) <;> first | exact mulR (by decide) (by decide) | exact pow1018 | exact pow3 (by omega) | exact divB (by omega) (by omega) | exact Int.emod_nonneg _ (by omega) | exact Int.emod_lt_of_pos _ (by omega) | exact Int.ediv_nonneg (by omega) (by omega) | omega | decide | assumption | skip))

def dP (p : P3) : D := .tup [.int p.1, .int p.2.1, .int p.2.2]
def Bp (p : P3) : Prop := p.1.natAbs < 2 ^ 200 ∧ p.2.1.natAbs < 2 ^ 200
theorem mul200 {i j : Int} (hi : i.natAbs < 2 ^ 200) (hj : j.natAbs < 2 ^ 200) : CMulA i j := mulB 200 200 hi hj
def spTwo (g : P3 → P3 → D) : Spc := fun args Φ _ => ∃ p q : P3, args = [.val (dP p), .val (dP q)] ∧ Bp p ∧ Bp q ∧ Φ (.val (g p q)) []
def sp_cross : Spc := spTwo fun p q => .int (crossI p q)
def sp_misses : Spc := spTwo fun p q => .bl (decide (Miss p q))
def sp__law_misses : Spc := spTwo fun p q => .bl (decide (Miss p q))
def sp_ray_count : Spc := spTwo fun p q => .int (rayI p q)
theorem miss_if (p q : P3) : decide (Miss p q) = if crossI p q = 0 then decide (0 < dotI p q) else true := by
  unfold Miss
  by_cases h : crossI p q = 0 <;> simp [h]
/-- slots: 0 p, 1 q -/
def T_cross : TDs :=
  (tRetD (tOpD (gI0 (· - ·)) (tOpD (gII CMulA (· * ·)) (tOpD gIx (tVarD 0) (tConD (.int 0))) (tOpD gIx (tVarD 1) (tConD (.int 1)))) (tOpD (gII CMulA (· * ·)) (tOpD gIx (tVarD 0) (tConD (.int 1))) (tOpD gIx (tVarD 1) (tConD (.int 0))))))
theorem rd_cross {args : En} {Φ : Res → List D → Prop} {Ψ : Xc → List D → Prop} (h : sp_cross args Φ Ψ) : T_cross (edOf args Φ XN) (noR ["p", "q"] args) := by
  obtain ⟨p, q, rfl, hp, hq, h⟩ := h
  unfold T_cross dP
  walk_at "vs"
  exact ⟨mul200 hp.1 hq.2, mul200 hp.2 hq.1, h⟩
/-- slots: 0 p, 1 q -/
def T_misses : TDs :=
  (tSeqD (tIfSD (tValD (tOpD (gEq not) (tCallD 2 (q0 sp_cross) (tConsD (tVarD 0) (tConsD (tVarD 1) tNilD))) (tConD (.int 0)))) (tRetD (tConD (.bl true))) tNextD)
  (tRetD (tOpD (gIB fun i j => decide (j < i)) (tOpD gAdd (tOpD (gII CMulA (· * ·)) (tOpD gIx (tVarD 0) (tConD (.int 0))) (tOpD gIx (tVarD 1) (tConD (.int 0)))) (tOpD (gII CMulA (· * ·)) (tOpD gIx (tVarD 0) (tConD (.int 1))) (tOpD gIx (tVarD 1) (tConD (.int 1))))) (tConD (.int 0)))))
theorem rd_misses {args : En} {Φ : Res → List D → Prop} {Ψ : Xc → List D → Prop} (h : sp_misses args Φ Ψ) : T_misses (edOf args Φ XN) (noR ["p", "q"] args) := by
  obtain ⟨p, q, rfl, hp, hq, h⟩ := h
  replace h : Φ (.val (.bl (decide (Miss p q)))) [] := h
  rw [miss_if] at h
  unfold T_misses sp_cross spTwo
  walk_at "vs"
  refine ⟨p, q, rfl, hp, hq, ?_⟩
  unfold dP
  walk_at "vs"
  split
  · rename_i z
    rw [if_neg (by simpa using z)] at h
    exact h
  · rename_i z
    rw [if_pos (by simpa using z)] at h
    exact ⟨mul200 hp.1 hq.1, mul200 hp.2 hq.2, h⟩
/-- slots: 0 p, 1 q -/
def T__law_misses : TDs :=
  (tRetD (tOrDV (tOpD (gEq not) (tOpD (gII CMulA (· * ·)) (tOpD gIx (tVarD 0) (tConD (.int 0))) (tOpD gIx (tVarD 1) (tConD (.int 1)))) (tOpD (gII CMulA (· * ·)) (tOpD gIx (tVarD 0) (tConD (.int 1))) (tOpD gIx (tVarD 1) (tConD (.int 0))))) (tOpD (gIB fun i j => decide (j < i)) (tOpD gAdd (tOpD (gII CMulA (· * ·)) (tOpD gIx (tVarD 0) (tConD (.int 0))) (tOpD gIx (tVarD 1) (tConD (.int 0)))) (tOpD (gII CMulA (· * ·)) (tOpD gIx (tVarD 0) (tConD (.int 1))) (tOpD gIx (tVarD 1) (tConD (.int 1))))) (tConD (.int 0)))))
theorem rd__law_misses {args : En} {Φ : Res → List D → Prop} {Ψ : Xc → List D → Prop} (h : sp__law_misses args Φ Ψ) : T__law_misses (edOf args Φ XN) (noR ["p", "q"] args) := by
  obtain ⟨p, q, rfl, hp, hq, h⟩ := h
  replace h : Φ (.val (.bl (decide (Miss p q)))) [] := h
  rw [miss_if] at h
  unfold T__law_misses dP
  walk_at "vs"
  refine ⟨mul200 hp.1 hq.2, mul200 hp.2 hq.1, ?_⟩
  split
  · rename_i z
    rw [if_neg (by unfold crossI; simp at z; omega)] at h
    exact h
  · rename_i z
    rw [if_pos (by unfold crossI; simp at z; omega)] at h
    exact ⟨mul200 hp.1 hq.1, mul200 hp.2 hq.2, h⟩
/-- slots: 0 p, 1 q -/
def T_ray_count : TDs :=
  (tSeqD (tIfSD (tAndD (tValD (tOpD (gIB fun i j => decide (i < j)) (tOpD gIx (tVarD 0) (tConD (.int 1))) (tConD (.int 0)))) (tAndD (tValD (tOpD (gIB fun i j => decide (j ≤ i)) (tOpD gIx (tVarD 1) (tConD (.int 1))) (tConD (.int 0)))) (tValD (tOpD (gIB fun i j => decide (j < i)) (tCallD 2 (q0 sp_cross) (tConsD (tVarD 0) (tConsD (tVarD 1) tNilD))) (tConD (.int 0)))))) (tRetD (tConD (.int 1))) tNextD)
  (tSeqD (tIfSD (tAndD (tValD (tOpD (gIB fun i j => decide (j ≤ i)) (tOpD gIx (tVarD 0) (tConD (.int 1))) (tConD (.int 0)))) (tAndD (tValD (tOpD (gIB fun i j => decide (i < j)) (tOpD gIx (tVarD 1) (tConD (.int 1))) (tConD (.int 0)))) (tValD (tOpD (gIB fun i j => decide (i < j)) (tCallD 2 (q0 sp_cross) (tConsD (tVarD 0) (tConsD (tVarD 1) tNilD))) (tConD (.int 0)))))) (tRetD (tUnD (gU fun i => -i) (tConD (.int 1)))) tNextD)
  (tRetD (tConD (.int 0)))))
theorem rd_ray_count {args : En} {Φ : Res → List D → Prop} {Ψ : Xc → List D → Prop} (h : sp_ray_count args Φ Ψ) : T_ray_count (edOf args Φ XN) (noR ["p", "q"] args) := by
  obtain ⟨p, q, rfl, hp, hq, h⟩ := h
  have ha : ∀ Ψ' : Res → List D → Prop, (Ψ' (.val (.int (crossI p q))) []) → sp_cross [.val (dP p), .val (dP q)] Ψ' XN := fun Ψ' z => ⟨p, q, rfl, hp, hq, z⟩
  have e0 : dP p = .tup [.int p.1, .int p.2.1, .int p.2.2] := rfl
  have e1 : dP q = .tup [.int q.1, .int q.2.1, .int q.2.2] := rfl
  rw [e0, e1] at ha
  unfold rayI rayX at h
  unfold T_ray_count
  rw [e0, e1]
  walk_at "vs"
  have last : (∀ k, (if p.2.1 < 0 ∧ 0 ≤ q.2.1 ∧ 0 < crossI p q then (1 : Int) else if 0 ≤ p.2.1 ∧ q.2.1 < 0 ∧ crossI p q < 0 then -1 else 0) = k → Φ (.val (.int k)) []) := fun k e => by rw [← e]; exact h
  repeat' (first
    | (refine ha _ ?_; walk_at "vs")
    | split)
  all_goals first
    | (refine last _ ?_; repeat' split; all_goals omega)
    | (exfalso; omega)
def PW (p : P3) : Prop := 0 < p.2.2 ∧ p.2.2 < 2 ^ 44
def gI (p : P3) : Int := (Int.gcd (Int.gcd p.1 p.2.1 : Nat) p.2.2 : Nat)
def lowI (p : P3) : P3 := (p.1 / gI p, p.2.1 / gI p, p.2.2 / gI p)
theorem gI_pos {p : P3} (h : PW p) : 0 < gI p ∧ gI p < 2 ^ 44 := by
  obtain ⟨x, y, w⟩ := p
  obtain ⟨h1, h2⟩ := h
  simp only at h1 h2
  have e : gI (x, y, w) = ((Nat.gcd (Int.gcd x y) w.natAbs : Nat) : Int) := rfl
  rw [e]
  have hw : 0 < w.natAbs := by omega
  have a1 := Nat.gcd_pos_of_pos_right (Int.gcd x y) hw
  have a2 := Nat.gcd_le_right (Int.gcd x y) hw
  omega
/-- slots: 0 point, 1 x, 2 y, 3 w, 4 common -/
def T_lowest_point : TDs :=
  (tCutD (tAsgD (tVarD 0) (tTupG 3 (tConsG (tNamG 1) (tConsG (tNamG 2) (tConsG (tNamG 3) tNilG)))))
  (tCutD (tSetV 4 (tCaD gGcd (tConsD (tCaD gGcd (tConsD (tVarD 1) (tConsD (tVarD 2) tNilD))) (tConsD (tVarD 3) tNilD))))
  (tRetD (tTupD (tConsD (tOpD (gII CDivW (· / ·)) (tVarD 1) (tVarD 4)) (tConsD (tOpD (gII CDivW (· / ·)) (tVarD 2) (tVarD 4)) (tConsD (tOpD (gII CDivW (· / ·)) (tVarD 3) (tVarD 4)) tNilD)))))))
def sp_lowest_point : Spc := fun args Φ _ => ∃ p : P3, args = [.val (dP p)] ∧ PW p ∧ Φ (.val (dP (lowI p))) []
theorem rd_lowest_point {args : En} {Φ : Res → List D → Prop} {Ψ : Xc → List D → Prop} (h : sp_lowest_point args Φ Ψ) : T_lowest_point (edOf args Φ XN) (noR ["point", "x", "y", "w", "common"] args) := by
  obtain ⟨p, rfl, hp, h⟩ := h
  obtain ⟨g1, g2⟩ := gI_pos hp
  unfold T_lowest_point
  refine ⟨fun en => en = [.val (dP p), .val (.int p.1), .val (.int p.2.1), .val (.int p.2.2), .no], ?_, ?_⟩
  · unfold dP
    walk_at "vs"
  rintro _ rfl
  refine ⟨fun en => en = [.val (dP p), .val (.int p.1), .val (.int p.2.1), .val (.int p.2.2), .val (.int (gI p))], ?_, ?_⟩
  · walk_at "vs"
    rfl
  rintro _ rfl
  walk_at "vs"
  exact ⟨divB g1 (by omega), divB g1 (by omega), divB g1 (by omega), sz1000 (by decide), h⟩
def badD (p q : P3) : D := .tup [dP (lowI p), dP (lowI q)]
def badX (C : Addr) (p q : P3) : Xc := ⟨.ref C, some ("where", badD p q)⟩
def sp_step_count (C : Addr) : Spc := fun args Φ Ψ => ∃ p q : P3, args = [.val (dP p), .val (dP q)] ∧ Bp p ∧ Bp q ∧ PW p ∧ PW q ∧ (Miss p q → Φ (.val (.int (rayI p q))) []) ∧ (¬ Miss p q → Ψ (badX C p q) [])
/-- slots: 0 p, 1 q -/
def T_step_count (C : Addr) : TDs :=
  (tSeqD (tIfSD (tNotD (tValD (tCallD 2 (q0 sp_misses) (tConsD (tVarD 0) (tConsD (tVarD 1) tNilD))))) (tRaiseCrosses C (tConsD (tTupD (tConsD (tCallD 1 (q0 sp_lowest_point) (tConsD (tVarD 0) tNilD)) (tConsD (tCallD 1 (q0 sp_lowest_point) (tConsD (tVarD 1) tNilD)) tNilD))) tNilD)) tNextD)
  (tRetD (tCallD 2 (q0 sp_ray_count) (tConsD (tVarD 0) (tConsD (tVarD 1) tNilD)))))
theorem rd_step_count {C : Addr} {args : En} {Φ : Res → List D → Prop} {Ψ : Xc → List D → Prop} (h : sp_step_count C args Φ Ψ) : T_step_count C (edOf args Φ Ψ) (noR ["p", "q"] args) := by
  obtain ⟨p, q, rfl, hp, hq, wp, wq, h, k⟩ := h
  unfold T_step_count sp_misses sp_ray_count spTwo sp_lowest_point
  walk_at "vs"
  refine ⟨p, q, rfl, hp, hq, ?_⟩
  by_cases hm : Miss p q
  · rw [decide_eq_true hm]
    walk_at "vs"
    exact ⟨p, q, rfl, hp, hq, h hm⟩
  · rw [decide_eq_false hm]
    walk_at "vs"
    exact ⟨p, rfl, wp, q, rfl, wq, sz1000 (by decide), k hm⟩
/-- a row, as a list or as a tuple -/
def RowD (ps : List P3) (s : D) : Prop := s = .lst (ps.map dP) ∨ s = .tup (ps.map dP)
def WkR (ps : List P3) : Prop := ps.length < 2 ^ 40 ∧ ∀ p ∈ ps, Bp p ∧ PW p
def Bad (ps : List P3) (i : Nat) : Prop := i < ps.length ∧ (∀ j, j < i → Miss (at3 ps j) (nxt ps j)) ∧ ¬ Miss (at3 ps i) (nxt ps i)
def Bad1 (ps : List P3) (i : Nat) : Prop := i + 1 < ps.length ∧ (∀ j, j < i → Miss (at3 ps j) (at3 ps (j + 1))) ∧ ¬ Miss (at3 ps i) (at3 ps (i + 1))
def Chain (ps : List P3) : Prop := ∀ i, i + 1 < ps.length → Miss (at3 ps i) (at3 ps (i + 1))
def stepsI (ps : List P3) : Int := sumTo (fun i => rayI (at3 ps i) (at3 ps (i + 1))) (ps.length - 1)
def sp_row_count (C : Addr) : Spc := fun args Φ Ψ => ∃ ps s, args = [.val s] ∧ RowD ps s ∧ WkR ps ∧ (Chain ps → Φ (.val (.int (stepsI ps))) []) ∧ ∀ i, Bad1 ps i → Ψ (badX C (at3 ps i) (at3 ps (i + 1))) []
def sp_rounds (C : Addr) : Spc := fun args Φ Ψ => ∃ ps s, args = [.val s] ∧ RowD ps s ∧ WkR ps ∧ ps ≠ [] ∧ (Cyc ps → Φ (.val (.int (roundsI ps))) []) ∧ ∀ i, Bad ps i → Ψ (badX C (at3 ps i) (nxt ps i)) []
theorem at3_mem {ps : List P3} {i : Nat} (h : i < ps.length) : at3 ps i ∈ ps := by
  unfold at3
  simp [List.getD, h]
theorem map_get {ps : List P3} {i : Nat} (h : i < ps.length) : (ps.map dP)[i]? = some (dP (at3 ps i)) := by
  unfold at3
  simp [List.getD, h]
theorem atI_map {ps : List P3} {i : Int} (h0 : 0 ≤ i) (h : i.toNat < ps.length) : atI (ps.map dP) i = some (dP (at3 ps i.toNat)) := atI_int h0 (map_get h)
/-- a step at a time: the first one that does not miss -/
theorem chain_or (M : Nat → Prop) [DecidablePred M] : ∀ n, (∀ i, i < n → M i) ∨ ∃ i, i < n ∧ (∀ j, j < i → M j) ∧ ¬ M i
  | 0 => .inl fun i h => by omega
  | n + 1 => by
    rcases chain_or M n with h | ⟨i, h1, h2, h3⟩
    · by_cases hn : M n
      · exact .inl fun i hi => by
          by_cases e : i = n
          · rw [e]; exact hn
          · exact h i (by omega)
      · exact .inr ⟨n, by omega, h, hn⟩
    · exact .inr ⟨i, by omega, h2, h3⟩
/-- slots: 0 points, 1 total, 2 at -/
def T_row_count (C : Addr) : TDs :=
  (tSeqD (tSetV 1 (tConD (.int 0)))
  (tCutD (tForR2 (tConsD (tConD (.int 1)) (tConsD (tCaD gLen (tConsD (tVarD 0) tNilD)) tNilD)) (tNamG 2) (tSetV 1 (tOpD gAdd (tVarD 1) (tCallD 2 (sp_step_count C) (tConsD (tOpD gIx (tVarD 0) (tOpD (gI0 (· - ·)) (tVarD 2) (tConD (.int 1)))) (tConsD (tOpD gIx (tVarD 0) (tVarD 2)) tNilD))))))
  (tRetD (tVarD 1))))
theorem rd_row_count {C : Addr} {args : En} {Φ : Res → List D → Prop} {Ψ : Xc → List D → Prop} (h : sp_row_count C args Φ Ψ) : T_row_count C (edOf args Φ Ψ) (noR ["points", "total", "at"] args) := by
  obtain ⟨ps, s, rfl, hs, ⟨hl, hb⟩, h, k⟩ := h
  unfold T_row_count
  walk_at "vs"
  refine ⟨fun en => ∃ v, en = [.val s, .val (.int (stepsI ps)), v] ∧ Chain ps, forR2_i (fun i en => ∃ v, en = [.val s, .val (.int (sumTo (fun i => rayI (at3 ps i) (at3 ps (i + 1))) i)), v] ∧ ∀ j, j < i → Miss (at3 ps j) (at3 ps (j + 1))) (en1 := [.val s, .val (.int 0), .no]) (lo := 1) (n := ps.length) (fun Φ z => ?_) (by omega) (by omega) (by omega) (by omega) ⟨_, rfl, fun j hj => by omega⟩ ?_ ?_, ?_⟩
  · rcases hs with rfl | rfl
    · walk_at "vs"
      rw [List.length_map]
      exact z
    · walk_at "vs"
      rw [List.length_map]
      exact z
  · rintro i en hi ⟨v, rfl, hm⟩
    have e1 : (1 + (i : Int) - 1).toNat = i := by omega
    have e2 : (1 + (i : Int)).toNat = i + 1 := by omega
    have A1 : atI (ps.map dP) (1 + (i : Int) - 1) = some (dP (at3 ps i)) := by rw [atI_map (by omega) (by omega), e1]
    have A2 : atI (ps.map dP) (1 + (i : Int)) = some (dP (at3 ps (i + 1))) := by rw [atI_map (by omega) (by omega), e2]
    have b1 := hb _ (at3_mem (i := i) (by omega))
    have b2 := hb _ (at3_mem (i := i + 1) (by omega))
    rcases hs with rfl | rfl
    all_goals
      unfold sp_step_count
      walk_at "vh"
      refine ⟨_, _, rfl, b1.1, b2.1, b1.2, b2.2, fun m => ⟨_, rfl, fun j hj => ?_⟩, fun m => k i ⟨by omega, hm, m⟩⟩
      by_cases e : j = i
      · rw [e]; exact m
      · exact hm j (by omega)
  · rintro en ⟨v, rfl, hm⟩
    rw [show ((ps.length : Int) - 1).toNat = ps.length - 1 by omega] at hm ⊢
    exact ⟨v, rfl, fun i hi => hm i (by omega)⟩
  · rintro _ ⟨v, rfl, hc⟩
    rcases hs with rfl | rfl
    · walk_at "vs"
      exact h hc
    · walk_at "vs"
      exact h hc
end VS

namespace VS
open PySem L2 PySem.Spec PyProof.Rows
local macro_rules | `(tactic| walk_at "vs") => `(tactic| simp (maxSteps := 400000) only [tSeqD, tIfSD, tRetD, retD, tSetD, tSetV, tVarD, tConD, tOpD, tUnD, tCaD, tCallD, tConsD, tNilD, tTupD, tLstD, tValD, tAndD, tOrD, tNotD, tIfD, tAndDV, tOrDV, tNotDV, tAsgD, tParD, tPar3D, tNamG, tTupG, tNilG, tConsG, tUnlG, tDropD, tNextD, tBrkD, tCntD, tNeverD, tStoD, tMetD, tSlLD, tNoPartD, tPartD, tChD, tIsiD, tIsiTD, tIsi3D, tFrzD, q0, tYesD, wipeD,
  gI0, gII, gIB, gAdd, gU, gEq, gIx, gIsN, gLen, gInt, gAbs, gBool, gList, gTupC, mAppend, mPop, mPopAt, mInsert, mReverse, rd, rds, vl, vls, slR, nob, mkArgs, bors, putOwns, edOf, outsP, noR, shD, eqD,
  List.getElem?_cons_zero, List.getElem?_cons_succ, List.getElem?_nil, List.set_cons_zero, List.set_cons_succ, List.cons_append, List.nil_append, List.length_cons, List.length_nil, List.replicate, Nat.add_sub_cancel, Nat.sub_self, Nat.reduceAdd, Nat.reduceSub, Int.reduceToNat, Int.reducePow, Int.reduceNeg, Int.reduceAdd, Int.reduceSub, Int.reduceMul, id_eq, true_and, and_true, List.nodup_nil, if_true, if_false, List.nodup_cons, List.not_mem_nil, not_false_eq_true, Bool.not_true, Bool.not_false, Bool.true_or, Bool.or_false, Bool.false_or, decide_eq_true_eq, Bool.false_eq_true, XF,
  Bool.or_true, bne_self_eq_false, isT_dict_non, isT_dict_bl, isT_dict_int, isT_dict_str, isT_dict_tup, isT_dict_lst, isT_list_non, isT_list_bl, isT_list_int, isT_list_str, isT_list_tup, isT_list_lst, isT_tuple_non, isT_tuple_bl, isT_tuple_int, isT_tuple_str, isT_tuple_tup, isT_tuple_lst, isT_bool_non, isT_bool_bl, isT_bool_int, isT_bool_str, isT_bool_tup, isT_bool_lst, isT_str_non, isT_str_bl, isT_str_int, isT_str_str, isT_str_tup, isT_str_lst, isT_int_non, isT_int_bl, isT_int_int, isT_int_str, isT_int_tup, isT_int_lst,
  atI0, atI1, atI2, atI3, atI4, ixN51, ixN52, ixN53, ixN54])
local macro_rules | `(tactic| walk_at "vh") => `(tactic| simp (maxSteps := 400000) only [tSeqD, tIfSD, tRetD, retD, tSetD, tSetV, tVarD, tConD, tOpD, tUnD, tCaD, tCallD, tConsD, tNilD, tTupD, tLstD, tValD, tAndD, tOrD, tNotD, tIfD, tAndDV, tOrDV, tNotDV, tAsgD, tParD, tPar3D, tNamG, tTupG, tNilG, tConsG, tUnlG, tDropD, tNextD, tBrkD, tCntD, tNeverD, tStoD, tMetD, tSlLD, tNoPartD, tPartD, tChD, tIsiD, tIsiTD, tIsi3D, tFrzD, q0, tYesD, wipeD,
  gI0, gII, gIB, gAdd, gU, gEq, gIx, gIsN, gLen, gInt, gAbs, gBool, gList, gTupC, mAppend, mPop, mPopAt, mInsert, mReverse, rd, rds, vl, vls, slR, nob, mkArgs, bors, putOwns, edOf, outsP, noR, shD, eqD,
  List.getElem?_cons_zero, List.getElem?_cons_succ, List.getElem?_nil, List.set_cons_zero, List.set_cons_succ, List.cons_append, List.nil_append, List.length_cons, List.length_nil, List.replicate, Nat.add_sub_cancel, Nat.sub_self, Nat.reduceAdd, Nat.reduceSub, Int.reduceToNat, Int.reducePow, Int.reduceNeg, Int.reduceAdd, Int.reduceSub, Int.reduceMul, id_eq, true_and, and_true, List.nodup_nil, if_true, if_false, List.nodup_cons, List.not_mem_nil, not_false_eq_true, Bool.not_true, Bool.not_false, Bool.true_or, Bool.or_false, Bool.false_or, decide_eq_true_eq, Bool.false_eq_true, XF,
  Bool.or_true, bne_self_eq_false, isT_dict_non, isT_dict_bl, isT_dict_int, isT_dict_str, isT_dict_tup, isT_dict_lst, isT_list_non, isT_list_bl, isT_list_int, isT_list_str, isT_list_tup, isT_list_lst, isT_tuple_non, isT_tuple_bl, isT_tuple_int, isT_tuple_str, isT_tuple_tup, isT_tuple_lst, isT_bool_non, isT_bool_bl, isT_bool_int, isT_bool_str, isT_bool_tup, isT_bool_lst, isT_str_non, isT_str_bl, isT_str_int, isT_str_str, isT_str_tup, isT_str_lst, isT_int_non, isT_int_bl, isT_int_int, isT_int_str, isT_int_tup, isT_int_lst,
  atI0, atI1, atI2, atI3, atI4, ixN51, ixN52, ixN53, ixN54, *])
local macro_rules | `(tactic| walk_at "lf") => `(tactic| ((repeat' (with_reducible apply And.intro)) <;> first | exact mulR (by decide) (by decide) | exact pow1018 | exact pow3 (by omega) | exact divB (by omega) (by omega) | exact Int.emod_nonneg _ (by omega) | exact Int.emod_lt_of_pos _ (by omega) | exact Int.ediv_nonneg (by omega) (by omega) | omega | decide | assumption | skip))

/-- slots: 0 got, 1 due, 2 a, 3 b -/
def T__law_like (sp0 : Spc) : TDs :=
  (tCutD (tIfSD (tValD (tIsiD "dict" (tVarD 1))) tNeverD tNextD)
  (tSeqD (tIfSD (tValD (tIsiTD "list" "tuple" (tVarD 1))) (tSeqD (tIfSD (tOrD (tValD (tOpD (gEq not) (tIsiD "list" (tVarD 0)) (tIsiD "list" (tVarD 1)))) (tValD (tOpD (gEq not) (tIsiD "tuple" (tVarD 0)) (tIsiD "tuple" (tVarD 1))))) (tRetD (tConD (.bl false))) tNextD)
  (tRetD (tAndDV (tOpD (gEq id) (tCaD gLen (tConsD (tVarD 0) tNilD)) (tCaD gLen (tConsD (tVarD 1) tNilD))) (tCaD gAll (tConsD (tLcZ (tConsD (tVarD 0) (tConsD (tVarD 1) tNilD)) (tTupG 2 (tConsG (tNamG 2) (tConsG (tNamG 3) tNilG))) tYesD (tCallD 2 (q0 sp0) (tConsD (tVarD 2) (tConsD (tVarD 3) tNilD))) [2, 3]) tNilD))))) tNextD)
  (tSeqD (tIfSD (tOrD (tValD (tOpD (gIsN id) (tVarD 1) (tConD .non))) (tValD (tOpD (gIsN id) (tVarD 0) (tConD .non)))) (tRetD (tAndDV (tOpD (gIsN id) (tVarD 1) (tConD .non)) (tOpD (gIsN id) (tVarD 0) (tConD .non)))) tNextD)
  (tSeqD (tIfSD (tOrD (tValD (tIsi3D "list" "tuple" "dict" (tVarD 0))) (tValD (tOpD (gEq not) (tIsiD "bool" (tVarD 0)) (tIsiD "bool" (tVarD 1))))) (tRetD (tConD (.bl false))) tNextD)
  (tSeqD (tIfSD (tOrD (tValD (tOpD (gEq not) (tIsiD "str" (tVarD 0)) (tIsiD "str" (tVarD 1)))) (tValD (tOpD (gEq not) (tIsiD "int" (tVarD 0)) (tIsiD "int" (tVarD 1))))) (tRetD (tConD (.bl false))) tNextD)
  (tRetD (tCaD gBool (tConsD (tOpD (gEq id) (tVarD 0) (tVarD 1)) tNilD))))))))
theorem all_true : ∀ n : Nat, (List.replicate n true).all id = true
  | 0 => rfl
  | n + 1 => by rw [List.replicate_succ, List.all_cons, all_true n]; rfl
theorem rep_bl (n : Nat) : List.replicate n (D.bl true) = (List.replicate n true).map D.bl := by rw [List.map_replicate]
theorem rep_snoc {α : Type} (n : Nat) (x : α) : List.replicate n x ++ [x] = List.replicate (n + 1) x := (List.replicate_succ' ..).symm
theorem rd__law_like (n : Nat) {args : En} {Φ : Res → List D → Prop} {Ψ : Xc → List D → Prop} (h : sp__law_like n args Φ Ψ) : T__law_like (spL__law_like n) (edOf args Φ XN) (noR ["got", "due", "a", "b"] args) := by
  obtain ⟨d, rfl, hk, hd, h⟩ := h
  cases d with
  | non =>
    unfold T__law_like
    refine ⟨fun en => en = [.val (D.non), .val (D.non), .no, .no], by walk_at "vs", ?_⟩
    rintro _ rfl
    walk_at "vs"
    exact h
  | bl b =>
    unfold T__law_like
    refine ⟨fun en => en = [.val (D.bl b), .val (D.bl b), .no, .no], by walk_at "vs", ?_⟩
    rintro _ rfl
    walk_at "vs"
    simp
    exact h
  | int b =>
    unfold T__law_like
    refine ⟨fun en => en = [.val (D.int b), .val (D.int b), .no, .no], by walk_at "vs", ?_⟩
    rintro _ rfl
    walk_at "vs"
    exact h
  | str b =>
    unfold T__law_like
    refine ⟨fun en => en = [.val (D.str b), .val (D.str b), .no, .no], by walk_at "vs", ?_⟩
    rintro _ rfl
    walk_at "vs"
    simp only [okD] at hk
    have e : PyData.eqv (py (.str b)) (py (.str b)) = true := by simp [py, PyData.eqv]
    exact ⟨hk, hk, by rw [e]; exact h⟩
  | lst ds =>
    simp only [okD, Bool.and_eq_true, decide_eq_true_eq] at hk
    simp only [depD] at hd
    obtain ⟨m, rfl⟩ : ∃ m, n = m + 1 := ⟨n - 1, by omega⟩
    unfold T__law_like
    refine ⟨fun en => en = [.val (D.lst ds), .val (D.lst ds), .no, .no], by walk_at "vs", ?_⟩
    rintro _ rfl
    walk_at "vs"
    unfold tLcZ lcStep
    walk_at "vs"
    refine ⟨ds, ds, .inl ⟨rfl, rfl⟩, fun i acc en => acc = List.replicate i (.bl true) ∧ en = [.val (.lst ds), .val (.lst ds), .no, .no], ⟨rfl, rfl⟩, ?_, ?_⟩
    · rintro i d e acc en h1 h2 ⟨rfl, rfl⟩
      obtain rfl : d = e := by rw [h1] at h2; exact Option.some.inj h2
      walk_at "vs"
      have hi := (List.getElem?_eq_some_iff.mp h1).1
      refine ⟨d, rfl, okDs_get hk.1 h1, by have := depDs_get h1; omega, ?_⟩
      simp only [List.length_replicate]
      exact ⟨sz1001 (by omega), rep_snoc _ _⟩
    · rintro acc en p ⟨rfl, rfl⟩
      walk_at "vs"
      refine ⟨_, rep_bl _, ?_⟩
      rw [all_true]
      exact h
  | tup ds =>
    simp only [okD, Bool.and_eq_true, decide_eq_true_eq] at hk
    simp only [depD] at hd
    obtain ⟨m, rfl⟩ : ∃ m, n = m + 1 := ⟨n - 1, by omega⟩
    unfold T__law_like
    refine ⟨fun en => en = [.val (D.tup ds), .val (D.tup ds), .no, .no], by walk_at "vs", ?_⟩
    rintro _ rfl
    walk_at "vs"
    unfold tLcZ lcStep
    walk_at "vs"
    refine ⟨ds, ds, .inr ⟨rfl, rfl⟩, fun i acc en => acc = List.replicate i (.bl true) ∧ en = [.val (.tup ds), .val (.tup ds), .no, .no], ⟨rfl, rfl⟩, ?_, ?_⟩
    · rintro i d e acc en h1 h2 ⟨rfl, rfl⟩
      obtain rfl : d = e := by rw [h1] at h2; exact Option.some.inj h2
      walk_at "vs"
      have hi := (List.getElem?_eq_some_iff.mp h1).1
      refine ⟨d, rfl, okDs_get hk.1 h1, by have := depDs_get h1; omega, ?_⟩
      simp only [List.length_replicate]
      exact ⟨sz1001 (by omega), rep_snoc _ _⟩
    · rintro acc en p ⟨rfl, rfl⟩
      walk_at "vs"
      refine ⟨_, rep_bl _, ?_⟩
      rw [all_true]
      exact h
/-- slots: 0 k, 1 ring -/
def T__law_ring : TDs :=
  (tSeqD (tSetV 1 (tLstD (tConsD (tTupD (tConsD (tConD (.int 8)) (tConsD (tConD (.int 0)) tNilD))) (tConsD (tTupD (tConsD (tConD (.int 7)) (tConsD (tConD (.int 4)) tNilD))) (tConsD (tTupD (tConsD (tConD (.int 4)) (tConsD (tConD (.int 7)) tNilD))) (tConsD (tTupD (tConsD (tConD (.int 0)) (tConsD (tConD (.int 8)) tNilD))) (tConsD (tTupD (tConsD (tUnD (gU fun i => -i) (tConD (.int 4))) (tConsD (tConD (.int 7)) tNilD))) (tConsD (tTupD (tConsD (tUnD (gU fun i => -i) (tConD (.int 7))) (tConsD (tConD (.int 4)) tNilD))) (tConsD (tTupD (tConsD (tUnD (gU fun i => -i) (tConD (.int 8))) (tConsD (tConD (.int 0)) tNilD))) (tConsD (tTupD (tConsD (tUnD (gU fun i => -i) (tConD (.int 7))) (tConsD (tUnD (gU fun i => -i) (tConD (.int 4))) tNilD))) (tConsD (tTupD (tConsD (tUnD (gU fun i => -i) (tConD (.int 4))) (tConsD (tUnD (gU fun i => -i) (tConD (.int 7))) tNilD))) (tConsD (tTupD (tConsD (tConD (.int 0)) (tConsD (tUnD (gU fun i => -i) (tConD (.int 8))) tNilD))) (tConsD (tTupD (tConsD (tConD (.int 4)) (tConsD (tUnD (gU fun i => -i) (tConD (.int 7))) tNilD))) (tConsD (tTupD (tConsD (tConD (.int 7)) (tConsD (tUnD (gU fun i => -i) (tConD (.int 4))) tNilD))) tNilD))))))))))))))
  (tRetD (tOpD gIx (tVarD 1) (tOpD (gII (fun _ j => 0 < j) (· % ·)) (tCaD gInt (tConsD (tVarD 0) tNilD)) (tConD (.int 12))))))
def sp__law_ring : Spc := fun args Φ _ => ∃ k : Int, args = [.val (.int k)] ∧ ∀ x y : Int, x.natAbs ≤ 8 → y.natAbs ≤ 8 → Φ (.val (.tup [.int x, .int y])) []
theorem rd__law_ring {args : En} {Φ : Res → List D → Prop} {Ψ : Xc → List D → Prop} (h : sp__law_ring args Φ Ψ) : T__law_ring (edOf args Φ XN) (noR ["k", "ring"] args) := by
  obtain ⟨k, rfl, h⟩ := h
  unfold T__law_ring
  walk_at "vs"
  have h0 := Int.emod_nonneg k (show (12 : Int) ≠ 0 by decide)
  have h1 := Int.emod_lt_of_pos k (show (0 : Int) < 12 by decide)
  have s2 : 2 ≤ sizeLine := sz1000 (by decide)
  refine ⟨s2, s2, s2, s2, s2, s2, s2, s2, s2, s2, s2, s2, sz1000 (by decide), fun p => ⟨by omega, ?_⟩⟩
  generalize k % 12 = j at *
  obtain ⟨i, rfl⟩ : ∃ i : Nat, j = i := ⟨j.toNat, by omega⟩
  have hi : i < 12 := by omega
  have hh : ∀ x y : Int, x.natAbs ≤ 8 → y.natAbs ≤ 8 → Φ (.val (.tup [.int x, .int y])) [] := h
  rcases i with _ | _ | _ | _ | _ | _ | _ | _ | _ | _ | _ | _ | i
  case succ.succ.succ.succ.succ.succ.succ.succ.succ.succ.succ.succ => omega
  all_goals
    refine hh _ _ ?_ ?_ <;> decide
end VS

namespace VS
open PySem L2 PySem.Spec PyProof.Rows
local macro_rules | `(tactic| walk_at "vs") => `(tactic| simp (maxSteps := 400000) only [tSeqD, tRaiseCrosses, tTryD, tFldCrosses, tIsX, tIfSD, tRetD, retD, tSetD, tSetV, tVarD, tConD, tOpD, tUnD, tCaD, tCallD, tConsD, tNilD, tTupD, tLstD, tValD, tAndD, tOrD, tNotD, tIfD, tAndDV, tOrDV, tNotDV, tAsgD, tParD, tPar3D, tNamG, tTupG, tNilG, tConsG, tUnlG, tDropD, tNextD, tBrkD, tCntD, tNeverD, tStoD, tMetD, tSlLD, tNoPartD, tPartD, tChD, tIsiD, tIsiTD, tIsi3D, tFrzD, q0, tYesD, wipeD,
  gI0, gII, gIB, gAdd, gU, gEq, gIx, gIsN, gLen, gInt, gAbs, gBool, gList, gTupC, mAppend, mPop, mPopAt, mInsert, mReverse, rd, rds, vl, vls, slR, nob, mkArgs, bors, putOwns, edOf, outsP, noR, shD, eqD,
  List.getElem?_cons_zero, List.getElem?_cons_succ, List.getElem?_nil, List.set_cons_zero, List.set_cons_succ, List.cons_append, List.nil_append, List.length_cons, List.length_nil, List.replicate, Nat.add_sub_cancel, Nat.sub_self, Nat.reduceAdd, Nat.reduceSub, Int.reduceToNat, Int.reducePow, Int.reduceNeg, Int.reduceAdd, Int.reduceSub, Int.reduceMul, id_eq, true_and, and_true, List.nodup_nil, if_true, if_false, List.nodup_cons, List.not_mem_nil, not_false_eq_true, Bool.not_true, Bool.not_false, Bool.true_or, Bool.or_false, Bool.false_or, decide_eq_true_eq, Bool.false_eq_true, XF,
  Bool.or_true, bne_self_eq_false, isT_dict_non, isT_dict_bl, isT_dict_int, isT_dict_str, isT_dict_tup, isT_dict_lst, isT_list_non, isT_list_bl, isT_list_int, isT_list_str, isT_list_tup, isT_list_lst, isT_tuple_non, isT_tuple_bl, isT_tuple_int, isT_tuple_str, isT_tuple_tup, isT_tuple_lst, isT_bool_non, isT_bool_bl, isT_bool_int, isT_bool_str, isT_bool_tup, isT_bool_lst, isT_str_non, isT_str_bl, isT_str_int, isT_str_str, isT_str_tup, isT_str_lst, isT_int_non, isT_int_bl, isT_int_int, isT_int_str, isT_int_tup, isT_int_lst,
  atI0, atI1, atI2, atI3, atI4, ixN51, ixN52, ixN53, ixN54])
local macro_rules | `(tactic| walk_at "vh") => `(tactic| simp (maxSteps := 400000) only [tSeqD, tRaiseCrosses, tTryD, tFldCrosses, tIsX, tIfSD, tRetD, retD, tSetD, tSetV, tVarD, tConD, tOpD, tUnD, tCaD, tCallD, tConsD, tNilD, tTupD, tLstD, tValD, tAndD, tOrD, tNotD, tIfD, tAndDV, tOrDV, tNotDV, tAsgD, tParD, tPar3D, tNamG, tTupG, tNilG, tConsG, tUnlG, tDropD, tNextD, tBrkD, tCntD, tNeverD, tStoD, tMetD, tSlLD, tNoPartD, tPartD, tChD, tIsiD, tIsiTD, tIsi3D, tFrzD, q0, tYesD, wipeD,
  gI0, gII, gIB, gAdd, gU, gEq, gIx, gIsN, gLen, gInt, gAbs, gBool, gList, gTupC, mAppend, mPop, mPopAt, mInsert, mReverse, rd, rds, vl, vls, slR, nob, mkArgs, bors, putOwns, edOf, outsP, noR, shD, eqD,
  List.getElem?_cons_zero, List.getElem?_cons_succ, List.getElem?_nil, List.set_cons_zero, List.set_cons_succ, List.cons_append, List.nil_append, List.length_cons, List.length_nil, List.replicate, Nat.add_sub_cancel, Nat.sub_self, Nat.reduceAdd, Nat.reduceSub, Int.reduceToNat, Int.reducePow, Int.reduceNeg, Int.reduceAdd, Int.reduceSub, Int.reduceMul, id_eq, true_and, and_true, List.nodup_nil, if_true, if_false, List.nodup_cons, List.not_mem_nil, not_false_eq_true, Bool.not_true, Bool.not_false, Bool.true_or, Bool.or_false, Bool.false_or, decide_eq_true_eq, Bool.false_eq_true, XF,
  Bool.or_true, bne_self_eq_false, isT_dict_non, isT_dict_bl, isT_dict_int, isT_dict_str, isT_dict_tup, isT_dict_lst, isT_list_non, isT_list_bl, isT_list_int, isT_list_str, isT_list_tup, isT_list_lst, isT_tuple_non, isT_tuple_bl, isT_tuple_int, isT_tuple_str, isT_tuple_tup, isT_tuple_lst, isT_bool_non, isT_bool_bl, isT_bool_int, isT_bool_str, isT_bool_tup, isT_bool_lst, isT_str_non, isT_str_bl, isT_str_int, isT_str_str, isT_str_tup, isT_str_lst, isT_int_non, isT_int_bl, isT_int_int, isT_int_str, isT_int_tup, isT_int_lst,
  atI0, atI1, atI2, atI3, atI4, ixN51, ixN52, ixN53, ixN54, *])
local macro_rules | `(tactic| walk_at "lf") => `(tactic| ((repeat' (with_reducible apply And.intro)) <;> first | exact mulR (by decide) (by decide) | exact pow1018 | exact pow3 (by omega) | exact divB (by omega) (by omega) | exact Int.emod_nonneg _ (by omega) | exact Int.emod_lt_of_pos _ (by omega) | exact Int.ediv_nonneg (by omega) (by omega) | omega | decide | assumption | skip))

/-- slots: 0 a, 1 b -/
def T__law_gcd : TDs :=
  (tCutD (tParD 0 1 (tConsD (tCaD gAbs (tConsD (tVarD 0) tNilD)) (tConsD (tCaD gAbs (tConsD (tVarD 1) tNilD)) tNilD)))
  (tCutD (tWhileD (tValD (tOpD (gIB fun i j => decide (j < i)) (tVarD 1) (tConD (.int 0)))) (tParD 0 1 (tConsD (tVarD 1) (tConsD (tOpD (gII (fun _ j => 0 < j) (· % ·)) (tCaD gInt (tConsD (tVarD 0) tNilD)) (tVarD 1)) tNilD))))
  (tRetD (tVarD 0))))
def sp__law_gcd : Spc := fun args Φ _ => ∃ a b : Int, args = [.val (.int a), .val (.int b)] ∧ Φ (.val (.int (Int.gcd a b : Nat))) []
theorem abs_nat (a : Int) : (if a < 0 then -a else a) = (a.natAbs : Int) := by
  split <;> omega
theorem rd__law_gcd {args : En} {Φ : Res → List D → Prop} {Ψ : Xc → List D → Prop} (h : sp__law_gcd args Φ Ψ) : T__law_gcd (edOf args Φ XN) (noR ["a", "b"] args) := by
  obtain ⟨a, b, rfl, h⟩ := h
  unfold T__law_gcd
  refine ⟨fun en => en = [.val (.int (a.natAbs : Int)), .val (.int (b.natAbs : Int))], ?_, ?_⟩
  · walk_at "vs"
    first
      | rfl
      | (rw [abs_nat, abs_nat])
  rintro _ rfl
  refine ⟨fun en => en = [.val (.int (Int.gcd a b : Nat)), .val (.int 0)], ?_, ?_⟩
  · refine ⟨fun m en => ∃ x y : Nat, en = [.val (.int x), .val (.int y)] ∧ y = m ∧ Nat.gcd x y = Int.gcd a b, ⟨_, _, _, rfl, rfl, rfl⟩, ?_⟩
    rintro m _ ⟨x, y, rfl, rfl, hg⟩
    walk_at "vs"
    split
    · rename_i z
      refine ⟨z, x % y, Nat.mod_lt _ (by omega), y, x % y, by simp, rfl, ?_⟩
      rw [← hg, Nat.gcd_comm x y, Nat.gcd_rec y x, Nat.gcd_comm]
    · rename_i z
      obtain rfl : y = 0 := by omega
      rw [Nat.gcd_zero_right] at hg
      rw [hg]
      rfl
  · rintro _ rfl
    walk_at "vs"
    exact h
/-- slots: 0 p, 1 m -/
def T__law_lowest : TDs :=
  (tCutD (tSetV 1 (tCallD 2 (q0 sp__law_gcd) (tConsD (tCallD 2 (q0 sp__law_gcd) (tConsD (tOpD gIx (tVarD 0) (tConD (.int 0))) (tConsD (tOpD gIx (tVarD 0) (tConD (.int 1))) tNilD))) (tConsD (tOpD gIx (tVarD 0) (tConD (.int 2))) tNilD))))
  (tRetD (tTupD (tConsD (tOpD (gII CDivW (· / ·)) (tOpD gIx (tVarD 0) (tConD (.int 0))) (tVarD 1)) (tConsD (tOpD (gII CDivW (· / ·)) (tOpD gIx (tVarD 0) (tConD (.int 1))) (tVarD 1)) (tConsD (tOpD (gII CDivW (· / ·)) (tOpD gIx (tVarD 0) (tConD (.int 2))) (tVarD 1)) tNilD))))))
def sp__law_lowest : Spc := fun args Φ _ => ∃ p : P3, args = [.val (dP p)] ∧ PW p ∧ Φ (.val (dP (lowI p))) []
theorem rd__law_lowest {args : En} {Φ : Res → List D → Prop} {Ψ : Xc → List D → Prop} (h : sp__law_lowest args Φ Ψ) : T__law_lowest (edOf args Φ XN) (noR ["p", "m"] args) := by
  obtain ⟨p, rfl, hp, h⟩ := h
  obtain ⟨g1, g2⟩ := gI_pos hp
  unfold T__law_lowest
  refine ⟨fun en => en = [.val (dP p), .val (.int (gI p))], ?_, ?_⟩
  · unfold sp__law_gcd dP
    walk_at "vs"
    exact ⟨_, _, rfl, _, _, rfl, rfl⟩
  rintro _ rfl
  unfold dP
  walk_at "vs"
  exact ⟨divB g1 (by omega), divB g1 (by omega), divB g1 (by omega), sz1000 (by decide), h⟩
/-- slots: 0 p, 1 q, 2 a, 3 b, 4 rise, 5 meets -/
def T__law_ray : TDs :=
  (tCutD (tParD 2 3 (tConsD (tTupD (tConsD (tOpD (gII CMulA (· * ·)) (tOpD gIx (tVarD 0) (tConD (.int 0))) (tOpD gIx (tVarD 1) (tConD (.int 2)))) (tConsD (tOpD (gII CMulA (· * ·)) (tOpD gIx (tVarD 0) (tConD (.int 1))) (tOpD gIx (tVarD 1) (tConD (.int 2)))) tNilD))) (tConsD (tTupD (tConsD (tOpD (gII CMulA (· * ·)) (tOpD gIx (tVarD 1) (tConD (.int 0))) (tOpD gIx (tVarD 0) (tConD (.int 2)))) (tConsD (tOpD (gII CMulA (· * ·)) (tOpD gIx (tVarD 1) (tConD (.int 1))) (tOpD gIx (tVarD 0) (tConD (.int 2)))) tNilD))) tNilD)))
  (tCutD (tIfSD (tValD (tOpD (gEq id) (tOpD (gIB fun i j => decide (i < j)) (tOpD gIx (tVarD 2) (tConD (.int 1))) (tConD (.int 0))) (tOpD (gIB fun i j => decide (i < j)) (tOpD gIx (tVarD 3) (tConD (.int 1))) (tConD (.int 0))))) (tRetD (tConD (.int 0))) tNextD)
  (tCutD (tSetV 4 (tOpD (gI0 (· - ·)) (tOpD gIx (tVarD 3) (tConD (.int 1))) (tOpD gIx (tVarD 2) (tConD (.int 1)))))
  (tCutD (tSetV 5 (tOpD (gI0 (· - ·)) (tOpD (gII CMulA (· * ·)) (tOpD gIx (tVarD 2) (tConD (.int 0))) (tVarD 4)) (tOpD (gII CMulA (· * ·)) (tOpD gIx (tVarD 2) (tConD (.int 1))) (tOpD (gI0 (· - ·)) (tOpD gIx (tVarD 3) (tConD (.int 0))) (tOpD gIx (tVarD 2) (tConD (.int 0)))))))
  (tCutD (tIfSD (tValD (tOpD (gIB fun i j => decide (j < i)) (tVarD 4) (tConD (.int 0)))) (tRetD (tIfD (tValD (tOpD (gIB fun i j => decide (j < i)) (tVarD 5) (tConD (.int 0)))) (tConD (.int 1)) (tConD (.int 0)))) tNextD)
  (tRetD (tIfD (tValD (tOpD (gIB fun i j => decide (i < j)) (tVarD 5) (tConD (.int 0)))) (tUnD (gU fun i => -i) (tConD (.int 1))) (tConD (.int 0)))))))))
def sp__law_ray : Spc := fun args Φ _ => ∃ p q : P3, args = [.val (dP p), .val (dP q)] ∧ Bp p ∧ Bp q ∧ PW p ∧ PW q ∧ Φ (.val (.int (rayI p q))) []
theorem ray_law {p0 p1 pw q0 q1 qw X M : Int} (hp : 0 < pw) (hq : 0 < qw) (hX : X = p0 * q1 - p1 * q0) (hM : M = p0 * qw * (q1 * pw - p1 * qw) - p1 * qw * (q0 * pw - p0 * qw)) : M = pw * qw * X ∧ (0 < M ↔ 0 < X) ∧ (M < 0 ↔ X < 0) ∧ (p1 * qw < 0 ↔ p1 < 0) ∧ (q1 * pw < 0 ↔ q1 < 0) := by
  have e : M = pw * qw * X := by
    rw [hM, hX]
    grind
  have hg : 0 < pw * qw := Int.mul_pos hp hq
  have sgm : ∀ {g x : Int}, 0 < g → (0 < g * x ↔ 0 < x) ∧ (g * x < 0 ↔ x < 0) := fun {g x} h => by
    rcases Int.lt_trichotomy x 0 with z | z | z
    · have := sg_N h z
      omega
    · subst z
      rw [Int.mul_zero]
      omega
    · have := sg_P h z
      omega
  refine ⟨e, ?_, ?_, ?_, ?_⟩
  · rw [e]; exact (sgm hg).1
  · rw [e]; exact (sgm hg).2
  · rw [Int.mul_comm]; exact (sgm hq).2
  · rw [Int.mul_comm]; exact (sgm hp).2
theorem rd__law_ray {args : En} {Φ : Res → List D → Prop} {Ψ : Xc → List D → Prop} (h : sp__law_ray args Φ Ψ) : T__law_ray (edOf args Φ XN) (noR ["p", "q", "a", "b", "rise", "meets"] args) := by
  obtain ⟨p, q, rfl, hp, hq, wp, wq, h⟩ := h
  have last : (∀ k, (if p.2.1 < 0 ∧ 0 ≤ q.2.1 ∧ 0 < crossI p q then (1 : Int) else if 0 ≤ p.2.1 ∧ q.2.1 < 0 ∧ crossI p q < 0 then -1 else 0) = k → Φ (.val (.int k)) []) := fun k e => by rw [← e]; exact h
  obtain ⟨w1, w2⟩ := wp
  obtain ⟨w3, w4⟩ := wq
  obtain ⟨eM, m1, m2, m3, m4⟩ := ray_law (p0 := p.1) (p1 := p.2.1) (q0 := q.1) (q1 := q.2.1) w1 w3 (show crossI p q = _ from rfl) rfl
  have pb : ∀ {x w : Int}, x.natAbs < 2 ^ 200 → 0 < w → w < 2 ^ 44 → (x * w).natAbs < 2 ^ 244 := fun {x w} hx h1 h2 => by
    rw [Int.natAbs_mul, show (244 : Nat) = 200 + 44 from rfl, Nat.pow_add]
    exact Nat.mul_lt_mul'' hx (by omega)
  have b1 := pb hp.1 w3 w4
  have b2 := pb hp.2 w3 w4
  have b3 := pb hq.1 w1 w2
  have b4 := pb hq.2 w1 w2
  have big : ∀ {i j : Int}, i.natAbs < 2 ^ 250 → j.natAbs < 2 ^ 250 → CMulA i j := fun h1 h2 => mulB 250 250 h1 h2
  have up : ∀ {n : Nat}, n < 2 ^ 244 → n < 2 ^ 250 := fun h => Nat.lt_of_lt_of_le h (by decide)
  unfold T__law_ray dP
  refine ⟨fun en => en = [.val (dP p), .val (dP q), .val (.tup [.int (p.1 * q.2.2), .int (p.2.1 * q.2.2)]), .val (.tup [.int (q.1 * p.2.2), .int (q.2.1 * p.2.2)]), .no, .no], ?_, ?_⟩
  · unfold dP
    walk_at "vs"
    exact ⟨mulR (by omega) (by omega), mulR (by omega) (by omega), sz1000 (by decide), mulR (by omega) (by omega), mulR (by omega) (by omega), sz1000 (by decide)⟩
  rintro _ rfl
  generalize hA0 : p.1 * q.2.2 = a0 at *
  generalize hA1 : p.2.1 * q.2.2 = a1 at *
  generalize hB0 : q.1 * p.2.2 = c0 at *
  generalize hB1 : q.2.1 * p.2.2 = c1 at *
  refine ⟨fun en => en = [.val (dP p), .val (dP q), .val (.tup [.int a0, .int a1]), .val (.tup [.int c0, .int c1]), .no, .no] ∧ ¬ (a1 < 0 ↔ c1 < 0), ?_, ?_⟩
  · walk_at "vs"
    split
    · rename_i z
      refine last _ ?_
      have : (a1 < 0 ↔ c1 < 0) := by simpa using z
      rw [if_neg (by omega), if_neg (by omega)]
    · rename_i z
      simpa using z
  rintro _ ⟨rfl, hne⟩
  refine ⟨fun en => en = [.val (dP p), .val (dP q), .val (.tup [.int a0, .int a1]), .val (.tup [.int c0, .int c1]), .val (.int (c1 - a1)), .no], ?_, ?_⟩
  · walk_at "vs"
  rintro _ rfl
  refine ⟨fun en => en = [.val (dP p), .val (dP q), .val (.tup [.int a0, .int a1]), .val (.tup [.int c0, .int c1]), .val (.int (c1 - a1)), .val (.int (a0 * (c1 - a1) - a1 * (c0 - a0)))], ?_, ?_⟩
  · walk_at "vs"
    exact ⟨big (up b1) (by omega), big (up b2) (by omega)⟩
  rintro _ rfl
  generalize a0 * (c1 - a1) - a1 * (c0 - a0) = M at *
  refine ⟨fun en => en = [.val (dP p), .val (dP q), .val (.tup [.int a0, .int a1]), .val (.tup [.int c0, .int c1]), .val (.int (c1 - a1)), .val (.int M)] ∧ ¬ 0 < c1 - a1, ?_, ?_⟩
  · walk_at "vs"
    split
    · split
      all_goals
        refine last _ ?_
        repeat' split
        all_goals omega
    · rename_i z
      exact z
  rintro _ ⟨rfl, hr⟩
  walk_at "vs"
  split
  all_goals
    refine last _ ?_
    repeat' split
    all_goals omega
/-- what is due of a row -/
def DueIs (ps : List P3) (d : D) : Prop := (Chain ps ∧ d = .int (stepsI ps)) ∨ ∃ i, Bad1 ps i ∧ d = .tup [.str "Crosses", badD (at3 ps i) (at3 ps (i + 1))]
theorem due_ex (ps : List P3) : ∃ d, DueIs ps d := by
  rcases chain_or (fun i => Miss (at3 ps i) (at3 ps (i + 1))) (ps.length - 1) with h | ⟨i, h1, h2, h3⟩
  · exact ⟨_, .inl ⟨fun i hi => h i (by omega), rfl⟩⟩
  · exact ⟨_, .inr ⟨i, ⟨by omega, h2, h3⟩, rfl⟩⟩
theorem bad1_one {ps : List P3} {i j : Nat} (hi : Bad1 ps i) (hj : Bad1 ps j) : i = j := by
  rcases Nat.lt_trichotomy i j with z | z | z
  · exact absurd (hj.2.1 i z) hi.2.2
  · exact z
  · exact absurd (hi.2.1 j z) hj.2.2
theorem DueIs.chain {ps : List P3} {d : D} (h : DueIs ps d) (c : Chain ps) : d = .int (stepsI ps) := by
  rcases h with ⟨_, h⟩ | ⟨i, h1, _⟩
  · exact h
  · exact absurd (c i h1.1) h1.2.2
theorem DueIs.bad {ps : List P3} {d : D} {i : Nat} (h : DueIs ps d) (b : Bad1 ps i) : d = .tup [.str "Crosses", badD (at3 ps i) (at3 ps (i + 1))] := by
  rcases h with ⟨c, _⟩ | ⟨j, h1, h2⟩
  · exact absurd (c i b.1) b.2.2
  · rw [bad1_one b h1]; exact h2
def sp__law_asked (C : Addr) : Spc := fun args Φ _ => ∃ ps d k, args = [.val (.lst (ps.map dP)), .val (.int k)] ∧ WkR ps ∧ (k = 0 ∨ k = 1 ∨ k = 2 ∧ ps.length = 2) ∧ DueIs ps d ∧ Φ (.val d) []
/-- slots: 0 row, 1 pick, 2 error -/
def T__law_asked (C : Addr) : TDs :=
  (tTryD C 2 (tSeqD (tIfSD (tValD (tOpD (gEq id) (tVarD 1) (tConD (.int 0)))) (tRetD (tCallD 1 (sp_row_count C) (tConsD (tVarD 0) tNilD))) tNextD)
  (tRetD (tIfD (tValD (tOpD (gEq id) (tVarD 1) (tConD (.int 1)))) (tCallD 1 (sp_row_count C) (tConsD (tCaD gTupC (tConsD (tVarD 0) tNilD)) tNilD)) (tCallD 2 (sp_step_count C) (tConsD (tOpD gIx (tVarD 0) (tConD (.int 0))) (tConsD (tOpD gIx (tVarD 0) (tConD (.int 1))) tNilD)))))) (fun a cls dd => (tRetD (tIfD (tValD (tIsX C a cls dd true 2)) (tTupD (tConsD (tConD (.str "Crosses")) (tConsD (tFldCrosses C a cls dd 2) tNilD))) (tConD .non)))))
theorem rd__law_asked {C : Addr} {args : En} {Φ : Res → List D → Prop} {Ψ : Xc → List D → Prop} (h : sp__law_asked C args Φ Ψ) : T__law_asked C (edOf args Φ XN) (noR ["row", "pick", "error"] args) := by
  obtain ⟨ps, d, k, rfl, hw, hk, hd, h⟩ := h
  unfold T__law_asked sp_row_count sp_step_count badX
  rcases hk with rfl | rfl | ⟨rfl, hl⟩
  · walk_at "vs"
    refine ⟨ps, _, rfl, .inl rfl, hw, fun c => by rw [hd.chain c] at h; exact h, fun i b a cls dd => ?_⟩
    rw [hd.bad b] at h
    exact ⟨rfl, sz1000 (by decide), h⟩
  · walk_at "vs"
    rw [if_neg (by decide)]
    refine ⟨ps, _, rfl, .inr rfl, hw, fun c => by rw [hd.chain c] at h; exact h, fun i b a cls dd => ?_⟩
    rw [hd.bad b] at h
    exact ⟨rfl, sz1000 (by decide), h⟩
  · have A1 : atI (ps.map dP) 0 = some (dP (at3 ps 0)) := atI_map (i := 0) (by omega) (by omega)
    have A2 : atI (ps.map dP) 1 = some (dP (at3 ps 1)) := atI_map (i := 1) (by omega) (by omega)
    have w1 := hw.2 _ (at3_mem (ps := ps) (i := 0) (by omega))
    have w2 := hw.2 _ (at3_mem (ps := ps) (i := 1) (by omega))
    have es : stepsI ps = rayI (at3 ps 0) (at3 ps 1) := by
      unfold stepsI
      rw [hl]
      simp [sumTo]
    walk_at "vh"
    rw [if_neg (by decide), if_neg (by decide)]
    refine ⟨_, _, rfl, w1.1, w2.1, w1.2, w2.2, fun m => ?_, fun m a cls dd => ?_⟩
    · rw [hd.chain (fun i hi => by
        obtain rfl : i = 0 := by omega
        exact m), es] at h
      exact h
    · rw [hd.bad (i := 0) ⟨by omega, fun j hj => by omega, m⟩] at h
      exact ⟨rfl, sz1000 (by decide), h⟩
/-- slots: 0 row, 1 many, 2 k, 3 p, 4 q -/
def T__law_due : TDs :=
  (tSeqD (tSetV 1 (tConD (.int 0)))
  (tCutD (tForR1 (tConsD (tOpD (gI0 (· - ·)) (tCaD gLen (tConsD (tVarD 0) tNilD)) (tConD (.int 1))) tNilD) (tNamG 2) (tSeqD (tParD 3 4 (tConsD (tOpD gIx (tVarD 0) (tVarD 2)) (tConsD (tOpD gIx (tVarD 0) (tOpD gAdd (tVarD 2) (tConD (.int 1)))) tNilD)))
  (tCutD (tIfSD (tNotD (tValD (tCallD 2 (q0 sp__law_misses) (tConsD (tVarD 3) (tConsD (tVarD 4) tNilD))))) (tRetD (tTupD (tConsD (tConD (.str "Crosses")) (tConsD (tTupD (tConsD (tCallD 1 (q0 sp__law_lowest) (tConsD (tVarD 3) tNilD)) (tConsD (tCallD 1 (q0 sp__law_lowest) (tConsD (tVarD 4) tNilD)) tNilD))) tNilD)))) tNextD)
  (tSetV 1 (tOpD gAdd (tVarD 1) (tCallD 2 (q0 sp__law_ray) (tConsD (tVarD 3) (tConsD (tVarD 4) tNilD))))))))
  (tRetD (tVarD 1))))
def sp__law_due : Spc := fun args Φ _ => ∃ ps d, args = [.val (.lst (ps.map dP))] ∧ WkR ps ∧ DueIs ps d ∧ Φ (.val d) []
theorem rd__law_due {args : En} {Φ : Res → List D → Prop} {Ψ : Xc → List D → Prop} (h : sp__law_due args Φ Ψ) : T__law_due (edOf args Φ XN) (noR ["row", "many", "k", "p", "q"] args) := by
  obtain ⟨ps, d, rfl, hw, hd, h⟩ := h
  unfold T__law_due
  have hl := hw.1
  walk_at "vs"
  refine ⟨fun en => (∃ b c e, en = [.val (.lst (ps.map dP)), .val (.int (stepsI ps)), b, c, e]) ∧ Chain ps, forR1_i (fun i en => (∃ b c e, en = [.val (.lst (ps.map dP)), .val (.int (sumTo (fun i => rayI (at3 ps i) (at3 ps (i + 1))) i)), b, c, e]) ∧ ∀ j, j < i → Miss (at3 ps j) (at3 ps (j + 1))) (en1 := [.val (.lst (ps.map dP)), .val (.int 0), .no, .no, .no]) (n := (ps.length : Int) - 1) (fun Φ z => ?_) (by omega) (by omega) ⟨⟨_, _, _, rfl⟩, fun j hj => by omega⟩ ?_ ?_, ?_⟩
  · walk_at "vs"
    rw [List.length_map]
    exact z
  · rintro i en hi ⟨⟨b, c, e, rfl⟩, hm⟩
    have A1 : atI (ps.map dP) (i : Int) = some (dP (at3 ps i)) := atI_map (by omega) (by omega)
    have A2 : atI (ps.map dP) ((i : Int) + 1) = some (dP (at3 ps (i + 1))) := by
      rw [atI_map (by omega) (by omega), show ((i : Int) + 1).toNat = i + 1 by omega]
    have bp := hw.2 _ (at3_mem (ps := ps) (i := i) (by omega))
    have bq := hw.2 _ (at3_mem (ps := ps) (i := i + 1) (by omega))
    show tSeqD _ _ _ _
    unfold sp__law_misses spTwo sp__law_lowest sp__law_ray
    walk_at "vh"
    refine ⟨fun en => en = [.val (.lst (ps.map dP)), .val (.int (sumTo (fun i => rayI (at3 ps i) (at3 ps (i + 1))) i)), .val (.int i), .val (dP (at3 ps i)), .val (dP (at3 ps (i + 1)))] ∧ Miss (at3 ps i) (at3 ps (i + 1)), ?_, ?_⟩
    · walk_at "vs"
      refine ⟨_, _, rfl, bp.1, bq.1, ?_⟩
      by_cases m : Miss (at3 ps i) (at3 ps (i + 1))
      · rw [decide_eq_true m]
        walk_at "vs"
        exact m
      · rw [decide_eq_false m]
        walk_at "vs"
        rw [hd.bad (i := i) ⟨by omega, hm, m⟩] at h
        exact ⟨_, rfl, bp.2, _, rfl, bq.2, sz1000 (by decide), sz1000 (by decide), h⟩
    · rintro _ ⟨rfl, m⟩
      walk_at "vs"
      refine ⟨_, _, rfl, bp.1, bq.1, bp.2, bq.2, ⟨_, _, _, rfl⟩, fun j hj => ?_⟩
      by_cases e : j = i
      · rw [e]; exact m
      · exact hm j (by omega)
  · rintro _ ⟨⟨b, c, e, rfl⟩, hm⟩
    rw [show ((ps.length : Int) - 1).toNat = ps.length - 1 by omega] at *
    exact ⟨⟨b, c, e, rfl⟩, fun i hi => hm i (by omega)⟩
  · rintro _ ⟨⟨b, c, e, rfl⟩, hc⟩
    walk_at "vs"
    rw [hd.chain hc] at h
    exact h
end VS

namespace VS
open PySem L2 PySem.Spec PyProof.Rows
local macro_rules | `(tactic| walk_at "vs") => `(tactic| simp (maxSteps := 400000) only [tSeqD, tRaiseCrosses, tTryD, tFldCrosses, tIsX, tIfSD, tRetD, retD, tSetD, tSetV, tVarD, tConD, tOpD, tUnD, tCaD, tCallD, tConsD, tNilD, tTupD, tLstD, tValD, tAndD, tOrD, tNotD, tIfD, tAndDV, tOrDV, tNotDV, tAsgD, tParD, tPar3D, tNamG, tTupG, tNilG, tConsG, tUnlG, tDropD, tNextD, tBrkD, tCntD, tNeverD, tStoD, tMetD, tSlLD, tNoPartD, tPartD, tChD, tIsiD, tIsiTD, tIsi3D, tFrzD, q0, tYesD, wipeD,
  gI0, gII, gIB, gAdd, gU, gEq, gIx, gIsN, gLen, gInt, gAbs, gBool, gList, gTupC, mAppend, mPop, mPopAt, mInsert, mReverse, rd, rds, vl, vls, slR, nob, mkArgs, bors, putOwns, edOf, outsP, noR, shD, eqD,
  List.getElem?_cons_zero, List.getElem?_cons_succ, List.getElem?_nil, List.set_cons_zero, List.set_cons_succ, List.cons_append, List.nil_append, List.length_cons, List.length_nil, List.replicate, Nat.add_sub_cancel, Nat.sub_self, Nat.reduceAdd, Nat.reduceSub, Int.reduceToNat, Int.reducePow, Int.reduceNeg, Int.reduceAdd, Int.reduceSub, Int.reduceMul, id_eq, true_and, and_true, List.nodup_nil, if_true, if_false, List.nodup_cons, List.not_mem_nil, not_false_eq_true, Bool.not_true, Bool.not_false, Bool.true_or, Bool.or_false, Bool.false_or, decide_eq_true_eq, Bool.false_eq_true, XF,
  Bool.or_true, bne_self_eq_false, isT_dict_non, isT_dict_bl, isT_dict_int, isT_dict_str, isT_dict_tup, isT_dict_lst, isT_list_non, isT_list_bl, isT_list_int, isT_list_str, isT_list_tup, isT_list_lst, isT_tuple_non, isT_tuple_bl, isT_tuple_int, isT_tuple_str, isT_tuple_tup, isT_tuple_lst, isT_bool_non, isT_bool_bl, isT_bool_int, isT_bool_str, isT_bool_tup, isT_bool_lst, isT_str_non, isT_str_bl, isT_str_int, isT_str_str, isT_str_tup, isT_str_lst, isT_int_non, isT_int_bl, isT_int_int, isT_int_str, isT_int_tup, isT_int_lst,
  atI0, atI1, atI2, atI3, atI4, ixN51, ixN52, ixN53, ixN54])
local macro_rules | `(tactic| walk_at "vh") => `(tactic| simp (maxSteps := 400000) only [tSeqD, tRaiseCrosses, tTryD, tFldCrosses, tIsX, tIfSD, tRetD, retD, tSetD, tSetV, tVarD, tConD, tOpD, tUnD, tCaD, tCallD, tConsD, tNilD, tTupD, tLstD, tValD, tAndD, tOrD, tNotD, tIfD, tAndDV, tOrDV, tNotDV, tAsgD, tParD, tPar3D, tNamG, tTupG, tNilG, tConsG, tUnlG, tDropD, tNextD, tBrkD, tCntD, tNeverD, tStoD, tMetD, tSlLD, tNoPartD, tPartD, tChD, tIsiD, tIsiTD, tIsi3D, tFrzD, q0, tYesD, wipeD,
  gI0, gII, gIB, gAdd, gU, gEq, gIx, gIsN, gLen, gInt, gAbs, gBool, gList, gTupC, mAppend, mPop, mPopAt, mInsert, mReverse, rd, rds, vl, vls, slR, nob, mkArgs, bors, putOwns, edOf, outsP, noR, shD, eqD,
  List.getElem?_cons_zero, List.getElem?_cons_succ, List.getElem?_nil, List.set_cons_zero, List.set_cons_succ, List.cons_append, List.nil_append, List.length_cons, List.length_nil, List.replicate, Nat.add_sub_cancel, Nat.sub_self, Nat.reduceAdd, Nat.reduceSub, Int.reduceToNat, Int.reducePow, Int.reduceNeg, Int.reduceAdd, Int.reduceSub, Int.reduceMul, id_eq, true_and, and_true, List.nodup_nil, if_true, if_false, List.nodup_cons, List.not_mem_nil, not_false_eq_true, Bool.not_true, Bool.not_false, Bool.true_or, Bool.or_false, Bool.false_or, decide_eq_true_eq, Bool.false_eq_true, XF,
  Bool.or_true, bne_self_eq_false, isT_dict_non, isT_dict_bl, isT_dict_int, isT_dict_str, isT_dict_tup, isT_dict_lst, isT_list_non, isT_list_bl, isT_list_int, isT_list_str, isT_list_tup, isT_list_lst, isT_tuple_non, isT_tuple_bl, isT_tuple_int, isT_tuple_str, isT_tuple_tup, isT_tuple_lst, isT_bool_non, isT_bool_bl, isT_bool_int, isT_bool_str, isT_bool_tup, isT_bool_lst, isT_str_non, isT_str_bl, isT_str_int, isT_str_str, isT_str_tup, isT_str_lst, isT_int_non, isT_int_bl, isT_int_int, isT_int_str, isT_int_tup, isT_int_lst,
  atI0, atI1, atI2, atI3, atI4, ixN51, ixN52, ixN53, ixN54, *])
local macro_rules | `(tactic| walk_at "lf") => `(tactic| ((repeat' (with_reducible apply And.intro)) <;> first | exact mulR (by decide) (by decide) | exact pow1018 | exact pow3 (by omega) | exact divB (by omega) (by omega) | exact Int.emod_nonneg _ (by omega) | exact Int.emod_lt_of_pos _ (by omega) | exact Int.ediv_nonneg (by omega) (by omega) | omega | decide | assumption | skip))

def Bq (p : P3) : Prop := (p.1.natAbs < 2 ^ 44 ∧ p.2.1.natAbs < 2 ^ 44) ∧ PW p
theorem pow_le {x m n : Nat} (h : x < 2 ^ m) (hmn : m ≤ n) : x < 2 ^ n := Nat.lt_of_lt_of_le h (Nat.pow_le_pow_right (by decide) hmn)
theorem Bq.p {p : P3} (h : Bq p) : Bp p := ⟨pow_le h.1.1 (by decide), pow_le h.1.2 (by decide)⟩
/-- slots: 0 bag, 1 pick, 2 w, 3 n, 4 x, 5 y -/
def T__law_point : TDs :=
  (tCutD (tParD 1 2 (tConsD (tCallD 2 (q0 sp__law_draw) (tConsD (tVarD 0) (tConsD (tConD (.int 12)) tNilD))) (tConsD (tCallD 2 (q0 sp__law_of) (tConsD (tVarD 0) (tConsD (tLstD (tConsD (tConD (.int 1)) (tConsD (tConD (.int 1)) (tConsD (tConD (.int 2)) (tConsD (tConD (.int 3)) (tConsD (tConD (.int 6)) tNilD)))))) tNilD))) tNilD)))
  (tCutD (tSetV 3 (tCallD 2 (q0 sp__law_of) (tConsD (tVarD 0) (tConsD (tLstD (tConsD (tConD (.int 1)) (tConsD (tConD (.int 2)) (tConsD (tConD (.int 3)) (tConsD (tOpD (gII CPow fun i j => i ^ j.toNat) (tConD (.int 10)) (tConD (.int 12))) tNilD))))) tNilD))))
  (tSeqD (tIfSD (tValD (tOpD (gEq id) (tVarD 1) (tConD (.int 0)))) (tRetD (tTupD (tConsD (tConD (.int 0)) (tConsD (tConD (.int 0)) (tConsD (tVarD 2) tNilD))))) tNextD)
  (tSeqD (tIfSD (tValD (tOpD (gIB fun i j => decide (i < j)) (tVarD 1) (tConD (.int 3)))) (tRetD (tIfD (tValD (tOpD (gEq id) (tVarD 1) (tConD (.int 1)))) (tTupD (tConsD (tVarD 3) (tConsD (tConD (.int 0)) (tConsD (tVarD 2) tNilD)))) (tTupD (tConsD (tOpD (gI0 (· - ·)) (tConD (.int 0)) (tVarD 3)) (tConsD (tConD (.int 0)) (tConsD (tVarD 2) tNilD)))))) tNextD)
  (tSeqD (tIfSD (tValD (tOpD (gEq id) (tVarD 1) (tConD (.int 3)))) (tRetD (tCallD 2 (q0 sp__law_of) (tConsD (tVarD 0) (tConsD (tLstD (tConsD (tTupD (tConsD (tConD (.int 0)) (tConsD (tVarD 3) (tConsD (tVarD 2) tNilD)))) (tConsD (tTupD (tConsD (tConD (.int 0)) (tConsD (tOpD (gI0 (· - ·)) (tConD (.int 0)) (tVarD 3)) (tConsD (tVarD 2) tNilD)))) tNilD))) tNilD)))) tNextD)
  (tSeqD (tIfSD (tValD (tOpD (gIB fun i j => decide (i < j)) (tVarD 1) (tConD (.int 7)))) (tCutD (tAsgD (tCallD 1 (q0 sp__law_ring) (tConsD (tCallD 2 (q0 sp__law_draw) (tConsD (tVarD 0) (tConsD (tConD (.int 12)) tNilD))) tNilD)) (tTupG 2 (tConsG (tNamG 4) (tConsG (tNamG 5) tNilG))))
  (tRetD (tTupD (tConsD (tOpD (gII CMulA (· * ·)) (tVarD 3) (tVarD 4)) (tConsD (tOpD (gII CMulA (· * ·)) (tVarD 3) (tVarD 5)) (tConsD (tOpD (gII CMulA (· * ·)) (tVarD 3) (tVarD 2)) tNilD)))))) tNextD)
  (tRetD (tTupD (tConsD (tOpD (gI0 (· - ·)) (tCallD 2 (q0 sp__law_draw) (tConsD (tVarD 0) (tConsD (tConD (.int 11)) tNilD))) (tConD (.int 5))) (tConsD (tOpD (gI0 (· - ·)) (tCallD 2 (q0 sp__law_draw) (tConsD (tVarD 0) (tConsD (tConD (.int 11)) tNilD))) (tConD (.int 5))) (tConsD (tVarD 2) tNilD)))))))))))
def sp__law_point : Spc := fun args Φ _ => ∃ q d0, args = [.own q d0] ∧ BagOk d0 ∧ ∀ (p : P3) (d1 : D), Bq p → BagOk d1 → Φ (.val (dP p)) [d1]
theorem rd__law_point {args : En} {Φ : Res → List D → Prop} {Ψ : Xc → List D → Prop} (h : sp__law_point args Φ Ψ) : T__law_point (edOf args Φ XN) (noR ["bag", "pick", "w", "n", "x", "y"] args) := by
  obtain ⟨q, d0, rfl, hk, h⟩ := h
  unfold T__law_point
  refine ⟨fun en => ∃ (d1 : D) (k w : Int), en = [.own q d1, .val (.int k), .val (.int w), .no, .no, .no] ∧ BagOk d1 ∧ 1 ≤ w ∧ w ≤ 6, ?_, ?_⟩
  · unfold sp__law_draw sp__law_of
    walk_at "vs"
    refine ⟨q, d0, 12, rfl, hk, by decide, by decide, fun k d1 _ _ hk1 => ⟨sz1000 (by decide), fun _ => ⟨q, d1, _, rfl, hk1, by simp, by decide, ?_⟩⟩⟩
    intro x d2 hx hk2
    simp only [List.mem_cons, List.not_mem_nil, or_false] at hx
    rcases hx with rfl | rfl | rfl | rfl | rfl <;> exact ⟨d2, k, _, rfl, hk2, by decide, by decide⟩
  rintro _ ⟨d1, k, w, rfl, hk1, w0, w1⟩
  refine ⟨fun en => ∃ (d1 : D) (n : Int), en = [.own q d1, .val (.int k), .val (.int w), .val (.int n), .no, .no] ∧ BagOk d1 ∧ 1 ≤ n ∧ n ≤ 1000000000000, ?_, ?_⟩
  · unfold sp__law_of
    walk_at "vs"
    refine ⟨⟨by decide, by decide, by decide⟩, sz1000 (by decide), fun _ => ⟨q, d1, _, rfl, hk1, by simp, by decide, ?_⟩⟩
    intro x d2 hx hk2
    simp only [List.mem_cons, List.not_mem_nil, or_false] at hx
    rcases hx with rfl | rfl | rfl | rfl <;> exact ⟨d2, _, rfl, hk2, by decide, by decide⟩
  rintro _ ⟨d2, n, rfl, hk2, n1, hn⟩
  have hh : ∀ (x y w : Int) (d1 : D), x.natAbs ≤ 8000000000000 → y.natAbs ≤ 8000000000000 → 0 < w → w ≤ 6000000000000 → BagOk d1 → Φ (.val (.tup [.int x, .int y, .int w])) [d1] := fun x y w d1 hx hy h1 h2 hk => h (x, y, w) d1 ⟨⟨by show x.natAbs < 2 ^ 44; omega, by show y.natAbs < 2 ^ 44; omega⟩, h1, by show w < 2 ^ 44; omega⟩ hk
  have s3 : 3 ≤ sizeLine := sz1000 (by decide)
  unfold sp__law_of sp__law_draw
  walk_at "vs"
  split
  · exact ⟨s3, hh _ _ _ _ (by decide) (by decide) (by omega) (by omega) hk2⟩
  split
  · split
    · exact ⟨s3, hh _ _ _ _ (by omega) (by decide) (by omega) (by omega) hk2⟩
    · exact ⟨s3, hh _ _ _ _ (by omega) (by decide) (by omega) (by omega) hk2⟩
  split
  · refine ⟨s3, s3, sz1000 (by decide), fun _ => ⟨q, d2, _, rfl, hk2, by simp, by show (2 : Nat) < 2 ^ 62; decide, ?_⟩⟩
    intro x d3 hx hk3
    simp only [List.mem_cons, List.not_mem_nil, or_false] at hx
    rcases hx with rfl | rfl
    · exact hh _ _ _ _ (by decide) (by omega) (by omega) (by omega) hk3
    · exact hh _ _ _ _ (by decide) (by omega) (by omega) (by omega) hk3
  split
  · refine ⟨fun en => ∃ (d1 : D) (x y : Int), en = [.own q d1, .val (.int k), .val (.int w), .val (.int n), .val (.int x), .val (.int y)] ∧ BagOk d1 ∧ x.natAbs ≤ 8 ∧ y.natAbs ≤ 8, ?_, ?_⟩
    · unfold sp__law_ring
      walk_at "vs"
      exact ⟨q, d2, 12, rfl, hk2, by decide, by decide, fun j d3 _ _ hk3 => ⟨j, rfl, fun x y hx hy => ⟨d3, x, y, rfl, hk3, hx, hy⟩⟩⟩
    rintro _ ⟨d3, x, y, rfl, hk3, hx, hy⟩
    have b1 : (n * x).natAbs ≤ 1000000000000 * 8 := by
      rw [Int.natAbs_mul]
      exact Nat.mul_le_mul (show n.natAbs ≤ 1000000000000 by omega) hx
    have b2 : (n * y).natAbs ≤ 1000000000000 * 8 := by
      rw [Int.natAbs_mul]
      exact Nat.mul_le_mul (show n.natAbs ≤ 1000000000000 by omega) hy
    have w2 : n * w ≤ 1000000000000 * 6 := Int.mul_le_mul hn w1 (by omega) (by omega)
    have w3 : 0 < n * w := sg_P (by omega) (by omega)
    walk_at "vs"
    exact ⟨mulR (by omega) (by omega), mulR (by omega) (by omega), mulR (by omega) (by omega), s3, hh _ _ _ _ (by omega) (by omega) w3 (by omega) hk3⟩
  · exact ⟨q, d2, 11, rfl, hk2, by decide, by decide, fun j1 d3 _ _ hk3 => ⟨q, d3, 11, rfl, hk3, by decide, by decide, fun j2 d4 _ _ hk4 => ⟨s3, hh _ _ _ _ (by omega) (by omega) (by omega) (by omega) hk4⟩⟩⟩

theorem lay_pts : ∀ ps : List P3, PyData.canLayAll0 (pys (ps.map dP)) = true
  | [] => rfl
  | p :: r => by simp [pys, dP, py, PyData.canLayAll0, PyData.canLay0, lay_pts r]
theorem dep_pts : ∀ ps : List P3, PyData.depthAll (pys (ps.map dP)) ≤ 2
  | [] => by simp [pys, PyData.depthAll]
  | p :: r => by
    have := dep_pts r
    simp [pys, dP, py, PyData.depthAll, PyData.depth]
    omega
theorem sh_pts (ps : List P3) : SeqAt.shaped (py (.lst (ps.map dP))) = true := by
  have h1 := lay_pts ps
  have h2 := dep_pts ps
  simp [SeqAt.shaped, py, PyData.canLay0, PyData.depth, h1]
  omega
theorem sh_nil : SeqAt.shaped (py (.lst [])) = true := sh_pts []
theorem eqv_nil (ps : List P3) : PyData.eqv (py (.lst (ps.map dP))) (py (.lst [])) = ps.isEmpty := by
  cases ps <;> simp [py, pys, PyData.eqv, PyData.eqvAll]
theorem at3_app {ps : List P3} {i : Nat} (x : P3) (h : i < ps.length) : at3 (ps ++ [x]) i = at3 ps i := by
  unfold at3
  simp [List.getD, List.getElem?_append, h]
theorem at3_app_last (ps : List P3) (x : P3) : at3 (ps ++ [x]) ps.length = x := by
  unfold at3
  simp [List.getD]
theorem chain_app {ps : List P3} {x : P3} (h : Chain ps) (hx : ps ≠ [] → Miss (at3 ps (ps.length - 1)) x) : Chain (ps ++ [x]) := fun i hi => by
  rw [List.length_append, List.length_cons, List.length_nil] at hi
  rw [at3_app x (by omega)]
  by_cases e : i + 1 = ps.length
  · rw [e, at3_app_last]
    have := hx (fun z => by subst z; simp at e)
    rw [show ps.length - 1 = i by omega] at this
    exact this
  · rw [at3_app x (by omega)]
    exact h i (by omega)
/-- slots: 0 bag, 1 good, 2 mine, 3 k, 4 p -/
def T__law_row : TDs :=
  (tSeqD (tSetD 2 (tLstD tNilD))
  (tCutD (tForR1 (tConsD (tCallD 2 (q0 sp__law_of) (tConsD (tVarD 0) (tConsD (tLstD (tConsD (tConD (.int 1)) (tConsD (tConD (.int 2)) (tConsD (tConD (.int 5)) (tConsD (tConD (.int 8)) (tConsD (tConD (.int 3)) (tConsD (tConD (.int 12)) tNilD))))))) tNilD))) tNilD) (tNamG 3) (tCutD (tSetV 4 (tCallD 1 (q0 sp__law_point) (tConsD (tVarD 0) tNilD)))
  (tCutD (tIfSD (tAndD (tValD (tOpD (gEq not) (tVarD 2) (tLstD tNilD))) (tValD (tOpD (gEq id) (tCallD 2 (q0 sp__law_draw) (tConsD (tVarD 0) (tConsD (tConD (.int 9)) tNilD))) (tConD (.int 0))))) (tSetV 4 (tOpD gIx (tVarD 2) (tOpD (gI0 (· - ·)) (tCaD gLen (tConsD (tVarD 2) tNilD)) (tConD (.int 1))))) tNextD)
  (tIfSD (tOrD (tValD (tOpD (gEq id) (tVarD 2) (tLstD tNilD))) (tOrD (tNotD (tValD (tVarD 1))) (tValD (tCallD 2 (q0 sp__law_misses) (tConsD (tOpD gIx (tVarD 2) (tOpD (gI0 (· - ·)) (tCaD gLen (tConsD (tVarD 2) tNilD)) (tConD (.int 1)))) (tConsD (tVarD 4) tNilD)))))) (tDropD (tMetD 2 mAppend (tConsD (tVarD 4) tNilD))) tNextD))))
  (tRetD (tVarD 2))))
def sp__law_row : Spc := fun args Φ _ => ∃ q d0 g, args = [.own q d0, .val (.bl g)] ∧ BagOk d0 ∧ ∀ (p : Addr) (ps : List P3) (d1 : D), ps ≠ [] → ps.length ≤ 12 → (∀ p ∈ ps, Bq p) → (g = true → Chain ps) → BagOk d1 → Φ (.own p (.lst (ps.map dP))) [d1]
theorem rd__law_row {args : En} {Φ : Res → List D → Prop} {Ψ : Xc → List D → Prop} (h : sp__law_row args Φ Ψ) : T__law_row (edOf args Φ XN) (noR ["bag", "good", "mine", "k", "p"] args) := by
  obtain ⟨q, d0, g, rfl, hk, h⟩ := h
  unfold T__law_row
  walk_at "vs"
  refine ⟨sz1000 (by decide), fun m => ?_⟩
  refine ⟨fun en => ∃ (d1 : D) (ps : List P3) (a b : Sl), en = [.own q d1, .val (.bl g), .own m (.lst (ps.map dP)), a, b] ∧ BagOk d1 ∧ ps ≠ [] ∧ ps.length ≤ 12 ∧ (∀ p ∈ ps, Bq p) ∧ (g = true → Chain ps), ?_, ?_⟩
  · refine forR1_w (fun n en => n ≤ 12 ∧ 1 ≤ n ∧ ∃ d1, en = [.own q d1, .val (.bl g), .own m (.lst []), .no, .no] ∧ BagOk d1)
      (fun i en => ∃ (d1 : D) (ps : List P3) (a b : Sl), en = [.own q d1, .val (.bl g), .own m (.lst (ps.map dP)), a, b] ∧ BagOk d1 ∧ ps.length ≤ i ∧ (0 < i → ps ≠ []) ∧ (∀ p ∈ ps, Bq p) ∧ (g = true → Chain ps)) ?_ (fun n en h => by omega) ?_ ?_ ?_
    · intro Φ z
      unfold sp__law_of
      walk_at "vs"
      refine ⟨sz1000 (by decide), fun p2 => ⟨q, d0, _, rfl, hk, by simp, by decide, ?_⟩⟩
      intro x d2 hx hk2
      simp only [List.mem_cons, List.not_mem_nil, or_false] at hx
      rcases hx with rfl | rfl | rfl | rfl | rfl | rfl <;> exact z _ _ ⟨by decide, by decide, d2, rfl, hk2⟩
    · rintro n _ ⟨_, _, d2, rfl, hk2⟩
      exact ⟨d2, [], _, _, rfl, hk2, by simp, fun z => by omega, by simp, fun _ i hi => by simp at hi⟩
    · rintro n _ i _ ⟨n1, _⟩ hi ⟨d1, ps, a, b, rfl, hk1, hl, hne, hb, hc⟩
      clear hk
      show tCutD _ _ _ _
      refine ⟨fun en => ∃ (d1 : D) (p : P3), en = [.own q d1, .val (.bl g), .own m (.lst (ps.map dP)), .val (.int i), .val (dP p)] ∧ BagOk d1 ∧ Bq p, ?_, ?_⟩
      · unfold sp__law_point
        walk_at "vs"
        exact ⟨q, d1, rfl, hk1, fun p d2 hp hk2 => ⟨d2, p, rfl, hk2, hp⟩⟩
      rintro _ ⟨d2, p, rfl, hk2, bp⟩
      have last : ps ≠ [] → atI (ps.map dP) (((ps.map dP).length : Int) - 1) = some (dP (at3 ps (ps.length - 1))) := fun hne => by
        have hp : 0 < ps.length := List.length_pos_iff.mpr hne
        rw [List.length_map, atI_map (by omega) (by omega), show ((ps.length : Int) - 1).toNat = ps.length - 1 by omega]
      refine ⟨fun en => ∃ (d1 : D) (p : P3), en = [.own q d1, .val (.bl g), .own m (.lst (ps.map dP)), .val (.int i), .val (dP p)] ∧ BagOk d1 ∧ Bq p, ?_, ?_⟩
      · unfold sp__law_draw
        walk_at "vs"
        refine ⟨sz1000 (by decide), fun p2 => ⟨sh_pts ps, sh_nil, ?_⟩⟩
        rw [eqv_nil]
        split
        · rename_i z
          have hne' : ps ≠ [] := fun w => by simp [w] at z
          have hp : 0 < ps.length := List.length_pos_iff.mpr hne'
          refine ⟨q, d2, 9, rfl, hk2, by decide, by decide, fun k d3 _ _ hk3 => ?_⟩
          split
          · rw [last hne']
            exact ⟨d3, _, rfl, hk3, hb _ (at3_mem (by omega))⟩
          · exact ⟨d3, _, rfl, hk3, bp⟩
        · exact ⟨d2, _, rfl, hk2, bp⟩
      rintro _ ⟨d3, u, rfl, hk3, bu⟩
      have hs : (ps.map dP).length < sizeLine := by
        rw [List.length_map]
        exact sz1001 (by omega)
      have more : (g = true → ps ≠ [] → Miss (at3 ps (ps.length - 1)) u) → ∃ (d1 : D) (ps' : List P3) (a b : Sl), ([.own q d3, .val (.bl g), .own m (.lst (ps.map dP ++ [dP u])), .val (.int i), .val (dP u)] : En) = [.own q d1, .val (.bl g), .own m (.lst (ps'.map dP)), a, b] ∧ BagOk d1 ∧ ps'.length ≤ i + 1 ∧ (0 < i + 1 → ps' ≠ []) ∧ (∀ p ∈ ps', Bq p) ∧ (g = true → Chain ps') :=
        fun hm => ⟨d3, ps ++ [u], .val (.int i), .val (dP u), by simp, hk3, by simp; omega, fun _ => by simp, fun y hy => by
          rcases List.mem_append.mp hy with hy | hy
          · exact hb y hy
          · simp only [List.mem_cons, List.not_mem_nil, or_false] at hy
            subst hy
            exact bu, fun hg => chain_app (hc hg) (hm hg)⟩
      unfold sp__law_misses spTwo
      walk_at "vs"
      refine ⟨sz1000 (by decide), fun p2 => ⟨sh_pts ps, sh_nil, ?_⟩⟩
      rw [eqv_nil]
      split
      · rename_i z
        exact ⟨hs, more fun _ w => absurd (List.isEmpty_iff.mp (by simpa using z)) w⟩
      · rename_i z
        have hne' : ps ≠ [] := fun w => z (by simp [w])
        have hp : 0 < ps.length := List.length_pos_iff.mpr hne'
        split
        · rename_i z2
          exact ⟨hs, more fun hg => by simp [hg] at z2⟩
        · rw [last hne']
          refine ⟨_, _, rfl, (hb _ (at3_mem (by omega))).p, bu.p, ?_⟩
          split
          · rename_i z3
            exact ⟨hs, more fun _ _ => by simpa using z3⟩
          · exact ⟨d3, ps, _, _, rfl, hk3, by omega, fun _ => hne', hb, hc⟩
    · rintro n _ en ⟨n1, n2, _⟩ ⟨d1, ps, a, b, rfl, hk1, hl, hne, hb, hc⟩
      exact ⟨d1, ps, a, b, rfl, hk1, hne (by omega), by omega, hb, hc⟩
  rintro _ ⟨d1, ps, a, b, rfl, hk1, hne, hl, hb, hc⟩
  walk_at "vs"
  exact h m ps d1 hne hl hb hc hk1
end VS

namespace VS
open PySem L2 PySem.Spec PyProof.Rows
local macro_rules | `(tactic| walk_at "vs") => `(tactic| simp (maxSteps := 400000) only [tSeqD, tRaiseCrosses, tTryD, tFldCrosses, tIsX, tFgtD, tIfSD, tRetD, retD, tSetD, tSetV, tVarD, tConD, tOpD, tUnD, tCaD, tCallD, tConsD, tNilD, tTupD, tLstD, tValD, tAndD, tOrD, tNotD, tIfD, tAndDV, tOrDV, tNotDV, tAsgD, tParD, tPar3D, tNamG, tTupG, tNilG, tConsG, tUnlG, tDropD, tNextD, tBrkD, tCntD, tNeverD, tStoD, tMetD, tSlLD, tNoPartD, tPartD, tChD, tIsiD, tIsiTD, tIsi3D, tFrzD, q0, tYesD, wipeD,
  gI0, gII, gIB, gAdd, gU, gEq, gIx, gIsN, gLen, gInt, gAbs, gBool, gList, gTupC, mAppend, mPop, mPopAt, mInsert, mReverse, rd, rds, vl, vls, slR, nob, mkArgs, bors, putOwns, edOf, outsP, noR, shD, eqD,
  List.getElem?_cons_zero, List.getElem?_cons_succ, List.getElem?_nil, List.set_cons_zero, List.set_cons_succ, List.cons_append, List.nil_append, List.length_cons, List.length_nil, List.replicate, Nat.add_sub_cancel, Nat.sub_self, Nat.reduceAdd, Nat.reduceSub, Int.reduceToNat, Int.reducePow, Int.reduceNeg, Int.reduceAdd, Int.reduceSub, Int.reduceMul, id_eq, true_and, and_true, List.nodup_nil, if_true, if_false, List.nodup_cons, List.not_mem_nil, not_false_eq_true, Bool.not_true, Bool.not_false, Bool.true_or, Bool.or_false, Bool.false_or, decide_eq_true_eq, Bool.false_eq_true, XF,
  Bool.or_true, bne_self_eq_false, isT_dict_non, isT_dict_bl, isT_dict_int, isT_dict_str, isT_dict_tup, isT_dict_lst, isT_list_non, isT_list_bl, isT_list_int, isT_list_str, isT_list_tup, isT_list_lst, isT_tuple_non, isT_tuple_bl, isT_tuple_int, isT_tuple_str, isT_tuple_tup, isT_tuple_lst, isT_bool_non, isT_bool_bl, isT_bool_int, isT_bool_str, isT_bool_tup, isT_bool_lst, isT_str_non, isT_str_bl, isT_str_int, isT_str_str, isT_str_tup, isT_str_lst, isT_int_non, isT_int_bl, isT_int_int, isT_int_str, isT_int_tup, isT_int_lst,
  atI0, atI1, atI2, atI3, atI4, ixN51, ixN52, ixN53, ixN54])
local macro_rules | `(tactic| walk_at "vh") => `(tactic| simp (maxSteps := 400000) only [tSeqD, tRaiseCrosses, tTryD, tFldCrosses, tIsX, tFgtD, tIfSD, tRetD, retD, tSetD, tSetV, tVarD, tConD, tOpD, tUnD, tCaD, tCallD, tConsD, tNilD, tTupD, tLstD, tValD, tAndD, tOrD, tNotD, tIfD, tAndDV, tOrDV, tNotDV, tAsgD, tParD, tPar3D, tNamG, tTupG, tNilG, tConsG, tUnlG, tDropD, tNextD, tBrkD, tCntD, tNeverD, tStoD, tMetD, tSlLD, tNoPartD, tPartD, tChD, tIsiD, tIsiTD, tIsi3D, tFrzD, q0, tYesD, wipeD,
  gI0, gII, gIB, gAdd, gU, gEq, gIx, gIsN, gLen, gInt, gAbs, gBool, gList, gTupC, mAppend, mPop, mPopAt, mInsert, mReverse, rd, rds, vl, vls, slR, nob, mkArgs, bors, putOwns, edOf, outsP, noR, shD, eqD,
  List.getElem?_cons_zero, List.getElem?_cons_succ, List.getElem?_nil, List.set_cons_zero, List.set_cons_succ, List.cons_append, List.nil_append, List.length_cons, List.length_nil, List.replicate, Nat.add_sub_cancel, Nat.sub_self, Nat.reduceAdd, Nat.reduceSub, Int.reduceToNat, Int.reducePow, Int.reduceNeg, Int.reduceAdd, Int.reduceSub, Int.reduceMul, id_eq, true_and, and_true, List.nodup_nil, if_true, if_false, List.nodup_cons, List.not_mem_nil, not_false_eq_true, Bool.not_true, Bool.not_false, Bool.true_or, Bool.or_false, Bool.false_or, decide_eq_true_eq, Bool.false_eq_true, XF,
  Bool.or_true, bne_self_eq_false, isT_dict_non, isT_dict_bl, isT_dict_int, isT_dict_str, isT_dict_tup, isT_dict_lst, isT_list_non, isT_list_bl, isT_list_int, isT_list_str, isT_list_tup, isT_list_lst, isT_tuple_non, isT_tuple_bl, isT_tuple_int, isT_tuple_str, isT_tuple_tup, isT_tuple_lst, isT_bool_non, isT_bool_bl, isT_bool_int, isT_bool_str, isT_bool_tup, isT_bool_lst, isT_str_non, isT_str_bl, isT_str_int, isT_str_str, isT_str_tup, isT_str_lst, isT_int_non, isT_int_bl, isT_int_int, isT_int_str, isT_int_tup, isT_int_lst,
  atI0, atI1, atI2, atI3, atI4, ixN51, ixN52, ixN53, ixN54, *])
local macro_rules | `(tactic| walk_at "lf") => `(tactic| ((repeat' (with_reducible apply And.intro)) <;> first | exact mulR (by decide) (by decide) | exact pow1018 | exact pow3 (by omega) | exact divB (by omega) (by omega) | exact Int.emod_nonneg _ (by omega) | exact Int.emod_lt_of_pos _ (by omega) | exact Int.ediv_nonneg (by omega) (by omega) | omega | decide | assumption | skip))

theorem chain_bwd {ps : List P3} (h : Chain ps) : Chain (bwd ps) := fun i hi => by
  rw [bwd_len] at hi
  rw [at3_bwd (by omega), at3_bwd (by omega)]
  have := h (ps.length - 1 - (i + 1)) (by omega)
  rw [show ps.length - 1 - (i + 1) + 1 = ps.length - 1 - i by omega] at this
  exact miss_sym this
theorem steps_bwd (ps : List P3) : stepsI (bwd ps) = - stepsI ps := by
  have e1 := sumTo_rev (fun i => rayI (at3 ps i) (at3 ps (i + 1))) (ps.length - 1)
  have e2 := sumTo_neg (fun m => (fun i => rayI (at3 ps i) (at3 ps (i + 1))) (ps.length - 1 - 1 - m)) (ps.length - 1)
  unfold stepsI
  rw [bwd_len, ← e1, ← e2]
  refine sumTo_congr _ fun i hi => ?_
  rw [at3_bwd (by omega), at3_bwd (by omega)]
  simp only
  rw [show ps.length - 1 - 1 - i + 1 = ps.length - 1 - i by omega, show ps.length - 1 - 1 - i = ps.length - 1 - (i + 1) by omega]
  exact ray_sym _ _
theorem cut2 {ps : List P3} {k : Nat} (h : k + 1 < ps.length) : cutD (ps.map dP) (some (k : Int)) (some ((k : Int) + 2)) = [at3 ps k, at3 ps (k + 1)].map dP := by
  rw [cut_map]
  unfold cutG
  rw [show ((k : Int) + 2) = ((k + 2 : Nat) : Int) by omega, HT.sIx_nat, HT.sIx_nat, Nat.min_eq_left (by omega), Nat.min_eq_left (by omega)]
  have e : (ps.drop k).take (k + 2 - k) = [at3 ps k, at3 ps (k + 1)] := by
    refine List.ext_getElem? fun j => ?_
    rw [show k + 2 - k = 2 by omega]
    rcases j with _ | _ | j
    · simp [at3, List.getD, show k < ps.length by omega]
    · simp [at3, List.getD, h]
    · simp [List.getElem?_take]
      omega
  rw [e]
theorem ok_duei {ps : List P3} {d : D} (h : DueIs ps d) : okD d = true ∧ depD d ≤ 3 := by
  rcases h with ⟨_, rfl⟩ | ⟨i, _, rfl⟩
  · exact ⟨rfl, Nat.zero_le _⟩
  · have e : SeqAt.shaped (.str "Crosses") = true := by decide +kernel
    exact ⟨by simp [badD, dP, okD, okDs, e], by simp [badD, dP, depD, depDs]⟩
theorem ok_pts : ∀ ps : List P3, okDs (ps.map dP) = true := fun ps => okDs_map fun p _ => by simp [dP, okD, okDs]
theorem dep_pts2 : ∀ ps : List P3, depDs (ps.map dP) ≤ 1 := fun ps => depDs_map fun p _ => by simp [dP, depD, depDs]
def sp_law : Spc := fun args Φ _ => ∃ ns : List Int, args = [.val (.lst (ns.map D.int))] ∧ Φ (.val (.bl true)) []
/-- slots: 0 script, 1 bag, 2 lap, 3 row, 4 k, 5 back, 6 kept, 7 due -/
def T_law (C : Addr) : TDs :=
  (tSeqD (tSetD 1 (tCallD 1 (q0 sp__law_bag) (tConsD (tVarD 0) tNilD)))
  (tCutD (tForR1 (tConsD (tConD (.int 4)) tNilD) (tNamG 2) (tCutD (tSetV 3 (tCallD 2 (q0 sp__law_row) (tConsD (tVarD 1) (tConsD (tOpD (gEq id) (tOpD (gII (fun _ j => 0 < j) (· % ·)) (tVarD 2) (tConD (.int 2))) (tConD (.int 0))) tNilD))))
  (tFgtD 4 (tCutD (tPar3D 5 6 7 (tConsD (tLcR1 (tConsD (tCaD gLen (tConsD (tVarD 3) tNilD)) tNilD) (tNamG 4) tYesD (tOpD gIx (tVarD 3) (tOpD (gI0 (· - ·)) (tOpD (gI0 (· - ·)) (tCaD gLen (tConsD (tVarD 3) tNilD)) (tConD (.int 1))) (tVarD 4))) [4]) (tConsD (tCaD gList (tConsD (tVarD 3) tNilD)) (tConsD (tCallD 1 (q0 sp__law_due) (tConsD (tVarD 3) tNilD)) tNilD))))
  (tFrzD 6 (tFrzD 5 (tCutD (tIfSD (tNotD (tValD (tCallD 2 (q0 (sp__law_like 4)) (tConsD (tLstD (tConsD (tCallD 2 (q0 (sp__law_asked C)) (tConsD (tVarD 3) (tConsD (tOpD (gII CDivW (· / ·)) (tVarD 2) (tConD (.int 2))) tNilD))) (tConsD (tCallD 2 (q0 (sp__law_asked C)) (tConsD (tVarD 5) (tConsD (tOpD (gI0 (· - ·)) (tConD (.int 1)) (tOpD (gII CDivW (· / ·)) (tVarD 2) (tConD (.int 2)))) tNilD))) tNilD))) (tConsD (tLstD (tConsD (tVarD 7) (tConsD (tCallD 1 (q0 sp__law_due) (tConsD (tVarD 5) tNilD)) tNilD))) tNilD))))) (tRetD (tConD (.bl false))) tNextD)
  (tCutD (tIfSD (tNotD (tValD (tCallD 2 (q0 (sp__law_like 4)) (tConsD (tVarD 3) (tConsD (tVarD 6) tNilD))))) (tRetD (tConD (.bl false))) tNextD)
  (tCutD (tIfSD (tAndD (tValD (tOpD (gEq id) (tOpD (gII (fun _ j => 0 < j) (· % ·)) (tVarD 2) (tConD (.int 2))) (tConD (.int 0)))) (tValD (tOpD (gEq not) (tCallD 1 (q0 sp__law_due) (tConsD (tVarD 5) tNilD)) (tOpD (gI0 (· - ·)) (tConD (.int 0)) (tVarD 7))))) (tRetD (tConD (.bl false))) tNextD)
  (tForR1 (tConsD (tOpD (gI0 (· - ·)) (tCaD gLen (tConsD (tVarD 3) tNilD)) (tConD (.int 1))) tNilD) (tNamG 4) (tCutD (tSetV 7 (tCallD 1 (q0 sp__law_due) (tConsD (tSlLD (tVarD 3) (tPartD (tVarD 4)) (tPartD (tOpD gAdd (tVarD 4) (tConD (.int 2))))) tNilD)))
  (tCutD (tIfSD (tNotD (tValD (tCallD 2 (q0 (sp__law_like 4)) (tConsD (tCallD 2 (q0 (sp__law_asked C)) (tConsD (tSlLD (tVarD 3) (tPartD (tVarD 4)) (tPartD (tOpD gAdd (tVarD 4) (tConD (.int 2))))) (tConsD (tConD (.int 2)) tNilD))) (tConsD (tVarD 7) tNilD))))) (tRetD (tConD (.bl false))) tNextD)
  (tIfSD (tAndD (tNotD (tValD (tIsiD "tuple" (tVarD 7)))) (tNotD (tValD (tCallD 2 (q0 (sp__law_like 4)) (tConsD (tCallD 2 (q0 (sp__law_asked C)) (tConsD (tLstD (tConsD (tOpD gIx (tVarD 3) (tOpD gAdd (tVarD 4) (tConD (.int 1)))) (tConsD (tOpD gIx (tVarD 3) (tVarD 4)) tNilD))) (tConsD (tConD (.int 2)) tNilD))) (tConsD (tOpD (gI0 (· - ·)) (tConD (.int 0)) (tVarD 7)) tNilD)))))) (tRetD (tConD (.bl false))) tNextD)))))))))))))
  (tRetD (tConD (.bl true)))))
theorem rd_law {C : Addr} {args : En} {Φ : Res → List D → Prop} {Ψ : Xc → List D → Prop} (h : sp_law args Φ Ψ) : T_law C (edOf args Φ XN) (noR ["script", "bag", "lap", "row", "k", "back", "kept", "due"] args) := by
  obtain ⟨ns, rfl, h⟩ := h
  unfold T_law
  generalize hS : Sl.val (.lst (ns.map D.int)) = S
  have start : ∀ (De : Ed) (t : TDs), (∀ p d1, BagOk d1 → t De [S, .own p d1, .no, .no, .no, .no, .no, .no]) → tSeqD (tSetD 1 (tCallD 1 (q0 sp__law_bag) (tConsD (tVarD 0) tNilD))) t De [S, .no, .no, .no, .no, .no, .no, .no] := fun De t z => by
    unfold sp__law_bag
    subst hS
    walk_at "vs"
    exact ⟨ns, rfl, fun p d hd => z p d hd⟩
  refine start _ _ fun p d1 hk1 => ?_
  refine ⟨fun en => ∃ (d1 : D) (e2 e3 e4 e5 e6 e7 : Sl), en = [S, .own p d1, e2, e3, e4, e5, e6, e7] ∧ BagOk d1, ?_, ?_⟩
  · refine forR1_i (fun _ en => ∃ (d1 : D) (e2 e3 e4 e5 e6 e7 : Sl), en = [S, .own p d1, e2, e3, e4, e5, e6, e7] ∧ BagOk d1)
      (en1 := [S, .own p d1, .no, .no, .no, .no, .no, .no]) (n := 4) ?_ (by decide) (by decide) ⟨d1, _, _, _, _, _, _, rfl, hk1⟩ ?_ (fun en z => z)
    · intro Φ z
      walk_at "vs"
      exact z
    rintro i _ hi ⟨d1, e2, e3, e4, e5, e6, e7, rfl, hk1⟩
    show tCutD _ _ _ _
    refine ⟨fun en => ∃ (d2 : D) (ps : List P3), en = [S, .own p d2, .val (.int i), .val (.lst (ps.map dP)), e4, e5, e6, e7] ∧ BagOk d2 ∧ ps ≠ [] ∧ ps.length ≤ 12 ∧ (∀ p ∈ ps, Bq p) ∧ ((i : Int) % 2 = 0 → Chain ps), ?_, ?_⟩
    · unfold sp__law_row
      walk_at "vs"
      exact ⟨by decide, p, d1, _, rfl, hk1, fun pr ps d2 h1 h2 h3 h4 hk2 => ⟨d2, ps, rfl, hk2, h1, h2, h3, fun z => h4 (by simp [z])⟩⟩
    rintro _ ⟨d2, ps, rfl, hk2, hne, hlen, hb, hc⟩
    clear hk1
    have hp : 0 < ps.length := List.length_pos_iff.mpr hne
    have hw : WkR ps := ⟨by omega, fun x hx => ⟨(hb x hx).p, (hb x hx).2⟩⟩
    have mb : ∀ x ∈ bwd ps, x ∈ ps := fun x hx => by
      obtain ⟨j, hj, rfl⟩ := List.mem_map.mp hx
      exact at3_mem (by have := List.mem_range.mp hj; omega)
    have hwb : WkR (bwd ps) := ⟨by rw [bwd_len]; omega, fun x hx => hw.2 x (mb x hx)⟩
    have eb : ((List.range ps.length).map fun j => dP (at3 ps (ps.length - 1 - j))) = (bwd ps).map dP := by
      unfold bwd
      rw [List.map_map]
      rfl
    obtain ⟨d, hd⟩ := due_ex ps
    obtain ⟨db, hdb⟩ := due_ex (bwd ps)
    obtain ⟨o1, o2⟩ := ok_duei hd
    obtain ⟨o3, o4⟩ := ok_duei hdb
    show tFgtD _ _ _ _
    unfold tFgtD
    simp only [List.set_cons_succ, List.set_cons_zero]
    refine ⟨fun en => ∃ a b : Addr, en = [S, .own p d2, .val (.int i), .val (.lst (ps.map dP)), .no, .own a (.lst ((bwd ps).map dP)), .own b (.lst (ps.map dP)), .val d], ?_, ?_⟩
    · walk_at "vs"
      refine lcR1_map (f := fun j => dP (at3 ps (ps.length - 1 - j))) (m := ps.length) (by omega) (fun Φ z => ?_) rfl ?_ ?_
      · walk_at "vs"
        rw [List.length_map]
        exact z
      · intro j acc J hj hacc hJ
        unfold lcStep
        have A : atI (ps.map dP) (((ps.map dP).length : Int) - 1 - (j : Int)) = some (dP (at3 ps (ps.length - 1 - j))) := by
          rw [List.length_map, atI_map (by omega) (by omega), show ((ps.length : Int) - 1 - (j : Int)).toNat = ps.length - 1 - j by omega]
        walk_at "vh"
      · intro p2
        rw [eb]
        unfold sp__law_due
        walk_at "vs"
        exact fun p3 => ⟨ps, d, rfl, hw, hd, p2, p3, rfl⟩
    rintro _ ⟨pa, pb, rfl⟩
    have s2 : 2 ≤ sizeLine := sz1000 (by decide)
    have okP : okD (.lst (ps.map dP)) = true := by
      simp only [okD, ok_pts, Bool.true_and, decide_eq_true_eq, List.length_map]
      omega
    have deP : depD (.lst (ps.map dP)) ≤ 4 := by
      have := dep_pts2 ps
      simp only [depD]
      omega
    generalize hR : Sl.val (D.lst (ps.map dP)) = R
    generalize hB : Sl.val (D.lst ((bwd ps).map dP)) = B
    show tFrzD _ _ _ _
    walk_at "vs"
    refine ⟨fun en => en = [S, .own p d2, .val (.int i), R, .no, B, R, .val d], ?_, ?_⟩
    · subst hR hB
      unfold sp__law_asked sp__law_due sp__law_like
      walk_at "vs"
      refine ⟨divB (by decide) (by decide), ps, d, _, rfl, hw, by omega, hd, divB (by decide) (by decide), bwd ps, db, _, rfl, hwb, by omega, hdb, s2, fun _ => ⟨bwd ps, db, rfl, hwb, hdb, s2, fun _ => ⟨_, rfl, ?_, ?_⟩⟩⟩
      · simp [okD, okDs, o1, o3]
      · simp only [depD, depDs]
        omega
    rintro _ rfl
    refine ⟨fun en => en = [S, .own p d2, .val (.int i), R, .no, B, R, .val d], ?_, ?_⟩
    · subst hR
      unfold sp__law_like
      walk_at "vs"
      exact ⟨_, rfl, okP, deP⟩
    rintro _ rfl
    refine ⟨fun en => en = [S, .own p d2, .val (.int i), R, .no, B, R, .val d], ?_, ?_⟩
    · by_cases z : (i : Int) % 2 = 0
      · have e1 := hd.chain (hc z)
        have e2 := hdb.chain (chain_bwd (hc z))
        rw [e1]
        subst hB
        unfold sp__law_due
        walk_at "vs"
        rw [if_pos z]
        refine ⟨by decide, bwd ps, db, rfl, hwb, hdb, ?_⟩
        rw [e2, steps_bwd]
        walk_at "vs"
        simp
      · walk_at "vs"
        rw [if_neg z]
        exact ⟨by decide, trivial⟩
    rintro _ rfl
    refine forR1_i (fun _ en => ∃ e4 e7 : Sl, en = [S, .own p d2, .val (.int i), R, e4, B, R, e7])
      (en1 := [S, .own p d2, .val (.int i), R, .no, B, R, .val d]) (n := (ps.length : Int) - 1) ?_ (by omega) (by omega) ⟨_, _, rfl⟩ ?_ ?_
    · intro Φ z
      subst hR
      walk_at "vs"
      rw [List.length_map]
      exact z
    · rintro k _ hk ⟨f4, f7, rfl⟩
      have hk1 : k + 1 < ps.length := by omega
      have b1 := hw.2 _ (at3_mem (ps := ps) (i := k) (by omega))
      have b2 := hw.2 _ (at3_mem (ps := ps) (i := k + 1) (by omega))
      have A1 : atI (ps.map dP) (k : Int) = some (dP (at3 ps k)) := atI_map (by omega) (by omega)
      have A2 : atI (ps.map dP) ((k : Int) + 1) = some (dP (at3 ps (k + 1))) := by
        rw [atI_map (by omega) (by omega), show ((k : Int) + 1).toNat = k + 1 by omega]
      have C2 := cut2 hk1
      generalize at3 ps k = P at *
      generalize at3 ps (k + 1) = Q at *
      have w2 : WkR [P, Q] := ⟨by simp, fun x hx => by
        simp only [List.mem_cons, List.not_mem_nil, or_false] at hx
        rcases hx with rfl | rfl
        · exact b1
        · exact b2⟩
      have w3 : WkR [Q, P] := ⟨by simp, fun x hx => w2.2 x (by
        simp only [List.mem_cons, List.not_mem_nil, or_false] at hx ⊢
        exact hx.symm)⟩
      obtain ⟨d', hd'⟩ := due_ex [P, Q]
      obtain ⟨u1, u2⟩ := ok_duei hd'
      show tCutD _ _ _ _
      refine ⟨fun en => en = [S, .own p d2, .val (.int i), R, .val (.int k), B, R, .val d'], ?_, ?_⟩
      · subst hR
        unfold sp__law_due
        walk_at "vs"
        rw [C2]
        exact fun _ => ⟨_, _, rfl, w2, hd', rfl⟩
      rintro _ rfl
      refine ⟨fun en => en = [S, .own p d2, .val (.int i), R, .val (.int k), B, R, .val d'], ?_, ?_⟩
      · subst hR
        unfold sp__law_asked sp__law_like
        walk_at "vs"
        rw [C2]
        exact fun _ => ⟨_, _, _, rfl, w2, .inr (.inr ⟨rfl, rfl⟩), hd', _, rfl, u1, by omega⟩
      rintro _ rfl
      rcases hd' with ⟨hch, rfl⟩ | ⟨j, _, rfl⟩
      · have h3 : DueIs [Q, P] (.int (0 - stepsI [P, Q])) := by
          have e : bwd [P, Q] = [Q, P] := rfl
          have c := chain_bwd hch
          have t := steps_bwd [P, Q]
          rw [e] at c t
          exact .inl ⟨c, by rw [t, Int.zero_sub]⟩
        subst hR
        unfold sp__law_asked sp__law_like
        walk_at "vh"
        exact fun _ => ⟨[Q, P], _, _, rfl, w3, .inr (.inr ⟨rfl, rfl⟩), h3, _, rfl, rfl, by simp [depD], _, _, rfl⟩
      · walk_at "vs"
        exact ⟨_, _, rfl⟩
    · rintro _ ⟨f4, f7, rfl⟩
      exact ⟨d2, _, _, _, _, _, _, rfl, hk2⟩
  · rintro _ ⟨d1, e2, e3, e4, e5, e6, e7, rfl, hk1⟩
    subst hS
    walk_at "vs"
    exact h
end VS

namespace VS
open PySem L2 PySem.Spec PyProof.Rows

def top (i : Nat) : Stmt := PySem.Challenge.pw_surelycrossed_k23_counts_beside_the_ray.main.body.getD i (.Pass ⟨0, 0, 0, 0⟩)
section
variable {P : Program} {w : World} {K : PySem.W.Frag} {mg : Str → Option Value} {base : Heap}

abbrev s_lowest_point : Stmt := top 4
abbrev N_lowest_point : List Str := (["point", "x", "y", "w", "common"] : List Str)
theorem sc_lowest_point : FnScope N_lowest_point ["point"] (defScope s_lowest_point) := ⟨rfl, rfl, rfl, by decide +kernel, rfl, by decide +kernel, by decide +kernel⟩

theorem ok_lowest_point {f : Addr} {fd : FuncData} (F : Fun K "lowest_point" "lowest_point" s_lowest_point f fd)
    (m_gcd : mg "gcd" = some (.builtin "math.gcd")) : FnOk P w K mg base CX0 1 f fd ["point"] (lSp K 1 sp_lowest_point) := by
  refine fn_vs F sc_lowest_point rfl (fun cdv A outer s H E hr => ?_)
  exact ⟨T_lowest_point, (dss_cut (ds_asg (dv 0) (dg_tup rfl (dgs_cons (dg_name (i := 1) sc_lowest_point.nd rfl (Or.inl rfl)) (dgs_cons (dg_name (i := 2) sc_lowest_point.nd rfl (Or.inl rfl)) (dgs_cons (dg_name (i := 3) sc_lowest_point.nd rfl (Or.inl rfl)) dgs_nil)))))
  (dss_cut (ds_setV (i := 4) sc_lowest_point.nd rfl (Or.inl rfl) (de_gcd m_gcd (da_cons (de_gcd m_gcd (da_cons (dv 1) (da_cons (dv 2) da_nil))) (da_cons (dv 3) da_nil))))
  (dss_one (ds_ret (de_tup (da_cons (de_fdiv (dv 1) (dv 4)) (da_cons (de_fdiv (dv 2) (dv 4)) (da_cons (de_fdiv (dv 3) (dv 4)) da_nil)))))))), fun args Φ hl h => rd_lowest_point h⟩
abbrev s_cross : Stmt := top 5
abbrev N_cross : List Str := (["p", "q"] : List Str)
theorem sc_cross : FnScope N_cross ["p", "q"] (defScope s_cross) := ⟨rfl, rfl, rfl, by decide +kernel, rfl, by decide +kernel, by decide +kernel⟩

theorem ok_cross {f : Addr} {fd : FuncData} (F : Fun K "cross" "cross" s_cross f fd)
     : FnOk P w K mg base CX0 1 f fd ["p", "q"] (lSp K 2 sp_cross) := by
  refine fn_vs F sc_cross rfl (fun cdv A outer s H E hr => ?_)
  exact ⟨T_cross, (dss_one (ds_ret (de_sub (de_mulA (de_item (dv 0) de_int) (de_item (dv 1) de_int)) (de_mulA (de_item (dv 0) de_int) (de_item (dv 1) de_int))))), fun args Φ hl h => rd_cross h⟩
abbrev s_misses : Stmt := top 6
abbrev N_misses : List Str := (["p", "q"] : List Str)
theorem sc_misses : FnScope N_misses ["p", "q"] (defScope s_misses) := ⟨rfl, rfl, rfl, by decide +kernel, rfl, by decide +kernel, by decide +kernel⟩

theorem ok_misses {f : Addr} {fd : FuncData} (F : Fun K "misses" "misses" s_misses f fd)
    {f_cross : Addr} {d_cross : FuncData} (G_cross : Cal P w K mg base CX0 1 2 sp_cross "cross" f_cross d_cross ["p", "q"]) : FnOk P w K mg base CX0 2 f fd ["p", "q"] (lSp K 2 sp_misses) := by
  refine fn_vs F sc_misses rfl (fun cdv A outer s H E hr => ?_)
  exact ⟨T_misses, (dss_cons (ds_if (dt_ne hr.units (dc G_cross hr (da_cons (dv 0) (da_cons (dv 1) da_nil))) de_int) (dss_one (ds_ret de_bl)) dss_nil)
  (dss_one (ds_ret (de_gt (de_addA (de_mulA (de_item (dv 0) de_int) (de_item (dv 1) de_int)) (de_mulA (de_item (dv 0) de_int) (de_item (dv 1) de_int))) de_int)))), fun args Φ hl h => rd_misses h⟩
abbrev s_ray_count : Stmt := top 7
abbrev N_ray_count : List Str := (["p", "q"] : List Str)
theorem sc_ray_count : FnScope N_ray_count ["p", "q"] (defScope s_ray_count) := ⟨rfl, rfl, rfl, by decide +kernel, rfl, by decide +kernel, by decide +kernel⟩

theorem ok_ray_count {f : Addr} {fd : FuncData} (F : Fun K "ray_count" "ray_count" s_ray_count f fd)
    {f_cross : Addr} {d_cross : FuncData} (G_cross : Cal P w K mg base CX0 1 2 sp_cross "cross" f_cross d_cross ["p", "q"]) : FnOk P w K mg base CX0 2 f fd ["p", "q"] (lSp K 2 sp_ray_count) := by
  refine fn_vs F sc_ray_count rfl (fun cdv A outer s H E hr => ?_)
  exact ⟨T_ray_count, (dss_cons (ds_if (dt_w (dw_and (dt_lt (de_item (dv 0) de_int) de_int) (dw_and (dt_ge (de_item (dv 1) de_int) de_int) (dw_and1 (dt_gt (dc G_cross hr (da_cons (dv 0) (da_cons (dv 1) da_nil))) de_int))))) (dss_one (ds_ret de_int)) dss_nil)
  (dss_cons (ds_if (dt_w (dw_and (dt_ge (de_item (dv 0) de_int) de_int) (dw_and (dt_lt (de_item (dv 1) de_int) de_int) (dw_and1 (dt_lt (dc G_cross hr (da_cons (dv 0) (da_cons (dv 1) da_nil))) de_int))))) (dss_one (ds_ret (de_neg de_int))) dss_nil)
  (dss_one (ds_ret de_int)))), fun args Φ hl h => rd_ray_count h⟩
abbrev s_step_count : Stmt := top 9
abbrev N_step_count : List Str := (["p", "q"] : List Str)
theorem sc_step_count : FnScope N_step_count ["p", "q"] (defScope s_step_count) := ⟨rfl, rfl, rfl, by decide +kernel, rfl, by decide +kernel, by decide +kernel⟩

theorem ok_step_count {f : Addr} {fd : FuncData} (F : Fun K "step_count" "step_count" s_step_count f fd)
    {C fI : Addr} (X_Crosses : PySem.CrossesX.CrossesTxt K mg C fI)
    {f_ray_count : Addr} {d_ray_count : FuncData} (G_ray_count : Cal P w K mg base CX0 2 2 sp_ray_count "ray_count" f_ray_count d_ray_count ["p", "q"])
    {f_misses : Addr} {d_misses : FuncData} (G_misses : Cal P w K mg base CX0 2 2 sp_misses "misses" f_misses d_misses ["p", "q"])
    {f_lowest_point : Addr} {d_lowest_point : FuncData} (G_lowest_point : Cal P w K mg base CX0 1 1 sp_lowest_point "lowest_point" f_lowest_point d_lowest_point ["point"]) : FnOk P w K mg base (L2.CX P w) 3 f fd ["p", "q"] (lSp K 2 (sp_step_count C)) := by
  refine fn_vsX F sc_step_count rfl (fun cdv A outer s H E hr => ?_)
  have tk := takes_of (X := cxOf (L2.CX P w) P w K mg base N_step_count "step_count" (defScope s_step_count) f cdv A outer s H E) rfl rfl rfl rfl
  exact ⟨T_step_count C, (dss_cons (ds_if (dt_not (dt_val (dc G_misses hr (da_cons (dv 0) (da_cons (dv 1) da_nil))))) (dss_one (ds_raiseCrosses rfl X_Crosses hr tk (da_cons (de_tup (da_cons (dc G_lowest_point hr (da_cons (dv 0) da_nil)) (da_cons (dc G_lowest_point hr (da_cons (dv 1) da_nil)) da_nil))) da_nil))) dss_nil)
  (dss_one (ds_ret (dc G_ray_count hr (da_cons (dv 0) (da_cons (dv 1) da_nil)))))), fun args Φ Ψ hl h => rd_step_count h⟩
abbrev s_row_count : Stmt := top 10
abbrev N_row_count : List Str := (["points", "total", "at"] : List Str)
theorem sc_row_count : FnScope N_row_count ["points"] (defScope s_row_count) := ⟨rfl, rfl, rfl, by decide +kernel, rfl, by decide +kernel, by decide +kernel⟩

theorem ok_row_count {f : Addr} {fd : FuncData} (F : Fun K "row_count" "row_count" s_row_count f fd)
    {C fI : Addr} (X_Crosses : PySem.CrossesX.CrossesTxt K mg C fI)
    {f_step_count : Addr} {d_step_count : FuncData} (G_step_count : Cal P w K mg base (L2.CX P w) 3 2 (sp_step_count C) "step_count" f_step_count d_step_count ["p", "q"])
    (m_len : mg "len" = none)
    (m_range : mg "range" = none) : FnOk P w K mg base (L2.CX P w) 4 f fd ["points"] (lSp K 1 (sp_row_count C)) := by
  refine fn_vsX F sc_row_count rfl (fun cdv A outer s H E hr => ?_)
  have tk := takes_of (X := cxOf (L2.CX P w) P w K mg base N_row_count "row_count" (defScope s_row_count) f cdv A outer s H E) rfl rfl rfl rfl
  exact ⟨T_row_count C, (dss_cons (ds_setV (i := 1) sc_row_count.nd rfl (Or.inl rfl) de_int)
  (dss_cut (ds_forR2 m_range (passes_of rfl) rfl (da_cons de_int (da_cons (de_len m_len (da_cons (dv 0) da_nil)) da_nil)) (dg_name (i := 2) sc_row_count.nd rfl (Or.inl rfl)) (dss_one (ds_setV (i := 1) sc_row_count.nd rfl (Or.inl rfl) (de_addA (dv 1) (dcX G_step_count tk hr (da_cons (de_item (dv 0) (de_sub (dv 2) de_int)) (da_cons (de_item (dv 0) (dv 2)) da_nil)))))))
  (dss_one (ds_ret (dv 1))))), fun args Φ Ψ hl h => rd_row_count h⟩
abbrev s__law_bag : Stmt := top 12
abbrev N__law_bag : List Str := (["script", "mix", "item"] : List Str)
theorem sc__law_bag : FnScope N__law_bag ["script"] (defScope s__law_bag) := ⟨rfl, rfl, rfl, by decide +kernel, rfl, by decide +kernel, by decide +kernel⟩

theorem ok__law_bag {f : Addr} {fd : FuncData} (F : Fun K "_law_bag" "_law_bag" s__law_bag f fd)
    (m_int : mg "int" = none)
    (m_list : mg "list" = none) : FnOk P w K mg base CX0 1 f fd ["script"] (lSp K 1 sp__law_bag) := by
  refine fn_vs F sc__law_bag rfl (fun cdv A outer s H E hr => ?_)
  exact ⟨T__law_bag, (dss_cons (ds_setV (i := 1) sc__law_bag.nd rfl (Or.inl rfl) (de_addA de_int de_int))
  (dss_cut (ds_forL PassesOwn.never rfl (de_slL (dv 0) do_none (do_some de_int)) (dg_name (i := 2) sc__law_bag.nd rfl (Or.inl rfl)) (dss_one (ds_setV (i := 1) sc__law_bag.nd rfl (Or.inl rfl) (de_mod (de_intc m_int (da_cons (de_addA (de_addA (de_mulA (dv 1) de_int) (de_mod (de_intc m_int (da_cons (dv 2) da_nil)) de_int)) de_int) da_nil)) de_int))))
  (dss_one (ds_ret (de_lst (da_cons (de_listc m_list (da_cons (de_slL (dv 0) do_none (do_some de_int)) da_nil)) (da_cons de_int (da_cons de_int (da_cons (dv 1) (da_cons de_int da_nil)))))))))), fun args Φ hl h => rd__law_bag h⟩
abbrev s__law_draw : Stmt := top 13
abbrev N__law_draw : List Str := (["bag", "size", "item", "digit"] : List Str)
theorem sc__law_draw : FnScope N__law_draw ["bag", "size"] (defScope s__law_draw) := ⟨rfl, rfl, rfl, by decide +kernel, rfl, by decide +kernel, by decide +kernel⟩

theorem ok__law_draw {f : Addr} {fd : FuncData} (F : Fun K "_law_draw" "_law_draw" s__law_draw f fd)
    (m_int : mg "int" = none)
    (m_len : mg "len" = none) : FnOk P w K mg base CX0 1 f fd ["bag", "size"] (lSp K 2 sp__law_draw) := by
  refine fn_vs F sc__law_draw rfl (fun cdv A outer s H E hr => ?_)
  exact ⟨T__law_draw, (dss_cons (ds_sto (de_addA (de_item (dv 0) de_int) de_int) (pv 0) de_int)
  (dss_cons (ds_if (dt_w (dw_and (dt_eq hr.units (de_item (dv 0) de_int) de_int) (dw_and1 (dt_lt (de_item (dv 0) de_int) (de_len m_len (da_cons (de_item (dv 0) de_int) da_nil)))))) (dss_cons (ds_setV (i := 2) sc__law_draw.nd rfl (Or.inl rfl) (de_item (de_item (dv 0) de_int) (de_item (dv 0) de_int)))
  (dss_cons (ds_sto (de_addA (de_item (dv 0) de_int) de_int) (pv 0) de_int)
  (dss_one (ds_if (dt_ge (dv 2) (de_pow de_int de_int)) (dss_one (ds_sto (dv 2) (pv 0) de_int)) (dss_one (ds_sto (de_mod (de_intc m_int (da_cons (de_addA (de_addA (de_mulA (de_item (dv 0) de_int) de_int) (de_mulA (de_mod (de_intc m_int (da_cons (dv 2) da_nil)) de_int) de_int)) de_int) da_nil)) de_int) (pv 0) de_int)))))) dss_nil)
  (dss_cons (ds_if (dt_gt (de_item (dv 0) de_int) de_int) (dss_cons (ds_setV (i := 3) sc__law_draw.nd rfl (Or.inl rfl) (de_mod (de_intc m_int (da_cons (de_item (dv 0) de_int) da_nil)) (dv 1)))
  (dss_cons (ds_sto (de_fdiv (de_item (dv 0) de_int) (dv 1)) (pv 0) de_int)
  (dss_one (ds_ret (dv 3))))) dss_nil)
  (dss_cons (ds_sto (de_mod (de_intc m_int (da_cons (de_addA (de_addA (de_pow (de_item (dv 0) de_int) de_int) (de_mulA (de_item (dv 0) de_int) de_int)) de_int) da_nil)) de_int) (pv 0) de_int)
  (dss_one (ds_ret (de_mod (de_intc m_int (da_cons (de_addA (de_fdiv (de_item (dv 0) de_int) de_int) (de_mulA (de_mod (de_intc m_int (da_cons (de_item (dv 0) de_int) da_nil)) de_int) de_int)) da_nil)) (dv 1)))))))), fun args Φ hl h => rd__law_draw h⟩
abbrev s__law_of : Stmt := top 14
abbrev N__law_of : List Str := (["bag", "things"] : List Str)
theorem sc__law_of : FnScope N__law_of ["bag", "things"] (defScope s__law_of) := ⟨rfl, rfl, rfl, by decide +kernel, rfl, by decide +kernel, by decide +kernel⟩

theorem ok__law_of {f : Addr} {fd : FuncData} (F : Fun K "_law_of" "_law_of" s__law_of f fd)
    {f__law_draw : Addr} {d__law_draw : FuncData} (G__law_draw : Cal P w K mg base CX0 1 2 sp__law_draw "_law_draw" f__law_draw d__law_draw ["bag", "size"])
    (m_len : mg "len" = none) : FnOk P w K mg base CX0 2 f fd ["bag", "things"] (lSp K 2 sp__law_of) := by
  refine fn_vs F sc__law_of rfl (fun cdv A outer s H E hr => ?_)
  exact ⟨T__law_of, (dss_one (ds_ret (de_item (dv 1) (dc G__law_draw hr (da_cons (dv 0) (da_cons (de_len m_len (da_cons (dv 1) da_nil)) da_nil)))))), fun args Φ hl h => rd__law_of h⟩
abbrev s__law_like : Stmt := top 15
abbrev N__law_like : List Str := (["got", "due", "a", "b"] : List Str)
theorem sc__law_like : FnScope N__law_like ["got", "due"] (defScope s__law_like) := ⟨rfl, rfl, rfl, by decide +kernel, rfl, by decide +kernel, by decide +kernel⟩

theorem ok__law_like {f : Addr} {fd : FuncData} (F : Fun K "_law_like" "_law_like" s__law_like f fd)
    (n : Nat) {f__law_like : Addr} {d__law_like : FuncData} (G__law_like : Cal P w K mg base CX0 n 2 (spL__law_like n) "_law_like" f__law_like d__law_like ["got", "due"])
    (m_all : mg "all" = none)
    (m_bool : mg "bool" = none)
    (m_dict : mg "dict" = none)
    (m_int : mg "int" = none)
    (m_isinstance : mg "isinstance" = none)
    (m_len : mg "len" = none)
    (m_list : mg "list" = none)
    (m_str : mg "str" = none)
    (m_tuple : mg "tuple" = none)
    (m_zip : mg "zip" = none) : FnOk P w K mg base CX0 (n + 1) f fd ["got", "due"] (lSp K 2 (sp__law_like n)) := by
  refine fn_vs F sc__law_like rfl (fun cdv A outer s H E hr => ?_)
  exact ⟨T__law_like (spL__law_like n), (dss_cut (ds_if (dt_val (de_isi m_isinstance (dv 1) rfl m_dict (by decide +kernel) isD_dict)) (dss_one ds_never) dss_nil)
  (dss_cons (ds_if (dt_val (de_isiT2 m_isinstance (dv 1) rfl m_list (by decide +kernel) isD_list rfl m_tuple (by decide +kernel) isD_tuple)) (dss_cons (ds_if (dt_w (dw_or (dt_ne hr.units (de_isi m_isinstance (dv 0) rfl m_list (by decide +kernel) isD_list) (de_isi m_isinstance (dv 1) rfl m_list (by decide +kernel) isD_list)) (dw_or1 (dt_ne hr.units (de_isi m_isinstance (dv 0) rfl m_tuple (by decide +kernel) isD_tuple) (de_isi m_isinstance (dv 1) rfl m_tuple (by decide +kernel) isD_tuple))))) (dss_one (ds_ret de_bl)) dss_nil)
  (dss_one (ds_ret (de_and (de_eq hr.units (de_len m_len (da_cons (dv 0) da_nil)) (de_len m_len (da_cons (dv 1) da_nil))) (de_one (de_all rfl m_all (da_cons (de_lcZ (own := [("a", 2), ("b", 3)]) m_zip rfl sc__law_like.nd (da_cons (dv 0) (da_cons (dv 1) da_nil)) (blkOk_by (N := N__law_like) (sc := defScope s__law_like) (own := [("a", 2), ("b", 3)]) (by decide +kernel)) (fun _ _ _ _ _ => (dg_tup rfl (dgs_cons (dg_name (i := 2) sc__law_like.nd rfl (Or.inl rfl)) (dgs_cons (dg_name (i := 3) sc__law_like.nd rfl (Or.inl rfl)) dgs_nil)))) (fun _ _ _ _ _ => dts_nil) (fun _ _ _ _ _ => (dc G__law_like hr (da_cons (dv 2) (da_cons (dv 3) da_nil)) (Nat.le_refl _)))) da_nil))))))) dss_nil)
  (dss_cons (ds_if (dt_w (dw_or (dt_isN (dv 1) de_non) (dw_or1 (dt_isN (dv 0) de_non)))) (dss_one (ds_ret (de_and (de_isN (dv 1) de_non) (de_one (de_isN (dv 0) de_non))))) dss_nil)
  (dss_cons (ds_if (dt_w (dw_or (dt_val (de_isi3 m_isinstance (dv 0) rfl m_list (by decide +kernel) isD_list rfl m_tuple (by decide +kernel) isD_tuple rfl m_dict (by decide +kernel) isD_dict)) (dw_or1 (dt_ne hr.units (de_isi m_isinstance (dv 0) rfl m_bool (by decide +kernel) isD_bool) (de_isi m_isinstance (dv 1) rfl m_bool (by decide +kernel) isD_bool))))) (dss_one (ds_ret de_bl)) dss_nil)
  (dss_cons (ds_if (dt_w (dw_or (dt_ne hr.units (de_isi m_isinstance (dv 0) rfl m_str (by decide +kernel) isD_str) (de_isi m_isinstance (dv 1) rfl m_str (by decide +kernel) isD_str)) (dw_or1 (dt_ne hr.units (de_isi m_isinstance (dv 0) rfl m_int (by decide +kernel) isD_int) (de_isi m_isinstance (dv 1) rfl m_int (by decide +kernel) isD_int))))) (dss_one (ds_ret de_bl)) dss_nil)
  (dss_one (ds_ret (de_boolc m_bool (da_cons (de_eq hr.units (dv 0) (dv 1)) da_nil))))))))), fun args Φ hl h => rd__law_like n h⟩
theorem all__law_like {f : Addr} {fd : FuncData} (F : Fun K "_law_like" "_law_like" s__law_like f fd) (hm : mg "_law_like" = some (.ref f)) (hb : Binds K fd ["got", "due"] [])
    (m_all : mg "all" = none) (m_bool : mg "bool" = none) (m_dict : mg "dict" = none) (m_int : mg "int" = none) (m_isinstance : mg "isinstance" = none) (m_len : mg "len" = none) (m_list : mg "list" = none) (m_str : mg "str" = none) (m_tuple : mg "tuple" = none) (m_zip : mg "zip" = none) : ∀ n, FnOk P w K mg base CX0 (n + 1) f fd ["got", "due"] (lSp K 2 (sp__law_like n))
  | 0 => ok__law_like F 0 ⟨⟨fun vs H Q E h => h.1, fun A outer s H args us vs Q E hr he hB hV h => by
      obtain ⟨_, C, args', Φ, Ψ, _, _, _, hf, _⟩ := h
      exact hf.elim⟩, hm, F.kp, hb⟩ m_all m_bool m_dict m_int m_isinstance m_len m_list m_str m_tuple m_zip
  | n + 1 => ok__law_like F (n + 1) ⟨all__law_like F hm hb m_all m_bool m_dict m_int m_isinstance m_len m_list m_str m_tuple m_zip n, hm, F.kp, hb⟩ m_all m_bool m_dict m_int m_isinstance m_len m_list m_str m_tuple m_zip
abbrev s__law_gcd : Stmt := top 16
abbrev N__law_gcd : List Str := (["a", "b"] : List Str)
theorem sc__law_gcd : FnScope N__law_gcd ["a", "b"] (defScope s__law_gcd) := ⟨rfl, rfl, rfl, by decide +kernel, rfl, by decide +kernel, by decide +kernel⟩

theorem ok__law_gcd {f : Addr} {fd : FuncData} (F : Fun K "_law_gcd" "_law_gcd" s__law_gcd f fd)
    (m_abs : mg "abs" = none)
    (m_int : mg "int" = none) : FnOk P w K mg base CX0 1 f fd ["a", "b"] (lSp K 2 sp__law_gcd) := by
  refine fn_vs F sc__law_gcd rfl (fun cdv A outer s H E hr => ?_)
  exact ⟨T__law_gcd, (dss_cut (ds_par (i := 0) (j := 1) rfl sc__law_gcd.nd rfl rfl (by decide) rfl rfl (da_cons (de_abs m_abs (da_cons (dv 0) da_nil)) (da_cons (de_abs m_abs (da_cons (dv 1) da_nil)) da_nil)))
  (dss_cut (ds_while PassesOwn.never (dt_gt (dv 1) de_int) (dss_one (ds_par (i := 0) (j := 1) rfl sc__law_gcd.nd rfl rfl (by decide) rfl rfl (da_cons (dv 1) (da_cons (de_mod (de_intc m_int (da_cons (dv 0) da_nil)) (dv 1)) da_nil)))))
  (dss_one (ds_ret (dv 0))))), fun args Φ hl h => rd__law_gcd h⟩
abbrev s__law_lowest : Stmt := top 17
abbrev N__law_lowest : List Str := (["p", "m"] : List Str)
theorem sc__law_lowest : FnScope N__law_lowest ["p"] (defScope s__law_lowest) := ⟨rfl, rfl, rfl, by decide +kernel, rfl, by decide +kernel, by decide +kernel⟩

theorem ok__law_lowest {f : Addr} {fd : FuncData} (F : Fun K "_law_lowest" "_law_lowest" s__law_lowest f fd)
    {f__law_gcd : Addr} {d__law_gcd : FuncData} (G__law_gcd : Cal P w K mg base CX0 1 2 sp__law_gcd "_law_gcd" f__law_gcd d__law_gcd ["a", "b"]) : FnOk P w K mg base CX0 2 f fd ["p"] (lSp K 1 sp__law_lowest) := by
  refine fn_vs F sc__law_lowest rfl (fun cdv A outer s H E hr => ?_)
  exact ⟨T__law_lowest, (dss_cut (ds_setV (i := 1) sc__law_lowest.nd rfl (Or.inl rfl) (dc G__law_gcd hr (da_cons (dc G__law_gcd hr (da_cons (de_item (dv 0) de_int) (da_cons (de_item (dv 0) de_int) da_nil))) (da_cons (de_item (dv 0) de_int) da_nil))))
  (dss_one (ds_ret (de_tup (da_cons (de_fdiv (de_item (dv 0) de_int) (dv 1)) (da_cons (de_fdiv (de_item (dv 0) de_int) (dv 1)) (da_cons (de_fdiv (de_item (dv 0) de_int) (dv 1)) da_nil))))))), fun args Φ hl h => rd__law_lowest h⟩
abbrev s__law_ring : Stmt := top 18
abbrev N__law_ring : List Str := (["k", "ring"] : List Str)
theorem sc__law_ring : FnScope N__law_ring ["k"] (defScope s__law_ring) := ⟨rfl, rfl, rfl, by decide +kernel, rfl, by decide +kernel, by decide +kernel⟩

theorem ok__law_ring {f : Addr} {fd : FuncData} (F : Fun K "_law_ring" "_law_ring" s__law_ring f fd)
    (m_int : mg "int" = none) : FnOk P w K mg base CX0 1 f fd ["k"] (lSp K 1 sp__law_ring) := by
  refine fn_vs F sc__law_ring rfl (fun cdv A outer s H E hr => ?_)
  exact ⟨T__law_ring, (dss_cons (ds_setV (i := 1) sc__law_ring.nd rfl (Or.inl rfl) (de_lst (da_cons (de_tup (da_cons de_int (da_cons de_int da_nil))) (da_cons (de_tup (da_cons de_int (da_cons de_int da_nil))) (da_cons (de_tup (da_cons de_int (da_cons de_int da_nil))) (da_cons (de_tup (da_cons de_int (da_cons de_int da_nil))) (da_cons (de_tup (da_cons (de_neg de_int) (da_cons de_int da_nil))) (da_cons (de_tup (da_cons (de_neg de_int) (da_cons de_int da_nil))) (da_cons (de_tup (da_cons (de_neg de_int) (da_cons de_int da_nil))) (da_cons (de_tup (da_cons (de_neg de_int) (da_cons (de_neg de_int) da_nil))) (da_cons (de_tup (da_cons (de_neg de_int) (da_cons (de_neg de_int) da_nil))) (da_cons (de_tup (da_cons de_int (da_cons (de_neg de_int) da_nil))) (da_cons (de_tup (da_cons de_int (da_cons (de_neg de_int) da_nil))) (da_cons (de_tup (da_cons de_int (da_cons (de_neg de_int) da_nil))) da_nil))))))))))))))
  (dss_one (ds_ret (de_item (dv 1) (de_mod (de_intc m_int (da_cons (dv 0) da_nil)) de_int))))), fun args Φ hl h => rd__law_ring h⟩
abbrev s__law_point : Stmt := top 19
abbrev N__law_point : List Str := (["bag", "pick", "w", "n", "x", "y"] : List Str)
theorem sc__law_point : FnScope N__law_point ["bag"] (defScope s__law_point) := ⟨rfl, rfl, rfl, by decide +kernel, rfl, by decide +kernel, by decide +kernel⟩

theorem ok__law_point {f : Addr} {fd : FuncData} (F : Fun K "_law_point" "_law_point" s__law_point f fd)
    {f__law_draw : Addr} {d__law_draw : FuncData} (G__law_draw : Cal P w K mg base CX0 1 2 sp__law_draw "_law_draw" f__law_draw d__law_draw ["bag", "size"])
    {f__law_ring : Addr} {d__law_ring : FuncData} (G__law_ring : Cal P w K mg base CX0 1 1 sp__law_ring "_law_ring" f__law_ring d__law_ring ["k"])
    {f__law_of : Addr} {d__law_of : FuncData} (G__law_of : Cal P w K mg base CX0 2 2 sp__law_of "_law_of" f__law_of d__law_of ["bag", "things"]) : FnOk P w K mg base CX0 3 f fd ["bag"] (lSp K 1 sp__law_point) := by
  refine fn_vs F sc__law_point rfl (fun cdv A outer s H E hr => ?_)
  exact ⟨T__law_point, (dss_cut (ds_par (i := 1) (j := 2) rfl sc__law_point.nd rfl rfl (by decide) rfl rfl (da_cons (dc G__law_draw hr (da_cons (dv 0) (da_cons de_int da_nil))) (da_cons (dc G__law_of hr (da_cons (dv 0) (da_cons (de_lst (da_cons de_int (da_cons de_int (da_cons de_int (da_cons de_int (da_cons de_int da_nil)))))) da_nil))) da_nil)))
  (dss_cut (ds_setV (i := 3) sc__law_point.nd rfl (Or.inl rfl) (dc G__law_of hr (da_cons (dv 0) (da_cons (de_lst (da_cons de_int (da_cons de_int (da_cons de_int (da_cons (de_pow de_int de_int) da_nil))))) da_nil))))
  (dss_cons (ds_if (dt_eq hr.units (dv 1) de_int) (dss_one (ds_ret (de_tup (da_cons de_int (da_cons de_int (da_cons (dv 2) da_nil)))))) dss_nil)
  (dss_cons (ds_if (dt_lt (dv 1) de_int) (dss_one (ds_ret (de_if (dt_eq hr.units (dv 1) de_int) (de_tup (da_cons (dv 3) (da_cons de_int (da_cons (dv 2) da_nil)))) (de_tup (da_cons (de_sub de_int (dv 3)) (da_cons de_int (da_cons (dv 2) da_nil))))))) dss_nil)
  (dss_cons (ds_if (dt_eq hr.units (dv 1) de_int) (dss_one (ds_ret (dc G__law_of hr (da_cons (dv 0) (da_cons (de_lst (da_cons (de_tup (da_cons de_int (da_cons (dv 3) (da_cons (dv 2) da_nil)))) (da_cons (de_tup (da_cons de_int (da_cons (de_sub de_int (dv 3)) (da_cons (dv 2) da_nil)))) da_nil))) da_nil))))) dss_nil)
  (dss_cons (ds_if (dt_lt (dv 1) de_int) (dss_cut (ds_asg (dc G__law_ring hr (da_cons (dc G__law_draw hr (da_cons (dv 0) (da_cons de_int da_nil))) da_nil)) (dg_tup rfl (dgs_cons (dg_name (i := 4) sc__law_point.nd rfl (Or.inl rfl)) (dgs_cons (dg_name (i := 5) sc__law_point.nd rfl (Or.inl rfl)) dgs_nil))))
  (dss_one (ds_ret (de_tup (da_cons (de_mulA (dv 3) (dv 4)) (da_cons (de_mulA (dv 3) (dv 5)) (da_cons (de_mulA (dv 3) (dv 2)) da_nil))))))) dss_nil)
  (dss_one (ds_ret (de_tup (da_cons (de_sub (dc G__law_draw hr (da_cons (dv 0) (da_cons de_int da_nil))) de_int) (da_cons (de_sub (dc G__law_draw hr (da_cons (dv 0) (da_cons de_int da_nil))) de_int) (da_cons (dv 2) da_nil)))))))))))), fun args Φ hl h => rd__law_point h⟩
abbrev s__law_misses : Stmt := top 20
abbrev N__law_misses : List Str := (["p", "q"] : List Str)
theorem sc__law_misses : FnScope N__law_misses ["p", "q"] (defScope s__law_misses) := ⟨rfl, rfl, rfl, by decide +kernel, rfl, by decide +kernel, by decide +kernel⟩

theorem ok__law_misses {f : Addr} {fd : FuncData} (F : Fun K "_law_misses" "_law_misses" s__law_misses f fd)
     : FnOk P w K mg base CX0 1 f fd ["p", "q"] (lSp K 2 sp__law_misses) := by
  refine fn_vs F sc__law_misses rfl (fun cdv A outer s H E hr => ?_)
  exact ⟨T__law_misses, (dss_one (ds_ret (de_or (de_ne hr.units (de_mulA (de_item (dv 0) de_int) (de_item (dv 1) de_int)) (de_mulA (de_item (dv 0) de_int) (de_item (dv 1) de_int))) (de_one (de_gt (de_addA (de_mulA (de_item (dv 0) de_int) (de_item (dv 1) de_int)) (de_mulA (de_item (dv 0) de_int) (de_item (dv 1) de_int))) de_int))))), fun args Φ hl h => rd__law_misses h⟩
abbrev s__law_ray : Stmt := top 21
abbrev N__law_ray : List Str := (["p", "q", "a", "b", "rise", "meets"] : List Str)
theorem sc__law_ray : FnScope N__law_ray ["p", "q"] (defScope s__law_ray) := ⟨rfl, rfl, rfl, by decide +kernel, rfl, by decide +kernel, by decide +kernel⟩

theorem ok__law_ray {f : Addr} {fd : FuncData} (F : Fun K "_law_ray" "_law_ray" s__law_ray f fd)
     : FnOk P w K mg base CX0 1 f fd ["p", "q"] (lSp K 2 sp__law_ray) := by
  refine fn_vs F sc__law_ray rfl (fun cdv A outer s H E hr => ?_)
  exact ⟨T__law_ray, (dss_cut (ds_par (i := 2) (j := 3) rfl sc__law_ray.nd rfl rfl (by decide) rfl rfl (da_cons (de_tup (da_cons (de_mulA (de_item (dv 0) de_int) (de_item (dv 1) de_int)) (da_cons (de_mulA (de_item (dv 0) de_int) (de_item (dv 1) de_int)) da_nil))) (da_cons (de_tup (da_cons (de_mulA (de_item (dv 1) de_int) (de_item (dv 0) de_int)) (da_cons (de_mulA (de_item (dv 1) de_int) (de_item (dv 0) de_int)) da_nil))) da_nil)))
  (dss_cut (ds_if (dt_eq hr.units (de_lt (de_item (dv 2) de_int) de_int) (de_lt (de_item (dv 3) de_int) de_int)) (dss_one (ds_ret de_int)) dss_nil)
  (dss_cut (ds_setV (i := 4) sc__law_ray.nd rfl (Or.inl rfl) (de_sub (de_item (dv 3) de_int) (de_item (dv 2) de_int)))
  (dss_cut (ds_setV (i := 5) sc__law_ray.nd rfl (Or.inl rfl) (de_sub (de_mulA (de_item (dv 2) de_int) (dv 4)) (de_mulA (de_item (dv 2) de_int) (de_sub (de_item (dv 3) de_int) (de_item (dv 2) de_int)))))
  (dss_cut (ds_if (dt_gt (dv 4) de_int) (dss_one (ds_ret (de_if (dt_gt (dv 5) de_int) de_int de_int))) dss_nil)
  (dss_one (ds_ret (de_if (dt_lt (dv 5) de_int) (de_neg de_int) de_int)))))))), fun args Φ hl h => rd__law_ray h⟩
abbrev s__law_due : Stmt := top 22
abbrev N__law_due : List Str := (["row", "many", "k", "p", "q"] : List Str)
theorem sc__law_due : FnScope N__law_due ["row"] (defScope s__law_due) := ⟨rfl, rfl, rfl, by decide +kernel, rfl, by decide +kernel, by decide +kernel⟩

theorem ok__law_due {f : Addr} {fd : FuncData} (F : Fun K "_law_due" "_law_due" s__law_due f fd)
    {f__law_ray : Addr} {d__law_ray : FuncData} (G__law_ray : Cal P w K mg base CX0 1 2 sp__law_ray "_law_ray" f__law_ray d__law_ray ["p", "q"])
    {f__law_misses : Addr} {d__law_misses : FuncData} (G__law_misses : Cal P w K mg base CX0 1 2 sp__law_misses "_law_misses" f__law_misses d__law_misses ["p", "q"])
    {f__law_lowest : Addr} {d__law_lowest : FuncData} (G__law_lowest : Cal P w K mg base CX0 2 1 sp__law_lowest "_law_lowest" f__law_lowest d__law_lowest ["p"])
    (m_len : mg "len" = none)
    (m_range : mg "range" = none) : FnOk P w K mg base CX0 3 f fd ["row"] (lSp K 1 sp__law_due) := by
  refine fn_vs F sc__law_due rfl (fun cdv A outer s H E hr => ?_)
  exact ⟨T__law_due, (dss_cons (ds_setV (i := 1) sc__law_due.nd rfl (Or.inl rfl) de_int)
  (dss_cut (ds_forR1 m_range PassesOwn.never rfl (da_cons (de_sub (de_len m_len (da_cons (dv 0) da_nil)) de_int) da_nil) (dg_name (i := 2) sc__law_due.nd rfl (Or.inl rfl)) (dss_cons (ds_par (i := 3) (j := 4) rfl sc__law_due.nd rfl rfl (by decide) rfl rfl (da_cons (de_item (dv 0) (dv 2)) (da_cons (de_item (dv 0) (de_addA (dv 2) de_int)) da_nil)))
  (dss_cut (ds_if (dt_not (dt_val (dc G__law_misses hr (da_cons (dv 3) (da_cons (dv 4) da_nil))))) (dss_one (ds_ret (de_tup (da_cons de_str (da_cons (de_tup (da_cons (dc G__law_lowest hr (da_cons (dv 3) da_nil)) (da_cons (dc G__law_lowest hr (da_cons (dv 4) da_nil)) da_nil))) da_nil))))) dss_nil)
  (dss_one (ds_setV (i := 1) sc__law_due.nd rfl (Or.inl rfl) (de_addA (dv 1) (dc G__law_ray hr (da_cons (dv 3) (da_cons (dv 4) da_nil)))))))))
  (dss_one (ds_ret (dv 1))))), fun args Φ hl h => rd__law_due h⟩
abbrev s__law_asked : Stmt := top 23
abbrev N__law_asked : List Str := (["row", "pick", "error"] : List Str)
theorem sc__law_asked : FnScope N__law_asked ["row", "pick"] (defScope s__law_asked) := ⟨rfl, rfl, rfl, by decide +kernel, rfl, by decide +kernel, by decide +kernel⟩

theorem ok__law_asked {f : Addr} {fd : FuncData} (F : Fun K "_law_asked" "_law_asked" s__law_asked f fd)
    {C fI : Addr} (X_Crosses : PySem.CrossesX.CrossesTxt K mg C fI)
    (EI : ExI K C)
    (I_ValueError : PySem.W.kitOne K (.ref C) (.type "ValueError") = some true)
    {f_row_count : Addr} {d_row_count : FuncData} (G_row_count : Cal P w K mg base (L2.CX P w) 4 1 (sp_row_count C) "row_count" f_row_count d_row_count ["points"]) (kb_row_count : KwB d_row_count ["points"])
    {f_step_count : Addr} {d_step_count : FuncData} (G_step_count : Cal P w K mg base (L2.CX P w) 3 2 (sp_step_count C) "step_count" f_step_count d_step_count ["p", "q"])
    (m_ValueError : mg "ValueError" = none)
    (m_isinstance : mg "isinstance" = none)
    (m_tuple : mg "tuple" = none) : FnOk P w K mg base CX0 5 f fd ["row", "pick"] (lSp K 2 (sp__law_asked C)) := by
  refine fn_vs F sc__law_asked rfl (fun cdv A outer s H E hr => ?_)
  exact ⟨T__law_asked C, (dss_one (ds_try1 rfl rfl sc__law_asked.nd rfl rfl ⟨rfl, by decide, Or.inl X_Crosses.gC⟩ X_Crosses.te (fun W pn xe tk po => (dss_cons (ds_if (dt_eq hr.units (dv 1) de_int) (dss_one (ds_ret (dcX G_row_count tk hr (da_cons (dv 0) da_nil)))) dss_nil)
  (dss_one (ds_ret (de_if (dt_eq hr.units (dv 1) de_int) (dcKX G_row_count kb_row_count tk hr (dk_cons (de_tupc m_tuple (da_cons (dv 0) da_nil)) dk_nil)) (dcX G_step_count tk hr (da_cons (de_item (dv 0) de_int) (da_cons (de_item (dv 0) de_int) da_nil)))))))) (fun a oe cls dd pn hz hf => (dss_one (ds_ret (de_if (dt_val (de_isX EI hz hf I_ValueError m_isinstance (pv 2) rfl m_ValueError (by decide +kernel))) (de_tup (da_cons de_str (da_cons (de_fldCrosses X_Crosses hz hf (pv 2)) da_nil))) de_non)))))), fun args Φ hl h => rd__law_asked h⟩
abbrev s__law_row : Stmt := top 24
abbrev N__law_row : List Str := (["bag", "good", "mine", "k", "p"] : List Str)
theorem sc__law_row : FnScope N__law_row ["bag", "good"] (defScope s__law_row) := ⟨rfl, rfl, rfl, by decide +kernel, rfl, by decide +kernel, by decide +kernel⟩

theorem ok__law_row {f : Addr} {fd : FuncData} (F : Fun K "_law_row" "_law_row" s__law_row f fd)
    {f__law_misses : Addr} {d__law_misses : FuncData} (G__law_misses : Cal P w K mg base CX0 1 2 sp__law_misses "_law_misses" f__law_misses d__law_misses ["p", "q"])
    {f__law_draw : Addr} {d__law_draw : FuncData} (G__law_draw : Cal P w K mg base CX0 1 2 sp__law_draw "_law_draw" f__law_draw d__law_draw ["bag", "size"])
    {f__law_point : Addr} {d__law_point : FuncData} (G__law_point : Cal P w K mg base CX0 3 1 sp__law_point "_law_point" f__law_point d__law_point ["bag"])
    {f__law_of : Addr} {d__law_of : FuncData} (G__law_of : Cal P w K mg base CX0 2 2 sp__law_of "_law_of" f__law_of d__law_of ["bag", "things"])
    (m_len : mg "len" = none)
    (m_range : mg "range" = none) : FnOk P w K mg base CX0 4 f fd ["bag", "good"] (lSp K 2 sp__law_row) := by
  refine fn_vs F sc__law_row rfl (fun cdv A outer s H E hr => ?_)
  exact ⟨T__law_row, (dss_cons (ds_set (i := 2) sc__law_row.nd rfl (Or.inl rfl) (de_lst da_nil))
  (dss_cut (ds_forR1 m_range PassesOwn.never rfl (da_cons (dc G__law_of hr (da_cons (dv 0) (da_cons (de_lst (da_cons de_int (da_cons de_int (da_cons de_int (da_cons de_int (da_cons de_int (da_cons de_int da_nil))))))) da_nil))) da_nil) (dg_name (i := 3) sc__law_row.nd rfl (Or.inl rfl)) (dss_cut (ds_setV (i := 4) sc__law_row.nd rfl (Or.inl rfl) (dc G__law_point hr (da_cons (dv 0) da_nil)))
  (dss_cut (ds_if (dt_w (dw_and (dt_ne hr.units (dv 2) (de_lst da_nil)) (dw_and1 (dt_eq hr.units (dc G__law_draw hr (da_cons (dv 0) (da_cons de_int da_nil))) de_int)))) (dss_one (ds_setV (i := 4) sc__law_row.nd rfl (Or.inl rfl) (de_item (dv 2) (de_sub (de_len m_len (da_cons (dv 2) da_nil)) de_int)))) dss_nil)
  (dss_one (ds_if (dt_w (dw_or (dt_eq hr.units (dv 2) (de_lst da_nil)) (dw_or (dt_not (dt_val (dv 1))) (dw_or1 (dt_val (dc G__law_misses hr (da_cons (de_item (dv 2) (de_sub (de_len m_len (da_cons (dv 2) da_nil)) de_int)) (da_cons (dv 4) da_nil)))))))) (dss_one (ds_expr (dm_append (pv 2) (da_cons (dv 4) da_nil)))) dss_nil)))))
  (dss_one (ds_ret (dv 2))))), fun args Φ hl h => rd__law_row h⟩
abbrev s_law : Stmt := top 25
abbrev N_law : List Str := (["script", "bag", "lap", "row", "k", "back", "kept", "due"] : List Str)
theorem sc_law : FnScope N_law ["script"] (defScope s_law) := ⟨rfl, rfl, rfl, by decide +kernel, rfl, by decide +kernel, by decide +kernel⟩

theorem ok_law {f : Addr} {fd : FuncData} (F : Fun K "law" "law" s_law f fd)
    {C fI : Addr} (X_Crosses : PySem.CrossesX.CrossesTxt K mg C fI)
    {f__law_like : Addr} {d__law_like : FuncData} (G__law_like : Cal P w K mg base CX0 5 2 (sp__law_like 4) "_law_like" f__law_like d__law_like ["got", "due"])
    {f__law_asked : Addr} {d__law_asked : FuncData} (G__law_asked : Cal P w K mg base CX0 5 2 (sp__law_asked C) "_law_asked" f__law_asked d__law_asked ["row", "pick"])
    {f__law_due : Addr} {d__law_due : FuncData} (G__law_due : Cal P w K mg base CX0 3 1 sp__law_due "_law_due" f__law_due d__law_due ["row"])
    {f__law_row : Addr} {d__law_row : FuncData} (G__law_row : Cal P w K mg base CX0 4 2 sp__law_row "_law_row" f__law_row d__law_row ["bag", "good"])
    {f__law_bag : Addr} {d__law_bag : FuncData} (G__law_bag : Cal P w K mg base CX0 1 1 sp__law_bag "_law_bag" f__law_bag d__law_bag ["script"])
    (m_isinstance : mg "isinstance" = none)
    (m_len : mg "len" = none)
    (m_list : mg "list" = none)
    (m_range : mg "range" = none)
    (m_tuple : mg "tuple" = none) : FnOk P w K mg base CX0 6 f fd ["script"] (lSp K 1 sp_law) := by
  refine fn_vs F sc_law rfl (fun cdv A outer s H E hr => ?_)
  exact ⟨T_law C, (dss_cons (ds_set (i := 1) sc_law.nd rfl (Or.inl rfl) (dc G__law_bag hr (da_cons (dv 0) da_nil)))
  (dss_cut (ds_forR1 m_range PassesOwn.never rfl (da_cons de_int da_nil) (dg_name (i := 2) sc_law.nd rfl (Or.inl rfl)) (dss_cut (ds_setV (i := 3) sc_law.nd rfl (Or.inr rfl) (dc G__law_row hr (da_cons (dv 1) (da_cons (de_eq hr.units (de_mod (dv 2) de_int) de_int) da_nil))))
  (dss_fgt 4 (dss_cut (ds_par3 (i := 5) (j := 6) (l := 7) rfl sc_law.nd rfl rfl rfl (by decide) (by decide) (by decide) rfl rfl rfl (da_cons (de_lcR1 (own := [("k", 4)]) m_range rfl sc_law.nd (da_cons (de_len m_len (da_cons (dv 3) da_nil)) da_nil) (blkOk_by (N := N_law) (sc := defScope s_law) (own := [("k", 4)]) (by decide +kernel)) (fun _ _ _ _ _ => (dg_name (i := 4) sc_law.nd rfl (Or.inl rfl))) (fun _ _ _ _ _ => dts_nil) (fun _ _ _ _ _ => (de_item (dv 3) (de_sub (de_sub (de_len m_len (da_cons (dv 3) da_nil)) de_int) (dv 4))))) (da_cons (de_listc m_list (da_cons (dv 3) da_nil)) (da_cons (dc G__law_due hr (da_cons (dv 3) da_nil)) da_nil))))
  (dss_frz 6 (dss_frz 5 (dss_cut (ds_if (dt_not (dt_val (dc G__law_like hr (da_cons (de_lst (da_cons (dc G__law_asked hr (da_cons (dv 3) (da_cons (de_fdiv (dv 2) de_int) da_nil))) (da_cons (dc G__law_asked hr (da_cons (dv 5) (da_cons (de_sub de_int (de_fdiv (dv 2) de_int)) da_nil))) da_nil))) (da_cons (de_lst (da_cons (dv 7) (da_cons (dc G__law_due hr (da_cons (dv 5) da_nil)) da_nil))) da_nil))))) (dss_one (ds_ret de_bl)) dss_nil)
  (dss_cut (ds_if (dt_not (dt_val (dc G__law_like hr (da_cons (dv 3) (da_cons (dv 6) da_nil))))) (dss_one (ds_ret de_bl)) dss_nil)
  (dss_cut (ds_if (dt_w (dw_and (dt_eq hr.units (de_mod (dv 2) de_int) de_int) (dw_and1 (dt_ne hr.units (dc G__law_due hr (da_cons (dv 5) da_nil)) (de_sub de_int (dv 7)))))) (dss_one (ds_ret de_bl)) dss_nil)
  (dss_one (ds_forR1 m_range PassesOwn.never rfl (da_cons (de_sub (de_len m_len (da_cons (dv 3) da_nil)) de_int) da_nil) (dg_name (i := 4) sc_law.nd rfl (Or.inl rfl)) (dss_cut (ds_setV (i := 7) sc_law.nd rfl (Or.inl rfl) (dc G__law_due hr (da_cons (de_slL (dv 3) (do_some (dv 4)) (do_some (de_addA (dv 4) de_int))) da_nil)))
  (dss_cut (ds_if (dt_not (dt_val (dc G__law_like hr (da_cons (dc G__law_asked hr (da_cons (de_slL (dv 3) (do_some (dv 4)) (do_some (de_addA (dv 4) de_int))) (da_cons de_int da_nil))) (da_cons (dv 7) da_nil))))) (dss_one (ds_ret de_bl)) dss_nil)
  (dss_one (ds_if (dt_w (dw_and (dt_not (by exact (dt_val (de_isi m_isinstance (dv 7) rfl m_tuple (by decide +kernel) isD_tuple)))) (dw_and1 (dt_not (dt_val (dc G__law_like hr (da_cons (dc G__law_asked hr (da_cons (de_lst (da_cons (de_item (dv 3) (de_addA (dv 4) de_int)) (da_cons (de_item (dv 3) (dv 4)) da_nil))) (da_cons de_int da_nil))) (da_cons (de_sub de_int (dv 7)) da_nil)))))))) (dss_one (ds_ret de_bl)) dss_nil)))))))))))))))
  (dss_one (ds_ret de_bl)))), fun args Φ hl h => rd_law h⟩
end
/-! ### what the top has written; the law's own head -/
theorem exm_own {K : PySem.W.Frag} {S : Addr} (h1 : PySem.W.subIn K (.ref S) (.type "BaseException") = some true) (h2 : PySem.W.isClsIn K S = true) (h3 : PySem.W.typeIn K (.ref S) = some (.type "type")) (h4 : PySem.W.subIn K (.ref S) (.ref S) = some true) : PySem.W.exmOne K (.ref S) (.ref S) = some true := by
  have e1 : (PySem.W.subIn K (.ref S) (.type "BaseException") == some true) = true := by rw [h1] <;> rfl
  have e2 : ((PySem.W.clsIn K S).isSome && PySem.W.typeIn K (.ref S) == some (.type "type")) = true := by
    have h5 : (PySem.W.clsIn K S).isSome = true := h2
    rw [h5, h3] <;> rfl
  show (if (PySem.W.subIn K (.ref S) (.type "BaseException") == some true) = true then (if ((PySem.W.clsIn K S).isSome && PySem.W.typeIn K (.ref S) == some (.type "type")) = true then PySem.W.subIn K (.ref S) (.ref S) else none) else none) = some true
  rw [if_pos e1, if_pos e2]
  exact h4
theorem all_mk {l : PySem.W.OpenLaw} {w : World} {K : PySem.W.Frag} {h : Heap} {mg : Str → Option Value} {fa : Addr} (X : K.In h) (G : h.Ns mainGlobals mg) (hfa : mg "law" = some (.ref fa))
    {oc1 kV1 dc1 pm1 cd1 ct1 : Value} {od1 an1 : Option Addr} {sl1 : Array (Option Value)} {f1 : Addr}
    (a1 : PySem.W.nsIn K mainGlobals "lowest_point" = some (some (.ref f1)))
    (l1 : K.lookup f1 = some ⟨oc1, od1, .func (PySem.W.fnOf "lowest_point" "lowest_point" (defArgs s_lowest_point) (defBody s_lowest_point) (defScope s_lowest_point) .none kV1 dc1 pm1 an1 cd1 ct1), sl1⟩)
    (c1 : PySem.W.codeIn K cd1 "lowest_point" = true) (k1 : PySem.W.keepIn K (.ref f1) = true)
    {oc2 kV2 dc2 pm2 cd2 ct2 : Value} {od2 an2 : Option Addr} {sl2 : Array (Option Value)} {f2 : Addr}
    (a2 : PySem.W.nsIn K mainGlobals "cross" = some (some (.ref f2)))
    (l2 : K.lookup f2 = some ⟨oc2, od2, .func (PySem.W.fnOf "cross" "cross" (defArgs s_cross) (defBody s_cross) (defScope s_cross) .none kV2 dc2 pm2 an2 cd2 ct2), sl2⟩)
    (c2 : PySem.W.codeIn K cd2 "cross" = true) (k2 : PySem.W.keepIn K (.ref f2) = true)
    {oc3 kV3 dc3 pm3 cd3 ct3 : Value} {od3 an3 : Option Addr} {sl3 : Array (Option Value)} {f3 : Addr}
    (a3 : PySem.W.nsIn K mainGlobals "misses" = some (some (.ref f3)))
    (l3 : K.lookup f3 = some ⟨oc3, od3, .func (PySem.W.fnOf "misses" "misses" (defArgs s_misses) (defBody s_misses) (defScope s_misses) .none kV3 dc3 pm3 an3 cd3 ct3), sl3⟩)
    (c3 : PySem.W.codeIn K cd3 "misses" = true) (k3 : PySem.W.keepIn K (.ref f3) = true)
    {oc4 kV4 dc4 pm4 cd4 ct4 : Value} {od4 an4 : Option Addr} {sl4 : Array (Option Value)} {f4 : Addr}
    (a4 : PySem.W.nsIn K mainGlobals "ray_count" = some (some (.ref f4)))
    (l4 : K.lookup f4 = some ⟨oc4, od4, .func (PySem.W.fnOf "ray_count" "ray_count" (defArgs s_ray_count) (defBody s_ray_count) (defScope s_ray_count) .none kV4 dc4 pm4 an4 cd4 ct4), sl4⟩)
    (c4 : PySem.W.codeIn K cd4 "ray_count" = true) (k4 : PySem.W.keepIn K (.ref f4) = true)
    {oc5 kV5 dc5 pm5 cd5 ct5 : Value} {od5 an5 : Option Addr} {sl5 : Array (Option Value)} {f5 : Addr}
    (a5 : PySem.W.nsIn K mainGlobals "step_count" = some (some (.ref f5)))
    (l5 : K.lookup f5 = some ⟨oc5, od5, .func (PySem.W.fnOf "step_count" "step_count" (defArgs s_step_count) (defBody s_step_count) (defScope s_step_count) .none kV5 dc5 pm5 an5 cd5 ct5), sl5⟩)
    (c5 : PySem.W.codeIn K cd5 "step_count" = true) (k5 : PySem.W.keepIn K (.ref f5) = true)
    {oc6 kV6 dc6 pm6 cd6 ct6 : Value} {od6 an6 : Option Addr} {sl6 : Array (Option Value)} {f6 : Addr}
    (a6 : PySem.W.nsIn K mainGlobals "row_count" = some (some (.ref f6)))
    (l6 : K.lookup f6 = some ⟨oc6, od6, .func (PySem.W.fnOf "row_count" "row_count" (defArgs s_row_count) (defBody s_row_count) (defScope s_row_count) .none kV6 dc6 pm6 an6 cd6 ct6), sl6⟩)
    (c6 : PySem.W.codeIn K cd6 "row_count" = true) (k6 : PySem.W.keepIn K (.ref f6) = true)
    {oc7 kV7 dc7 pm7 cd7 ct7 : Value} {od7 an7 : Option Addr} {sl7 : Array (Option Value)} {f7 : Addr}
    (a7 : PySem.W.nsIn K mainGlobals "_law_bag" = some (some (.ref f7)))
    (l7 : K.lookup f7 = some ⟨oc7, od7, .func (PySem.W.fnOf "_law_bag" "_law_bag" (defArgs s__law_bag) (defBody s__law_bag) (defScope s__law_bag) .none kV7 dc7 pm7 an7 cd7 ct7), sl7⟩)
    (c7 : PySem.W.codeIn K cd7 "_law_bag" = true) (k7 : PySem.W.keepIn K (.ref f7) = true)
    {oc8 kV8 dc8 pm8 cd8 ct8 : Value} {od8 an8 : Option Addr} {sl8 : Array (Option Value)} {f8 : Addr}
    (a8 : PySem.W.nsIn K mainGlobals "_law_draw" = some (some (.ref f8)))
    (l8 : K.lookup f8 = some ⟨oc8, od8, .func (PySem.W.fnOf "_law_draw" "_law_draw" (defArgs s__law_draw) (defBody s__law_draw) (defScope s__law_draw) .none kV8 dc8 pm8 an8 cd8 ct8), sl8⟩)
    (c8 : PySem.W.codeIn K cd8 "_law_draw" = true) (k8 : PySem.W.keepIn K (.ref f8) = true)
    {oc9 kV9 dc9 pm9 cd9 ct9 : Value} {od9 an9 : Option Addr} {sl9 : Array (Option Value)} {f9 : Addr}
    (a9 : PySem.W.nsIn K mainGlobals "_law_of" = some (some (.ref f9)))
    (l9 : K.lookup f9 = some ⟨oc9, od9, .func (PySem.W.fnOf "_law_of" "_law_of" (defArgs s__law_of) (defBody s__law_of) (defScope s__law_of) .none kV9 dc9 pm9 an9 cd9 ct9), sl9⟩)
    (c9 : PySem.W.codeIn K cd9 "_law_of" = true) (k9 : PySem.W.keepIn K (.ref f9) = true)
    {oc10 kV10 dc10 pm10 cd10 ct10 : Value} {od10 an10 : Option Addr} {sl10 : Array (Option Value)} {f10 : Addr}
    (a10 : PySem.W.nsIn K mainGlobals "_law_like" = some (some (.ref f10)))
    (l10 : K.lookup f10 = some ⟨oc10, od10, .func (PySem.W.fnOf "_law_like" "_law_like" (defArgs s__law_like) (defBody s__law_like) (defScope s__law_like) .none kV10 dc10 pm10 an10 cd10 ct10), sl10⟩)
    (c10 : PySem.W.codeIn K cd10 "_law_like" = true) (k10 : PySem.W.keepIn K (.ref f10) = true)
    {oc11 kV11 dc11 pm11 cd11 ct11 : Value} {od11 an11 : Option Addr} {sl11 : Array (Option Value)} {f11 : Addr}
    (a11 : PySem.W.nsIn K mainGlobals "_law_gcd" = some (some (.ref f11)))
    (l11 : K.lookup f11 = some ⟨oc11, od11, .func (PySem.W.fnOf "_law_gcd" "_law_gcd" (defArgs s__law_gcd) (defBody s__law_gcd) (defScope s__law_gcd) .none kV11 dc11 pm11 an11 cd11 ct11), sl11⟩)
    (c11 : PySem.W.codeIn K cd11 "_law_gcd" = true) (k11 : PySem.W.keepIn K (.ref f11) = true)
    {oc12 kV12 dc12 pm12 cd12 ct12 : Value} {od12 an12 : Option Addr} {sl12 : Array (Option Value)} {f12 : Addr}
    (a12 : PySem.W.nsIn K mainGlobals "_law_lowest" = some (some (.ref f12)))
    (l12 : K.lookup f12 = some ⟨oc12, od12, .func (PySem.W.fnOf "_law_lowest" "_law_lowest" (defArgs s__law_lowest) (defBody s__law_lowest) (defScope s__law_lowest) .none kV12 dc12 pm12 an12 cd12 ct12), sl12⟩)
    (c12 : PySem.W.codeIn K cd12 "_law_lowest" = true) (k12 : PySem.W.keepIn K (.ref f12) = true)
    {oc13 kV13 dc13 pm13 cd13 ct13 : Value} {od13 an13 : Option Addr} {sl13 : Array (Option Value)} {f13 : Addr}
    (a13 : PySem.W.nsIn K mainGlobals "_law_ring" = some (some (.ref f13)))
    (l13 : K.lookup f13 = some ⟨oc13, od13, .func (PySem.W.fnOf "_law_ring" "_law_ring" (defArgs s__law_ring) (defBody s__law_ring) (defScope s__law_ring) .none kV13 dc13 pm13 an13 cd13 ct13), sl13⟩)
    (c13 : PySem.W.codeIn K cd13 "_law_ring" = true) (k13 : PySem.W.keepIn K (.ref f13) = true)
    {oc14 kV14 dc14 pm14 cd14 ct14 : Value} {od14 an14 : Option Addr} {sl14 : Array (Option Value)} {f14 : Addr}
    (a14 : PySem.W.nsIn K mainGlobals "_law_point" = some (some (.ref f14)))
    (l14 : K.lookup f14 = some ⟨oc14, od14, .func (PySem.W.fnOf "_law_point" "_law_point" (defArgs s__law_point) (defBody s__law_point) (defScope s__law_point) .none kV14 dc14 pm14 an14 cd14 ct14), sl14⟩)
    (c14 : PySem.W.codeIn K cd14 "_law_point" = true) (k14 : PySem.W.keepIn K (.ref f14) = true)
    {oc15 kV15 dc15 pm15 cd15 ct15 : Value} {od15 an15 : Option Addr} {sl15 : Array (Option Value)} {f15 : Addr}
    (a15 : PySem.W.nsIn K mainGlobals "_law_misses" = some (some (.ref f15)))
    (l15 : K.lookup f15 = some ⟨oc15, od15, .func (PySem.W.fnOf "_law_misses" "_law_misses" (defArgs s__law_misses) (defBody s__law_misses) (defScope s__law_misses) .none kV15 dc15 pm15 an15 cd15 ct15), sl15⟩)
    (c15 : PySem.W.codeIn K cd15 "_law_misses" = true) (k15 : PySem.W.keepIn K (.ref f15) = true)
    {oc16 kV16 dc16 pm16 cd16 ct16 : Value} {od16 an16 : Option Addr} {sl16 : Array (Option Value)} {f16 : Addr}
    (a16 : PySem.W.nsIn K mainGlobals "_law_ray" = some (some (.ref f16)))
    (l16 : K.lookup f16 = some ⟨oc16, od16, .func (PySem.W.fnOf "_law_ray" "_law_ray" (defArgs s__law_ray) (defBody s__law_ray) (defScope s__law_ray) .none kV16 dc16 pm16 an16 cd16 ct16), sl16⟩)
    (c16 : PySem.W.codeIn K cd16 "_law_ray" = true) (k16 : PySem.W.keepIn K (.ref f16) = true)
    {oc17 kV17 dc17 pm17 cd17 ct17 : Value} {od17 an17 : Option Addr} {sl17 : Array (Option Value)} {f17 : Addr}
    (a17 : PySem.W.nsIn K mainGlobals "_law_due" = some (some (.ref f17)))
    (l17 : K.lookup f17 = some ⟨oc17, od17, .func (PySem.W.fnOf "_law_due" "_law_due" (defArgs s__law_due) (defBody s__law_due) (defScope s__law_due) .none kV17 dc17 pm17 an17 cd17 ct17), sl17⟩)
    (c17 : PySem.W.codeIn K cd17 "_law_due" = true) (k17 : PySem.W.keepIn K (.ref f17) = true)
    {oc18 kV18 dc18 pm18 cd18 ct18 : Value} {od18 an18 : Option Addr} {sl18 : Array (Option Value)} {f18 : Addr}
    (a18 : PySem.W.nsIn K mainGlobals "_law_asked" = some (some (.ref f18)))
    (l18 : K.lookup f18 = some ⟨oc18, od18, .func (PySem.W.fnOf "_law_asked" "_law_asked" (defArgs s__law_asked) (defBody s__law_asked) (defScope s__law_asked) .none kV18 dc18 pm18 an18 cd18 ct18), sl18⟩)
    (c18 : PySem.W.codeIn K cd18 "_law_asked" = true) (k18 : PySem.W.keepIn K (.ref f18) = true)
    {oc19 kV19 dc19 pm19 cd19 ct19 : Value} {od19 an19 : Option Addr} {sl19 : Array (Option Value)} {f19 : Addr}
    (a19 : PySem.W.nsIn K mainGlobals "_law_row" = some (some (.ref f19)))
    (l19 : K.lookup f19 = some ⟨oc19, od19, .func (PySem.W.fnOf "_law_row" "_law_row" (defArgs s__law_row) (defBody s__law_row) (defScope s__law_row) .none kV19 dc19 pm19 an19 cd19 ct19), sl19⟩)
    (c19 : PySem.W.codeIn K cd19 "_law_row" = true) (k19 : PySem.W.keepIn K (.ref f19) = true)
    {oc20 kV20 dc20 pm20 cd20 ct20 : Value} {od20 an20 : Option Addr} {sl20 : Array (Option Value)} {f20 : Addr}
    (a20 : PySem.W.nsIn K mainGlobals "law" = some (some (.ref f20)))
    (l20 : K.lookup f20 = some ⟨oc20, od20, .func (PySem.W.fnOf "law" "law" (defArgs s_law) (defBody s_law) (defScope s_law) .none kV20 dc20 pm20 an20 cd20 ct20), sl20⟩)
    (c20 : PySem.W.codeIn K cd20 "law" = true) (k20 : PySem.W.keepIn K (.ref f20) = true)
    {nm q : Str} {N C fI : Addr} {bs : List Value} {sn : List Str} {sub : List Value} {ab : Bool} {col : Option Bool} {dd : Option Addr} {m0 m1 m2 m3 m5 : Option Value} {odE anE : Option Addr} {slE : Array (Option Value)} {ocE dcE pmE cdE ctE : Value} {p1 p2 q1 q2 q3 q4 : Pos}
    (eA : PySem.W.nsIn K mainGlobals "Crosses" = some (some (.ref C)))
    (eX : K.lookup C = some (excClassObj nm q C N bs [.type "ValueError", .type "Exception", .type "BaseException", .type "object"] true sn sub ab col dd m0 m1 m2 m3 m5 "ValueError.__new__"))
    (eS : PySem.W.findIn K (.ref C) "__setattr__" = some (some (.builtin "object.__setattr__"))) (eG : PySem.W.findIn K (.ref C) "__getattribute__" = some (some (.builtin "BaseException.__getattribute__"))) (eH : PySem.W.findIn K (.ref C) "__getattr__" = some none) (eN : PySem.W.findIn K (.ref C) "where" = some none)
    (eI : PySem.W.findIn K (.ref C) "__init__" = some (some (.ref fI))) (eT : PySem.W.typeIn K (.ref fI) = some (.type "function"))
    (eL : K.lookup fI = some ⟨ocE, odE, .func (PySem.W.fnOf "__init__" "Crosses.__init__" (PySem.CrossesX.iA p1 p2) (PySem.CrossesX.iB q1 q2 q3 q4) PySem.CrossesX.iS .none .none dcE pmE anE cdE ctE), slE⟩) (eC : PySem.W.codeIn K cdE "Crosses.__init__" = true)
    (eK : PySem.W.keepIn K (.ref C) = true) (eE : PySem.W.subIn K (.ref C) (.type "BaseException") = some true) (eY : PySem.W.typeIn K (.ref C) = some (.type "type")) (eD : PySem.W.hasDictIn K C = true) (eO : PySem.W.isClsIn K C = true) (eU : PySem.W.subIn K (.ref C) (.ref C) = some true)
    (j1 : PySem.W.findIn K (.ref C) "__class__" = some (some (.builtin "object.__class__"))) (j2 : PySem.W.specialIn K (.builtin "object.__class__") "__get__" = some (some (.builtin "getset_descriptor.__get__")))
    (j3 : PySem.W.takesIn K (.builtin "object.__class__") = some true) (j4 : PySem.W.mroIn K C (.type "object") = some true)
    (i_ValueError : PySem.W.kitOne K (.ref C) (.type "ValueError") = some true)
    (z_ValueError : PySem.W.nsIn K mainGlobals "ValueError" = some none)
    (z_abs : PySem.W.nsIn K mainGlobals "abs" = some none)
    (z_all : PySem.W.nsIn K mainGlobals "all" = some none)
    (z_bool : PySem.W.nsIn K mainGlobals "bool" = some none)
    (z_dict : PySem.W.nsIn K mainGlobals "dict" = some none)
    (z_gcd : PySem.W.nsIn K mainGlobals "gcd" = some (some (.builtin "math.gcd")))
    (z_int : PySem.W.nsIn K mainGlobals "int" = some none)
    (z_isinstance : PySem.W.nsIn K mainGlobals "isinstance" = some none)
    (z_len : PySem.W.nsIn K mainGlobals "len" = some none)
    (z_list : PySem.W.nsIn K mainGlobals "list" = some none)
    (z_range : PySem.W.nsIn K mainGlobals "range" = some none)
    (z_str : PySem.W.nsIn K mainGlobals "str" = some none)
    (z_tuple : PySem.W.nsIn K mainGlobals "tuple" = some none)
    (z_zip : PySem.W.nsIn K mainGlobals "zip" = some none) :
    ∃ fd : FuncData, (∀ (s : Shared) (v : Value), BindsTo s fd ⟨[v], []⟩ [("script", v)]) ∧ ∀ base : Heap, K.In base → base.Ns mainGlobals mg → FnOk l.prog w K mg base CX0 6 fa fd ["script"] (lSp K 1 sp_law) := by
  have e := hfa.symm.trans (PySem.W.mg_of X G a20)
  cases e
  have F1 := fun_mk (st := s_lowest_point) l1 c1 k1
  have b1 := F1.binds (ps := ["point"]) fun _ _ _ _ _ _ us hl => match us, hl with | [_], _ => rfl
  have F2 := fun_mk (st := s_cross) l2 c2 k2
  have b2 := F2.binds (ps := ["p", "q"]) fun _ _ _ _ _ _ us hl => match us, hl with | [_, _], _ => rfl
  have F3 := fun_mk (st := s_misses) l3 c3 k3
  have b3 := F3.binds (ps := ["p", "q"]) fun _ _ _ _ _ _ us hl => match us, hl with | [_, _], _ => rfl
  have F4 := fun_mk (st := s_ray_count) l4 c4 k4
  have b4 := F4.binds (ps := ["p", "q"]) fun _ _ _ _ _ _ us hl => match us, hl with | [_, _], _ => rfl
  have F5 := fun_mk (st := s_step_count) l5 c5 k5
  have b5 := F5.binds (ps := ["p", "q"]) fun _ _ _ _ _ _ us hl => match us, hl with | [_, _], _ => rfl
  have F6 := fun_mk (st := s_row_count) l6 c6 k6
  have b6 := F6.binds (ps := ["points"]) fun _ _ _ _ _ _ us hl => match us, hl with | [_], _ => rfl
  have F7 := fun_mk (st := s__law_bag) l7 c7 k7
  have b7 := F7.binds (ps := ["script"]) fun _ _ _ _ _ _ us hl => match us, hl with | [_], _ => rfl
  have F8 := fun_mk (st := s__law_draw) l8 c8 k8
  have b8 := F8.binds (ps := ["bag", "size"]) fun _ _ _ _ _ _ us hl => match us, hl with | [_, _], _ => rfl
  have F9 := fun_mk (st := s__law_of) l9 c9 k9
  have b9 := F9.binds (ps := ["bag", "things"]) fun _ _ _ _ _ _ us hl => match us, hl with | [_, _], _ => rfl
  have F10 := fun_mk (st := s__law_like) l10 c10 k10
  have b10 := F10.binds (ps := ["got", "due"]) fun _ _ _ _ _ _ us hl => match us, hl with | [_, _], _ => rfl
  have F11 := fun_mk (st := s__law_gcd) l11 c11 k11
  have b11 := F11.binds (ps := ["a", "b"]) fun _ _ _ _ _ _ us hl => match us, hl with | [_, _], _ => rfl
  have F12 := fun_mk (st := s__law_lowest) l12 c12 k12
  have b12 := F12.binds (ps := ["p"]) fun _ _ _ _ _ _ us hl => match us, hl with | [_], _ => rfl
  have F13 := fun_mk (st := s__law_ring) l13 c13 k13
  have b13 := F13.binds (ps := ["k"]) fun _ _ _ _ _ _ us hl => match us, hl with | [_], _ => rfl
  have F14 := fun_mk (st := s__law_point) l14 c14 k14
  have b14 := F14.binds (ps := ["bag"]) fun _ _ _ _ _ _ us hl => match us, hl with | [_], _ => rfl
  have F15 := fun_mk (st := s__law_misses) l15 c15 k15
  have b15 := F15.binds (ps := ["p", "q"]) fun _ _ _ _ _ _ us hl => match us, hl with | [_, _], _ => rfl
  have F16 := fun_mk (st := s__law_ray) l16 c16 k16
  have b16 := F16.binds (ps := ["p", "q"]) fun _ _ _ _ _ _ us hl => match us, hl with | [_, _], _ => rfl
  have F17 := fun_mk (st := s__law_due) l17 c17 k17
  have b17 := F17.binds (ps := ["row"]) fun _ _ _ _ _ _ us hl => match us, hl with | [_], _ => rfl
  have F18 := fun_mk (st := s__law_asked) l18 c18 k18
  have b18 := F18.binds (ps := ["row", "pick"]) fun _ _ _ _ _ _ us hl => match us, hl with | [_, _], _ => rfl
  have F19 := fun_mk (st := s__law_row) l19 c19 k19
  have b19 := F19.binds (ps := ["bag", "good"]) fun _ _ _ _ _ _ us hl => match us, hl with | [_, _], _ => rfl
  have F20 := fun_mk (st := s_law) l20 c20 k20
  have b20 := F20.binds (ps := ["script"]) fun _ _ _ _ _ _ us hl => match us, hl with | [_], _ => rfl
  have XE : PySem.CrossesX.CrossesTxt K mg C fI :=
    { gC := PySem.W.mg_of X G eA, cls := ⟨nm, q, N, bs, _, sn, sub, ab, col, dd, m0, m1, m2, m3, m5, eX, by decide +kernel⟩, sa := eS, ga := eG, gg := eH, noN := eN, iC := eI, tC := eT, kC := eK, exC := eE, tyC := eY, hdC := eD, te := exm_own eE eO eY eU,
      fn := ⟨_, _, _, _, _, _, _, _, _, _, _, _, _, _, eL, eC⟩ }
  have EI : ExI K C := ⟨eG, eH, eE, eO, j1, j2, j3, j4⟩
  have kb6 : KwB (PySem.W.fnOf "row_count" "row_count" (defArgs s_row_count) (defBody s_row_count) (defScope s_row_count) .none kV6 dc6 pm6 an6 cd6 ct6) ["points"] := fun s ws hl => match ws, hl with | [_], _ => .of_eq rfl
  refine ⟨PySem.W.fnOf "law" "law" (defArgs s_law) (defBody s_law) (defScope s_law) .none kV20 dc20 pm20 an20 cd20 ct20, fun s v => .of_eq rfl, fun base _ _ => ?_⟩
  have G1 : Cal l.prog w K mg base CX0 1 1 sp_lowest_point "lowest_point" f1 _ ["point"] := ⟨ok_lowest_point F1  (PySem.W.mg_of X G z_gcd), PySem.W.mg_of X G a1, F1.kp, b1⟩
  have G2 : Cal l.prog w K mg base CX0 1 2 sp_cross "cross" f2 _ ["p", "q"] := ⟨ok_cross F2  , PySem.W.mg_of X G a2, F2.kp, b2⟩
  have G3 : Cal l.prog w K mg base CX0 2 2 sp_misses "misses" f3 _ ["p", "q"] := ⟨ok_misses F3 G2 , PySem.W.mg_of X G a3, F3.kp, b3⟩
  have G4 : Cal l.prog w K mg base CX0 2 2 sp_ray_count "ray_count" f4 _ ["p", "q"] := ⟨ok_ray_count F4 G2 , PySem.W.mg_of X G a4, F4.kp, b4⟩
  have G5 : Cal l.prog w K mg base (L2.CX l.prog w) 3 2 (sp_step_count C) "step_count" f5 _ ["p", "q"] := ⟨ok_step_count F5 XE G4 G3 G1 , PySem.W.mg_of X G a5, F5.kp, b5⟩
  have G6 : Cal l.prog w K mg base (L2.CX l.prog w) 4 1 (sp_row_count C) "row_count" f6 _ ["points"] := ⟨ok_row_count F6 XE G5 (PySem.W.mg_none_of X G z_len) (PySem.W.mg_none_of X G z_range), PySem.W.mg_of X G a6, F6.kp, b6⟩
  have G7 : Cal l.prog w K mg base CX0 1 1 sp__law_bag "_law_bag" f7 _ ["script"] := ⟨ok__law_bag F7  (PySem.W.mg_none_of X G z_int) (PySem.W.mg_none_of X G z_list), PySem.W.mg_of X G a7, F7.kp, b7⟩
  have G8 : Cal l.prog w K mg base CX0 1 2 sp__law_draw "_law_draw" f8 _ ["bag", "size"] := ⟨ok__law_draw F8  (PySem.W.mg_none_of X G z_int) (PySem.W.mg_none_of X G z_len), PySem.W.mg_of X G a8, F8.kp, b8⟩
  have G9 : Cal l.prog w K mg base CX0 2 2 sp__law_of "_law_of" f9 _ ["bag", "things"] := ⟨ok__law_of F9 G8 (PySem.W.mg_none_of X G z_len), PySem.W.mg_of X G a9, F9.kp, b9⟩
  have G10 : Cal l.prog w K mg base CX0 5 2 (sp__law_like 4) "_law_like" f10 _ ["got", "due"] := ⟨all__law_like F10 (PySem.W.mg_of X G a10) b10 (PySem.W.mg_none_of X G z_all) (PySem.W.mg_none_of X G z_bool) (PySem.W.mg_none_of X G z_dict) (PySem.W.mg_none_of X G z_int) (PySem.W.mg_none_of X G z_isinstance) (PySem.W.mg_none_of X G z_len) (PySem.W.mg_none_of X G z_list) (PySem.W.mg_none_of X G z_str) (PySem.W.mg_none_of X G z_tuple) (PySem.W.mg_none_of X G z_zip) 4, PySem.W.mg_of X G a10, F10.kp, b10⟩
  have G11 : Cal l.prog w K mg base CX0 1 2 sp__law_gcd "_law_gcd" f11 _ ["a", "b"] := ⟨ok__law_gcd F11  (PySem.W.mg_none_of X G z_abs) (PySem.W.mg_none_of X G z_int), PySem.W.mg_of X G a11, F11.kp, b11⟩
  have G12 : Cal l.prog w K mg base CX0 2 1 sp__law_lowest "_law_lowest" f12 _ ["p"] := ⟨ok__law_lowest F12 G11 , PySem.W.mg_of X G a12, F12.kp, b12⟩
  have G13 : Cal l.prog w K mg base CX0 1 1 sp__law_ring "_law_ring" f13 _ ["k"] := ⟨ok__law_ring F13  (PySem.W.mg_none_of X G z_int), PySem.W.mg_of X G a13, F13.kp, b13⟩
  have G14 : Cal l.prog w K mg base CX0 3 1 sp__law_point "_law_point" f14 _ ["bag"] := ⟨ok__law_point F14 G8 G13 G9 , PySem.W.mg_of X G a14, F14.kp, b14⟩
  have G15 : Cal l.prog w K mg base CX0 1 2 sp__law_misses "_law_misses" f15 _ ["p", "q"] := ⟨ok__law_misses F15  , PySem.W.mg_of X G a15, F15.kp, b15⟩
  have G16 : Cal l.prog w K mg base CX0 1 2 sp__law_ray "_law_ray" f16 _ ["p", "q"] := ⟨ok__law_ray F16  , PySem.W.mg_of X G a16, F16.kp, b16⟩
  have G17 : Cal l.prog w K mg base CX0 3 1 sp__law_due "_law_due" f17 _ ["row"] := ⟨ok__law_due F17 G16 G15 G12 (PySem.W.mg_none_of X G z_len) (PySem.W.mg_none_of X G z_range), PySem.W.mg_of X G a17, F17.kp, b17⟩
  have G18 : Cal l.prog w K mg base CX0 5 2 (sp__law_asked C) "_law_asked" f18 _ ["row", "pick"] := ⟨ok__law_asked F18 XE EI i_ValueError G6 kb6 G5 (PySem.W.mg_none_of X G z_ValueError) (PySem.W.mg_none_of X G z_isinstance) (PySem.W.mg_none_of X G z_tuple), PySem.W.mg_of X G a18, F18.kp, b18⟩
  have G19 : Cal l.prog w K mg base CX0 4 2 sp__law_row "_law_row" f19 _ ["bag", "good"] := ⟨ok__law_row F19 G15 G8 G14 G9 (PySem.W.mg_none_of X G z_len) (PySem.W.mg_none_of X G z_range), PySem.W.mg_of X G a19, F19.kp, b19⟩
  exact ok_law F20 XE G10 G18 G17 G19 G7 (PySem.W.mg_none_of X G z_isinstance) (PySem.W.mg_none_of X G z_len) (PySem.W.mg_none_of X G z_list) (PySem.W.mg_none_of X G z_range) (PySem.W.mg_none_of X G z_tuple)
theorem of_seq {K : PySem.W.Frag} {M : Ms} {H : Hp} {a : Addr} {xs : List V} (h : SqL K H a xs) (hM : ¬ M a) : SLx K M H a xs := by
  rcases h with h | h
  · exact .inl ⟨hM, h⟩
  · exact .inr (.inr h)
theorem start_law {K : PySem.W.Frag} {H : Hp} {a : Addr} {ns : List Int} {Q : VK} {E : XK} (hS : SqL K H a (ns.map V.int)) (hQ : ∀ H', Q (.bl true) H') : lSp K 1 sp_law [.ref a] H Q E :=
  ⟨rfl, { M := fun _ => False, F := fun _ => False, H := H }, [.val (.lst (ns.map D.int))], fun r _ => r = .val (.bl true), fun _ _ => False,
    ⟨.cons (.lst (of_seq hS (by simp [mm, oas])) (RpA.of_ints ns)) .nil, by simp [oas], by simp [oas], fun a u q _ => q⟩, rfl, by simp [oas], ⟨ns, rfl, rfl⟩, fun r ds v H' _ hr _ hv => by
      subst hr
      cases hv
      exact hQ _, fun x ds cls d H' z => z.elim⟩
end VS
open PySem PySem.W PyProof.Rows
set_option maxHeartbeats 0 in
theorem PySem.Challenge.cw_surelycrossed_k23_counts_beside_the_ray_holds : PySem.Challenge.rw_surelycrossed_k23_counts_beside_the_ray.Holds := by
  w_on; o_law; k_head; (case hw => w_witness2)
  k_fill
  refine L2.walk_of (l := PySem.Challenge.rw_surelycrossed_k23_counts_beside_the_ray) (n := 63) (k := 6) (x := "script") (CX := fun _ => L2.CX0) (sp := fun w => VS.lSp _ 1 VS.sp_law) rfl (by decide) rfl ⟨rfl, by decide, by decide⟩ (fun w h Y => PySem.W.kIn_of Y) ?F (fun _ _ a ns hl _ hS => VS.start_law hS fun _ => rfl) (fun _ _ _ _ _ h => h)
  case F =>
    intro w mg fa h KX G hmg

    refine' VS.all_mk KX G hmg ?a1 ?l1 ?c1 ?k1 ?a2 ?l2 ?c2 ?k2 ?a3 ?l3 ?c3 ?k3 ?a4 ?l4 ?c4 ?k4 ?a5 ?l5 ?c5 ?k5 ?a6 ?l6 ?c6 ?k6 ?a7 ?l7 ?c7 ?k7 ?a8 ?l8 ?c8 ?k8 ?a9 ?l9 ?c9 ?k9 ?a10 ?l10 ?c10 ?k10 ?a11 ?l11 ?c11 ?k11 ?a12 ?l12 ?c12 ?k12 ?a13 ?l13 ?c13 ?k13 ?a14 ?l14 ?c14 ?k14 ?a15 ?l15 ?c15 ?k15 ?a16 ?l16 ?c16 ?k16 ?a17 ?l17 ?c17 ?k17 ?a18 ?l18 ?c18 ?k18 ?a19 ?l19 ?c19 ?k19 ?a20 ?l20 ?c20 ?k20 ?eA ?eX ?eS ?eG ?eH ?eN ?eI ?eT ?eL ?eC ?eK ?eE ?eY ?eD ?eO ?eU ?j1 ?j2 ?j3 ?j4 ?i_ValueError ?z_ValueError ?z_abs ?z_all ?z_bool ?z_dict ?z_gcd ?z_int ?z_isinstance ?z_len ?z_list ?z_range ?z_str ?z_tuple ?z_zip
    (case a1 => k_is); (case l1 => k_is); (case c1 => k_is); (case k1 => k_is); (case a2 => k_is); (case l2 => k_is)
    (case c2 => k_is); (case k2 => k_is); (case a3 => k_is); (case l3 => k_is); (case c3 => k_is); (case k3 => k_is)
    (case a4 => k_is); (case l4 => k_is); (case c4 => k_is); (case k4 => k_is); (case a5 => k_is); (case l5 => k_is)
    (case c5 => k_is); (case k5 => k_is); (case a6 => k_is); (case l6 => k_is); (case c6 => k_is); (case k6 => k_is)
    (case a7 => k_is); (case l7 => k_is); (case c7 => k_is); (case k7 => k_is); (case a8 => k_is); (case l8 => k_is)
    (case c8 => k_is); (case k8 => k_is); (case a9 => k_is); (case l9 => k_is); (case c9 => k_is); (case k9 => k_is)
    (case a10 => k_is); (case l10 => k_is); (case c10 => k_is); (case k10 => k_is); (case a11 => k_is); (case l11 => k_is)
    (case c11 => k_is); (case k11 => k_is); (case a12 => k_is); (case l12 => k_is); (case c12 => k_is); (case k12 => k_is)
    (case a13 => k_is); (case l13 => k_is); (case c13 => k_is); (case k13 => k_is); (case a14 => k_is); (case l14 => k_is)
    (case c14 => k_is); (case k14 => k_is); (case a15 => k_is); (case l15 => k_is); (case c15 => k_is); (case k15 => k_is)
    (case a16 => k_is); (case l16 => k_is); (case c16 => k_is); (case k16 => k_is); (case a17 => k_is); (case l17 => k_is)
    (case c17 => k_is); (case k17 => k_is); (case a18 => k_is); (case l18 => k_is); (case c18 => k_is); (case k18 => k_is)
    (case a19 => k_is); (case l19 => k_is); (case c19 => k_is); (case k19 => k_is); (case a20 => k_is); (case l20 => k_is)
    (case c20 => k_is); (case k20 => k_is); (case eA => k_is); (case eX => k_is); (case eS => k_is); (case eG => k_is)
    (case eH => k_is); (case eN => k_is); (case eI => k_is); (case eT => k_is); (case eL => k_is); (case eC => k_is)
    (case eK => k_is); (case eE => k_is); (case eY => k_is); (case eD => k_is); (case eO => k_is); (case eU => first | rfl | k_is)
    (case j1 => k_is); (case j2 => k_is); (case j3 => k_is); (case j4 => k_is); (case i_ValueError => first | k_is | kit_is); (case z_ValueError => k_is)
    (case z_abs => k_is); (case z_all => k_is); (case z_bool => k_is); (case z_dict => k_is); (case z_gcd => k_is); (case z_int => k_is)
    (case z_isinstance => k_is); (case z_len => k_is); (case z_list => k_is); (case z_range => k_is); (case z_str => k_is); (case z_tuple => k_is)
    (case z_zip => k_is)
