import PyProof.Rows.All
import Wide.All
import OpenK.AllK
import Wide.FinOn
import HandS.ForMost
import HandS.ForExc
import HandS.Wide
import HandS.Gcd
import HandS.IsInst
import HandS.Style
import HandS.Zip
import PyProof.Rows.FactsN_isinstance
import HandS.NoneIn
import HandS.More
import PyProof.EqAt
import PyProof.EqKinds
import PyProof.TupleCall
import Open.SpecLaws
import KE.OsGo
import HandS.ForSpec
import KE.KExcIs
import KE.KMathG
import HandS.TupLe
import HandS.Conv
import PySem.Challenge.RW_surelycrossed_k04_whole_gauge_from_both
set_option Elab.async false
set_option linter.all false
set_option maxRecDepth 100000
/-! Value semantics over the hand layer: data D, who owns what, readings without a heap. -/
namespace VS
open PySem L2

/-! ### data -/
inductive D where
  | non | bl (b : Bool) | int (i : Int) | str (x : Str) | tup (xs : List D) | lst (xs : List D) | dct (t : Bool) (ks : List D) (xs : List D)
/-- a key as data; what a dict holds -/
def kD : Key → D
  | .inl i => .int i
  | .inr x => .str x
inductive Dk where
  | k (kvs : List (Key × V)) | t (kvs : List (List Key × V))
def Dk.ho : Dk → HO
  | .k kvs => .dK kvs
  | .t kvs => .dT kvs
def Dk.sig : Dk → Bool × List D
  | .k kvs => (false, kvs.map fun p => kD p.1)
  | .t kvs => (true, kvs.map fun p => .tup (p.1.map kD))
def Dk.vals : Dk → List V
  | .k kvs => kvs.map (·.2)
  | .t kvs => kvs.map (·.2)

def Dk.Rd (H : Hp) (a : Addr) : Dk → Prop
  | .k kvs => L2.Rd H a (.dK kvs)
  | .t kvs => H a = some (.dT kvs)
abbrev Ms := Addr → Prop
def SLx (K : PySem.W.Frag) (M : Ms) (H : Hp) (a : Addr) (xs : List V) : Prop := (¬ M a ∧ Rd H a (.lst xs)) ∨ SqL K (fun _ => none) a xs
def STx (K : PySem.W.Frag) (M : Ms) (H : Hp) (a : Addr) (xs : List V) : Prop := ¬ M a ∧ H a = some (.tup xs)
mutual
/-- v is d, by what stands in H outside of M -/
inductive Rp (K : PySem.W.Frag) (M : Ms) (H : Hp) : V → D → Prop
  | non : Rp K M H .non .non
  | bl (b : Bool) : Rp K M H (.bl b) (.bl b)
  | int (i : Int) : Rp K M H (.int i) (.int i)
  | str (x : Str) : Rp K M H (.str x) (.str x)
  | lst {a : Addr} {xs : List V} {ds : List D} : SLx K M H a xs → RpA K M H xs ds → Rp K M H (.ref a) (.lst ds)
  | tup {a : Addr} {xs : List V} {ds : List D} : STx K M H a xs → RpA K M H xs ds → Rp K M H (.ref a) (.tup ds)
  | dct {a : Addr} {c : Dk} {t : Bool} {ks ds : List D} : ¬ M a → c.Rd H a → (t, ks) = c.sig → RpA K M H c.vals ds → Rp K M H (.ref a) (.dct t ks ds)
inductive RpA (K : PySem.W.Frag) (M : Ms) (H : Hp) : List V → List D → Prop
  | nil : RpA K M H [] []
  | cons {v : V} {vs : List V} {d : D} {ds : List D} : Rp K M H v d → RpA K M H vs ds → RpA K M H (v :: vs) (d :: ds)
end
/-- what is to be read there is to be read here -/
def Le (M : Ms) (H : Hp) (M' : Ms) (H' : Hp) : Prop := ∀ a u, ¬ M a → H a = some u → ¬ M' a ∧ H' a = some u
section
variable {K : PySem.W.Frag} {M M' : Ms} {H H' : Hp} {a : Addr} {xs : List V}
theorem Le.rd {u : HO} (e : Le M H M' H') (n : ¬ M a) (h : Rd H a u) : ¬ M' a ∧ Rd H' a u := by
  rcases h with h | ⟨o, h⟩
  · exact ⟨(e a _ n h).1, .inl (e a _ n h).2⟩
  · exact ⟨(e a _ n h).1, .inr ⟨o, (e a _ n h).2⟩⟩
theorem Dk.Rd.of {c : Dk} (h : H a = some c.ho) : c.Rd H a := by
  cases c with
  | k kvs => exact .inl h
  | t kvs => exact h
theorem Dk.Rd.mono {c : Dk} (h : c.Rd H a) (e : Le M H M' H') (n : ¬ M a) : ¬ M' a ∧ c.Rd H' a := by
  cases c with
  | k kvs => exact e.rd n h
  | t kvs => exact e a _ n h
theorem Dk.Rd.all {c : Dk} (h : c.Rd H a) (e : ∀ u, H a = some u → H' a = some u) : c.Rd H' a := by
  cases c with
  | k kvs => exact h.imp (e _) fun ⟨o, q⟩ => ⟨o, e _ q⟩
  | t kvs => exact e _ h
theorem SLx.mono (e : Le M H M' H') (h : SLx K M H a xs) : SLx K M' H' a xs := h.imp (fun h => e.rd h.1 h.2) id
theorem STx.mono (e : Le M H M' H') (h : STx K M H a xs) : STx K M' H' a xs := e a _ h.1 h.2
theorem no_rd {a : Addr} {u : HO} (h : Rd (fun _ => none) a u) : False := by
  rcases h with h | ⟨o, h⟩ <;> cases h
theorem SLx.sq (h : SLx K M H a xs) : SqL K H a xs := by
  rcases h with h | h | h
  · exact .inl h.2
  · exact (no_rd h).elim
  · exact .inr h
theorem STx.sq (h : STx K M H a xs) : SqT K H a xs := .inl (.inl h.2)
mutual
theorem Rp.mono (e : Le M H M' H') : ∀ (d : D) (v : V), Rp K M H v d → Rp K M' H' v d
  | .non, _, h => by cases h; exact .non
  | .bl b, _, h => by cases h; exact .bl b
  | .int i, _, h => by cases h; exact .int i
  | .str x, _, h => by cases h; exact .str x
  | .lst ds, v, h => by
    cases h with
    | lst h1 h2 => exact .lst (h1.mono e) (RpA.mono e ds _ h2)
  | .tup ds, v, h => by
    cases h with
    | tup h1 h2 => exact .tup (h1.mono e) (RpA.mono e ds _ h2)
  | .dct t ks ds, v, h => by
    cases h with
    | dct h1 h2 h3 h4 => exact .dct (h2.mono e h1).1 (h2.mono e h1).2 h3 (RpA.mono e ds _ h4)
theorem RpA.mono (e : Le M H M' H') : ∀ (ds : List D) (vs : List V), RpA K M H vs ds → RpA K M' H' vs ds
  | [], _, h => by cases h; exact .nil
  | d :: ds, _, h => by
    cases h with
    | cons h1 h2 => exact .cons (Rp.mono e d _ h1) (RpA.mono e ds _ h2)
end
theorem RpA.length : ∀ {vs : List V} {ds : List D}, RpA K M H vs ds → vs.length = ds.length
  | _, _, .nil => rfl
  | _, _, .cons _ t => by rw [List.length_cons, List.length_cons, RpA.length t]
theorem RpA.get : ∀ {vs : List V} {ds : List D} {i : Nat} {d : D}, RpA K M H vs ds → ds[i]? = some d → ∃ v, vs[i]? = some v ∧ Rp K M H v d
  | _, _, _, _, .nil, e => by simp at e
  | _, _, 0, _, .cons h _, e => by simp at e; subst e; exact ⟨_, rfl, h⟩
  | _, _, i + 1, d, .cons _ t, e => by
    obtain ⟨v, h1, h2⟩ := RpA.get (i := i) (d := d) t (by simpa using e)
    exact ⟨v, by simpa using h1, h2⟩
theorem RpA.get' : ∀ {vs : List V} {ds : List D} {i : Nat} {v : V}, RpA K M H vs ds → vs[i]? = some v → ∃ d, ds[i]? = some d ∧ Rp K M H v d
  | _, _, _, _, .nil, e => by simp at e
  | _, _, 0, _, .cons h _, e => by simp at e; subst e; exact ⟨_, rfl, h⟩
  | _, _, i + 1, d, .cons _ t, e => by
    obtain ⟨v, h1, h2⟩ := RpA.get' (i := i) (v := d) t (by simpa using e)
    exact ⟨v, by simpa using h1, h2⟩
theorem RpA.append : ∀ {vs ws : List V} {ds es : List D}, RpA K M H vs ds → RpA K M H ws es → RpA K M H (vs ++ ws) (ds ++ es)
  | _, _, _, _, .nil, h => h
  | _, _, _, _, .cons h t, k => .cons h (RpA.append t k)
theorem RpA.take : ∀ {vs : List V} {ds : List D} (n : Nat), RpA K M H vs ds → RpA K M H (vs.take n) (ds.take n)
  | _, _, 0, _ => .nil
  | _, _, _ + 1, .nil => .nil
  | _, _, n + 1, .cons h t => .cons h (RpA.take n t)
theorem RpA.drop : ∀ {vs : List V} {ds : List D} (n : Nat), RpA K M H vs ds → RpA K M H (vs.drop n) (ds.drop n)
  | _, _, 0, h => h
  | _, _, _ + 1, .nil => .nil
  | _, _, n + 1, .cons _ t => RpA.drop n t
theorem RpA.set {v : V} {d : D} (r : Rp K M H v d) : ∀ {vs : List V} {ds : List D} (i : Nat), RpA K M H vs ds → RpA K M H (vs.set i v) (ds.set i d)
  | _, _, _, .nil => .nil
  | _, _, 0, .cons _ t => .cons r t
  | _, _, i + 1, .cons q t => .cons q (RpA.set r i t)
theorem RpA.reverse : ∀ {vs : List V} {ds : List D}, RpA K M H vs ds → RpA K M H vs.reverse ds.reverse
  | _, _, .nil => .nil
  | _, _, .cons h t => by
    rw [List.reverse_cons, List.reverse_cons]
    exact RpA.append (RpA.reverse t) (.cons h .nil)
theorem RpA.ints : ∀ {vs : List V} (ns : List Int), RpA K M H vs (ns.map D.int) → vs = ns.map V.int
  | _, [], h => by cases h; rfl
  | _, n :: ns, h => by
    cases h with
    | cons h1 h2 =>
      cases h1
      rw [RpA.ints ns h2]
      rfl
theorem RpA.of_ints : ∀ (ns : List Int), RpA K M H (ns.map V.int) (ns.map D.int)
  | [] => .nil
  | n :: ns => .cons (.int n) (RpA.of_ints ns)
end

/-! ### what an error carries; the slots -/
structure Xc where
  cls : Value
  fld : Option (Str × D)
inductive Sl where
  | no | val (d : D) | own (a : Addr) (d : D) | exc (a : Addr) (cls : Value) (d : Option Addr) (x : Xc)
abbrev En := List Sl
def oas : En → List Addr
  | [] => []
  | .own a _ :: r => a :: oas r
  | _ :: r => oas r
def shp : Sl → Sl
  | .own a _ => .own a .non
  | s => s
def Shape (en en' : En) : Prop := en.map shp = en'.map shp
structure Cc where
  M : Ms
  F : Ms
  H : Hp
def Cc.add (C : Cc) (a : Addr) : Cc := { C with M := fun x => C.M x ∨ x = a }
def mm (C : Cc) (l : List Addr) : Ms := fun a => C.M a ∨ a ∈ l
def Cell (K : PySem.W.Frag) (M : Ms) (H : Hp) (a : Addr) : D → Prop
  | .lst ds => ∃ vs, H a = some (.lst vs) ∧ RpA K M H vs ds
  | .dct t ks ds => ∃ c : Dk, H a = some c.ho ∧ (t, ks) = c.sig ∧ RpA K M H c.vals ds
  | _ => False
def XcR (K : PySem.W.Frag) (M : Ms) (H : Hp) (x : Xc) (cls : Value) (d : Option Addr) : Prop :=
  cls = x.cls ∧ match x.fld with
    | none => True
    | some (f, dv) => ∃ dd v, d = some dd ∧ ¬ M dd ∧ H dd = some (.xd [(f, v)]) ∧ Rp K M H v dv
def SlR (K : PySem.W.Frag) (C : Cc) (M : Ms) (H : Hp) : Option V → Sl → Prop
  | _, .no => True
  | some v, .val d => Rp K M H v d
  | some v, .own a d => v = .ref a ∧ ¬ C.M a ∧ (C.F a ∨ C.H a = none) ∧ Cell K M H a d
  | some v, .exc a cls d x => v = .ref a ∧ XcR K M H x cls d
  | none, _ => False
structure R (K : PySem.W.Frag) (C : Cc) (σ : L2.St) (H : Hp) (en : En) : Prop where
  sl : Paired (SlR K C (mm C (oas en)) H) σ en
  inj : (oas en).Nodup
  dom : ∀ a, C.M a ∨ C.F a → ∃ u, H a = some u
  keep : ∀ a u, C.H a = some u → ¬ C.F a → H a = some u
  nt : ∀ a xs, C.M a ∨ C.F a → H a ≠ some (.tup xs)
/-- what stands is kept but at the own addresses -/
def Keep (en : En) (H H' : Hp) : Prop := ∀ a u, a ∉ oas en → H a = some u → H' a = some u

section
variable {K : PySem.W.Frag} {C : Cc} {σ : L2.St} {H H' : Hp} {en en' : En} {a : Addr} {d : D} {v : V}
theorem Pget {α β : Type} {F : α → β → Prop} : ∀ {xs : List α} {ys : List β} {i : Nat} {y : β}, Paired F xs ys → ys[i]? = some y → ∃ x, xs[i]? = some x ∧ F x y
  | _, _, _, _, .nil, e => by simp at e
  | _, _, 0, _, .cons h _, e => by simp at e; subst e; exact ⟨_, rfl, h⟩
  | _, _, i + 1, y, .cons _ t, e => by
    obtain ⟨x, h1, h2⟩ := Pget (i := i) (y := y) t (by simpa using e)
    exact ⟨x, by simpa using h1, h2⟩
theorem Pset {α β : Type} {F : α → β → Prop} {x : α} {y : β} (r : F x y) : ∀ {xs : List α} {ys : List β} (i : Nat), Paired F xs ys → Paired F (xs.set i x) (ys.set i y)
  | _, _, _, .nil => .nil
  | _, _, 0, .cons _ t => .cons r t
  | _, _, i + 1, .cons q t => .cons q (Pset r i t)
theorem Pmap {α β : Type} {F G : α → β → Prop} : ∀ {xs : List α} {ys : List β}, Paired F xs ys → (∀ (i : Nat) (x : α) (y : β), xs[i]? = some x → ys[i]? = some y → F x y → G x y) → Paired G xs ys
  | _, _, .nil, _ => .nil
  | _, _, .cons h t, k => .cons (k 0 _ _ rfl rfl h) (Pmap t fun i x y e1 e2 => k (i + 1) x y (by simpa using e1) (by simpa using e2))
theorem Plen {α β : Type} {F : α → β → Prop} : ∀ {xs : List α} {ys : List β}, Paired F xs ys → xs.length = ys.length
  | _, _, .nil => rfl
  | _, _, .cons _ t => by rw [List.length_cons, List.length_cons, Plen t]
theorem oas_mem : ∀ {en : En} {a : Addr}, a ∈ oas en ↔ ∃ (i : Nat) (d : D), en[i]? = some (.own a d)
  | [], a => by simp [oas]
  | s :: r, a => by
    have ih := oas_mem (en := r) (a := a)
    have key : a ∈ oas (s :: r) ↔ (∃ d, s = .own a d) ∨ a ∈ oas r := by
      cases s with
      | own b e =>
        simp only [oas, List.mem_cons]
        constructor
        · rintro (rfl | h)
          · exact .inl ⟨e, rfl⟩
          · exact .inr h
        · rintro (⟨d, h⟩ | h)
          · cases h; exact .inl rfl
          · exact .inr h
      | _ => simp [oas]
    rw [key, ih]
    constructor
    · rintro (⟨d, rfl⟩ | ⟨i, d, h⟩)
      · exact ⟨0, d, rfl⟩
      · exact ⟨i + 1, d, by simpa using h⟩
    · rintro ⟨i, d, h⟩
      cases i with
      | zero => exact .inl ⟨d, by simpa using h⟩
      | succ i => exact .inr ⟨i, d, by simpa using h⟩
theorem oas_shape : ∀ {en en' : En}, Shape en en' → oas en = oas en'
  | [], [], _ => rfl
  | [], _ :: _, h => by simp [Shape] at h
  | _ :: _, [], h => by simp [Shape] at h
  | s :: r, s' :: r', h => by
    unfold Shape at h
    rw [List.map_cons, List.map_cons, List.cons.injEq] at h
    have ih := oas_shape (en := r) (en' := r') h.2
    have h1 := h.1
    cases s <;> cases s' <;> simp only [shp] at h1 <;> first | (cases h1; simp only [oas, ih]) | (cases h1)
theorem Shape.refl (en : En) : Shape en en := rfl
theorem Shape.trans {e1 e2 e3 : En} (a : Shape e1 e2) (b : Shape e2 e3) : Shape e1 e3 := Eq.trans a b
theorem Shape.symm {e1 e2 : En} (a : Shape e1 e2) : Shape e2 e1 := Eq.symm a
theorem Shape.at {i : Nat} {s : Sl} (h : Shape en en') (e : en[i]? = some s) : ∃ s', en'[i]? = some s' ∧ shp s = shp s' := by
  have h1 : (en.map shp)[i]? = some (shp s) := by rw [List.getElem?_map, e]; rfl
  have h' : en.map shp = en'.map shp := h
  rw [h', List.getElem?_map] at h1
  cases e' : en'[i]? with
  | none => rw [e'] at h1; cases h1
  | some s' =>
    rw [e'] at h1
    exact ⟨s', rfl, (Option.some.inj h1).symm⟩
theorem Shape.val {i : Nat} (h : Shape en en') (e : en[i]? = some (.val d)) : en'[i]? = some (.val d) := by
  obtain ⟨s', h1, h2⟩ := h.at e
  cases s' <;> simp only [shp] at h2 <;> cases h2
  exact h1
theorem Shape.own {i : Nat} (h : Shape en en') (e : en[i]? = some (.own a d)) : ∃ d', en'[i]? = some (.own a d') := by
  obtain ⟨s', h1, h2⟩ := h.at e
  cases s' <;> simp only [shp] at h2 <;> cases h2
  exact ⟨_, h1⟩
theorem Shape.set {i : Nat} {s s' : Sl} (e : en[i]? = some s) (h : shp s = shp s') : Shape en (en.set i s') := by
  unfold Shape
  rw [List.map_set, ← h]
  refine List.ext_getElem? fun j => ?_
  rw [List.getElem?_set]
  have hi : i < en.length := (List.getElem?_eq_some_iff.mp e).1
  by_cases hj : i = j
  · subst hj
    rw [if_pos rfl, List.length_map, if_pos hi, List.getElem?_map, e]
    rfl
  · rw [if_neg hj]
theorem Keep.refl : Keep en H H := fun _ _ _ h => h
theorem Keep.trans {H1 : Hp} (s : Shape en en') (a : Keep en H H1) (b : Keep en' H1 H') : Keep en H H' := fun x u n h => b x u (by rw [← oas_shape s]; exact n) (a x u n h)
theorem Keep.same (e : Same H H') : Keep en H H' := fun a u _ h => e a u h
theorem Keep.le (k : Keep en H H') (s : Shape en en') : Le (mm C (oas en)) H (mm C (oas en')) H' := fun a u n h => by
  rw [← oas_shape s]
  exact ⟨n, k a u (fun z => n (.inr z)) h⟩
theorem XcR.mono {M M' : Ms} {x : Xc} {cls : Value} {dx : Option Addr} (e : Le M H M' H') (h : XcR K M H x cls dx) : XcR K M' H' x cls dx := by
  obtain ⟨h1, h2⟩ := h
  refine ⟨h1, ?_⟩
  obtain ⟨c, f⟩ := x
  cases f with
  | none => trivial
  | some p =>
    obtain ⟨dd, v, e1, e2, e3, e4⟩ := h2
    exact ⟨dd, v, e1, (e dd _ e2 e3).1, (e dd _ e2 e3).2, Rp.mono e _ _ e4⟩
theorem Cell.mono {M M' : Ms} (e : Le M H M' H') (ha : ∀ u, H a = some u → H' a = some u) : ∀ {d : D}, Cell K M H a d → Cell K M' H' a d
  | .lst ds, ⟨vs, h1, h2⟩ => ⟨vs, ha _ h1, RpA.mono e _ _ h2⟩
  | .dct _ _ _, ⟨c, h1, h2, h3⟩ => ⟨c, ha _ h1, h2, RpA.mono e _ _ h3⟩
theorem SlR.mono {M M' : Ms} {s : Sl} {o : Option V} (e : Le M H M' H') (ha : ∀ a d, s = .own a d → ∀ u, H a = some u → H' a = some u) (h : SlR K C M H o s) : SlR K C M' H' o s := by
  cases s with
  | no => trivial
  | val d =>
    cases o with
    | none => exact h
    | some v => exact Rp.mono e _ _ h
  | own a d =>
    cases o with
    | none => exact h
    | some v => exact ⟨h.1, h.2.1, h.2.2.1, h.2.2.2.mono e (ha a d rfl)⟩
  | exc a c dd x =>
    cases o with
    | none => exact h
    | some v => exact ⟨h.1, h.2.mono e⟩
theorem R.get {i : Nat} (r : R K C σ H en) (h : en[i]? = some (.val d)) : ∃ v, σ[i]? = some (some v) ∧ Rp K (mm C (oas en)) H v d := by
  obtain ⟨o, h1, h2⟩ := Pget r.sl h
  cases o with
  | none => exact h2.elim
  | some v => exact ⟨v, h1, h2⟩
theorem R.getO {i : Nat} (r : R K C σ H en) (h : en[i]? = some (.own a d)) : σ[i]? = some (some (.ref a)) ∧ ¬ C.M a ∧ (C.F a ∨ C.H a = none) ∧ Cell K (mm C (oas en)) H a d := by
  obtain ⟨o, h1, h2⟩ := Pget r.sl h
  cases o with
  | none => exact h2.elim
  | some v => obtain ⟨rfl, h3⟩ := h2; exact ⟨h1, h3⟩
theorem R.oM (r : R K C σ H en) (h : a ∈ oas en) : ¬ C.M a := by
  obtain ⟨i, d, e⟩ := oas_mem.mp h
  exact (r.getO e).2.1
theorem R.oF (r : R K C σ H en) (h : a ∈ oas en) : C.F a ∨ C.H a = none := by
  obtain ⟨i, d, e⟩ := oas_mem.mp h
  exact (r.getO e).2.2.1
theorem Cell.dom {M : Ms} : ∀ {d : D}, Cell K M H a d → ∃ u, H a = some u
  | .lst _, ⟨_, h, _⟩ => ⟨_, h⟩
  | .dct _ _ _, ⟨_, h, _⟩ => ⟨_, h⟩
theorem R.oD (r : R K C σ H en) (h : a ∈ oas en) : ∃ u, H a = some u := by
  obtain ⟨i, d, e⟩ := oas_mem.mp h
  exact (r.getO e).2.2.2.dom
theorem R.mD (r : R K C σ H en) (h : mm C (oas en) a) : ∃ u, H a = some u := by
  rcases h with h | h
  · exact r.dom a (.inl h)
  · exact r.oD h
/-- what is new is not tracked at the entry -/
theorem R.new (r : R K C σ H en) (h : H a = none) : C.H a = none := by
  cases e : C.H a with
  | none => rfl
  | some u =>
    by_cases f : C.F a
    · obtain ⟨u', e'⟩ := r.dom a (.inr f)
      rw [h] at e'; cases e'
    · have := r.keep a u e f
      rw [h] at this; cases this
/-- the heap grows -/
theorem R.grow (r : R K C σ H en) (e : Same H H') : R K C σ H' en where
  sl := Pmap r.sl fun i x y _ _ h => h.mono (fun a u n q => ⟨n, e a u q⟩) fun a d _ u q => e a u q
  inj := r.inj
  dom := fun a h => let ⟨u, q⟩ := r.dom a h; ⟨u, e a u q⟩
  keep := fun a u h n => e a u (r.keep a u h n)
  nt := fun a xs w z => by
    obtain ⟨u, q⟩ := r.dom a w
    have q' := e a u q
    rw [z] at q'
    cases q'
    exact r.nt a xs w q
theorem same_new {p : Addr} {o : HO} (h : H p = none) : Same H (upd H p o) := fun b x e => by
  rw [upd_ne (ne_of_none e h)]
  exact e
/-- a new object is held aside -/
theorem R.hold {p : Addr} {o : HO} (r : R K C σ H en) (h : H p = none) (no : ∀ xs, o ≠ .tup xs := by exact fun _ z => nomatch z) : R K (C.add p) σ (upd H p o) en where
  sl := Pmap r.sl fun i x y _ hy q => by
    have q' : SlR K C (mm (C.add p) (oas en)) (upd H p o) x y := q.mono (fun a u n z => ⟨fun w => by
      rcases w with (w | w) | w
      · exact n (.inl w)
      · rw [w, h] at z; cases z
      · exact n (.inr w), same_new h a u z⟩) fun a d _ u z => same_new h a u z
    cases y with
    | own b d =>
      cases x with
      | none => exact q'.elim
      | some v =>
        refine ⟨q'.1, fun w => ?_, q'.2.2⟩
        rcases w with w | w
        · exact q'.2.1 w
        · obtain ⟨u, z⟩ := r.oD (oas_mem.mpr ⟨i, d, hy⟩)
          rw [w, h] at z; cases z
    | no => exact q'
    | val d => cases x <;> exact q'
    | exc a1 c1 d1 x1 => cases x <;> exact q'
  inj := r.inj
  dom := fun a w => by
    rcases w with (w | w) | w
    · obtain ⟨u, q⟩ := r.dom a (.inl w); exact ⟨u, same_new h a u q⟩
    · exact ⟨o, by rw [w]; exact upd_same⟩
    · obtain ⟨u, q⟩ := r.dom a (.inr w); exact ⟨u, same_new h a u q⟩
  keep := fun a u q n => same_new h a u (r.keep a u q n)
  nt := fun a xs w z => by
    by_cases e : a = p
    · rw [e, upd_same] at z
      exact no xs (Option.some.inj z)
    · rw [upd_ne e] at z
      rcases w with (w | w) | w
      · exact r.nt a xs (.inl w) z
      · exact e w
      · exact r.nt a xs (.inr w) z
theorem le_add {l : List Addr} : Le (mm (C.add a) l) H (mm C l) H := fun b u n q => ⟨fun w => n (w.imp .inl id), q⟩
/-- .. and let go -/
theorem R.drop (r : R K (C.add a) σ H en) : R K C σ H en where
  sl := Pmap r.sl fun i x y _ hy q => by
    have q' : SlR K (C.add a) (mm C (oas en)) H x y := q.mono le_add fun _ _ _ _ z => z
    cases y with
    | own b d =>
      cases x with
      | none => exact q'.elim
      | some v => exact ⟨q'.1, fun w => q'.2.1 (.inl w), q'.2.2⟩
    | no => exact q'
    | val d => cases x <;> exact q'
    | exc a1 c1 d1 x1 => cases x <;> exact q'
  inj := r.inj
  dom := fun a w => r.dom a (w.imp .inl id)
  keep := r.keep
  nt := fun a xs w => r.nt a xs (w.imp .inl id)
/-- an own list is no tuple -/
theorem Cell.nt {M : Ms} : ∀ {d : D}, Cell K M H a d → ∀ xs, H a ≠ some (.tup xs)
  | .lst _, ⟨_, h, _⟩, xs, z => by rw [h] at z; cases z
  | .dct _ _ _, ⟨c, h, _⟩, xs, z => by rw [h] at z; cases c <;> cases z
theorem R.mN (r : R K C σ H en) (h : mm C (oas en) a) (xs : List V) : H a ≠ some (.tup xs) := by
  rcases h with h | h
  · exact r.nt a xs (.inl h)
  · obtain ⟨i, d, e⟩ := oas_mem.mp h
    exact (r.getO e).2.2.2.nt xs
end
end VS

namespace VS
open PySem L2

/-! ### results -/
inductive Res where
  | val (d : D) | own (a : Addr) (d : D) | bor (i : Nat)
def Cc.ext (C : Cc) : Res → Cc
  | .own a _ => C.add a
  | _ => C
def Hold (K : PySem.W.Frag) (C : Cc) (r : Res) (en : En) (H : Hp) (v : V) : Prop :=
  match r with
  | .val d => Rp K (mm C (oas en)) H v d
  | .own a d => v = .ref a ∧ ¬ C.M a ∧ (C.F a ∨ C.H a = none) ∧ Cell K (mm (C.add a) (oas en)) H a d
  | .bor i => ∃ a d, en[i]? = some (.own a d) ∧ v = .ref a
def Cc.exts (C : Cc) : List Res → Cc
  | [] => C
  | r :: rs => (C.ext r).exts rs
def HoldA (K : PySem.W.Frag) : Cc → List Res → En → Hp → List V → Prop
  | _, [], _, _, vs => vs = []
  | C, r :: rs, en, H, vs => ∃ v ws, vs = v :: ws ∧ Hold K (C.exts rs) r en H v ∧ HoldA K (C.ext r) rs en H ws
/-- a new list is new -/
def NewR (H : Hp) : Res → Prop
  | .own p _ => H p = none
  | _ => True
theorem ext_ext {C : Cc} {r1 r2 : Res} : (C.ext r1).ext r2 = (C.ext r2).ext r1 := by
  cases r1 <;> cases r2 <;> simp [Cc.ext, Cc.add]
  funext x
  exact propext ⟨fun z => z.elim (fun z => z.elim (fun z => .inl (.inl z)) .inr) fun z => .inl (.inr z), fun z => z.elim (fun z => z.elim (fun z => .inl (.inl z)) .inr) fun z => .inl (.inr z)⟩
theorem exts_ext : ∀ {rs : List Res} {C : Cc} {r : Res}, (C.exts rs).ext r = (C.ext r).exts rs
  | [], _, _ => rfl
  | r' :: rs, C, r => by
    show ((C.ext r').exts rs).ext r = ((C.ext r).ext r').exts rs
    rw [exts_ext (rs := rs), ext_ext]
/-- what is seen of a result -/
def rd (en : En) : Res → Option D
  | .val d => some d
  | .own _ d => some d
  | .bor i => match en[i]? with
    | some (.own _ d) => some d
    | _ => none
section
variable {K : PySem.W.Frag} {C : Cc} {σ : L2.St} {H H' : Hp} {en en' : En} {a : Addr} {d : D} {v : V} {r : Res}
theorem R.dropX : ∀ {r : Res}, R K (C.ext r) σ H en → R K C σ H en
  | .val _, h => h
  | .own _ _, h => h.drop
  | .bor _, h => h
theorem R.dropA : ∀ {rs : List Res} {C : Cc}, R K (C.exts rs) σ H en → R K C σ H en
  | [], _, h => h
  | r :: rs, C, h => (R.dropA (rs := rs) (C := C.ext r) h).dropX
theorem mm_ext (x : Addr) : ∀ {r : Res}, mm C (oas en) x → mm (C.ext r) (oas en) x
  | .val _, h => h
  | .own _ _, h => h.imp .inl id
  | .bor _, h => h
theorem mm_exts (x : Addr) : ∀ {rs : List Res} {C : Cc}, mm C (oas en) x → mm (C.exts rs) (oas en) x
  | [], _, h => h
  | r :: rs, C, h => mm_exts x (rs := rs) (C := C.ext r) (mm_ext x h)
theorem le_ext : Le (mm (C.ext r) (oas en)) H (mm C (oas en)) H := fun a u n h => ⟨fun z => n (mm_ext a z), h⟩
theorem le_exts {rs : List Res} : Le (mm (C.exts rs) (oas en)) H (mm C (oas en)) H := fun a u n h => ⟨fun z => n (mm_exts a z), h⟩
theorem ext_F : ∀ {r : Res}, (C.ext r).F = C.F
  | .val _ => rfl
  | .own _ _ => rfl
  | .bor _ => rfl
theorem ext_H : ∀ {r : Res}, (C.ext r).H = C.H
  | .val _ => rfl
  | .own _ _ => rfl
  | .bor _ => rfl
/-- a result stays through what follows -/
theorem Hold.stay (h : Hold K C r en H v) (R2 : R K (C.ext r) σ H' en') (s : Shape en en') (k : Keep en H H') : Hold K C r en' H' v := by
  cases r with
  | val d => exact Rp.mono (k.le s) _ _ h
  | own a d =>
    obtain ⟨h1, h2, h3, h4⟩ := h
    refine ⟨h1, h2, h3, Cell.mono (k.le s) (fun u q => k a u (fun z => ?_) q) h4⟩
    rw [oas_shape s] at z
    exact R2.oM z (.inr rfl)
  | bor i =>
    obtain ⟨a, d, h1, h2⟩ := h
    obtain ⟨d', h3⟩ := s.own h1
    exact ⟨a, d', h3, h2⟩
theorem HoldA.stay : ∀ {rs : List Res} {C : Cc} {vs : List V}, HoldA K C rs en H vs → R K (C.exts rs) σ H' en' → Shape en en' → Keep en H H' → HoldA K C rs en' H' vs
  | [], _, _, h, _, _, _ => h
  | r :: rs, C, _, ⟨v, ws, e, h1, h2⟩, R2, s, k => ⟨v, ws, e, h1.stay (by rw [exts_ext]; exact R2) s k, HoldA.stay (rs := rs) h2 R2 s k⟩
/-- what a reading sees: elements that no one may change -/
def Sq (K : PySem.W.Frag) (C : Cc) (en : En) (H : Hp) (v : V) : D → Prop
  | .lst ds => ∃ a vs, v = .ref a ∧ SqL K H a vs ∧ RpA K (mm C (oas en)) H vs ds
  | .tup ds => ∃ a vs, v = .ref a ∧ SqT K H a vs ∧ RpA K (mm C (oas en)) H vs ds
  | .dct t ks ds => ∃ a, ∃ c : Dk, v = .ref a ∧ c.Rd H a ∧ (t, ks) = c.sig ∧ RpA K (mm C (oas en)) H c.vals ds
  | d => Rp K (mm C (oas en)) H v d
theorem Rp.sq : ∀ {d : D}, Rp K (mm C (oas en)) H v d → Sq K C en H v d
  | .lst _, .lst h1 h2 => ⟨_, _, rfl, h1.sq, h2⟩
  | .tup _, .tup h1 h2 => ⟨_, _, rfl, h1.sq, h2⟩
  | .dct _ _ _, .dct _ h2 h3 h4 => ⟨_, _, rfl, h2, h3, h4⟩
  | .non, h => h
  | .bl _, h => h
  | .int _, h => h
  | .str _, h => h
theorem Cell.sq {M : Ms} (e : Le M H (mm C (oas en)) H) : ∀ {d : D}, Cell K M H a d → Sq K C en H (.ref a) d
  | .lst _, ⟨vs, h1, h2⟩ => ⟨a, vs, rfl, SqL.of h1, RpA.mono e _ _ h2⟩
  | .dct _ _ _, ⟨c, h1, h2, h3⟩ => ⟨a, c, rfl, .of h1, h2, RpA.mono e _ _ h3⟩
/-- a result is seen -/
theorem Hold.sq (h : Hold K C r en H v) (R1 : R K (C.ext r) σ H en) (e : rd en r = some d) : Sq K C en H v d := by
  cases r with
  | val d' => cases e; exact Rp.sq h
  | own a d' => cases e; obtain ⟨rfl, _, _, h⟩ := h; exact h.sq le_add
  | bor i =>
    obtain ⟨a, d', h1, rfl⟩ := h
    have e' : some d' = some d := by simpa [rd, h1] using e
    cases e'
    exact ((R1.dropX (r := .bor i)).getO h1).2.2.2.sq (fun _ _ n q => ⟨n, q⟩)
/-- a result as a value: a new list is let go -/
def vl : Res → Option D
  | .val d => some d
  | .own _ d => some d
  | .bor _ => none
theorem Cell.rp {M M' : Ms} (e : Le M H M' H) (n : ¬ M' a) : ∀ {d : D}, Cell K M H a d → Rp K M' H (.ref a) d
  | .lst _, ⟨vs, h1, h2⟩ => .lst (.inl ⟨n, .inl h1⟩) (RpA.mono e _ _ h2)
  | .dct _ _ _, ⟨c, h1, h2, h3⟩ => .dct n (.of h1) h2 (RpA.mono e _ _ h3)
theorem Hold.rp (h : Hold K C r en H v) (R1 : R K (C.ext r) σ H en) (e : vl r = some d) : Rp K (mm C (oas en)) H v d := by
  cases r with
  | val d' => cases e; exact h
  | own a d' =>
    cases e
    obtain ⟨rfl, h1, _, h⟩ := h
    refine h.rp le_add fun z => ?_
    rcases z with z | z
    · exact h1 z
    · exact R1.oM z (.inr rfl)
  | bor i => cases e
def vls : List Res → Option (List D)
  | [] => some []
  | r :: rs => match vl r, vls rs with
    | some d, some ds => some (d :: ds)
    | _, _ => none
theorem HoldA.rp : ∀ {rs : List Res} {C : Cc} {vs : List V} {ds : List D}, HoldA K C rs en H vs → R K (C.exts rs) σ H en → vls rs = some ds → RpA K (mm C (oas en)) H vs ds
  | [], _, _, _, h, _, e => by cases h; cases e; exact .nil
  | r :: rs, C, _, ds, ⟨v, ws, e, h1, h2⟩, R1, e' => by
    subst e
    unfold vls at e'
    cases e1 : vl r with
    | none => rw [e1] at e'; cases e'
    | some d =>
      cases e2 : vls rs with
      | none => rw [e1, e2] at e'; cases e'
      | some ds' =>
        rw [e1, e2] at e'
        cases e'
        refine .cons (Rp.mono le_exts _ _ (h1.rp (by rw [exts_ext]; exact R1) e1)) ?_
        exact RpA.mono le_ext _ _ (HoldA.rp (rs := rs) h2 R1 e2)
end

/-! ### readings without a heap -/
abbrev Px := Xc → En → Prop
abbrev TDe := Px → En → (Res → En → Prop) → Prop
abbrev TDt := Px → En → (Bool → En → Prop) → Prop
abbrev TDa := Px → En → (List Res → En → Prop) → Prop
def XOk (K : PySem.W.Frag) (C : Cc) (W : WX) (σ : L2.St) (Ψ : Px) : Prop :=
  ∀ x en cls d H, Ψ x en → R K C σ H en → XcR K (mm C (oas en)) H x cls d → W cls d σ H
def lE (K : PySem.W.Frag) (W : WX) (T : TDe) : TE := fun σ H Q => ∃ (C : Cc) (en : En) (Φ : Res → En → Prop) (Ψ : Px), R K C σ H en ∧ T Ψ en Φ ∧ XOk K C W σ Ψ ∧
  ∀ r en' v H', Φ r en' → R K (C.ext r) σ H' en' → Hold K C r en' H' v → Shape en en' → Keep en H H' → NewR H r → Q v H'
def lT (K : PySem.W.Frag) (W : WX) (T : TDt) : TT := fun σ H Q => ∃ (C : Cc) (en : En) (Φ : Bool → En → Prop) (Ψ : Px), R K C σ H en ∧ T Ψ en Φ ∧ XOk K C W σ Ψ ∧
  ∀ b en' H', Φ b en' → R K C σ H' en' → Shape en en' → Keep en H H' → Q b H'
def lA (K : PySem.W.Frag) (W : WX) (T : TDa) : TA := fun σ H Q => ∃ (C : Cc) (en : En) (Φ : List Res → En → Prop) (Ψ : Px), R K C σ H en ∧ T Ψ en Φ ∧ XOk K C W σ Ψ ∧
  ∀ rs en' vs H', Φ rs en' → R K (C.exts rs) σ H' en' → HoldA K C rs en' H' vs → Shape en en' → Keep en H H' → (∀ r, r ∈ rs → NewR H r) → Q vs H'
abbrev DE (X : Cx) (W : WX) (e : Expr) (T : TDe) : Prop := PE X e (lE X.K W T)
abbrev DT (X : Cx) (W : WX) (e : Expr) (T : TDt) : Prop := PT X e (lT X.K W T)
abbrev DA (X : Cx) (W : WX) (es : List Expr) (T : TDa) : Prop := PA X es (lA X.K W T)
theorem PEi {X : Cx} {e : Expr} {t t' : TE} (h : PE X e t) (i : ∀ σ H Q, t' σ H Q → t σ H Q) : PE X e t' := ⟨fun pins s σ H Q I q => h.run pins s σ H Q I (i σ H Q q)⟩
theorem PTi {X : Cx} {e : Expr} {t t' : TT} (h : PT X e t) (i : ∀ σ H Q, t' σ H Q → t σ H Q) : PT X e t' := ⟨fun pins s σ H Q I q => h.run pins s σ H Q I (i σ H Q q)⟩
theorem PAi {X : Cx} {e : List Expr} {t t' : TA} (h : PA X e t) (i : ∀ σ H Q, t' σ H Q → t σ H Q) : PA X e t' := ⟨fun pos pins s σ H Q I q => h.run pos pins s σ H Q I (i σ H Q q)⟩
theorem PSi {X : Cx} {st : Stmt} {t t' : TS} (h : PS X st t) (i : ∀ D σ H, t' D σ H → t D σ H) : PS X st t' := ⟨fun pins s σ H D I q => h.run pins s σ H D I (i D σ H q)⟩
theorem PSsi {X : Cx} {st : List Stmt} {t t' : TS} (h : PSs X st t) (i : ∀ D σ H, t' D σ H → t D σ H) : PSs X st t' := ⟨fun pins s σ H D I q => h.run pins s σ H D I (i D σ H q)⟩
theorem Keep.new {K : PySem.W.Frag} {C : Cc} {σ : L2.St} {H H1 : Hp} {en en1 : En} {p : Addr} (k : Keep en H H1) (s : Shape en en1) (R1 : R K C σ H1 en1) (h : H1 p = none) : H p = none := by
  cases e : H p with
  | none => rfl
  | some u =>
    by_cases m : p ∈ oas en
    · rw [oas_shape s] at m
      obtain ⟨u', e'⟩ := R1.oD m
      rw [h] at e'; cases e'
    · rw [k p u m e] at h; cases h
theorem NewR.back {K : PySem.W.Frag} {C : Cc} {σ : L2.St} {H H1 : Hp} {en en1 : En} {r : Res} (n : NewR H1 r) (k : Keep en H H1) (s : Shape en en1) (R1 : R K C σ H1 en1) : NewR H r := by
  cases r with
  | own p d => exact k.new s R1 n
  | _ => trivial
section
variable {K : PySem.W.Frag} {C : Cc} {σ : L2.St} {W : WX} {Ψ : Px}
theorem XOk.ext {r : Res} (h : XOk K C W σ Ψ) : XOk K (C.ext r) W σ Ψ := fun x en cls d H q R1 hx => h x en cls d H q R1.dropX (hx.mono le_ext)
theorem XOk.exts {rs : List Res} (h : XOk K C W σ Ψ) : XOk K (C.exts rs) W σ Ψ := fun x en cls d H q R1 hx => h x en cls d H q R1.dropA (hx.mono le_exts)
end

/-! ### expressions -/
def tVarD (i : Nat) : TDe := fun _ en Φ => match en[i]? with
  | some (.val d) => Φ (.val d) en
  | some (.own _ _) => Φ (.bor i) en
  | _ => False
def tConD (d : D) : TDe := fun _ en Φ => Φ (.val d) en
/-- two parts, what both are seen as -/
def tOpD (g : D → D → (Res → Prop) → Prop) (ta tb : TDe) : TDe := fun Ψ en Φ => ta Ψ en fun ra en1 => tb Ψ en1 fun rb en2 =>
  match rd en2 ra, rd en2 rb with
  | some x, some y => g x y fun r => Φ r en2
  | _, _ => False
def tUnD (g : D → (Res → Prop) → Prop) (ta : TDe) : TDe := fun Ψ en Φ => ta Ψ en fun ra en1 =>
  match rd en1 ra with
  | some x => g x fun r => Φ r en1
  | _ => False
/-- a value's operator, its meaning on data -/
def OpD (X : Cx) (r : R2) (g : D → D → (Res → Prop) → Prop) : Prop :=
  ∀ (C : Cc) (σ : L2.St) (H : Hp) (en : En) (x y : D) (v w : V) (Φ : Res → Prop) (Q : VK), R X.K C σ H en → Sq X.K C en H v x → Sq X.K C en H w y → g x y Φ →
    (∀ z v' H', Φ z → R X.K (C.ext z) σ H' en → Hold X.K C z en H' v' → Same H H' → NewR H z → Q v' H') → r v w H Q
def UnD (X : Cx) (r : V → Hp → VK → Prop) (g : D → (Res → Prop) → Prop) : Prop :=
  ∀ (C : Cc) (σ : L2.St) (H : Hp) (en : En) (x : D) (v : V) (Φ : Res → Prop) (Q : VK), R X.K C σ H en → Sq X.K C en H v x → g x Φ →
    (∀ z v' H', Φ z → R X.K (C.ext z) σ H' en → Hold X.K C z en H' v' → Same H H' → NewR H z → Q v' H') → r v H Q
section
variable {X : Cx} {W : WX} {a b c e : Expr} {ta tb tc te : TDe} {pos : Pos} {i : Nat} {es : List Expr}
theorem de_var' {i : Nat} {e : Expr} (h : PE X e (tVar i)) : DE X W e (tVarD i) := PEi h fun σ H Q h => by
  obtain ⟨C, en, Φ, Ψ, R1, hT, hX, k⟩ := h
  unfold tVarD at hT
  cases e : en[i]? with
  | none => rw [e] at hT; exact hT.elim
  | some s =>
    rw [e] at hT
    cases s with
    | no => exact hT.elim
    | val d =>
      obtain ⟨v, h1, h2⟩ := R1.get e
      exact ⟨v, h1, k _ _ v H hT R1 h2 rfl Keep.refl trivial⟩
    | own a d => exact ⟨_, (R1.getO e).1, k _ _ _ H hT R1 ⟨a, d, e, rfl⟩ rfl Keep.refl trivial⟩
    | exc => exact hT.elim
theorem de_con' {v : V} {d : D} {e : Expr} (h : PE X e (tC v)) (r : ∀ K M H, Rp K M H v d) : DE X W e (tConD d) := PEi h fun σ H Q h => by
  obtain ⟨C, en, Φ, Ψ, R1, hT, hX, k⟩ := h
  exact k _ _ v H hT R1 (r _ _ _) rfl Keep.refl trivial
theorem dv (i : Nat) {x : Str} {pos : Pos} (hN : X.N[i]? = some x := by rfl) (hv : Vis X.env.scope x := by first | exact Or.inl rfl | exact Or.inr (Or.inl rfl) | exact Or.inr (Or.inr rfl)) (hd : (x == ("__debug__" : Str)) = false := by decide)
    (hcd : (x == ("__classdict__" : Str)) = false := by decide) : DE X W (.Name x pos) (tVarD i) := de_var' (pe_var hN hv hd hcd)
theorem de_int {i : Int} {j pos} : DE X W (.Constant (.int i) j pos) (tConD (.int i)) := de_con' pe_int fun _ _ _ => .int i
theorem de_bl {b : Bool} {j pos} : DE X W (.Constant (.bool b) j pos) (tConD (.bl b)) := de_con' pe_bl fun _ _ _ => .bl b
theorem de_non {j pos} : DE X W (.Constant .none j pos) (tConD .non) := de_con' pe_non fun _ _ _ => .non
theorem de_str {x : Str} {j pos} : DE X W (.Constant (.str x) j pos) (tConD (.str x)) := de_con' pe_str fun _ _ _ => .str x
/-- two parts, one after the other -/
theorem two {K : PySem.W.Frag} {r : R2} {g : D → D → (Res → Prop) → Prop} {σ : L2.St} {H : Hp} {Q : VK}
    (ho : ∀ (C : Cc) (σ : L2.St) (H : Hp) (en : En) (x y : D) (v w : V) (Φ : Res → Prop) (Q : VK), R K C σ H en → Sq K C en H v x → Sq K C en H w y → g x y Φ →
      (∀ z v' H', Φ z → R K (C.ext z) σ H' en → Hold K C z en H' v' → Same H H' → NewR H z → Q v' H') → r v w H Q)
    (h : lE K W (tOpD g ta tb) σ H Q) : tOp r (lE K W ta) (lE K W tb) σ H Q := by
  obtain ⟨C, en, Φ, Ψ, R0, hT, hX, k⟩ := h
  refine ⟨C, en, _, Ψ, R0, hT, hX, fun ra en1 v1 H1 h1 R1 hold1 s1 k1 _ => ?_⟩
  refine ⟨C.ext ra, en1, _, Ψ, R1, h1, hX.ext, fun rb en2 v2 H2 h2 R2 hold2 s2 k2 _ => ?_⟩
  have R2' := R2.dropX
  have hold1' := hold1.stay R2' s2 k2
  cases ex : rd en2 ra with
  | none => simp only [ex] at h2
  | some x =>
    cases ey : rd en2 rb with
    | none => simp only [ex, ey] at h2
    | some y =>
      simp only [ex, ey] at h2
      refine ho C σ H2 en2 x y v1 v2 _ Q R2'.dropX (hold1'.sq R2' ex) ?_ h2 fun z v' H' hz R3 hold3 sm nw => k z en2 v' H' hz R3 hold3 (s1.trans s2) ((k1.trans s1 k2).trans (s1.trans s2) (Keep.same sm)) (nw.back (k1.trans s1 k2) (s1.trans s2) R2'.dropX)
      have q := hold2.sq R2 ey
      revert q
      cases y with
      | lst ds => rintro ⟨a, vs, e1, e2, e3⟩; exact ⟨a, vs, e1, e2, RpA.mono le_ext _ _ e3⟩
      | tup ds => rintro ⟨a, vs, e1, e2, e3⟩; exact ⟨a, vs, e1, e2, RpA.mono le_ext _ _ e3⟩
      | dct t ks ds => rintro ⟨a, c, e1, e2, e3, e4⟩; exact ⟨a, c, e1, e2, e3, RpA.mono le_ext _ _ e4⟩
      | non => exact fun q => Rp.mono le_ext _ _ q
      | bl => exact fun q => Rp.mono le_ext _ _ q
      | int => exact fun q => Rp.mono le_ext _ _ q
      | str => exact fun q => Rp.mono le_ext _ _ q
theorem de_op {op : Operator} {r : R2} {g : D → D → (Res → Prop) → Prop} (ho : OpR X (binaryOp op) r) (hg : OpD X r g) (ha : DE X W a ta) (hb : DE X W b tb) : DE X W (.BinOp a op b pos) (tOpD g ta tb) :=
  PEi (pe_op ho ha hb) fun σ H Q h => two hg h
theorem de_cmp {op : CmpOp} {r : R2} {g : D → D → (Res → Prop) → Prop} (ho : OpR X (compareOp op) r) (hg : OpD X r g) (ha : DE X W a ta) (hb : DE X W b tb) (hm : behindInMarks op b = false := by exact nomark _) : DE X W (.Compare a [op] [b] pos) (tOpD g ta tb) :=
  PEi (pe_cmpR ho ha hb hm) fun σ H Q h => two hg h
theorem de_ix {r : R2} {g : D → D → (Res → Prop) → Prop} (ho : IxR X r) (hg : OpD X r g) (ha : DE X W a ta) (hb : DE X W b tb) (hs : PlainIx b := by exact fun _ _ => rfl) : DE X W (.Subscript a b pos) (tOpD g ta tb) :=
  PEi (pe_ix ho ha hb hs) fun σ H Q h => two hg h
theorem de_un {op : UnaryOp} {r : V → Hp → VK → Prop} {g : D → (Res → Prop) → Prop} (ho : UnR X (unaryOp op) r) (hg : UnD X r g) (ha : DE X W a ta) : DE X W (.UnaryOp op a pos) (tUnD g ta) :=
  PEi (pe_un ho ha) fun σ H Q h => by
    obtain ⟨C, en, Φ, Ψ, R0, hT, hX, k⟩ := h
    refine ⟨C, en, _, Ψ, R0, hT, hX, fun ra en1 v1 H1 h1 R1 hold1 s1 k1 _ => ?_⟩
    cases ex : rd en1 ra with
    | none => simp only [ex] at h1
    | some x =>
      simp only [ex] at h1
      exact hg C σ H1 en1 x v1 _ Q R1.dropX (hold1.sq R1 ex) h1 fun z v' H' hz R3 hold3 sm nw => k z en1 v' H' hz R3 hold3 s1 (k1.trans s1 (Keep.same sm)) (nw.back k1 s1 R1.dropX)
end

/-! ### operators -/
def gII (Cd : Int → Int → Prop) (g : Int → Int → Int) : D → D → (Res → Prop) → Prop := fun x y Φ => match x, y with
  | .int i, .int j => Cd i j ∧ Φ (.val (.int (g i j)))
  | _, _ => False
def gI0 (g : Int → Int → Int) : D → D → (Res → Prop) → Prop := fun x y Φ => match x, y with
  | .int i, .int j => Φ (.val (.int (g i j)))
  | _, _ => False
def gIB (g : Int → Int → Bool) : D → D → (Res → Prop) → Prop := fun x y Φ => match x, y with
  | .int i, .int j => Φ (.val (.bl (g i j)))
  | _, _ => False
def gU (g : Int → Int) : D → (Res → Prop) → Prop := fun x Φ => match x with
  | .int i => Φ (.val (.int (g i)))
  | _ => False
section
variable {X : Cx}
theorem od_II {Cd : Int → Int → Prop} {g : Int → Int → Int} : OpD X (rI Cd fun i j => .int (g i j)) (gII Cd g) := by
  intro C σ H en x y v w Φ Q R1 hx hy h k
  cases x <;> cases y <;> first | exact h.elim | skip
  cases hx; cases hy
  exact ⟨_, _, rfl, rfl, h.1, k _ _ H h.2 R1 (.int _) (fun _ _ q => q) trivial⟩
theorem od_I0 {g : Int → Int → Int} : OpD X (rI0 fun i j => .int (g i j)) (gI0 g) := by
  intro C σ H en x y v w Φ Q R1 hx hy h k
  cases x <;> cases y <;> first | exact h.elim | skip
  cases hx; cases hy
  exact ⟨_, _, rfl, rfl, k _ _ H h R1 (.int _) (fun _ _ q => q) trivial⟩
theorem od_IB {g : Int → Int → Bool} : OpD X (rI0 fun i j => .bl (g i j)) (gIB g) := by
  intro C σ H en x y v w Φ Q R1 hx hy h k
  cases x <;> cases y <;> first | exact h.elim | skip
  cases hx; cases hy
  exact ⟨_, _, rfl, rfl, k _ _ H h R1 (.bl _) (fun _ _ q => q) trivial⟩
theorem ud_U {g : Int → Int} : UnD X (rU fun i => .int (g i)) (gU g) := by
  intro C σ H en x v Φ Q R1 hx h k
  cases x <;> first | exact h.elim | skip
  cases hx
  exact ⟨_, rfl, k _ _ H h R1 (.int _) (fun _ _ q => q) trivial⟩
end
section
variable {X : Cx} {W : WX} {a b c e : Expr} {ta tb tc te : TDe} {pos : Pos}
theorem de_add (ha : DE X W a ta) (hb : DE X W b tb) : DE X W (.BinOp a .Add b pos) (tOpD (gI0 (· + ·)) ta tb) := de_op op_add od_I0 ha hb
theorem de_sub (ha : DE X W a ta) (hb : DE X W b tb) : DE X W (.BinOp a .Sub b pos) (tOpD (gI0 (· - ·)) ta tb) := de_op op_sub od_I0 ha hb
theorem de_mul (ha : DE X W a ta) (hb : DE X W b tb) : DE X W (.BinOp a .Mult b pos) (tOpD (gII CMulW (· * ·)) ta tb) := de_op op_mulW od_II ha hb
theorem de_fdiv (ha : DE X W a ta) (hb : DE X W b tb) : DE X W (.BinOp a .FloorDiv b pos) (tOpD (gII CDivW (· / ·)) ta tb) := de_op op_fdivW od_II ha hb
theorem de_mod (ha : DE X W a ta) (hb : DE X W b tb) : DE X W (.BinOp a .Mod b pos) (tOpD (gII (fun _ j => 0 < j) (· % ·)) ta tb) := de_op op_mod od_II ha hb
theorem de_pow (ha : DE X W a ta) (hb : DE X W b tb) : DE X W (.BinOp a .Pow b pos) (tOpD (gII CPow fun i j => i ^ j.toNat) ta tb) := de_op op_pow od_II ha hb
theorem de_neg (ha : DE X W a ta) : DE X W (.UnaryOp .USub a pos) (tUnD (gU fun i => -i) ta) := de_un un_neg ud_U ha
theorem de_lt (ha : DE X W a ta) (hb : DE X W b tb) : DE X W (.Compare a [.Lt] [b] pos) (tOpD (gIB fun i j => decide (i < j)) ta tb) := de_cmp op_lt od_IB ha hb
theorem de_le (ha : DE X W a ta) (hb : DE X W b tb) : DE X W (.Compare a [.LtE] [b] pos) (tOpD (gIB fun i j => decide (i ≤ j)) ta tb) := de_cmp op_le od_IB ha hb
theorem de_gt (ha : DE X W a ta) (hb : DE X W b tb) : DE X W (.Compare a [.Gt] [b] pos) (tOpD (gIB fun i j => decide (j < i)) ta tb) := de_cmp op_gt od_IB ha hb
theorem de_ge (ha : DE X W a ta) (hb : DE X W b tb) : DE X W (.Compare a [.GtE] [b] pos) (tOpD (gIB fun i j => decide (j ≤ i)) ta tb) := de_cmp op_ge od_IB ha hb
end
end VS

namespace VS
open PySem L2

/-! ### == of data -/
mutual
def py : D → PyData
  | .non => .none
  | .bl b => .bool b
  | .int i => .int i
  | .str x => .str x
  | .tup xs => .tuple (pys xs)
  | .lst xs => .list (pys xs)
  | .dct _ _ _ => .dict []
def pys : List D → List PyData
  | [] => []
  | d :: ds => py d :: pys ds
end
section
variable {K : PySem.W.Frag} {M : Ms} {H : Hp}
mutual
theorem Rp.dp : ∀ (d : D) (v : V), (py d).canLay0 = true → Rp K M H v d → Dp K H v (py d)
  | .non, _, _, h => by cases h; exact .non
  | .bl b, _, _, h => by cases h; exact .bl b
  | .int i, _, _, h => by cases h; exact .int i
  | .str x, _, _, h => by cases h; exact .str x
  | .lst ds, v, c, h => by
    cases h with
    | lst h1 h2 =>
      simp only [py, PyData.canLay0] at c ⊢
      exact .lst h1.sq (RpA.dp ds _ c h2)
  | .tup ds, v, c, h => by
    cases h with
    | tup h1 h2 =>
      simp only [py, PyData.canLay0] at c ⊢
      exact .tup h1.sq (RpA.dp ds _ c h2)
  | .dct _ _ _, _, c, _ => by simp [py, PyData.canLay0] at c
theorem RpA.dp : ∀ (ds : List D) (vs : List V), PyData.canLayAll0 (pys ds) = true → RpA K M H vs ds → DpAll K H vs (pys ds)
  | [], _, _, h => by cases h; simp only [pys]; exact .nil
  | d :: ds, _, c, h => by
    simp only [pys, PyData.canLayAll0, Bool.and_eq_true] at c
    cases h with
    | cons h1 h2 => simp only [pys]; exact .cons (Rp.dp d _ c.1 h1) (RpA.dp ds _ c.2 h2)
end
theorem Sq.dp {C : Cc} {en : En} {v : V} : ∀ {d : D}, (py d).canLay0 = true → Sq K C en H v d → Dp K H v (py d)
  | .lst ds, c, ⟨a, vs, e, h1, h2⟩ => by subst e; simp only [py, PyData.canLay0] at c ⊢; exact .lst h1 (RpA.dp ds _ c h2)
  | .tup ds, c, ⟨a, vs, e, h1, h2⟩ => by subst e; simp only [py, PyData.canLay0] at c ⊢; exact .tup h1 (RpA.dp ds _ c h2)
  | .non, c, h => Rp.dp _ _ c h
  | .bl _, c, h => Rp.dp _ _ c h
  | .int _, c, h => Rp.dp _ _ c h
  | .str _, c, h => Rp.dp _ _ c h
  | .dct _ _ _, c, _ => by simp [py, PyData.canLay0] at c
end
theorem lay_sh {d : PyData} (h : SeqAt.shaped d = true) : d.canLay0 = true := by
  unfold SeqAt.shaped at h
  exact (Bool.and_eq_true_iff.mp h).1
def eqD : D → D → Bool
  | .int i, .int j => decide (i = j)
  | .bl a, .bl b => a == b
  | x, y => PyData.eqv (py x) (py y)
def shD : D → Prop
  | .int _ => True
  | .bl _ => True
  | .non => True
  | d => SeqAt.shaped (py d) = true
theorem shD_is : ∀ {d : D}, shD d → SeqAt.shaped (py d) = true
  | .int _, _ => by simp [py, SeqAt.shaped, PyData.canLay0, PyData.depth]
  | .bl _, _ => by simp [py, SeqAt.shaped, PyData.canLay0, PyData.depth]
  | .non, _ => by simp [py, SeqAt.shaped, PyData.canLay0, PyData.depth]
  | .str _, h => h
  | .lst _, h => h
  | .tup _, h => h
  | .dct _ _ _, h => h
theorem eqD_is (x y : D) : eqD x y = PyData.eqv (py x) (py y) := by
  cases x <;> cases y <;> simp [eqD, py, PyData.eqv]
  rename_i i j
  by_cases h : i = j <;> simp [h]
def gEq (f : Bool → Bool) : D → D → (Res → Prop) → Prop := fun x y Φ => shD x ∧ shD y ∧ Φ (.val (.bl (f (eqD x y))))
/-- the item at i -/
def gIx : D → D → (Res → Prop) → Prop := fun x y Φ => match x, y with
  | .lst ds, .int i => (match atI ds i with
    | some d => Φ (.val d)
    | none => False)
  | .tup ds, .int i => (match atI ds i with
    | some d => Φ (.val d)
    | none => False)
  | .str z, .int i => z.length ≤ sizeLine ∧ (match atI z.cps.toList i with
    | some c => Φ (.val (.str ⟨#[c]⟩))
    | none => False)
  | _, _ => False
theorem RpA.atI {K : PySem.W.Frag} {M : Ms} {H : Hp} {vs : List V} {ds : List D} {i : Int} {d : D} (h : RpA K M H vs ds) (e : L2.atI ds i = some d) : ∃ v, L2.atI vs i = some v ∧ Rp K M H v d := by
  unfold L2.atI at e ⊢
  rw [h.length]
  cases e1 : ixN ds.length i with
  | none => rw [e1] at e; cases e
  | some j =>
    rw [e1] at e
    exact h.get e
section
variable {X : Cx}
theorem od_eq : OpD X (rEqD X.K) (gEq id) := fun C σ H en x y v w Φ Q R1 hx hy ⟨s1, s2, h⟩ k =>
  ⟨_, _, hx.dp (lay_sh (shD_is s1)), hy.dp (lay_sh (shD_is s2)), shD_is s1, shD_is s2, by rw [← eqD_is]; exact k _ _ H h R1 (.bl _) (fun _ _ q => q) trivial⟩
theorem od_ne : OpD X (rNeD X.K) (gEq not) := fun C σ H en x y v w Φ Q R1 hx hy ⟨s1, s2, h⟩ k =>
  ⟨_, _, hx.dp (lay_sh (shD_is s1)), hy.dp (lay_sh (shD_is s2)), shD_is s1, shD_is s2, by rw [← eqD_is]; exact k _ _ H h R1 (.bl _) (fun _ _ q => q) trivial⟩
theorem od_ix : OpD X (rIx X.K) gIx := by
  intro C σ H en x y v w Φ Q R1 hx hy h k
  cases y <;> try (cases x <;> exact h.elim)
  rename_i i
  cases hy
  cases x <;> try exact h.elim
  · rename_i z
    cases hx
    obtain ⟨hz, h⟩ := h
    cases e : atI z.cps.toList i with
    | none => rw [e] at h; exact h.elim
    | some c =>
      rw [e] at h
      exact .inr (.inr ⟨z, i, c, rfl, rfl, hz, e, k _ _ H h R1 (.str _) (fun _ _ q => q) trivial⟩)
  · rename_i ds
    obtain ⟨a, vs, rfl, h1, h2⟩ := hx
    have h' : (match atI ds i with
      | some d => Φ (.val d)
      | none => False) := h
    cases e : atI ds i with
    | none => rw [e] at h'; exact h'.elim
    | some d =>
      rw [e] at h'
      obtain ⟨v, e1, e2⟩ := h2.atI e
      exact .inr (.inl ⟨a, vs, i, v, rfl, rfl, h1, e1, k _ _ H h' R1 e2 (fun _ _ q => q) trivial⟩)
  · rename_i ds
    obtain ⟨a, vs, rfl, h1, h2⟩ := hx
    have h' : (match atI ds i with
      | some d => Φ (.val d)
      | none => False) := h
    cases e : atI ds i with
    | none => rw [e] at h'; exact h'.elim
    | some d =>
      rw [e] at h'
      obtain ⟨v, e1, e2⟩ := h2.atI e
      exact .inl ⟨a, vs, i, v, rfl, rfl, h1, e1, k _ _ H h' R1 e2 (fun _ _ q => q) trivial⟩
end
section
variable {X : Cx} {W : WX} {a b c e : Expr} {ta tb tc te : TDe} {pos : Pos}
theorem de_eq (hu : X.A.units + 64 < cLine) (ha : DE X W a ta) (hb : DE X W b tb) : DE X W (.Compare a [.Eq] [b] pos) (tOpD (gEq id) ta tb) := de_cmp (op_eqD hu) od_eq ha hb
theorem de_ne (hu : X.A.units + 64 < cLine) (ha : DE X W a ta) (hb : DE X W b tb) : DE X W (.Compare a [.NotEq] [b] pos) (tOpD (gEq not) ta tb) := de_cmp (op_neD hu) od_ne ha hb
theorem de_item (ha : DE X W a ta) (hb : DE X W b tb) (hs : PlainIx b := by exact fun _ _ => rfl) : DE X W (.Subscript a b pos) (tOpD gIx ta tb) := de_ix ix_seq od_ix ha hb hs
end

/-! ### arguments, displays -/
def tNilD : TDa := fun _ en Φ => Φ [] en
def tConsD (ta : TDe) (tr : TDa) : TDa := fun Ψ en Φ => ta Ψ en fun r en1 => tr Ψ en1 fun rs en2 => Φ (r :: rs) en2
def tTupD (ta : TDa) : TDe := fun Ψ en Φ => ta Ψ en fun rs en1 => match vls rs with
  | some ds => ds.length ≤ sizeLine ∧ Φ (.val (.tup ds)) en1
  | none => False
def tLstD (ta : TDa) : TDe := fun Ψ en Φ => ta Ψ en fun rs en1 => match vls rs with
  | some ds => ds.length ≤ sizeLine ∧ ∀ p, Φ (.own p (.lst ds)) en1
  | none => False
theorem exts_M {b : Addr} : ∀ {rs : List Res} {C : Cc}, (C.exts rs).M b → C.M b ∨ ∃ p d, Res.own p d ∈ rs ∧ b = p
  | [], _, h => .inl h
  | r :: rs, C, h => by
    rcases exts_M (rs := rs) (C := C.ext r) h with z | ⟨p, d, m, e⟩
    · cases r with
      | own p d =>
        rcases z with z | z
        · exact .inl z
        · exact .inr ⟨p, d, List.mem_cons_self, z⟩
      | val _ => exact .inl z
      | bor _ => exact .inl z
    · exact .inr ⟨p, d, List.mem_cons_of_mem _ m, e⟩
theorem exts_F : ∀ {rs : List Res} {C : Cc}, (C.exts rs).F = C.F
  | [], _ => rfl
  | r :: rs, C => (exts_F (rs := rs) (C := C.ext r)).trans ext_F
theorem exts_H : ∀ {rs : List Res} {C : Cc}, (C.exts rs).H = C.H
  | [], _ => rfl
  | r :: rs, C => (exts_H (rs := rs) (C := C.ext r)).trans ext_H
/-- a result, behind others that came later -/
theorem Hold.later {K : PySem.W.Frag} {C : Cc} {σ : L2.St} {H H' : Hp} {en en' : En} {r : Res} {rs : List Res} {v : V} (h : Hold K C r en H v) (R1 : R K (C.ext r) σ H en) (R2 : R K ((C.ext r).exts rs) σ H' en') (s : Shape en en') (k : Keep en H H')
    (n : ∀ r, r ∈ rs → NewR H r) : Hold K (C.exts rs) r en' H' v := by
  have le : ∀ C0 : Cc, Le (mm C0 (oas en)) H (mm (C0.exts rs) (oas en')) H' := fun C0 b u nb q => by
    rw [← oas_shape s]
    refine ⟨fun z => ?_, k b u (fun z => nb (.inr z)) q⟩
    rcases z with z | z
    · rcases exts_M z with z | ⟨p, d, m, e⟩
      · exact nb (.inl z)
      · have e0 : H p = none := n _ m
        rw [e, e0] at q; cases q
    · exact nb (.inr z)
  cases r with
  | val d => exact Rp.mono (le C) _ _ h
  | own a d =>
    obtain ⟨h1, h2, h3, h4⟩ := h
    obtain ⟨u, hu⟩ := h4.dom
    have na : a ∉ oas en := fun z => R1.oM z (.inr rfl)
    refine ⟨h1, fun z => ?_, by rw [exts_F, exts_H]; exact h3, ?_⟩
    · rcases exts_M z with z | ⟨p, dp, m, e⟩
      · exact h2 z
      · have e0 : H p = none := n _ m
        rw [e, e0] at hu; cases hu
    · have e1 : (C.exts rs).add a = (C.add a).exts rs := exts_ext (r := .own a d)
      rw [e1]
      exact Cell.mono (le (C.add a)) (fun u q => k a u na q) h4
  | bor i =>
    obtain ⟨a, d, h1, h2⟩ := h
    obtain ⟨d', h3⟩ := s.own h1
    exact ⟨a, d', h3, h2⟩
section
variable {X : Cx} {W : WX} {a b c e : Expr} {ta tb tc te : TDe} {pos : Pos} {es : List Expr} {t : TDa}
theorem da_nil : DA X W [] tNilD := PAi pa_nil fun σ H Q h => by
  obtain ⟨C, en, Φ, Ψ, R1, hT, hX, k⟩ := h
  exact k _ _ [] H hT R1 rfl rfl Keep.refl (fun _ z => by cases z)
theorem da_cons (ha : DE X W e te) (hb : DA X W es t) (hs : starEach (e :: es) X.env = (false, eval e X.env) :: starEach es X.env := by rfl) : DA X W (e :: es) (tConsD te t) := PAi (pa_cons ha hb hs) fun σ H Q h => by
  obtain ⟨C, en, Φ, Ψ, R0, hT, hX, k⟩ := h
  refine ⟨C, en, _, Ψ, R0, hT, hX, fun ra en1 v1 H1 h1 R1 hold1 s1 k1 n1 => ?_⟩
  refine ⟨C.ext ra, en1, _, Ψ, R1, h1, hX.ext, fun rs en2 vs H2 h2 R2 hold2 s2 k2 n2 => ?_⟩
  refine k (ra :: rs) en2 (v1 :: vs) H2 h2 R2 ⟨v1, vs, rfl, hold1.later R1 R2 s2 k2 n2, hold2⟩ (s1.trans s2) (k1.trans s1 k2) fun r hr => ?_
  rcases List.mem_cons.mp hr with rfl | hr
  · exact n1
  · exact (n2 r hr).back k1 s1 R1
theorem de_tup {x1 : _} (ha : DA X W es t) : DE X W (.Tuple es x1 pos) (tTupD t) := PEi (pe_tup ha) fun σ H Q h => by
  obtain ⟨C, en, Φ, Ψ, R0, hT, hX, k⟩ := h
  refine ⟨C, en, _, Ψ, R0, hT, hX, fun rs en1 vs H1 h1 R1 hold1 s1 k1 _ => ?_⟩
  cases e : vls rs with
  | none => simp only [e] at h1
  | some ds =>
    simp only [e] at h1
    have hr := hold1.rp R1 e
    refine ⟨by rw [hr.length]; exact h1.1, fun p hp => ?_⟩
    refine k (.val (.tup ds)) en1 (.ref p) _ h1.2 (R1.dropA.grow (same_new hp)) ?_ s1 (k1.trans s1 (Keep.same (same_new hp))) trivial
    refine .tup ⟨fun z => ?_, upd_same⟩ (RpA.mono (fun b u n q => ⟨n, same_new hp b u q⟩) _ _ hr)
    obtain ⟨u, q⟩ := R1.dropA.mD z
    rw [hp] at q; cases q
theorem own_new {K : PySem.W.Frag} {C : Cc} {σ : L2.St} {H : Hp} {en : En} {p : Addr} {vs : List V} {ds : List D} (R1 : R K C σ H en) (hp : H p = none) (hr : RpA K (mm C (oas en)) H vs ds) :
    R K (C.add p) σ (upd H p (.lst vs)) en ∧ Hold K C (.own p (.lst ds)) en (upd H p (.lst vs)) (.ref p) := by
  refine ⟨R1.hold hp, rfl, fun z => ?_, .inr (R1.new hp), vs, upd_same, RpA.mono (fun b u n q => ⟨fun z => ?_, same_new hp b u q⟩) _ _ hr⟩
  · obtain ⟨u, q⟩ := R1.dom p (.inl z)
    rw [hp] at q; cases q
  · rcases z with (z | z) | z
    · exact n (.inl z)
    · rw [z, hp] at q; cases q
    · exact n (.inr z)
theorem de_lst (ha : DA X W es t) : DE X W (.List es pos) (tLstD t) := PEi (pe_lst ha) fun σ H Q h => by
  obtain ⟨C, en, Φ, Ψ, R0, hT, hX, k⟩ := h
  refine ⟨C, en, _, Ψ, R0, hT, hX, fun rs en1 vs H1 h1 R1 hold1 s1 k1 _ => ?_⟩
  cases e : vls rs with
  | none => simp only [e] at h1
  | some ds =>
    simp only [e] at h1
    have hr := hold1.rp R1 e
    refine ⟨by rw [hr.length]; exact h1.1, fun p hp => ?_⟩
    obtain ⟨q1, q2⟩ := own_new R1.dropA hp hr
    exact k _ en1 (.ref p) _ (h1.2 p) q1 q2 s1 (k1.trans s1 (Keep.same (same_new hp))) (k1.new s1 R1.dropA hp)
end

/-! ### calls of what is built in -/
def rds (en : En) : List Res → Option (List D)
  | [] => some []
  | r :: rs => match rd en r, rds en rs with
    | some d, some ds => some (d :: ds)
    | _, _ => none
def SqA (K : PySem.W.Frag) (C : Cc) (en : En) (H : Hp) : List V → List D → Prop := Paired (Sq K C en H)
theorem Sq.ext {K : PySem.W.Frag} {C : Cc} {en : En} {H : Hp} {r : Res} {v : V} : ∀ {d : D}, Sq K (C.ext r) en H v d → Sq K C en H v d
  | .lst ds, ⟨a, vs, e1, e2, e3⟩ => ⟨a, vs, e1, e2, RpA.mono le_ext _ _ e3⟩
  | .tup ds, ⟨a, vs, e1, e2, e3⟩ => ⟨a, vs, e1, e2, RpA.mono le_ext _ _ e3⟩
  | .dct _ _ _, ⟨a, c, e1, e2, e3, e4⟩ => ⟨a, c, e1, e2, e3, RpA.mono le_ext _ _ e4⟩
  | .non, q => Rp.mono le_ext _ _ q
  | .bl _, q => Rp.mono le_ext _ _ q
  | .int _, q => Rp.mono le_ext _ _ q
  | .str _, q => Rp.mono le_ext _ _ q
theorem Sq.exts {K : PySem.W.Frag} {en : En} {H : Hp} {v : V} {d : D} : ∀ {rs : List Res} {C : Cc}, Sq K (C.exts rs) en H v d → Sq K C en H v d
  | [], _, h => h
  | r :: rs, C, h => (Sq.exts (rs := rs) (C := C.ext r) h).ext
theorem Paired.mp {α β : Type} {F G : α → β → Prop} : ∀ {xs : List α} {ys : List β}, Paired F xs ys → (∀ x y, F x y → G x y) → Paired G xs ys
  | _, _, .nil, _ => .nil
  | _, _, .cons h t, k => .cons (k _ _ h) (Paired.mp t k)
theorem HoldA.sq {K : PySem.W.Frag} {σ : L2.St} {H : Hp} {en : En} : ∀ {rs : List Res} {C : Cc} {vs : List V} {ds : List D}, HoldA K C rs en H vs → R K (C.exts rs) σ H en → rds en rs = some ds → SqA K C en H vs ds
  | [], _, _, _, h, _, e => by cases h; cases e; exact .nil
  | r :: rs, C, _, ds, ⟨v, ws, e, h1, h2⟩, R1, e' => by
    subst e
    unfold rds at e'
    cases e1 : rd en r with
    | none => rw [e1] at e'; cases e'
    | some d =>
      cases e2 : rds en rs with
      | none => rw [e1, e2] at e'; cases e'
      | some ds' =>
        rw [e1, e2] at e'
        cases e'
        refine .cons (Sq.exts (h1.sq (by rw [exts_ext]; exact R1) e1)) ?_
        exact Paired.mp (HoldA.sq (rs := rs) h2 R1 e2) fun _ _ q => q.ext
def CaD (X : Cx) (r : List V → Hp → VK → Prop) (g : List D → (Res → Prop) → Prop) : Prop :=
  ∀ (C : Cc) (σ : L2.St) (H : Hp) (en : En) (ds : List D) (vs : List V) (Φ : Res → Prop) (Q : VK), R X.K C σ H en → SqA X.K C en H vs ds → g ds Φ →
    (∀ z v' H', Φ z → R X.K (C.ext z) σ H' en → Hold X.K C z en H' v' → Same H H' → NewR H z → Q v' H') → r vs H Q
def tCaD (g : List D → (Res → Prop) → Prop) (ta : TDa) : TDe := fun Ψ en Φ => ta Ψ en fun rs en1 => match rds en1 rs with
  | some ds => g ds fun r => Φ r en1
  | none => False
section
variable {X : Cx} {W : WX} {a b c e : Expr} {ta tb tc te : TDe} {p pos : Pos} {es : List Expr} {t : TDa} {x : Str} {id T : String} {r : List V → Hp → VK → Prop} {g : List D → (Res → Prop) → Prop}
theorem ca_go {σ : L2.St} {H : Hp} {Q : VK} (hg : CaD X r g) (h : lE X.K W (tCaD g t) σ H Q) : tCB r (lA X.K W t) σ H Q := by
  obtain ⟨C, en, Φ, Ψ, R0, hT, hX, k⟩ := h
  refine ⟨C, en, _, Ψ, R0, hT, hX, fun rs en1 vs H1 h1 R1 hold1 s1 k1 _ => ?_⟩
  cases e : rds en1 rs with
  | none => simp only [e] at h1
  | some ds =>
    simp only [e] at h1
    exact hg C σ H1 en1 ds vs _ Q R1.dropA (hold1.sq R1 e) h1 fun z v' H' hz R3 hold3 sm nw => k z en1 v' H' hz R3 hold3 s1 (k1.trans s1 (Keep.same sm)) (nw.back k1 s1 R1.dropA)
theorem de_callB (hc : CallR X (.builtin id) r) (hd : CaD X r g) (hg : Gl X x) (hm : X.mg x = none) (hv : bootBuiltins x = some (.builtin id)) (ha : DA X W (e :: es) t) (hn : x ≠ "__name__" := by decide) (hdb : (x == ("__debug__" : Str)) = false := by decide)
    (he : starEach (e :: es) X.env = (false, eval e X.env) :: starEach es X.env := by rfl) (hpl : (backTo pos (starEach es X.env)).any (·.1) = false := by rfl) : DE X W (.Call (.Name x p) (e :: es) [] pos) (tCaD g t) :=
  PEi (pe_callB hc hg hm hv ha hn hdb he hpl) fun _ _ _ h => ca_go hd h
theorem de_callTy (hc : CallR X (.type T) r) (hd : CaD X r g) (hg : Gl X x) (hm : X.mg x = none) (hv : bootBuiltins x = some (.type T)) (ha : DA X W (e :: es) t) (hn : x ≠ "__name__" := by decide) (hdb : (x == ("__debug__" : Str)) = false := by decide)
    (he : starEach (e :: es) X.env = (false, eval e X.env) :: starEach es X.env := by rfl) (hpl : (backTo pos (starEach es X.env)).any (·.1) = false := by rfl) : DE X W (.Call (.Name x p) (e :: es) [] pos) (tCaD g t) :=
  PEi (pe_callTy hc hg hm hv ha hn hdb he hpl) fun _ _ _ h => ca_go hd h
theorem de_callF (hc : CallR X (.builtin id) r) (hd : CaD X r g) (hg : Gl X x) (hm : X.mg x = some (.builtin id)) (ha : DA X W (e :: es) t) (hdb : (x == ("__debug__" : Str)) = false := by decide)
    (he : starEach (e :: es) X.env = (false, eval e X.env) :: starEach es X.env := by rfl) (hpl : (backTo pos (starEach es X.env)).any (·.1) = false := by rfl) : DE X W (.Call (.Name x p) (e :: es) [] pos) (tCaD g t) :=
  PEi (pe_callBfun hc hg hm ha hdb he hpl) fun _ _ _ h => ca_go hd h
end
def gLen : List D → (Res → Prop) → Prop
  | [.lst ds], Φ => Φ (.val (.int ds.length))
  | [.tup ds], Φ => Φ (.val (.int ds.length))
  | _, _ => False
def gAbs : List D → (Res → Prop) → Prop
  | [.int i], Φ => Φ (.val (.int (if i < 0 then -i else i)))
  | _, _ => False
def gInt : List D → (Res → Prop) → Prop
  | [.int i], Φ => Φ (.val (.int i))
  | [.bl b], Φ => Φ (.val (.int (if b then 1 else 0)))
  | _, _ => False
def gBool : List D → (Res → Prop) → Prop
  | [.int i], Φ => Φ (.val (.bl (i != 0)))
  | [.bl b], Φ => Φ (.val (.bl b))
  | _, _ => False
def gList : List D → (Res → Prop) → Prop
  | [.lst ds], Φ => ∀ p, Φ (.own p (.lst ds))
  | [.tup ds], Φ => ∀ p, Φ (.own p (.lst ds))
  | _, _ => False
def gGcd : List D → (Res → Prop) → Prop
  | [.int a, .int b], Φ => Φ (.val (.int (Int.gcd a b : Nat)))
  | _, _ => False
section
variable {X : Cx} {W : WX} {a b c e : Expr} {ta tb tc te : TDe} {p pos : Pos} {es : List Expr} {t : TDa}
theorem ca_len : CaD X (fun xs H Q => ∃ p ys, xs = [.ref p] ∧ (SqL X.K H p ys ∨ SqT X.K H p ys) ∧ Q (.int ys.length) H) gLen := by
  intro C σ H en ds vs Φ Q R1 hs h k
  unfold gLen at h
  split at h
  · cases hs with
    | cons h1 h2 =>
      cases h2
      obtain ⟨a, ws, rfl, q1, q2⟩ := h1
      exact ⟨a, ws, rfl, .inl q1, by rw [q2.length]; exact k _ _ H h R1 (.int _) (fun _ _ q => q) trivial⟩
  · cases hs with
    | cons h1 h2 =>
      cases h2
      obtain ⟨a, ws, rfl, q1, q2⟩ := h1
      exact ⟨a, ws, rfl, .inr q1, by rw [q2.length]; exact k _ _ H h R1 (.int _) (fun _ _ q => q) trivial⟩
  · exact h.elim
theorem ca_abs : CaD X (fun xs H Q => ∃ i, xs = [.int i] ∧ Q (.int (if i < 0 then -i else i)) H) gAbs := by
  intro C σ H en ds vs Φ Q R1 hs h k
  unfold gAbs at h
  split at h
  · cases hs with
    | cons h1 h2 =>
      cases h2
      cases h1
      exact ⟨_, rfl, k _ _ H h R1 (.int _) (fun _ _ q => q) trivial⟩
  · exact h.elim
theorem ca_int : CaD X (fun xs H Q => (∃ i, xs = [.int i] ∧ Q (.int i) H) ∨ ∃ k, xs = [.bl k] ∧ Q (.int (if k then 1 else 0)) H) gInt := by
  intro C σ H en ds vs Φ Q R1 hs h k
  unfold gInt at h
  split at h
  · cases hs with
    | cons h1 h2 =>
      cases h2
      cases h1
      exact .inl ⟨_, rfl, k _ _ H h R1 (.int _) (fun _ _ q => q) trivial⟩
  · cases hs with
    | cons h1 h2 =>
      cases h2
      cases h1
      exact .inr ⟨_, rfl, k _ _ H h R1 (.int _) (fun _ _ q => q) trivial⟩
  · exact h.elim
theorem ca_bool : CaD X (fun xs H Q => (∃ i, xs = [.int i] ∧ Q (.bl (i != 0)) H) ∨ ∃ k, xs = [.bl k] ∧ Q (.bl k) H) gBool := by
  intro C σ H en ds vs Φ Q R1 hs h k
  unfold gBool at h
  split at h
  · cases hs with
    | cons h1 h2 =>
      cases h2
      cases h1
      exact .inl ⟨_, rfl, k _ _ H h R1 (.bl _) (fun _ _ q => q) trivial⟩
  · cases hs with
    | cons h1 h2 =>
      cases h2
      cases h1
      exact .inr ⟨_, rfl, k _ _ H h R1 (.bl _) (fun _ _ q => q) trivial⟩
  · exact h.elim
theorem ca_list : CaD X (fun xs H Q => ∃ p ys, xs = [.ref p] ∧ (SqL X.K H p ys ∨ SqT X.K H p ys) ∧ ∀ l, H l = none → Q (.ref l) (upd H l (.lst ys))) gList := by
  intro C σ H en ds vs Φ Q R1 hs h k
  unfold gList at h
  split at h
  · cases hs with
    | cons h1 h2 =>
      cases h2
      obtain ⟨a, ws, rfl, q1, q2⟩ := h1
      refine ⟨a, ws, rfl, .inl q1, fun l hl => ?_⟩
      obtain ⟨z1, z2⟩ := own_new R1 hl q2
      exact k _ _ _ (h l) z1 z2 (same_new hl) hl
  · cases hs with
    | cons h1 h2 =>
      cases h2
      obtain ⟨a, ws, rfl, q1, q2⟩ := h1
      refine ⟨a, ws, rfl, .inr q1, fun l hl => ?_⟩
      obtain ⟨z1, z2⟩ := own_new R1 hl q2
      exact k _ _ _ (h l) z1 z2 (same_new hl) hl
  · exact h.elim
theorem ca_gcd : CaD X rGcd gGcd := by
  intro C σ H en ds vs Φ Q R1 hs h k
  unfold gGcd at h
  split at h
  · cases hs with
    | cons h1 h2 =>
      cases h2 with
      | cons h2 h3 =>
        cases h3
        cases h1
        cases h2
        exact ⟨_, _, rfl, k _ _ H h R1 (.int _) (fun _ _ q => q) trivial⟩
  · exact h.elim
theorem de_len (hm : X.mg "len" = none) (ha : DA X W (e :: es) t) (hg : Gl X "len" := by rfl) (he : starEach (e :: es) X.env = (false, eval e X.env) :: starEach es X.env := by rfl) (hpl : (backTo pos (starEach es X.env)).any (·.1) = false := by rfl) :
    DE X W (.Call (.Name "len" p) (e :: es) [] pos) (tCaD gLen t) := de_callB call_len_seq ca_len hg hm PySem.boot_len ha (by decide) (by decide) he hpl
theorem de_abs (hm : X.mg "abs" = none) (ha : DA X W (e :: es) t) (hg : Gl X "abs" := by rfl) (he : starEach (e :: es) X.env = (false, eval e X.env) :: starEach es X.env := by rfl) (hpl : (backTo pos (starEach es X.env)).any (·.1) = false := by rfl) :
    DE X W (.Call (.Name "abs" p) (e :: es) [] pos) (tCaD gAbs t) := de_callB call_abs ca_abs hg hm (by decide +kernel) ha (by decide) (by decide) he hpl
theorem de_intc (hm : X.mg "int" = none) (ha : DA X W (e :: es) t) (hg : Gl X "int" := by rfl) (he : starEach (e :: es) X.env = (false, eval e X.env) :: starEach es X.env := by rfl) (hpl : (backTo pos (starEach es X.env)).any (·.1) = false := by rfl) :
    DE X W (.Call (.Name "int" p) (e :: es) [] pos) (tCaD gInt t) := de_callTy call_int1 ca_int hg hm (by decide +kernel) ha (by decide) (by decide) he hpl
theorem de_boolc (hm : X.mg "bool" = none) (ha : DA X W (e :: es) t) (hg : Gl X "bool" := by rfl) (he : starEach (e :: es) X.env = (false, eval e X.env) :: starEach es X.env := by rfl) (hpl : (backTo pos (starEach es X.env)).any (·.1) = false := by rfl) :
    DE X W (.Call (.Name "bool" p) (e :: es) [] pos) (tCaD gBool t) := de_callTy call_bool1 ca_bool hg hm (by decide +kernel) ha (by decide) (by decide) he hpl
theorem de_listc (hm : X.mg "list" = none) (ha : DA X W (e :: es) t) (hg : Gl X "list" := by rfl) (he : starEach (e :: es) X.env = (false, eval e X.env) :: starEach es X.env := by rfl) (hpl : (backTo pos (starEach es X.env)).any (·.1) = false := by rfl) :
    DE X W (.Call (.Name "list" p) (e :: es) [] pos) (tCaD gList t) := de_callTy call_list_of ca_list hg hm (by decide +kernel) ha (by decide) (by decide) he hpl
theorem de_gcd (hm : X.mg "gcd" = some (.builtin "math.gcd")) (ha : DA X W (e :: es) t) (hg : Gl X "gcd" := by rfl) (he : starEach (e :: es) X.env = (false, eval e X.env) :: starEach es X.env := by rfl) (hpl : (backTo pos (starEach es X.env)).any (·.1) = false := by rfl) :
    DE X W (.Call (.Name "gcd" p) (e :: es) [] pos) (tCaD gGcd t) := de_callF cr_gcd ca_gcd hg hm ha (by decide) he hpl
end

/-! ### tests, choices -/
def tValD (ta : TDe) : TDt := fun Ψ en Φ => ta Ψ en fun r en1 => match r with
  | .val (.bl b) => Φ b en1
  | _ => False
def tAndD (t u : TDt) : TDt := fun Ψ en Φ => t Ψ en fun b en1 => if b = true then u Ψ en1 Φ else Φ false en1
def tOrD (t u : TDt) : TDt := fun Ψ en Φ => t Ψ en fun b en1 => if b = true then Φ true en1 else u Ψ en1 Φ
def tNotD (t : TDt) : TDt := fun Ψ en Φ => t Ψ en fun b en1 => Φ (!b) en1
def tIfD (t : TDt) (ta tb : TDe) : TDe := fun Ψ en Φ => t Ψ en fun b en1 => if b = true then ta Ψ en1 Φ else tb Ψ en1 Φ
/-- a bool's and, or, not as values -/
def tAndDV (ta tb : TDe) : TDe := fun Ψ en Φ => ta Ψ en fun r en1 => match r with
  | .val (.bl b) => if b = true then tb Ψ en1 Φ else Φ (.val (.bl false)) en1
  | _ => False
def tOrDV (ta tb : TDe) : TDe := fun Ψ en Φ => ta Ψ en fun r en1 => match r with
  | .val (.bl b) => if b = true then Φ (.val (.bl true)) en1 else tb Ψ en1 Φ
  | _ => False
def tNotDV (ta : TDe) : TDe := fun Ψ en Φ => ta Ψ en fun r en1 => match r with
  | .val (.bl b) => Φ (.val (.bl (!b))) en1
  | _ => False
section
variable {X : Cx} {W : WX} {a b c e : Expr} {ta tb tc te : TDe} {tA tB' : TDt} {p pos : Pos} {es rest : List Expr} {t : TDa}
theorem val_bl {K : PySem.W.Frag} {C : Cc} {en : En} {H : Hp} {v : V} {b : Bool} (h : Hold K C (.val (.bl b)) en H v) : v = .bl b := by
  cases h; rfl
theorem dt_ptval (h : ∀ tE : TE, PE X e tE → PT X e (tB tE)) (ha : DE X W e te) : DT X W e (tValD te) := PTi (h _ ha) fun σ H Q h => by
  obtain ⟨C, en, Φ, Ψ, R0, hT, hX, k⟩ := h
  refine ⟨C, en, _, Ψ, R0, hT, hX, fun r en1 v1 H1 h1 R1 hold1 s1 k1 _ => ?_⟩
  cases r with
  | val d =>
    cases d <;> try exact (show False from h1).elim
    exact ⟨_, val_bl hold1, k _ en1 H1 h1 R1 s1 k1⟩
  | own => exact h1.elim
  | bor => exact h1.elim
theorem tTest_tB {te : TE} : tTest te = tB te := rfl
theorem dt_cmp {op : CmpOp} {r : R2} {g : D → D → (Res → Prop) → Prop} (ho : OpR X (compareOp op) r) (hg : OpD X r g) (ha : DE X W a ta) (hb : DE X W b tb) (hm : behindInMarks op b = false := by exact nomark _) : DT X W (.Compare a [op] [b] pos) (tValD (tOpD g ta tb)) :=
  PTi (pt_cmpR ho ha hb hm) fun σ H Q h => by
    obtain ⟨C, en, Φ, Ψ, R0, hT, hX, k⟩ := h
    refine two hg ⟨C, en, _, Ψ, R0, hT, hX, fun r en1 v1 H1 h1 R1 hold1 s1 k1 _ => ?_⟩
    cases r with
    | val d =>
      cases d <;> try exact (show False from h1).elim
      exact ⟨_, val_bl hold1, k _ en1 H1 h1 R1 s1 k1⟩
    | own => exact (show False from h1).elim
    | bor => exact (show False from h1).elim
theorem dt_lt (ha : DE X W a ta) (hb : DE X W b tb) : DT X W (.Compare a [.Lt] [b] pos) (tValD (tOpD (gIB fun i j => decide (i < j)) ta tb)) := dt_cmp op_lt od_IB ha hb
theorem dt_le (ha : DE X W a ta) (hb : DE X W b tb) : DT X W (.Compare a [.LtE] [b] pos) (tValD (tOpD (gIB fun i j => decide (i ≤ j)) ta tb)) := dt_cmp op_le od_IB ha hb
theorem dt_gt (ha : DE X W a ta) (hb : DE X W b tb) : DT X W (.Compare a [.Gt] [b] pos) (tValD (tOpD (gIB fun i j => decide (j < i)) ta tb)) := dt_cmp op_gt od_IB ha hb
theorem dt_ge (ha : DE X W a ta) (hb : DE X W b tb) : DT X W (.Compare a [.GtE] [b] pos) (tValD (tOpD (gIB fun i j => decide (j ≤ i)) ta tb)) := dt_cmp op_ge od_IB ha hb
theorem dt_eq (hu : X.A.units + 64 < cLine) (ha : DE X W a ta) (hb : DE X W b tb) : DT X W (.Compare a [.Eq] [b] pos) (tValD (tOpD (gEq id) ta tb)) := dt_cmp (op_eqD hu) od_eq ha hb
theorem dt_ne (hu : X.A.units + 64 < cLine) (ha : DE X W a ta) (hb : DE X W b tb) : DT X W (.Compare a [.NotEq] [b] pos) (tValD (tOpD (gEq not) ta tb)) := dt_cmp (op_neD hu) od_ne ha hb
end
end VS

namespace VS
open PySem L2

/-! ### and, or, not, choices -/
abbrev DW (X : Cx) (W : WX) (e : Expr) (T : TDt) : Prop := PW X e (lT X.K W T)
theorem PWi {X : Cx} {e : Expr} {t t' : TT} (h : PW X e t) (i : ∀ σ H Q, t' σ H Q → t σ H Q) : PW X e t' := ⟨fun wh pins s σ H Q I q => h.run wh pins s σ H Q I (i σ H Q q)⟩
section
variable {X : Cx} {W : WX} {a b c e : Expr} {ta tb tc te : TDe} {tA tB' : TDt} {p pos : Pos} {es rest : List Expr} {t : TDa}
theorem dw_and1 (ha : DT X W a tA) : DW X W (.BoolOp .And [a] pos) tA := pw_and1 ha
theorem dw_or1 (ha : DT X W a tA) : DW X W (.BoolOp .Or [a] pos) tA := pw_or1 ha
theorem tAnd_go {σ : L2.St} {H : Hp} {Q : Bool → Hp → Prop} {K : PySem.W.Frag} (h : lT K W (tAndD tA tB') σ H Q) : tAnd (lT K W tA) (lT K W tB') σ H Q := by
  obtain ⟨C, en, Φ, Ψ, R0, hT, hX, k⟩ := h
  refine ⟨C, en, _, Ψ, R0, hT, hX, fun b en1 H1 h1 R1 s1 k1 => ?_⟩
  cases b with
  | true => exact ⟨C, en1, Φ, Ψ, R1, h1, hX, fun b' en2 H2 h2 R2 s2 k2 => k b' en2 H2 h2 R2 (s1.trans s2) (k1.trans s1 k2)⟩
  | false => exact k false en1 H1 h1 R1 s1 k1
theorem tOr_go {σ : L2.St} {H : Hp} {Q : Bool → Hp → Prop} {K : PySem.W.Frag} (h : lT K W (tOrD tA tB') σ H Q) : tOr (lT K W tA) (lT K W tB') σ H Q := by
  obtain ⟨C, en, Φ, Ψ, R0, hT, hX, k⟩ := h
  refine ⟨C, en, _, Ψ, R0, hT, hX, fun b en1 H1 h1 R1 s1 k1 => ?_⟩
  cases b with
  | true => exact k true en1 H1 h1 R1 s1 k1
  | false => exact ⟨C, en1, Φ, Ψ, R1, h1, hX, fun b' en2 H2 h2 R2 s2 k2 => k b' en2 H2 h2 R2 (s1.trans s2) (k1.trans s1 k2)⟩
theorem dw_and (ha : DT X W a tA) (hb : DW X W (.BoolOp .And (b :: rest) pos) tB') : DW X W (.BoolOp .And (a :: b :: rest) pos) (tAndD tA tB') := PWi (pw_and ha hb) fun _ _ _ h => tAnd_go h
theorem dw_or (ha : DT X W a tA) (hb : DW X W (.BoolOp .Or (b :: rest) pos) tB') : DW X W (.BoolOp .Or (a :: b :: rest) pos) (tOrD tA tB') := PWi (pw_or ha hb) fun _ _ _ h => tOr_go h
theorem dt_w (h : DW X W e tA) : DT X W e tA := PW.pt h
theorem dt_not (ha : DT X W a tA) : DT X W (.UnaryOp .Not a pos) (tNotD tA) := PTi (pt_not ha) fun σ H Q h => by
  obtain ⟨C, en, Φ, Ψ, R0, hT, hX, k⟩ := h
  exact ⟨C, en, _, Ψ, R0, hT, hX, fun b en1 H1 h1 R1 s1 k1 => k (!b) en1 H1 h1 R1 s1 k1⟩
theorem dt_val (ha : DE X W e te) (he : ∀ whole, isTrue e X.env whole = (do let v ← whole; standAt e.pos; holding [v] (truthy v)) := by intro _; rfl) : DT X W e (tValD te) := dt_ptval (fun _ h => pt_val h he) ha
theorem de_if (hc : DT X W c tA) (ha : DE X W a ta) (hb : DE X W b tb) : DE X W (.IfExp c a b pos) (tIfD tA ta tb) := PEi (pe_ifExp hc ha hb) fun σ H Q h => by
  obtain ⟨C, en, Φ, Ψ, R0, hT, hX, k⟩ := h
  refine ⟨C, en, _, Ψ, R0, hT, hX, fun b en1 H1 h1 R1 s1 k1 => ?_⟩
  cases b with
  | true => exact ⟨C, en1, Φ, Ψ, R1, h1, hX, fun r en2 v H2 h2 R2 o2 s2 k2 n2 => k r en2 v H2 h2 R2 o2 (s1.trans s2) (k1.trans s1 k2) (n2.back k1 s1 R1)⟩
  | false => exact ⟨C, en1, Φ, Ψ, R1, h1, hX, fun r en2 v H2 h2 R2 o2 s2 k2 n2 => k r en2 v H2 h2 R2 o2 (s1.trans s2) (k1.trans s1 k2) (n2.back k1 s1 R1)⟩
theorem de_one {op : BoolOp} (ha : DE X W a ta) : DE X W (.BoolOp op [a] pos) ta := pe_one ha
theorem de_and (ha : DE X W a ta) (hb : DE X W (.BoolOp .And (b :: rest) pos) tb) : DE X W (.BoolOp .And (a :: b :: rest) pos) (tAndDV ta tb) := PEi (pe_and ha hb) fun σ H Q h => by
  obtain ⟨C, en, Φ, Ψ, R0, hT, hX, k⟩ := h
  refine ⟨C, en, _, Ψ, R0, hT, hX, fun r en1 v H1 h1 R1 o1 s1 k1 n1 => ?_⟩
  cases r with
  | val d =>
    cases d <;> try exact (show False from h1).elim
    rename_i b
    refine ⟨b, val_bl o1, ?_⟩
    cases b with
    | true => exact ⟨C, en1, Φ, Ψ, R1, h1, hX, fun r en2 v H2 h2 R2 o2 s2 k2 n2 => k r en2 v H2 h2 R2 o2 (s1.trans s2) (k1.trans s1 k2) (n2.back k1 s1 R1)⟩
    | false => exact k _ en1 _ H1 h1 R1 (.bl false) s1 k1 trivial
  | own => exact (show False from h1).elim
  | bor => exact (show False from h1).elim
theorem de_or (ha : DE X W a ta) (hb : DE X W (.BoolOp .Or (b :: rest) pos) tb) : DE X W (.BoolOp .Or (a :: b :: rest) pos) (tOrDV ta tb) := PEi (pe_or ha hb) fun σ H Q h => by
  obtain ⟨C, en, Φ, Ψ, R0, hT, hX, k⟩ := h
  refine ⟨C, en, _, Ψ, R0, hT, hX, fun r en1 v H1 h1 R1 o1 s1 k1 n1 => ?_⟩
  cases r with
  | val d =>
    cases d <;> try exact (show False from h1).elim
    rename_i b
    refine ⟨b, val_bl o1, ?_⟩
    cases b with
    | true => exact k _ en1 _ H1 h1 R1 (.bl true) s1 k1 trivial
    | false => exact ⟨C, en1, Φ, Ψ, R1, h1, hX, fun r en2 v H2 h2 R2 o2 s2 k2 n2 => k r en2 v H2 h2 R2 o2 (s1.trans s2) (k1.trans s1 k2) (n2.back k1 s1 R1)⟩
  | own => exact (show False from h1).elim
  | bor => exact (show False from h1).elim
theorem de_not (ha : DE X W a ta) : DE X W (.UnaryOp .Not a pos) (tNotDV ta) := PEi (pe_not ha) fun σ H Q h => by
  obtain ⟨C, en, Φ, Ψ, R0, hT, hX, k⟩ := h
  refine ⟨C, en, _, Ψ, R0, hT, hX, fun r en1 v H1 h1 R1 o1 s1 k1 n1 => ?_⟩
  cases r with
  | val d =>
    cases d <;> try exact (show False from h1).elim
    exact ⟨_, val_bl o1, k _ en1 _ H1 h1 R1 (.bl _) s1 k1 trivial⟩
  | own => exact (show False from h1).elim
  | bor => exact (show False from h1).elim
end

/-! ### changes of the slots -/
section
variable {K : PySem.W.Frag} {C : Cc} {σ : L2.St} {H H' : Hp} {en en' : En} {a : Addr} {d : D} {v : V} {s : Sl}
theorem oas_set_sub : ∀ {en : En} (i : Nat) {s : Sl}, oas [s] = [] → (oas (en.set i s)).Sublist (oas en)
  | [], _, _, _ => by simp [oas]
  | s0 :: r, 0, s, h => by
    have e : oas (s :: r) = oas r := by cases s <;> simp [oas] at h ⊢
    show (oas (s :: r)).Sublist (oas (s0 :: r))
    rw [e]
    cases s0 <;> simp [oas]
  | s0 :: r, i + 1, s, h => by
    have ih := oas_set_sub (en := r) i h
    show (oas (s0 :: r.set i s)).Sublist (oas (s0 :: r))
    cases s0 <;> simp only [oas] <;> first | exact ih | exact ih.cons₂ _
theorem oas_set_own : ∀ {en : En} (i : Nat) {a : Addr} {d : D}, ∀ x ∈ oas (en.set i (.own a d)), x = a ∨ x ∈ oas en
  | [], _, _, _, x, h => by simp [oas] at h
  | s0 :: r, 0, a, d, x, h => by
    have h' : x ∈ a :: oas r := h
    rcases List.mem_cons.mp h' with h' | h'
    · exact .inl h'
    · right
      cases s0 <;> simp only [oas] <;> first | exact h' | exact List.mem_cons_of_mem _ h'
  | s0 :: r, i + 1, a, d, x, h => by
    have ih := oas_set_own (en := r) i (a := a) (d := d) x
    cases s0 with
    | own b e =>
      have h' : x ∈ b :: oas (r.set i (.own a d)) := h
      rcases List.mem_cons.mp h' with h' | h'
      · exact .inr (by simp only [oas]; exact List.mem_cons.mpr (.inl h'))
      · exact (ih h').imp id fun z => by simp only [oas]; exact List.mem_cons_of_mem _ z
    | _ => exact ih h
theorem oas_set_nodup : ∀ {en : En} (i : Nat) {a : Addr} {d : D}, (oas en).Nodup → a ∉ oas en → (oas (en.set i (.own a d))).Nodup
  | [], _, _, _, h, _ => h
  | s0 :: r, 0, a, d, h, n => by
    show (a :: oas r).Nodup
    cases s0 with
    | own b e =>
      simp only [oas] at h n
      exact List.nodup_cons.mpr ⟨fun z => n (List.mem_cons_of_mem _ z), (List.nodup_cons.mp h).2⟩
    | _ => exact List.nodup_cons.mpr ⟨n, h⟩
  | s0 :: r, i + 1, a, d, h, n => by
    cases s0 with
    | own b e =>
      simp only [oas] at h n
      have ih := oas_set_nodup (en := r) i (a := a) (d := d) (List.nodup_cons.mp h).2 (fun z => n (List.mem_cons_of_mem _ z))
      show (b :: oas (r.set i (.own a d))).Nodup
      refine List.nodup_cons.mpr ⟨fun z => ?_, ih⟩
      rcases oas_set_own i b z with q | q
      · exact n (by rw [q]; exact List.mem_cons_self)
      · exact (List.nodup_cons.mp h).1 q
    | _ => exact oas_set_nodup (en := r) i (a := a) (d := d) h n
/-- a slot that owns nothing is stored -/
theorem R.setS {i : Nat} (r : R K C σ H en) (hs : oas [s] = []) {o : Option V} (h : SlR K C (mm C (oas en)) H o s) : R K C (σ.set i o) H (en.set i s) where
  sl := by
    have le : Le (mm C (oas en)) H (mm C (oas (en.set i s))) H := fun a u n q => ⟨fun z => n (z.imp id fun z => (oas_set_sub i hs).subset z), q⟩
    exact Pset (h.mono le fun _ _ _ _ q => q) i (Paired.mp r.sl fun x y q => q.mono le fun _ _ _ _ q => q)
  inj := List.Nodup.sublist (oas_set_sub i hs) r.inj
  dom := r.dom
  keep := r.keep
  nt := r.nt
theorem R.setV {i : Nat} (r : R K C σ H en) (h : Rp K (mm C (oas en)) H v d) : R K C (σ.set i (some v)) H (en.set i (.val d)) := r.setS rfl h
theorem R.setO {i : Nat} (r : R K (C.add a) σ H en) (n : ¬ C.M a) (f : C.F a ∨ C.H a = none) (c : Cell K (mm (C.add a) (oas en)) H a d) : R K C (σ.set i (some (.ref a))) H (en.set i (.own a d)) where
  sl := by
    have le : Le (mm (C.add a) (oas en)) H (mm C (oas (en.set i (.own a d)))) H := fun b u n q => ⟨fun z => n (by
      rcases z with z | z
      · exact .inl (.inl z)
      · rcases oas_set_own i b z with z | z
        · exact .inl (.inr z)
        · exact .inr z), q⟩
    refine Pset (show SlR K C _ H (some (V.ref a)) (.own a d) from ⟨rfl, n, f, c.mono le fun _ q => q⟩) i (Paired.mp r.sl fun x y q => ?_)
    have q' := q.mono le fun _ _ _ _ q => q
    cases y with
    | own b e =>
      cases x with
      | none => exact q'.elim
      | some v => exact ⟨q'.1, fun w => q'.2.1 (.inl w), q'.2.2⟩
    | no => exact q'
    | val d => cases x <;> exact q'
    | exc => cases x <;> exact q'
  inj := oas_set_nodup i r.inj fun z => r.oM z (.inr rfl)
  dom := fun b w => r.dom b (w.imp .inl id)
  keep := r.keep
  nt := fun b xs w => r.nt b xs (w.imp .inl id)
/-- what an own slot holds is changed -/
theorem R.put {i : Nat} {d0 d1 : D} {o : HO} (r : R K C σ H en) (e : en[i]? = some (.own a d0)) (c : Cell K (mm C (oas en)) (upd H a o) a d1) : R K C σ (upd H a o) (en.set i (.own a d1)) := by
  have sh : Shape en (en.set i (.own a d1)) := Shape.set e rfl
  have g := r.getO e
  have ma : a ∈ oas en := oas_mem.mpr ⟨i, d0, e⟩
  have le : Le (mm C (oas en)) H (mm C (oas (en.set i (.own a d1)))) (upd H a o) := fun b u n q => by
    rw [← oas_shape sh]
    exact ⟨n, by rw [upd_ne (fun z => n (.inr (by rw [z]; exact ma)))]; exact q⟩
  refine ⟨?_, by rw [← oas_shape sh]; exact r.inj, fun b w => ?_, fun b u q n => ?_, fun b xs w z => ?_⟩
  rotate_right
  · by_cases hb : b = a
    · rw [hb] at z
      exact c.nt xs z
    · rw [upd_ne hb] at z
      exact r.nt b xs w z
  · -- slot by slot
    have all : ∀ (j : Nat) (x : Option V) (y : Sl), σ[j]? = some x → en[j]? = some y → SlR K C (mm C (oas en)) H x y → j ≠ i → SlR K C (mm C (oas (en.set i (.own a d1)))) (upd H a o) x y := fun j x y _ hy q nj =>
      q.mono le fun b d hb u z => by
        subst hb
        rw [upd_ne fun w => ?_]
        · exact z
        · subst w
          have : i = j := by
            have h1 : ∀ (l : En) (i j : Nat) (d d' : D), (oas l).Nodup → l[i]? = some (.own b d) → l[j]? = some (.own b d') → i = j := by
              intro l
              induction l with
              | nil => intro i j d d' _ h; simp at h
              | cons s l ih =>
                intro i j d d' nd hi hj
                cases i with
                | zero =>
                  cases j with
                  | zero => rfl
                  | succ j =>
                    have hs : s = .own b d := by simpa using hi
                    subst hs
                    simp only [oas] at nd
                    exact absurd (oas_mem.mpr ⟨j, d', by simpa using hj⟩) (List.nodup_cons.mp nd).1
                | succ i =>
                  cases j with
                  | zero =>
                    have hs : s = .own b d' := by simpa using hj
                    subst hs
                    simp only [oas] at nd
                    exact absurd (oas_mem.mpr ⟨i, d, by simpa using hi⟩) (List.nodup_cons.mp nd).1
                  | succ j =>
                    have nd' : (oas l).Nodup := by
                      cases s <;> simp only [oas] at nd <;> first | exact nd | exact (List.nodup_cons.mp nd).2
                    rw [ih i j d d' nd' (by simpa using hi) (by simpa using hj)]
            exact h1 en i j d0 d r.inj e hy
          exact absurd this.symm nj
    have own : SlR K C (mm C (oas (en.set i (.own a d1)))) (upd H a o) (some (V.ref a)) (.own a d1) := ⟨rfl, g.2.1, g.2.2.1, by rw [← oas_shape sh]; exact c⟩
    have hl := Plen r.sl
    have go : ∀ (xs : L2.St) (ys : En) (k : Nat), Paired (SlR K C (mm C (oas en)) H) xs ys → (∀ j, xs[j]? = σ[k + j]?) → (∀ j, ys[j]? = en[k + j]?) →
        Paired (SlR K C (mm C (oas (en.set i (.own a d1)))) (upd H a o)) xs (if k ≤ i then ys.set (i - k) (.own a d1) else ys) := by
      intro xs ys k hp
      induction hp generalizing k with
      | nil => intro _ _; split <;> exact .nil
      | @cons x y xs ys h1 h2 ih =>
        intro ex ey
        have ex0 : σ[k]? = some x := by have := ex 0; simpa using this.symm
        have ey0 : en[k]? = some y := by have := ey 0; simpa using this.symm
        have ih' := ih (k + 1) (fun j => by have := ex (j + 1); simp only [List.getElem?_cons_succ] at this; rw [this]; congr 1; omega) (fun j => by have := ey (j + 1); simp only [List.getElem?_cons_succ] at this; rw [this]; congr 1; omega)
        by_cases hk : k ≤ i
        · rw [if_pos hk]
          by_cases hki : k = i
          · subst hki
            rw [Nat.sub_self, List.set_cons_zero]
            rw [if_neg (by omega)] at ih'
            have hx : x = some (V.ref a) := by have := g.1; rw [ex0] at this; exact Option.some.inj this
            rw [hx]
            exact .cons own ih'
          · rw [if_pos (by omega)] at ih'
            have : i - k = (i - (k + 1)) + 1 := by omega
            rw [this, List.set_cons_succ]
            exact .cons (all k x y ex0 ey0 h1 hki) ih'
        · rw [if_neg hk]
          rw [if_neg (by omega)] at ih'
          exact .cons (all k x y ex0 ey0 h1 (by omega)) ih'
    have := go σ en 0 r.sl (fun j => by simp) (fun j => by simp)
    simpa using this
  · by_cases hb : b = a
    · exact ⟨o, by rw [hb]; exact upd_same⟩
    · obtain ⟨u, q⟩ := r.dom b w
      exact ⟨u, by rw [upd_ne hb]; exact q⟩
  · have q' := r.keep b u q n
    by_cases hb : b = a
    · subst hb
      rcases g.2.2.1 with z | z
      · exact absurd z n
      · rw [z] at q; cases q
    · rw [upd_ne hb]; exact q'
theorem Keep.put {i : Nat} {d0 : D} {o : HO} (e : en[i]? = some (.own a d0)) : Keep en H (upd H a o) := fun b u n q => by
  rw [upd_ne fun z => n (by rw [z]; exact oas_mem.mpr ⟨i, d0, e⟩)]
  exact q
/-- an own slot's list is taken out -/
theorem R.take {i : Nat} (r : R K C σ H en) (e : en[i]? = some (.own a d)) : R K (C.add a) σ H (en.set i .no) ∧ Hold K C (.own a d) (en.set i .no) H (.ref a) := by
  have g := r.getO e
  have ma : a ∈ oas en := oas_mem.mpr ⟨i, d, e⟩
  have r0 : R K C σ H (en.set i .no) := by
    have h := r.setS (i := i) (s := .no) (o := some (.ref a)) rfl trivial
    have hσ : σ.set i (some (V.ref a)) = σ := by
      refine List.ext_getElem? fun j => ?_
      rw [List.getElem?_set]
      by_cases hj : i = j
      · subst hj
        rw [if_pos rfl, if_pos (List.getElem?_eq_some_iff.mp g.1).1, g.1]
      · rw [if_neg hj]
    rw [hσ] at h
    exact h
  have na : a ∉ oas (en.set i .no) := by
    have : ∀ (l : En) (i : Nat), (oas l).Nodup → l[i]? = some (.own a d) → a ∉ oas (l.set i .no) := by
      intro l
      induction l with
      | nil => intro i _ h; simp at h
      | cons s l ih =>
        intro i nd hi
        cases i with
        | zero =>
          have hs : s = .own a d := by simpa using hi
          subst hs
          simp only [oas] at nd
          exact (List.nodup_cons.mp nd).1
        | succ i =>
          have hi' : l[i]? = some (.own a d) := by simpa using hi
          cases s with
          | own b e' =>
            simp only [oas] at nd
            show a ∉ b :: oas (l.set i .no)
            intro z
            rcases List.mem_cons.mp z with z | z
            · exact (List.nodup_cons.mp nd).1 (by rw [← z]; exact oas_mem.mpr ⟨i, d, hi'⟩)
            · exact ih i (List.nodup_cons.mp nd).2 hi' z
          | _ => exact ih i nd hi'
    exact this en i r.inj e
  have sub := oas_set_sub (en := en) i (s := .no) rfl
  have le : Le (mm C (oas en)) H (mm (C.add a) (oas (en.set i .no))) H := fun b u n q => ⟨fun z => n (by
    rcases z with (z | z) | z
    · exact .inl z
    · rw [z]; exact .inr ma
    · exact .inr (sub.subset z)), q⟩
  refine ⟨⟨?_, r0.inj, fun b w => ?_, r0.keep, fun b xs w => ?_⟩, rfl, g.2.1, g.2.2.1, g.2.2.2.mono le fun _ q => q⟩
  · have hp := Pset (F := SlR K C (mm (C.add a) (oas (en.set i .no))) H) (show SlR K C (mm (C.add a) (oas (en.set i .no))) H (some (V.ref a)) .no from trivial) i (Paired.mp r.sl fun x y q => q.mono le fun _ _ _ _ q => q)
    have hσ : σ.set i (some (V.ref a)) = σ := by
      refine List.ext_getElem? fun j => ?_
      rw [List.getElem?_set]
      by_cases hj : i = j
      · subst hj
        rw [if_pos rfl, if_pos (List.getElem?_eq_some_iff.mp g.1).1, g.1]
      · rw [if_neg hj]
    rw [hσ] at hp
    refine Pmap hp fun j x y _ hy q => ?_
    cases y with
    | own b e' =>
      cases x with
      | none => exact q.elim
      | some v =>
        refine ⟨q.1, fun w => ?_, q.2.2⟩
        rcases w with w | w
        · exact q.2.1 w
        · subst w; exact na (oas_mem.mpr ⟨j, e', hy⟩)
    | no => exact q
    | val d => cases x <;> exact q
    | exc => cases x <;> exact q
  · rcases w with (w | w) | w
    · exact r.dom b (.inl w)
    · rw [w]; exact r.oD ma
    · exact r.dom b (.inr w)
  · rcases w with (w | w) | w
    · exact r.nt b xs (.inl w)
    · rw [w]; exact g.2.2.2.nt xs
    · exact r.nt b xs (.inr w)
/-- a slot that is let go (σ as it stands) -/
theorem R.forget {i : Nat} (r : R K C σ H en) : R K C σ H (en.set i .no) := by
  by_cases hi : i < σ.length
  · have h := r.setS (i := i) (s := .no) (o := σ[i]) rfl (by cases σ[i] <;> trivial)
    have hσ : σ.set i σ[i] = σ := by simp
    rw [hσ] at h
    exact h
  · have hl := Plen r.sl
    have : en.set i .no = en := List.set_eq_of_length_le (by omega)
    rw [this]
    exact r
end
end VS

namespace VS
open PySem L2

/-! ### promises of defs -/
abbrev Spc := En → (Res → List D → Prop) → (Xc → List D → Prop) → Prop
def setOwns : En → List D → En
  | [], _ => []
  | .own a _ :: r, d :: ds => .own a d :: setOwns r ds
  | s :: r, ds => s :: setOwns r ds
def outsP : En → En → (List D → Prop) → Prop
  | [], _, k => k []
  | .own a _ :: as, .own b d :: bs, k => a = b ∧ outsP as bs fun ds => k (d :: ds)
  | .own _ _ :: _, _, _ => False
  | _ :: as, _ :: bs, k => outsP as bs k
  | _ :: _, [], _ => False
def lSp (K : PySem.W.Frag) (n : Nat) (sp : Spc) : Sp := fun vs H Q E => vs.length = n ∧ ∃ (C : Cc) (args : En) (Φ : Res → List D → Prop) (Ψ : Xc → List D → Prop),
  R K C (vs.map some) H args ∧ C.H = H ∧ (∀ a, C.F a ↔ a ∈ oas args) ∧ sp args Φ Ψ ∧
  (∀ r ds v H', (∀ i, r ≠ .bor i) → Φ r ds → R K (C.ext r) (vs.map some) H' (setOwns args ds) → Hold K C r (setOwns args ds) H' v → Q v H') ∧
  (∀ x ds cls d H', Ψ x ds → R K C (vs.map some) H' (setOwns args ds) → XcR K (mm C (oas args)) H' x cls d → E cls d H')
section
variable {K : PySem.W.Frag} {C : Cc} {σ : L2.St} {H H' : Hp} {en en' : En} {a : Addr} {d : D} {v : V} {s : Sl}
theorem Pof {α β : Type} {F : α → β → Prop} : ∀ {xs : List α} {ys : List β}, xs.length = ys.length → (∀ (i : Nat) (x : α) (y : β), xs[i]? = some x → ys[i]? = some y → F x y) → Paired F xs ys
  | [], [], _, _ => .nil
  | [], _ :: _, h, _ => by simp at h
  | _ :: _, [], h, _ => by simp at h
  | x :: xs, y :: ys, h, k => .cons (k 0 x y rfl rfl) (Pof (by simpa using h) fun i x y e1 e2 => k (i + 1) x y (by simpa using e1) (by simpa using e2))
theorem Pat {α β : Type} {F : α → β → Prop} {xs : List α} {ys : List β} (h : Paired F xs ys) {i : Nat} {x : α} {y : β} (e1 : xs[i]? = some x) (e2 : ys[i]? = some y) : F x y := by
  obtain ⟨x', e, f⟩ := Pget h e2
  rw [e1] at e
  cases e
  exact f
theorem own_inj : ∀ (l : En) (i j : Nat) (d d' : D), (oas l).Nodup → l[i]? = some (.own a d) → l[j]? = some (.own a d') → i = j := by
  intro l
  induction l with
  | nil => intro i j d d' _ h; simp at h
  | cons s l ih =>
    intro i j d d' nd hi hj
    cases i with
    | zero =>
      cases j with
      | zero => rfl
      | succ j =>
        have hs : s = .own a d := by simpa using hi
        subst hs
        simp only [oas] at nd
        exact absurd (oas_mem.mpr ⟨j, d', by simpa using hj⟩) (List.nodup_cons.mp nd).1
    | succ i =>
      cases j with
      | zero =>
        have hs : s = .own a d' := by simpa using hj
        subst hs
        simp only [oas] at nd
        exact absurd (oas_mem.mpr ⟨i, d, by simpa using hi⟩) (List.nodup_cons.mp nd).1
      | succ j =>
        have nd' : (oas l).Nodup := by
          cases s <;> simp only [oas] at nd <;> first | exact nd | exact (List.nodup_cons.mp nd).2
        rw [ih i j d d' nd' (by simpa using hi) (by simpa using hj)]
theorem setOwns_shape : ∀ (en : En) (ds : List D), Shape en (setOwns en ds)
  | [], _ => by simp [setOwns, Shape]
  | .own a d0 :: r, d :: ds => by
    have ih := setOwns_shape r ds
    unfold Shape at ih ⊢
    simp only [setOwns, List.map_cons, shp, ih]
  | .own a d0 :: r, [] => by
    have ih := setOwns_shape r []
    unfold Shape at ih ⊢
    simp only [setOwns, List.map_cons, shp, ih]
  | .no :: r, ds => by
    have ih := setOwns_shape r ds
    unfold Shape at ih ⊢
    simp only [setOwns, List.map_cons, shp, ih]
  | .val _ :: r, ds => by
    have ih := setOwns_shape r ds
    unfold Shape at ih ⊢
    simp only [setOwns, List.map_cons, shp, ih]
  | .exc .. :: r, ds => by
    have ih := setOwns_shape r ds
    unfold Shape at ih ⊢
    simp only [setOwns, List.map_cons, shp, ih]
/-- what outsP tells -/
theorem outs_of : ∀ {as en : En} {k : List D → Prop}, outsP as en k → ∃ ds, k ds ∧ as.length ≤ en.length ∧ ∀ (i : Nat) (a : Addr) (d : D), (setOwns as ds)[i]? = some (.own a d) → en[i]? = some (.own a d)
  | [], en, k, h => ⟨[], h, Nat.zero_le _, fun i a d e => by simp [setOwns] at e⟩
  | .own a d0 :: as, [], k, h => h.elim
  | .own a d0 :: as, .own b d :: bs, k, ⟨e, h⟩ => by
    subst e
    obtain ⟨ds, h1, h2, h3⟩ := outs_of h
    refine ⟨d :: ds, h1, by simpa using h2, fun i a' d' q => ?_⟩
    cases i with
    | zero => simpa [setOwns] using q
    | succ i => simpa using h3 i a' d' (by simpa [setOwns] using q)
  | .own a d0 :: as, .no :: bs, k, h => h.elim
  | .own a d0 :: as, .val _ :: bs, k, h => h.elim
  | .own a d0 :: as, .exc .. :: bs, k, h => h.elim
  | .no :: as, [], k, h => h.elim
  | .val _ :: as, [], k, h => h.elim
  | .exc .. :: as, [], k, h => h.elim
  | .no :: as, _ :: bs, k, h => by
    obtain ⟨ds, h1, h2, h3⟩ := outs_of (as := as) (en := bs) h
    refine ⟨ds, h1, by simpa using h2, fun i a' d' q => ?_⟩
    cases i with
    | zero => simp [setOwns] at q
    | succ i => simpa using h3 i a' d' (by simpa [setOwns] using q)
  | .val _ :: as, _ :: bs, k, h => by
    obtain ⟨ds, h1, h2, h3⟩ := outs_of (as := as) (en := bs) h
    refine ⟨ds, h1, by simpa using h2, fun i a' d' q => ?_⟩
    cases i with
    | zero => simp [setOwns] at q
    | succ i => simpa using h3 i a' d' (by simpa [setOwns] using q)
  | .exc .. :: as, _ :: bs, k, h => by
    obtain ⟨ds, h1, h2, h3⟩ := outs_of (as := as) (en := bs) h
    refine ⟨ds, h1, by simpa using h2, fun i a' d' q => ?_⟩
    cases i with
    | zero => simp [setOwns] at q
    | succ i => simpa using h3 i a' d' (by simpa [setOwns] using q)
theorem SlR.val_of {C : Cc} {M : Ms} {o : Option V} {s : Sl} (h : SlR K C M H o s) {M' : Ms} {C' : Cc} (e : Le M H M' H') (n : ∀ a d, s ≠ .own a d) : SlR K C' M' H' o s := by
  cases s with
  | no => trivial
  | val d =>
    cases o with
    | none => exact h
    | some v => exact Rp.mono e _ _ h
  | own a d => exact (n a d rfl).elim
  | exc a c dd x =>
    cases o with
    | none => exact h
    | some v => exact ⟨h.1, h.2.mono e⟩
theorem mm_split {r : Res} {l l' : List Addr} {b : Addr} (hp : ∀ p dp, r = .own p dp → b ≠ p) (hl : b ∈ l → mm C l' b) (z : mm (C.ext r) l b) : mm C l' b := by
  rcases z with z | z
  · cases r with
    | own p dp =>
      rcases z with z | z
      · exact .inl z
      · exact absurd z (hp p dp rfl)
    | val _ => exact .inl z
    | bor _ => exact .inl z
  · exact hl z
/-- a def's end, seen by its caller -/
theorem fin_R {vs : List V} {args : En} {r : Res} {ds : List D} (R0 : R K C (vs.map some) H args) (eH : C.H = H) (eF : ∀ a, C.F a ↔ a ∈ oas args) (R1 : R K (C.ext r) σ H' en') (hv : Hold K C r en' H' v)
    (nb : ∀ i, r ≠ .bor i) (sub : ∀ (i : Nat) (a : Addr) (d : D), (setOwns args ds)[i]? = some (.own a d) → en'[i]? = some (.own a d)) : R K (C.ext r) (vs.map some) H' (setOwns args ds) ∧ Hold K C r (setOwns args ds) H' v := by
  have sh := setOwns_shape args ds
  have eo : oas (setOwns args ds) = oas args := (oas_shape sh).symm
  have hsub : ∀ a, a ∈ oas args → a ∈ oas en' := fun a h => by
    rw [oas_shape sh] at h
    obtain ⟨i, d, e⟩ := oas_mem.mp h
    exact oas_mem.mpr ⟨i, d, sub i a d e⟩
  have keep : ∀ a u, a ∉ oas args → H a = some u → H' a = some u := fun a u n e => R1.keep a u (by rw [ext_H, eH]; exact e) (by rw [ext_F]; exact fun z => n ((eF a).mp z))
  have hn : ∀ p dp, r = .own p dp → H p = none := fun p dp e => by
    subst e
    obtain ⟨_, _, f, _⟩ := hv
    rcases f with f | f
    · exact absurd (.inr rfl) (R1.oM (hsub p ((eF p).mp f)))
    · rw [← eH]; exact f
  have le0 : Le (mm C (oas args)) H (mm (C.ext r) (oas args)) H' := fun b u n q => ⟨fun z => n (mm_split (fun p dp e w => by rw [w, hn p dp e] at q; cases q) .inr z), keep b u (fun z => n (.inr z)) q⟩
  have leE : ∀ r', Le (mm (C.ext r') (oas en')) H' (mm (C.ext r') (oas args)) H' := fun r' b u n q => ⟨fun z => n (z.imp id (hsub b)), q⟩
  refine ⟨⟨?_, by rw [eo]; exact R0.inj, R1.dom, R1.keep, R1.nt⟩, ?_⟩
  · have hl : (vs.map some).length = (setOwns args ds).length := by
      have h1 := Plen R0.sl
      have h2 : (args.map shp).length = ((setOwns args ds).map shp).length := congrArg List.length sh
      rw [List.length_map, List.length_map] at h2
      rw [h1, h2]
    rw [eo]
    refine Pof hl fun i x y hx hy => ?_
    obtain ⟨y0, hy0, hs⟩ := sh.symm.at hy
    have f0 := Pat R0.sl hx hy0
    cases y with
    | own a d =>
      have g := R1.getO (sub i a d hy)
      have hx0 : x = some (.ref a) := by
        cases y0 <;> simp only [shp] at hs <;> cases hs
        cases x with
        | none => exact f0.elim
        | some v => rw [f0.1]
      subst hx0
      exact ⟨rfl, g.2.1, g.2.2.1, g.2.2.2.mono (leE r) fun _ q => q⟩
    | no => trivial
    | val d =>
      have ey : y0 = .val d := by cases y0 <;> simp only [shp] at hs <;> cases hs <;> rfl
      subst ey
      exact f0.val_of le0 fun _ _ z => by cases z
    | exc a c dd xx =>
      have ey : y0 = .exc a c dd xx := by cases y0 <;> simp only [shp] at hs <;> cases hs <;> rfl
      subst ey
      exact f0.val_of le0 fun _ _ z => by cases z
  · cases r with
    | val d =>
      show Rp K (mm C (oas (setOwns args ds))) H' v d
      rw [eo]
      exact Rp.mono (leE (.val d)) _ _ hv
    | own p dp =>
      obtain ⟨h1, h2, h3, h4⟩ := hv
      refine ⟨h1, h2, h3, ?_⟩
      rw [eo]
      exact h4.mono (leE (.own p dp)) fun _ q => q
    | bor i => exact absurd rfl (nb i)
theorem fin_X {vs : List V} {args : En} {ds : List D} {x : Xc} {cls : Value} {dx : Option Addr} (R0 : R K C (vs.map some) H args) (eH : C.H = H) (eF : ∀ a, C.F a ↔ a ∈ oas args) (R1 : R K C σ H' en') (hx : XcR K (mm C (oas en')) H' x cls dx)
    (sub : ∀ (i : Nat) (a : Addr) (d : D), (setOwns args ds)[i]? = some (.own a d) → en'[i]? = some (.own a d)) : R K C (vs.map some) H' (setOwns args ds) ∧ XcR K (mm C (oas args)) H' x cls dx := by
  refine ⟨(fin_R (r := .val .non) (v := .non) R0 eH eF R1 .non (fun _ z => by cases z) sub).1, hx.mono fun b u n q => ⟨fun z => n (z.imp id fun h => ?_), q⟩⟩
  rw [oas_shape (setOwns_shape args ds)] at h
  obtain ⟨i, d, e⟩ := oas_mem.mp h
  exact oas_mem.mpr ⟨i, d, sub i b d e⟩
end

/-! ### statements -/
structure Ed where
  nx : En → Prop
  rt : Res → En → Prop
  bk : En → Prop := fun _ => False
  ct : En → Prop := fun _ => False
  ex : Xc → En → Prop
abbrev TDs := Ed → En → Prop
structure SOk (K : PySem.W.Frag) (C : Cc) (W : WX) (Ds : Ends) (De : Ed) : Prop where
  nx : ∀ σ en H, De.nx en → R K C σ H en → Ds.nx σ H
  rt : ∀ r en σ v H, De.rt r en → R K (C.ext r) σ H en → Hold K C r en H v → Ds.rt v H
  bk : ∀ σ en H, De.bk en → R K C σ H en → Ds.bk σ H
  ct : ∀ σ en H, De.ct en → R K C σ H en → Ds.ct σ H
  ex : ∀ x en σ cls d H, De.ex x en → R K C σ H en → XcR K (mm C (oas en)) H x cls d → W cls d σ H
def lS (K : PySem.W.Frag) (W : WX) (T : TDs) : TS := fun Ds σ H => ∃ (C : Cc) (en : En) (De : Ed), R K C σ H en ∧ T De en ∧ SOk K C W Ds De
abbrev DS (X : Cx) (W : WX) (st : Stmt) (T : TDs) : Prop := PS X st (lS X.K W T)
abbrev DSs (X : Cx) (W : WX) (st : List Stmt) (T : TDs) : Prop := PSs X st (lS X.K W T)
theorem SOk.x {K : PySem.W.Frag} {C : Cc} {W : WX} {Ds : Ends} {De : Ed} (h : SOk K C W Ds De) (σ : L2.St) : XOk K C W σ De.ex := fun x en cls d H q r z => h.ex x en σ cls d H q r z
/-- a body's ends as the promise wants them -/
def edOf (args : En) (Φ : Res → List D → Prop) (Ψ : Xc → List D → Prop) : Ed where
  nx := fun en => outsP args en (Φ (.val .non))
  rt := fun r en => match r with
    | .bor _ => False
    | r => outsP args en (Φ r)
  ex := fun x en => outsP args en (Ψ x)
def tNextD : TDs := fun De en => De.nx en
def tSeqD (t u : TDs) : TDs := fun De en => t { De with nx := fun en' => u De en' } en
def tDropD (ta : TDe) : TDs := fun De en => ta De.ex en fun _ en1 => De.nx en1
def retD (De : Ed) (r : Res) (en : En) : Prop := match r with
  | .bor i => (match en[i]? with
    | some (.own a d) => De.rt (.own a d) (en.set i .no)
    | _ => False)
  | r => De.rt r en
def tRetD (ta : TDe) : TDs := fun De en => ta De.ex en fun r en1 => retD De r en1
def tRetND : TDs := fun De en => De.rt (.val .non) en
def tIfSD (t : TDt) (u v : TDs) : TDs := fun De en => t De.ex en fun b en1 => if b = true then u De en1 else v De en1
/-- x = e, kept as it is | a new list let go at once -/
def tSetD (i : Nat) (ta : TDe) : TDs := fun De en => ta De.ex en fun r en1 => match r with
  | .val d => De.nx (en1.set i (.val d))
  | .own a d => De.nx (en1.set i (.own a d))
  | .bor _ => False
def tSetV (i : Nat) (ta : TDe) : TDs := fun De en => ta De.ex en fun r en1 => match vl r with
  | some d => De.nx (en1.set i (.val d))
  | none => False
/-- what was an own list is from now on a value -/
def tFrzD (i : Nat) (t : TDs) : TDs := fun De en => match en[i]? with
  | some (.own _ d) => t De (en.set i (.val d))
  | _ => False
def tBrkD : TDs := fun De en => De.bk en
def tCntD : TDs := fun De en => De.ct en
/-- the rest is shown once, from Mid -/
def tCutD (t u : TDs) : TDs := fun De en => ∃ Mid : En → Prop, t { De with nx := Mid } en ∧ ∀ en', Mid en' → u De en'
section
variable {X : Cx} {W : WX} {a b c e : Expr} {ta tb tc te : TDe} {tA tB' : TDt} {p pos : Pos} {st : Stmt} {rest body ab bb : List Stmt} {t u v : TDs}
theorem dss_nil : DSs X W [] tNextD := PSsi pss_nil fun D σ H ⟨C, en, De, R1, h, k⟩ => k.nx σ en H h R1
theorem dss_cons (h1 : DS X W st t) (h2 : DSs X W rest u) : DSs X W (st :: rest) (tSeqD t u) := PSsi (pss_cons h1 h2) fun D σ H ⟨C, en, De, R1, h, k⟩ =>
  ⟨C, en, { De with nx := fun en' => u De en' }, R1, h, ⟨fun σ' en' H' q R' => ⟨C, en', De, R', q, k⟩, k.rt, k.bk, k.ct, k.ex⟩⟩
theorem dss_one (h1 : DS X W st t) : DSs X W [st] t := pss_one h1
theorem dss_cut (h1 : DS X W st t) (h2 : DSs X W rest u) : DSs X W (st :: rest) (tCutD t u) := PSsi (pss_cons h1 h2) fun D σ H ⟨C, en, De, R1, ⟨Mid, h, hm⟩, k⟩ =>
  ⟨C, en, { De with nx := Mid }, R1, h, ⟨fun σ' en' H' q R' => ⟨C, en', De, R', hm en' q, k⟩, k.rt, k.bk, k.ct, k.ex⟩⟩
/-- ahead of a statement an own slot becomes a value -/
theorem dss_frz (i : Nat) (h2 : DSs X W rest u) : DSs X W rest (tFrzD i u) := PSsi h2 fun D σ H ⟨C, en, De, R1, h, k⟩ => by
  unfold tFrzD at h
  cases e : en[i]? with
  | none => simp only [e] at h
  | some s =>
    cases s <;> simp only [e] at h
    rename_i a d
    refine ⟨C, _, De, ?_, h, k⟩
    obtain ⟨q1, q2⟩ := R1.take e
    have q3 := q2.rp q1 rfl
    have q4 := q1.drop.setV (i := i) q3
    have g := (R1.getO e).1
    have hσ : σ.set i (some (V.ref a)) = σ := by
      refine List.ext_getElem? fun j => ?_
      rw [List.getElem?_set]
      by_cases hj : i = j
      · subst hj
        rw [if_pos rfl, if_pos (List.getElem?_eq_some_iff.mp g).1, g]
      · rw [if_neg hj]
    rw [hσ, List.set_set] at q4
    exact q4
theorem ds_expr (he : DE X W e te) (hs : swapsWith e none pos.line X.env = pure false := by rfl) : DS X W (.Expr e pos) (tDropD te) := PSi (ps_expr he hs) fun D σ H ⟨C, en, De, R1, h, k⟩ =>
  ⟨C, en, _, De.ex, R1, h, k.x σ, fun r en' v H' q R' _ _ _ _ => k.nx σ en' H' q R'.dropX⟩
theorem ds_doc {x : Str} {j : _} {pos' : Pos} : DS X W (.Expr (.Constant (.str x) j pos) pos') tNextD := PSi ps_doc fun D σ H ⟨C, en, De, R1, h, k⟩ => k.nx σ en H h R1
theorem ret_go {K : PySem.W.Frag} {C : Cc} {Ds : Ends} {De : Ed} {r : Res} {en : En} {σ : L2.St} {H : Hp} {v : V} (k : SOk K C W Ds De) (h : retD De r en) (R1 : R K (C.ext r) σ H en) (hv : Hold K C r en H v) : Ds.rt v H := by
  cases r with
  | val d => exact k.rt _ _ σ v H h R1 hv
  | own a d => exact k.rt _ _ σ v H h R1 hv
  | bor i =>
    obtain ⟨a, d, e, rfl⟩ := hv
    simp only [retD, e] at h
    obtain ⟨q1, q2⟩ := (show R K C σ H en from R1).take e
    exact k.rt _ _ σ _ H h q1 q2
theorem ds_ret (he : DE X W e te) : DS X W (.Return (some e) pos) (tRetD te) := PSi (ps_ret he) fun D σ H ⟨C, en, De, R1, h, k⟩ =>
  ⟨C, en, _, De.ex, R1, h, k.x σ, fun r en' v H' q R' o' _ _ _ => ret_go k q R' o'⟩
theorem ds_retN : DS X W (.Return none pos) tRetND := PSi ps_retN fun D σ H ⟨C, en, De, R1, h, k⟩ => k.rt (.val .non) en σ .non H h R1 .non
theorem ds_if (hc : DT X W c tA) (ha : DSs X W ab t) (hb : DSs X W bb u) : DS X W (.If c ab bb pos) (tIfSD tA t u) := PSi (ps_if hc ha hb) fun D σ H ⟨C, en, De, R1, h, k⟩ =>
  ⟨C, en, _, De.ex, R1, h, k.x σ, fun b en' H' q R' _ _ => by
    cases b with
    | true => exact ⟨C, en', De, R', q, k⟩
    | false => exact ⟨C, en', De, R', q, k⟩⟩
theorem ds_pass : DS X W (.Pass pos) tNextD := PSi ps_pass fun D σ H ⟨C, en, De, R1, h, k⟩ => k.nx σ en H h R1
theorem ds_break : DS X W (.Break pos) tBrkD := PSi ps_break fun D σ H ⟨C, en, De, R1, h, k⟩ => k.bk σ en H h R1
theorem ds_continue : DS X W (.Continue pos) tCntD := PSi ps_continue fun D σ H ⟨C, en, De, R1, h, k⟩ => k.ct σ en H h R1
theorem ds_set {i : Nat} {x : Str} {pos' : Pos} (hN : X.N.Nodup) (hi : X.N[i]? = some x) (hx : Loc X.env.scope x) (he : DE X W e te) (hs : swapsWith e (some (.Name x pos')) pos.line X.env = pure false := by rfl)
    (hf : X.fn x = true ∨ X.env.scope.names.lookup x = some .local := by first | exact .inl rfl | exact .inr rfl | assumption) : DS X W (.Assign [.Name x pos'] e pos) (tSetD i te) := PSi (ps_set hN hi hx he hs hf) fun D σ H ⟨C, en, De, R1, h, k⟩ =>
  ⟨C, en, _, De.ex, R1, h, k.x σ, fun r en' v H' q R' o' _ _ _ => by
    cases r with
    | val d => exact k.nx _ _ H' q (R.setV R' o')
    | own a d =>
      obtain ⟨rfl, h1, h2, h3⟩ := o'
      exact k.nx _ _ H' q (R.setO R' h1 h2 h3)
    | bor i => exact (show False from q).elim⟩
theorem ds_setV {i : Nat} {x : Str} {pos' : Pos} (hN : X.N.Nodup) (hi : X.N[i]? = some x) (hx : Loc X.env.scope x) (he : DE X W e te) (hs : swapsWith e (some (.Name x pos')) pos.line X.env = pure false := by rfl)
    (hf : X.fn x = true ∨ X.env.scope.names.lookup x = some .local := by first | exact .inl rfl | exact .inr rfl | assumption) : DS X W (.Assign [.Name x pos'] e pos) (tSetV i te) := PSi (ps_set hN hi hx he hs hf) fun D σ H ⟨C, en, De, R1, h, k⟩ =>
  ⟨C, en, _, De.ex, R1, h, k.x σ, fun r en' v H' q R' o' _ _ _ => by
    cases e : vl r with
    | none => simp only [e] at q
    | some d =>
      simp only [e] at q
      exact k.nx _ _ H' q (R'.dropX.setV (o'.rp R' e))⟩
end
end VS

namespace VS
open PySem L2 PySem.Spec PyProof.Rows

/-! ### a def's promise by its body -/
def noR (N : List Str) (args : En) : En := args ++ List.replicate (N.length - args.length) .no
section
variable {P : Program} {w : World} {K : PySem.W.Frag} {mg : Str → Option Value} {base : Heap}
theorem R.start {C : Cc} {vs : List V} {H : Hp} {args : En} {N : List Str} (r : R K C (vs.map some) H args) : R K C (L2.start N vs) H (noR N args) := by
  have hl := Plen r.sl
  rw [List.length_map] at hl
  have ho : oas (noR N args) = oas args := by
    have h1 : ∀ n, oas (List.replicate n Sl.no) = [] := fun n => by
      induction n with
      | zero => rfl
      | succ n ih => rw [List.replicate_succ]; exact ih
    have h2 : ∀ l : En, ∀ m : En, oas (l ++ m) = oas l ++ oas m := fun l m => by
      induction l with
      | nil => rfl
      | cons s l ih => cases s <;> simp [oas, ih]
    unfold noR
    rw [h2, h1, List.append_nil]
  refine ⟨?_, by rw [ho]; exact r.inj, r.dom, r.keep, r.nt⟩
  rw [ho]
  unfold L2.start noR
  rw [hl]
  have h3 : ∀ (xs xs' : L2.St) (ys ys' : En), Paired (SlR K C (mm C (oas args)) H) xs ys → Paired (SlR K C (mm C (oas args)) H) xs' ys' → Paired (SlR K C (mm C (oas args)) H) (xs ++ xs') (ys ++ ys') := by
    intro xs xs' ys ys' h1 h2
    induction h1 with
    | nil => exact h2
    | cons h _ ih => exact .cons h ih
  refine h3 _ _ _ _ r.sl ?_
  generalize N.length - args.length = n
  induction n with
  | zero => exact .nil
  | succ n ih => rw [List.replicate_succ, List.replicate_succ]; exact .cons trivial ih
theorem done_nx {C : Cc} {vs : List V} {args : En} {H : Hp} {Φ : Res → List D → Prop} {Ψ : Xc → List D → Prop} {Q : VK} {E : XK} (R0 : R K C (vs.map some) H args) (eH : C.H = H) (eF : ∀ a, C.F a ↔ a ∈ oas args)
    (hΦ : ∀ r ds v H', (∀ i, r ≠ .bor i) → Φ r ds → R K (C.ext r) (vs.map some) H' (setOwns args ds) → Hold K C r (setOwns args ds) H' v → Q v H')
    (hΨ : ∀ x ds cls d H', Ψ x ds → R K C (vs.map some) H' (setOwns args ds) → XcR K (mm C (oas args)) H' x cls d → E cls d H') :
    SOk K C (fun cls d _ H => E cls d H) { nx := fun _ H' => Q .non H', rt := Q } (edOf args Φ Ψ) where
  nx := fun σ en H' q R1 => by
    obtain ⟨ds, h1, h2, h3⟩ := outs_of q
    obtain ⟨q1, q2⟩ := fin_R (r := .val .non) (v := .non) R0 eH eF R1 .non (fun _ z => by cases z) h3
    exact hΦ _ ds _ H' (fun _ z => by cases z) h1 q1 q2
  rt := fun r en σ v H' q R1 hv => by
    cases r with
    | bor i => exact q.elim
    | val d =>
      obtain ⟨ds, h1, h2, h3⟩ := outs_of q
      obtain ⟨q1, q2⟩ := fin_R R0 eH eF R1 hv (fun _ z => by cases z) h3
      exact hΦ _ ds _ H' (fun _ z => by cases z) h1 q1 q2
    | own a d =>
      obtain ⟨ds, h1, h2, h3⟩ := outs_of q
      obtain ⟨q1, q2⟩ := fin_R R0 eH eF R1 hv (fun _ z => by cases z) h3
      exact hΦ _ ds _ H' (fun _ z => by cases z) h1 q1 q2
  bk := fun _ _ _ q => q.elim
  ct := fun _ _ _ q => q.elim
  ex := fun x en σ cls d H' q R1 hx => by
    obtain ⟨ds, h1, h2, h3⟩ := outs_of q
    obtain ⟨q1, q2⟩ := fin_X R0 eH eF R1 hx h3
    exact hΨ x ds cls d H' h1 q1 q2
abbrev W0 : WX := fun _ _ _ _ => False
/-- a def that lets nothing out -/
theorem fn_vs {x qual : Str} {st : Stmt} {f : Addr} {fd : FuncData} {N ps : List Str} {k n : Nat} {sp : Spc} (F : Fun K x qual st f fd) (S : FnScope N ps (defScope st)) (hn : ps.length = n)
    (hb : ∀ (cdv : Value) (A : Around) (outer : List Env) (s : Shared) (H : Hp) (E : XK), Room k (A.deeper (envOfC qual (defScope st) s.heap.objs.size f cdv)) →
      ∃ T : TDs, DSs (cxOf CX0 P w K mg base N qual (defScope st) f cdv A outer s H E).nox W0 (defBody st) T ∧ ∀ args Φ, args.length = n → sp args Φ (fun _ _ => False) → T (edOf args Φ fun _ _ => False) (noR N args))
    (hm : ∀ args Φ Ψ, sp args Φ Ψ → sp args Φ (fun _ _ => False) := by exact fun _ _ _ h => h) : FnOk P w K mg base CX0 (k + 1) f fd ps (lSp K n sp) :=
  F.ok S (fun vs H Q E h => h.1.trans hn.symm) fun cdv A outer s H vs Q E hr h => by
    obtain ⟨hl, C, args, Φ, Ψ, R0, eH, eF, hsp, hΦ, hΨ⟩ := h
    obtain ⟨T, hd, ht⟩ := hb cdv A outer s H E hr
    have ha : args.length = n := by
      have := Plen R0.sl
      rw [List.length_map] at this
      omega
    have ok := done_nx (Ψ := fun _ _ => False) (E := E0) R0 eH eF hΦ (fun _ _ _ _ _ z => z.elim)
    exact ⟨_, hd, C, noR N args, edOf args Φ fun _ _ => False, R0.start, ht args Φ ha (hm _ _ _ hsp), ⟨ok.nx, ok.rt, ok.bk, ok.ct, fun x en σ cls d H' q r z => ok.ex x en σ cls d H' q r z⟩⟩
/-- a def that may raise -/
theorem fn_vsX {x qual : Str} {st : Stmt} {f : Addr} {fd : FuncData} {N ps : List Str} {k n : Nat} {sp : Spc} (F : Fun K x qual st f fd) (S : FnScope N ps (defScope st)) (hn : ps.length = n)
    (hb : ∀ (cdv : Value) (A : Around) (outer : List Env) (s : Shared) (H : Hp) (E : XK), Room k (A.deeper (envOfC qual (defScope st) s.heap.objs.size f cdv)) →
      ∃ T : TDs, DSs (cxOf (L2.CX P w) P w K mg base N qual (defScope st) f cdv A outer s H E) (fun cls d _ H => E cls d H) (defBody st) T ∧ ∀ args Φ Ψ, args.length = n → sp args Φ Ψ → T (edOf args Φ Ψ) (noR N args)) :
    FnOk P w K mg base (L2.CX P w) (k + 1) f fd ps (lSp K n sp) :=
  F.okX S (fun vs H Q E h => h.1.trans hn.symm) fun cdv A outer s H vs Q E hr h => by
    obtain ⟨hl, C, args, Φ, Ψ, R0, eH, eF, hsp, hΦ, hΨ⟩ := h
    obtain ⟨T, hd, ht⟩ := hb cdv A outer s H E hr
    have ha : args.length = n := by
      have := Plen R0.sl
      rw [List.length_map] at this
      omega
    exact ⟨_, hd, C, noR N args, edOf args Φ Ψ, R0.start, ht args Φ Ψ ha hsp, done_nx R0 eH eF hΦ hΨ⟩
end

/-! ### calls of defs -/
def mkArgs (en : En) : List Res → Option En
  | [] => some []
  | r :: rs => match mkArgs en rs with
    | none => none
    | some as => match r with
      | .val d => some (.val d :: as)
      | .own _ d => some (.val d :: as)
      | .bor i => match en[i]? with
        | some (.own a d) => some (.own a d :: as)
        | _ => none
def bors : List Res → List Nat
  | [] => []
  | .bor i :: rs => i :: bors rs
  | _ :: rs => bors rs
def putOwns : En → List Res → List D → En
  | en, [], _ => en
  | en, .bor i :: rs, d' :: ds => match en[i]? with
    | some (.own a _) => putOwns (en.set i (.own a d')) rs ds
    | _ => en
  | en, .bor _ :: rs, [] => en
  | en, _ :: rs, ds => putOwns en rs ds
def tCallD (n : Nat) (sp : Spc) (ta : TDa) : TDe := fun Ψ en Φ => ta Ψ en fun rs en1 => match mkArgs en1 rs with
  | some args => args.length = n ∧ (bors rs).Nodup ∧ sp args (fun r ds => Φ r (putOwns en1 rs ds)) (fun x ds => Ψ x (putOwns en1 rs ds))
  | none => False
section
variable {K : PySem.W.Frag} {C : Cc} {σ : L2.St} {H H' : Hp} {en en' : En} {a : Addr} {d : D} {v : V} {s : Sl}
/-- what mkArgs gives -/
theorem mk_slots : ∀ {rs : List Res} {C : Cc} {vs : List V} {args : En}, HoldA K C rs en H vs → R K (C.exts rs) σ H en → mkArgs en rs = some args →
    vs.length = args.length ∧ (∀ (k : Nat) (d : D), args[k]? = some (.val d) → ∃ v, vs[k]? = some v ∧ Rp K (mm C (oas en)) H v d) ∧
    (∀ (k : Nat) (s : Sl), args[k]? = some s → (∃ d, s = .val d) ∨ ∃ (a : Addr) (d : D) (i : Nat), s = .own a d ∧ i ∈ bors rs ∧ en[i]? = some (.own a d) ∧ vs[k]? = some (.ref a)) ∧
    (∀ i, i ∈ bors rs → ∃ (a : Addr) (d : D), en[i]? = some (.own a d) ∧ Sl.own a d ∈ args)
  | [], _, _, args, h, _, e => by
    cases h; cases e
    exact ⟨rfl, fun k d h => by simp at h, fun k s h => by simp at h, fun i h => by simp [bors] at h⟩
  | r :: rs, C, _, args, ⟨v, ws, e, h1, h2⟩, R1, e' => by
    subst e
    unfold mkArgs at e'
    cases e2 : mkArgs en rs with
    | none => rw [e2] at e'; cases e'
    | some as =>
      rw [e2] at e'
      obtain ⟨l, p1, p2, p3⟩ := mk_slots (rs := rs) h2 R1 e2
      have Rr := R.dropA (rs := rs) (C := C.ext r) R1
      have low : ∀ v d, Rp K (mm (C.ext r) (oas en)) H v d → Rp K (mm C (oas en)) H v d := fun v d h => Rp.mono le_ext _ _ h
      cases r with
      | val d0 =>
        cases e'
        refine ⟨by simp [l], fun k d h => ?_, fun k s h => ?_, fun i h => ?_⟩
        · cases k with
          | zero => simp at h; subst h; exact ⟨v, rfl, Rp.mono le_exts _ _ h1⟩
          | succ k => obtain ⟨v', q1, q2⟩ := p1 k d (by simpa using h); exact ⟨v', by simpa using q1, low _ _ q2⟩
        · cases k with
          | zero => simp at h; exact .inl ⟨d0, h.symm⟩
          | succ k =>
            rcases p2 k s (by simpa using h) with q | ⟨a, d, i, q1, q2, q3, q4⟩
            · exact .inl q
            · exact .inr ⟨a, d, i, q1, q2, q3, by simpa using q4⟩
        · obtain ⟨a, d, q1, q2⟩ := p3 i h
          exact ⟨a, d, q1, List.mem_cons_of_mem _ q2⟩
      | own a0 d0 =>
        cases e'
        refine ⟨by simp [l], fun k d h => ?_, fun k s h => ?_, fun i h => ?_⟩
        · cases k with
          | zero => simp at h; subst h; exact ⟨v, rfl, Rp.mono le_exts _ _ (h1.rp (by rw [exts_ext]; exact R1) rfl)⟩
          | succ k => obtain ⟨v', q1, q2⟩ := p1 k d (by simpa using h); exact ⟨v', by simpa using q1, low _ _ q2⟩
        · cases k with
          | zero => simp at h; exact .inl ⟨d0, h.symm⟩
          | succ k =>
            rcases p2 k s (by simpa using h) with q | ⟨a, d, i, q1, q2, q3, q4⟩
            · exact .inl q
            · exact .inr ⟨a, d, i, q1, q2, q3, by simpa using q4⟩
        · obtain ⟨a, d, q1, q2⟩ := p3 i h
          exact ⟨a, d, q1, List.mem_cons_of_mem _ q2⟩
      | bor i0 =>
        obtain ⟨a0, d0, q0, rfl⟩ := h1
        have e3 : some (Sl.own a0 d0 :: as) = some args := by simpa [q0] using e'
        cases e3
        refine ⟨by simp [l], fun k d h => ?_, fun k s h => ?_, fun i h => ?_⟩
        · cases k with
          | zero => simp at h
          | succ k => obtain ⟨v', q1, q2⟩ := p1 k d (by simpa using h); exact ⟨v', by simpa using q1, low _ _ q2⟩
        · cases k with
          | zero => simp at h; exact .inr ⟨a0, d0, i0, h.symm, by simp [bors], q0, rfl⟩
          | succ k =>
            rcases p2 k s (by simpa using h) with q | ⟨a, d, i, q1, q2, q3, q4⟩
            · exact .inl q
            · exact .inr ⟨a, d, i, q1, by simp [bors, q2], q3, by simpa using q4⟩
        · simp only [bors, List.mem_cons] at h
          rcases h with rfl | h
          · exact ⟨a0, d0, q0, List.mem_cons_self⟩
          · obtain ⟨a, d, q1, q2⟩ := p3 i h
            exact ⟨a, d, q1, List.mem_cons_of_mem _ q2⟩
theorem mkArgs_set : ∀ {rs : List Res} {i : Nat} {s : Sl}, i ∉ bors rs → mkArgs (en.set i s) rs = mkArgs en rs
  | [], _, _, _ => rfl
  | .val d :: rs, i, s, h => by simp only [mkArgs, mkArgs_set (rs := rs) (s := s) (show i ∉ bors rs from h)]
  | .own a d :: rs, i, s, h => by simp only [mkArgs, mkArgs_set (rs := rs) (s := s) (show i ∉ bors rs from h)]
  | .bor j :: rs, i, s, h => by
    have h1 : i ≠ j := fun z => h (by rw [z]; simp [bors])
    have h2 : i ∉ bors rs := fun z => h (by simp [bors, z])
    simp only [mkArgs, mkArgs_set (rs := rs) (s := s) h2, List.getElem?_set_ne h1]
/-- the args' owners, apart -/
theorem mk_nodup : ∀ {rs : List Res} {args : En}, (oas en).Nodup → (bors rs).Nodup → mkArgs en rs = some args → (oas args).Nodup ∧ ∀ a, a ∈ oas args → ∃ i d, i ∈ bors rs ∧ en[i]? = some (.own a d)
  | [], args, _, _, e => by cases e; exact ⟨List.nodup_nil, fun a h => by simp [oas] at h⟩
  | r :: rs, args, nd, nb, e' => by
    unfold mkArgs at e'
    cases e2 : mkArgs en rs with
    | none => rw [e2] at e'; cases e'
    | some as =>
      rw [e2] at e'
      cases r with
      | val d0 =>
        cases e'
        exact mk_nodup (rs := rs) (args := as) nd nb e2
      | own a0 d0 =>
        cases e'
        exact mk_nodup (rs := rs) (args := as) nd nb e2
      | bor i0 =>
        have nb' : i0 ∉ bors rs ∧ (bors rs).Nodup := List.nodup_cons.mp nb
        obtain ⟨h1, h2⟩ := mk_nodup (rs := rs) nd nb'.2 e2
        cases q : en[i0]? with
        | none => simp [q] at e'
        | some s =>
          cases s <;> simp only [q] at e' <;> try cases e'
          rename_i a0 d0
          refine ⟨List.nodup_cons.mpr ⟨fun z => ?_, h1⟩, fun a z => ?_⟩
          · obtain ⟨i, d, m, qi⟩ := h2 a0 z
            rw [own_inj en i0 i d0 d nd q qi] at nb'
            exact nb'.1 m
          · rcases List.mem_cons.mp z with rfl | z
            · exact ⟨i0, d0, by simp [bors], q⟩
            · obtain ⟨i, d, m, qi⟩ := h2 a z
              exact ⟨i, d, by simp [bors, m], qi⟩
/-- the slots behind a call -/
theorem put_at : ∀ {rs : List Res} {en : En} {args : En} {ds : List D}, mkArgs en rs = some args → (bors rs).Nodup →
    Shape en (putOwns en rs ds) ∧ ∀ (j : Nat), (j ∉ bors rs → (putOwns en rs ds)[j]? = en[j]?) ∧
      (j ∈ bors rs → ∃ (a : Addr) (d0 d' : D) (k : Nat), en[j]? = some (.own a d0) ∧ (putOwns en rs ds)[j]? = some (.own a d') ∧ (setOwns args ds)[k]? = some (.own a d'))
  | [], en, args, ds, e, _ => by
    cases e
    exact ⟨Shape.refl _, fun j => ⟨fun _ => by simp [putOwns], fun h => by simp [bors] at h⟩⟩
  | r :: rs, en, args, ds, e', nb => by
    unfold mkArgs at e'
    cases e2 : mkArgs en rs with
    | none => rw [e2] at e'; cases e'
    | some as =>
      rw [e2] at e'
      cases r with
      | val d0 =>
        cases e'
        obtain ⟨h1, h2⟩ := put_at (rs := rs) (ds := ds) e2 nb
        refine ⟨by simpa [putOwns] using h1, fun j => ⟨fun m => by simpa [putOwns] using (h2 j).1 m, fun m => ?_⟩⟩
        obtain ⟨a, d0, d', k, q1, q2, q3⟩ := (h2 j).2 m
        exact ⟨a, d0, d', k + 1, q1, by simpa [putOwns] using q2, by simpa [setOwns] using q3⟩
      | own a0 d0 =>
        cases e'
        obtain ⟨h1, h2⟩ := put_at (rs := rs) (ds := ds) e2 nb
        refine ⟨by simpa [putOwns] using h1, fun j => ⟨fun m => by simpa [putOwns] using (h2 j).1 m, fun m => ?_⟩⟩
        obtain ⟨a, d0, d', k, q1, q2, q3⟩ := (h2 j).2 m
        exact ⟨a, d0, d', k + 1, q1, by simpa [putOwns] using q2, by simpa [setOwns] using q3⟩
      | bor i0 =>
        have nb' : i0 ∉ bors rs ∧ (bors rs).Nodup := List.nodup_cons.mp nb
        cases q : en[i0]? with
        | none => simp [q] at e'
        | some s =>
          cases s <;> simp only [q] at e' <;> try cases e'
          rename_i a0 d0
          cases ds with
          | nil =>
            have ep : ∀ l : List Res, putOwns en (.bor i0 :: l) [] = en := fun l => by simp [putOwns]
            have es : ∀ l : En, setOwns l [] = l := fun l => by
              induction l with
              | nil => simp [setOwns]
              | cons s l ih => cases s <;> simp [setOwns, ih]
            rw [ep, es]
            refine ⟨Shape.refl _, fun j => ⟨fun _ => rfl, fun m => ?_⟩⟩
            simp only [bors, List.mem_cons] at m
            rcases m with rfl | m
            · exact ⟨a0, d0, d0, 0, q, q, rfl⟩
            · obtain ⟨_, h2⟩ := put_at (rs := rs) (ds := []) e2 nb'.2
              obtain ⟨a, d1, d', k, q1, q2, q3⟩ := (h2 j).2 m
              rw [es] at q3
              -- the old content
              have hm : ∀ (rs : List Res) (as : En), mkArgs en rs = some as → ∀ j, j ∈ bors rs → ∃ (a : Addr) (d : D) (k : Nat), en[j]? = some (Sl.own a d) ∧ as[k]? = some (Sl.own a d) := by
                intro rs
                induction rs with
                | nil => intro as _ j m; simp [bors] at m
                | cons r rs ih =>
                  intro as e j m
                  unfold mkArgs at e
                  cases e3 : mkArgs en rs with
                  | none => rw [e3] at e; cases e
                  | some as' =>
                    rw [e3] at e
                    cases r with
                    | val d =>
                      cases e
                      obtain ⟨a, d, k, z1, z2⟩ := ih as' e3 j m
                      exact ⟨a, d, k + 1, z1, by simpa using z2⟩
                    | own a d =>
                      cases e
                      obtain ⟨a, d, k, z1, z2⟩ := ih as' e3 j m
                      exact ⟨a, d, k + 1, z1, by simpa using z2⟩
                    | bor i =>
                      cases q' : en[i]? with
                      | none => simp [q'] at e
                      | some s =>
                        cases s <;> simp only [q'] at e <;> try cases e
                        rename_i a d
                        simp only [bors, List.mem_cons] at m
                        rcases m with rfl | m
                        · exact ⟨a, d, 0, q', rfl⟩
                        · obtain ⟨a, d, k, z1, z2⟩ := ih as' e3 j m
                          exact ⟨a, d, k + 1, z1, by simpa using z2⟩
              obtain ⟨a, d, k, z1, z2⟩ := hm rs as e2 j m
              exact ⟨a, d, d, k + 1, z1, z1, by simpa using z2⟩
          | cons d' ds =>
            have e4 := (mkArgs_set (en := en) (rs := rs) (s := Sl.own a0 d') nb'.1).trans e2
            obtain ⟨h1, h2⟩ := put_at (rs := rs) (ds := ds) e4 nb'.2
            have ep : putOwns en (.bor i0 :: rs) (d' :: ds) = putOwns (en.set i0 (.own a0 d')) rs ds := by simp [putOwns, q]
            rw [ep]
            refine ⟨Shape.trans (Shape.set (s' := .own a0 d') q rfl) h1, fun j => ⟨fun m => ?_, fun m => ?_⟩⟩
            · have m1 : j ≠ i0 := fun z => m (by rw [z]; simp [bors])
              have m2 : j ∉ bors rs := fun z => m (by simp [bors, z])
              rw [(h2 j).1 m2, List.getElem?_set_ne (Ne.symm m1)]
            · simp only [bors, List.mem_cons] at m
              rcases m with rfl | m
              · refine ⟨a0, d0, d', 0, q, ?_, rfl⟩
                rw [(h2 j).1 nb'.1, List.getElem?_set_self (List.getElem?_eq_some_iff.mp q).1]
              · obtain ⟨a, d1, d2, k, q1, q2, q3⟩ := (h2 j).2 m
                have m1 : i0 ≠ j := fun z => nb'.1 (by rw [z]; exact m)
                rw [List.getElem?_set_ne m1] at q1
                exact ⟨a, d1, d2, k + 1, q1, q2, by simpa [setOwns] using q3⟩
/-- the caller's slots behind a call -/
theorem call_R {rs : List Res} {vs : List V} {args : En} (hA : HoldA K C rs en H vs) (R1 : R K (C.exts rs) σ H en) (e : mkArgs en rs = some args) (nb : (bors rs).Nodup) :
    ∃ C' : Cc, R K C' (vs.map some) H args ∧ C'.H = H ∧ (∀ a, C'.F a ↔ a ∈ oas args) ∧
      (∀ (r : Res) (ds : List D) (v : V) (H' : Hp), R K (C'.ext r) (vs.map some) H' (setOwns args ds) → Hold K C' r (setOwns args ds) H' v → (∀ i, r ≠ .bor i) →
        R K (C.ext r) σ H' (putOwns en rs ds) ∧ Hold K C r (putOwns en rs ds) H' v ∧ Shape en (putOwns en rs ds) ∧ Keep en H H' ∧ NewR H r) ∧
      (∀ x cls d H', XcR K (mm C' (oas args)) H' x cls d → XcR K (mm C (oas en)) H' x cls d) := by
  obtain ⟨l, p1, p2, p3⟩ := mk_slots hA R1 e
  obtain ⟨nd, q1⟩ := mk_nodup R1.inj nb e
  have sub : ∀ a, a ∈ oas args → a ∈ oas en := fun a h => by
    obtain ⟨i, d, _, z⟩ := q1 a h
    exact oas_mem.mpr ⟨i, d, z⟩
  have R0 := R1.dropA
  let C' : Cc := { M := fun x => mm C (oas en) x ∧ x ∉ oas args, F := fun x => x ∈ oas args, H := H }
  have mmE : ∀ x, mm C' (oas args) x ↔ mm C (oas en) x := fun x => ⟨fun z => z.elim (·.1) fun z => .inr (sub x z), fun z => (Classical.em (x ∈ oas args)).elim .inr fun w => .inl ⟨z, w⟩⟩
  have leI : ∀ Hx, Le (mm C (oas en)) Hx (mm C' (oas args)) Hx := fun _ b u n z => ⟨fun w => n ((mmE b).mp w), z⟩
  refine ⟨C', ⟨?_, nd, fun a w => ?_, fun a u h _ => h, fun a xs w => ?_⟩, rfl, fun a => Iff.rfl, fun r ds v H' R2 hv nbr => ?_, fun x cls d H' h => h.mono fun b u n z => ⟨fun w => n ((mmE b).mpr w), z⟩⟩
  · -- the args
    refine Pof (by rw [List.length_map]; exact l) fun k x y hx hy => ?_
    rcases p2 k y hy with ⟨d, rfl⟩ | ⟨a, d, i, rfl, hi, z1, z2⟩
    · obtain ⟨v, w1, w2⟩ := p1 k d hy
      rw [List.getElem?_map, w1] at hx
      cases hx
      exact Rp.mono (leI H) _ _ w2
    · rw [List.getElem?_map, z2] at hx
      cases hx
      have g := R0.getO z1
      exact ⟨rfl, fun w => w.2 (oas_mem.mpr ⟨k, d, hy⟩), .inl (oas_mem.mpr ⟨k, d, hy⟩), g.2.2.2.mono (leI H) fun _ q => q⟩
  · rcases w with w | w
    · exact R0.mD w.1
    · exact R0.oD (sub a w)
  · rcases w with w | w
    · exact R0.mN w.1 xs
    · exact R0.mN (.inr (sub a w)) xs
  · -- behind it
    obtain ⟨sh, at_⟩ := put_at (ds := ds) e nb
    have eo : oas (putOwns en rs ds) = oas en := (oas_shape sh).symm
    have ea : oas (setOwns args ds) = oas args := (oas_shape (setOwns_shape args ds)).symm
    have kp : ∀ a u, a ∉ oas args → H a = some u → H' a = some u := fun a u n z => R2.keep a u (by rw [ext_H]; exact z) (by rw [ext_F]; exact n)
    have keep : Keep en H H' := fun a u n z => kp a u (fun w => n (sub a w)) z
    have hn : ∀ p dp, r = .own p dp → H p = none := fun p dp er => by
      subst er
      obtain ⟨_, _, f, _⟩ := hv
      rcases f with f | f
      · exact absurd (.inr rfl) (R2.oM (by rw [ea]; exact f))
      · exact f
    have le2 : ∀ r', (∀ p dp, r' = .own p dp → r = .own p dp) → Le (mm (C'.ext r') (oas (setOwns args ds))) H' (mm (C.ext r') (oas en)) H' := fun r' hr' b u n z => ⟨fun w => n (by
      rw [ea]
      rcases w with w | w
      · cases r' with
        | own p dp =>
          rcases w with w | w
          · rcases (mmE b).mpr (.inl w) with w | w
            · exact .inl (.inl w)
            · exact .inr w
          · exact .inl (.inr w)
        | val _ =>
          rcases (mmE b).mpr (.inl w) with w | w
          · exact .inl w
          · exact .inr w
        | bor _ =>
          rcases (mmE b).mpr (.inl w) with w | w
          · exact .inl w
          · exact .inr w
      · rcases (mmE b).mpr (.inr w) with w | w
        · cases r' with
          | own p dp => exact .inl (.inl w)
          | val _ => exact .inl w
          | bor _ => exact .inl w
        · exact .inr w), z⟩
    have le3 : Le (mm C (oas en)) H (mm (C.ext r) (oas en)) H' := fun b u n z => ⟨fun w => n (mm_split (fun p dp er wb => by rw [wb, hn p dp er] at z; cases z) .inr w), kp b u (fun w => n (.inr (sub b w))) z⟩
    refine ⟨⟨?_, by rw [eo]; exact R0.inj, fun a w => ?_, fun a u z n => ?_, fun a xs w zt => ?_⟩, ?_, sh, keep, ?_⟩
    rotate_right
    · cases r with
      | own p dp => exact hn p dp rfl
      | _ => trivial
    · rw [eo]
      have hl : σ.length = (putOwns en rs ds).length := by
        have h1 := Plen R0.sl
        have h2 := congrArg List.length sh
        rw [List.length_map, List.length_map] at h2
        rw [h1, h2]
      refine Pof hl fun j x y hx hy => ?_
      by_cases hj : j ∈ bors rs
      · obtain ⟨a, d0, d', k, z1, z2, z3⟩ := (at_ j).2 hj
        rw [z2] at hy
        cases hy
        have g := R2.getO z3
        have g0 := R0.getO z1
        have hxx : x = some (.ref a) := by rw [g0.1] at hx; exact (Option.some.inj hx).symm
        subst hxx
        refine ⟨rfl, fun w => ?_, by rw [ext_F, ext_H]; exact g0.2.2.1, g.2.2.2.mono (le2 r fun _ _ q => q) fun _ q => q⟩
        cases r with
        | own p dp =>
          rcases w with w | w
          · exact g0.2.1 w
          · exact g.2.1 (.inr w)
        | val _ => exact g0.2.1 w
        | bor _ => exact g0.2.1 w
      · rw [(at_ j).1 hj] at hy
        have f0 := Pat R0.sl hx hy
        cases y with
        | own a d =>
          cases x with
          | none => exact f0.elim
          | some w =>
            obtain ⟨rfl, g1, g2, g3⟩ := f0
            have na : a ∉ oas args := fun z => by
              obtain ⟨i, d1, m, z1⟩ := q1 a z
              exact hj (by rw [own_inj en j i d d1 R0.inj hy z1]; exact m)
            have ha : ∀ u, H a = some u → H' a = some u := fun u z => kp a u na z
            refine ⟨rfl, fun w => ?_, by rw [ext_F, ext_H]; exact g2, g3.mono le3 ha⟩
            cases r with
            | own p dp =>
              rcases w with w | w
              · exact g1 w
              · obtain ⟨u, z⟩ := g3.dom
                rw [w, hn p dp rfl] at z
                cases z
            | val _ => exact g1 w
            | bor _ => exact g1 w
        | no => trivial
        | val d => exact f0.val_of le3 fun _ _ z => by cases z
        | exc => exact f0.val_of le3 fun _ _ z => by cases z
    · -- what stood stands
      have hm : mm C (oas en) a ∨ C.F a → ∃ u, H' a = some u := fun z => by
        by_cases ha : a ∈ oas args
        · exact R2.oD (by rw [ea]; exact ha)
        · have : ∃ u, H a = some u := by
            rcases z with z | z
            · exact R0.mD z
            · exact R0.dom a (.inr z)
          obtain ⟨u, z⟩ := this
          exact ⟨u, kp a u ha z⟩
      rcases w with w | w
      · cases r with
        | own p dp =>
          rcases w with w | w
          · exact hm (.inl (.inl w))
          · exact R2.dom a (.inl (.inr w))
        | val _ => exact hm (.inl (.inl w))
        | bor _ => exact hm (.inl (.inl w))
      · rw [ext_F] at w
        exact hm (.inr w)
    · rw [ext_H] at z
      rw [ext_F] at n
      have z' := R0.keep a u z n
      refine kp a u (fun w => ?_) z'
      rcases R0.oF (sub a w) with f | f
      · exact n f
      · rw [f] at z; cases z
    · have hm : mm C (oas en) a ∨ C.F a → False := fun z => by
        by_cases ha : a ∈ oas args
        · exact R2.mN (.inr (by rw [ea]; exact ha)) xs zt
        · have dd : ∃ u, H a = some u := by
            rcases z with z | z
            · exact R0.mD z
            · exact R0.dom a (.inr z)
          obtain ⟨u, q⟩ := dd
          have q' := kp a u ha q
          rw [zt] at q'
          cases q'
          rcases z with z | z
          · exact R0.mN z xs q
          · exact R0.nt a xs (.inr z) q
      rcases w with w | w
      · cases r with
        | own p dp =>
          rcases w with w | w
          · exact hm (.inl (.inl w))
          · exact R2.nt a xs (.inl (.inr w)) zt
        | val _ => exact hm (.inl (.inl w))
        | bor _ => exact hm (.inl (.inl w))
      · rw [ext_F] at w
        exact hm (.inr w)
    · cases r with
      | val d =>
        show Rp K (mm C (oas (putOwns en rs ds))) H' v d
        rw [eo]
        exact Rp.mono (le2 (.val d) fun _ _ q => q) _ _ hv
      | own p dp =>
        obtain ⟨h1, h2, h3, h4⟩ := hv
        have hp := hn p dp rfl
        refine ⟨h1, fun w => ?_, .inr (R0.new hp), ?_⟩
        · obtain ⟨u, z⟩ := R0.dom p (.inl w)
          rw [hp] at z; cases z
        · rw [eo]
          exact h4.mono (le2 (.own p dp) fun _ _ q => q) fun _ q => q
      | bor i => exact absurd rfl (nbr i)
end
section
variable {X : Cx} {W : WX} {CX : CXT} {k n : Nat} {f : Addr} {fd : FuncData} {ps : List Str} {sp : Spc} {x : Str} {p pos : Pos} {e : Expr} {es : List Expr} {t : TDa}
theorem call_go {E : L2.St → XK} (hE : ∀ cls d σ H, W cls d σ H → E σ cls d H) {σ : L2.St} {H : Hp} {Q : VK} (h : lE X.K W (tCallD n sp t) σ H Q) : tCallS (lSp X.K n sp) E (lA X.K W t) σ H Q := by
  obtain ⟨C, en, Φ, Ψ, R0, hT, hX, kk⟩ := h
  refine ⟨C, en, _, Ψ, R0, hT, hX, fun rs en1 vs H1 h1 R1 hold1 s1 k1 _ => ?_⟩
  cases e : mkArgs en1 rs with
  | none => simp only [e] at h1
  | some args =>
    simp only [e] at h1
    obtain ⟨hl, nb, hs⟩ := h1
    obtain ⟨C', R', eH, eF, back, backX⟩ := call_R hold1 R1 e nb
    refine ⟨(mk_slots hold1 R1 e).1.trans hl, C', args, _, _, R', eH, eF, hs, fun r ds v H' nr q R2 hv => ?_, fun x ds cls d H' q R2 hx => ?_⟩
    · obtain ⟨z1, z2, z3, z4, z5⟩ := back r ds v H' R2 hv nr
      exact kk r _ v H' q z1 z2 (s1.trans z3) (k1.trans s1 z4) (z5.back k1 s1 R1.dropA)
    · obtain ⟨z1, z2, z3, z4, _⟩ := back (.val .non) ds .non H' R2 .non fun _ z => by cases z
      refine hE _ _ _ _ (hX x _ cls d H' q z1 ?_)
      rw [← oas_shape z3]
      exact backX x cls d H' hx
theorem call_go0 {σ : L2.St} {H : Hp} {Q : VK} (h : lE X.K W (tCallD n (fun a Φ _ => sp a Φ fun _ _ => False) t) σ H Q) : tCallS (lSp X.K n sp) (fun _ => E0) (lA X.K W t) σ H Q := by
  obtain ⟨C, en, Φ, Ψ, R0, hT, hX, kk⟩ := h
  refine ⟨C, en, _, Ψ, R0, hT, hX, fun rs en1 vs H1 h1 R1 hold1 s1 k1 _ => ?_⟩
  cases e : mkArgs en1 rs with
  | none => simp only [e] at h1
  | some args =>
    simp only [e] at h1
    obtain ⟨hl, nb, hs⟩ := h1
    obtain ⟨C', R', eH, eF, back, backX⟩ := call_R hold1 R1 e nb
    refine ⟨(mk_slots hold1 R1 e).1.trans hl, C', args, _, _, R', eH, eF, hs, fun r ds v H' nr q R2 hv => ?_, fun x ds cls d H' q R2 hx => q.elim⟩
    obtain ⟨z1, z2, z3, z4, z5⟩ := back r ds v H' R2 hv nr
    exact kk r _ v H' q z1 z2 (s1.trans z3) (k1.trans s1 z4) (z5.back k1 s1 R1.dropA)
/-- f(..), f lets nothing out | what it lets out cannot be here -/
theorem de_call (F : FnOk X.prog X.w X.K X.mg X.base CX0 k f fd ps (lSp X.K n sp)) (hr : Room k X.A) (hg : Gl X x) (hm : X.mg x = some (.ref f)) (hk : PySem.W.keepIn X.K (.ref f) = true) (hb : Binds X.K fd ps [])
    (ha : DA X W (e :: es) t) (hdb : (x == ("__debug__" : Str)) = false := by decide) (he : starEach (e :: es) X.env = (false, eval e X.env) :: starEach es X.env := by rfl) (hpl : (backTo pos (starEach es X.env)).any (·.1) = false := by rfl) :
    DE X W (.Call (.Name x p) (e :: es) [] pos) (tCallD n (fun a Φ _ => sp a Φ fun _ _ => False) t) :=
  PEi (pe_callS F hr hg hm hk hb (E := fun _ => E0) (fun σ _ _ _ _ _ _ z => z.elim) ha hdb he hpl) fun σ H Q h => call_go0 h
theorem de_callQ (F : FnOk X.prog X.w X.K X.mg X.base (L2.CX X.prog X.w) k f fd ps (lSp X.K n sp)) (hr : Room k X.A) (hg : Gl X x) (hm : X.mg x = some (.ref f)) (hk : PySem.W.keepIn X.K (.ref f) = true) (hb : Binds X.K fd ps [])
    (ha : DA X W (e :: es) t) (hdb : (x == ("__debug__" : Str)) = false := by decide) (he : starEach (e :: es) X.env = (false, eval e X.env) :: starEach es X.env := by rfl) (hpl : (backTo pos (starEach es X.env)).any (·.1) = false := by rfl) :
    DE X W (.Call (.Name x p) (e :: es) [] pos) (tCallD n (fun a Φ _ => sp a Φ fun _ _ => False) t) :=
  PEi (pe_callS F hr hg hm hk hb (E := fun _ => E0) (fun σ pins H s e s' I z => passL pins σ H s e s' I z) ha hdb he hpl) fun σ H Q h => call_go0 h
/-- f(..), f may raise -/
theorem de_callX (F : FnOk X.prog X.w X.K X.mg X.base (L2.CX X.prog X.w) k f fd ps (lSp X.K n sp)) (hr : Room k X.A) (hg : Gl X x) (hm : X.mg x = some (.ref f)) (hk : PySem.W.keepIn X.K (.ref f) = true) (hb : Binds X.K fd ps []) (tk : Takes X W)
    (ha : DA X W (e :: es) t) (hdb : (x == ("__debug__" : Str)) = false := by decide) (he : starEach (e :: es) X.env = (false, eval e X.env) :: starEach es X.env := by rfl) (hpl : (backTo pos (starEach es X.env)).any (·.1) = false := by rfl) :
    DE X W (.Call (.Name x p) (e :: es) [] pos) (tCallD n sp t) :=
  PEi (pe_callS F hr hg hm hk hb (E := fun σ => WE W σ) (fun σ => passAt tk σ) ha hdb he hpl) fun σ H Q h => call_go (fun _ _ _ _ z => z) h
end
end VS

namespace VS
open PySem L2 PySem.Spec PyProof.Rows

/-! ### targets -/
abbrev TDg := D → En → (En → Prop) → Prop
abbrev TDgs := List D → En → (En → Prop) → Prop
/-- what a target leaves as it was: all slots but S -/
def Only (S : List Nat) (σ σ' : L2.St) (en en' : En) : Prop := (∀ j, j ∉ S → σ'[j]? = σ[j]?) ∧ (∀ j, j ∉ S → en'[j]? = en[j]?) ∧ σ'.length = σ.length ∧ en'.length = en.length
def lG (K : PySem.W.Frag) (S : List Nat) (T : TDg) : TG := fun v σ H Q => ∃ (C : Cc) (en : En) (d : D) (Φ : En → Prop), R K C σ H en ∧ Rp K (mm C (oas en)) H v d ∧ T d en Φ ∧
  ∀ σ' en', Φ en' → R K C σ' H en' → Le (mm C (oas en)) H (mm C (oas en')) H → Only S σ σ' en en' → Q σ' H
def lGs (K : PySem.W.Frag) (S : List Nat) (T : TDgs) : TGs := fun vs σ H Q => ∃ (C : Cc) (en : En) (ds : List D) (Φ : En → Prop), R K C σ H en ∧ RpA K (mm C (oas en)) H vs ds ∧ T ds en Φ ∧
  ∀ σ' en', Φ en' → R K C σ' H en' → Le (mm C (oas en)) H (mm C (oas en')) H → Only S σ σ' en en' → Q σ' H
abbrev DG (X : Cx) (S : List Nat) (tg : Expr) (T : TDg) : Prop := PG X tg (lG X.K S T)
abbrev DGs (X : Cx) (S : List Nat) (tg : List Expr) (T : TDgs) : Prop := PGs X tg (lGs X.K S T)
theorem PGi {X : Cx} {tg : Expr} {t t' : TG} (h : PG X tg t) (i : ∀ v σ H Q, t' v σ H Q → t v σ H Q) : PG X tg t' := ⟨fun pins s σ H v u Q I r q => h.run pins s σ H v u Q I r (i v σ H Q q)⟩
theorem PGsi {X : Cx} {tg : List Expr} {t t' : TGs} (h : PGs X tg t) (i : ∀ v σ H Q, t' v σ H Q → t v σ H Q) : PGs X tg t' := ⟨fun pins s σ H v u Q I r q => h.run pins s σ H v u Q I r (i v σ H Q q)⟩
def tNamG (i : Nat) : TDg := fun d en Φ => Φ (en.set i (.val d))
def tTupG (n : Nat) (t : TDgs) : TDg := fun d en Φ => match d with
  | .tup ds => ds.length = n ∧ t ds en Φ
  | _ => False
def tNilG : TDgs := fun ds en Φ => match ds with
  | [] => Φ en
  | _ => False
def tConsG (t : TDg) (u : TDgs) : TDgs := fun ds en Φ => match ds with
  | d :: r => t d en fun en1 => u r en1 Φ
  | [] => False
theorem Le.trans {M M1 M2 : Ms} {H H1 H2 : Hp} (a : Le M H M1 H1) (b : Le M1 H1 M2 H2) : Le M H M2 H2 := fun x u n h => b x u (a x u n h).1 (a x u n h).2
theorem le_set {C : Cc} {en : En} {H : Hp} {i : Nat} {s : Sl} (hs : oas [s] = []) : Le (mm C (oas en)) H (mm C (oas (en.set i s))) H := fun a u n q => ⟨fun z => n (z.imp id fun z => (oas_set_sub i hs).subset z), q⟩
section
variable {X : Cx} {S S' : List Nat} {tg : Expr} {tgs : List Expr} {t : TDg} {u : TDgs} {pos : Pos}
theorem dg_name {i : Nat} {x : Str} (hN : X.N.Nodup) (hi : X.N[i]? = some x) (hx : Loc X.env.scope x) (hf : X.fn x = true ∨ X.env.scope.names.lookup x = some .local := by first | exact .inl rfl | exact .inr rfl | assumption) : DG X [i] (.Name x pos) (tNamG i) :=
  PGi (pg_name hN hi hx hf) fun v σ H Q ⟨C, en, d, Φ, R1, hv, h, k⟩ => k _ _ h (R1.setV hv) (le_set rfl)
    ⟨fun j hj => by rw [List.getElem?_set_ne (fun z => hj (by simp [z]))], fun j hj => by rw [List.getElem?_set_ne (fun z => hj (by simp [z]))], by simp, by simp⟩
theorem dgs_nil : DGs X [] [] tNilG := PGsi pgs_nil fun vs σ H Q ⟨C, en, ds, Φ, R1, hv, h, k⟩ => by
  cases ds with
  | nil => cases hv; exact ⟨rfl, k _ _ h R1 (fun _ _ n q => ⟨n, q⟩) ⟨fun _ _ => rfl, fun _ _ => rfl, rfl, rfl⟩⟩
  | cons => exact (show False from h).elim
theorem dgs_cons (h1 : DG X S tg t) (h2 : DGs X S' tgs u) (hs : (assignEach (tg :: tgs) X.env).map (·.2) = assign tg X.env :: (assignEach tgs X.env).map (·.2) := by rfl) : DGs X (S ++ S') (tg :: tgs) (tConsG t u) :=
  PGsi (pgs_cons h1 h2 hs) fun vs σ H Q ⟨C, en, ds, Φ, R1, hv, h, k⟩ => by
    cases ds with
    | nil => exact (show False from h).elim
    | cons d ds =>
      cases hv with
      | cons q1 q2 =>
        refine ⟨_, _, rfl, C, en, d, _, R1, q1, h, fun σ1 en1 g1 R2 l1 o1 => ?_⟩
        refine ⟨C, en1, ds, Φ, R2, RpA.mono l1 _ _ q2, g1, fun σ2 en2 g2 R3 l2 o2 => ?_⟩
        refine k _ _ g2 R3 (l1.trans l2) ⟨fun j hj => ?_, fun j hj => ?_, o2.2.2.1.trans o1.2.2.1, o2.2.2.2.trans o1.2.2.2⟩
        · rw [o2.1 j (fun z => hj (List.mem_append_right _ z)), o1.1 j (fun z => hj (List.mem_append_left _ z))]
        · rw [o2.2.1 j (fun z => hj (List.mem_append_right _ z)), o1.2.1 j (fun z => hj (List.mem_append_left _ z))]
theorem dg_tup {k n : Nat} (hc : X.calm = true) (h : DGs X S tgs u) (hn : (assignEach tgs X.env).length = n := by rfl) (hst : (assignEach tgs X.env).findIdx? (·.1) = none := by rfl) : DG X S (.Tuple tgs k pos) (tTupG n u) :=
  PGi (pg_tup hc h hn hst) fun v σ H Q ⟨C, en, d, Φ, R1, hv, h, k⟩ => by
    cases d <;> try exact (show False from h).elim
    rename_i ds
    obtain ⟨hl, h⟩ := h
    cases hv with
    | tup h1 h2 => exact ⟨_, _, rfl, h1.sq, h2.length.trans hl, C, en, ds, Φ, R1, h2, h, k⟩
end

/-! ### further statements -/
def tAsgD (ta : TDe) (tg : TDg) : TDs := fun De en => ta De.ex en fun r en1 => match vl r with
  | some d => tg d en1 De.nx
  | none => False
def slR : Res → Sl
  | .val d => .val d
  | .own a d => .own a d
  | .bor _ => .no
def nob : Res → Prop
  | .bor _ => False
  | _ => True
def tParD (i j : Nat) (ta : TDa) : TDs := fun De en => ta De.ex en fun rs en1 => match rs with
  | [a, b] => nob a ∧ nob b ∧ De.nx ((en1.set i (slR a)).set j (slR b))
  | _ => False
def tPar3D (i j l : Nat) (ta : TDa) : TDs := fun De en => ta De.ex en fun rs en1 => match rs with
  | [a, b, c] => nob a ∧ nob b ∧ nob c ∧ De.nx (((en1.set i (slR a)).set j (slR b)).set l (slR c))
  | _ => False
/-- xs[k] = e, xs an own list in slot i -/
def tStoD (i : Nat) (te ti : TDe) : TDs := fun De en => te De.ex en fun r en1 => match vl r, en1[i]? with
  | some d, some (.own _ _) => ti De.ex en1 fun rj en2 => (match rj, en2[i]? with
    | .val (.int k), some (.own a (.lst ds)) => (match ixN ds.length k with
      | some j => De.nx (en2.set i (.own a (.lst (ds.set j d))))
      | none => False)
    | _, _ => False)
  | _, _ => False
def tWhileD (t : TDt) (tb : TDs) : TDs := fun De en => ∃ J : Nat → En → Prop, (∃ m, J m en) ∧ ∀ m en, J m en → t De.ex en fun b en1 => if b = true then tb { De with nx := fun e => ∃ m', m' < m ∧ J m' e, ct := fun e => ∃ m', m' < m ∧ J m' e, bk := De.nx } en1 else De.nx en1
section
variable {K : PySem.W.Frag} {C : Cc} {σ : L2.St} {H H' : Hp} {en en' : En} {a : Addr} {d : D} {v : V} {s : Sl} {r : Res}
theorem R.setR {i : Nat} (R1 : R K (C.ext r) σ H en) (h : Hold K C r en H v) (n : nob r) : R K C (σ.set i (some v)) H (en.set i (slR r)) := by
  cases r with
  | val d => exact R.setV R1 h
  | own a d =>
    obtain ⟨rfl, h1, h2, h3⟩ := h
    exact R.setO R1 h1 h2 h3
  | bor i => exact n.elim
theorem stored_le {i : Nat} {r : Res} (n : nob r) : Le (mm (C.ext r) (oas en)) H (mm C (oas (en.set i (slR r)))) H := fun b u m q => ⟨fun z => m (by
  rcases z with z | z
  · cases r with
    | own p d => exact .inl (.inl z)
    | val _ => exact .inl z
    | bor _ => exact n.elim
  · cases r with
    | own p d =>
      rcases oas_set_own i b z with z | z
      · exact .inl (.inr z)
      · exact .inr z
    | val _ => exact .inr ((oas_set_sub i rfl).subset z)
    | bor _ => exact n.elim), q⟩
theorem Hold.stored {i : Nat} {r1 r2 : Res} (h : Hold K (C.ext r1) r2 en H v) (n1 : nob r1) (n2 : nob r2) : Hold K C r2 (en.set i (slR r1)) H v := by
  cases r2 with
  | val d => exact Rp.mono (stored_le n1) _ _ h
  | own p d =>
    obtain ⟨h1, h2, h3, h4⟩ := h
    refine ⟨h1, fun z => h2 ?_, by rw [ext_F, ext_H] at h3; exact h3, ?_⟩
    · cases r1 with
      | own _ _ => exact .inl z
      | val _ => exact z
      | bor _ => exact z
    · have e : (C.ext r1).add p = (C.add p).ext r1 := ext_ext (r2 := .own p d)
      rw [e] at h4
      exact h4.mono (stored_le n1) fun _ q => q
  | bor _ => exact n2.elim
theorem HoldA.stored {i : Nat} {r1 : Res} (n1 : nob r1) : ∀ {rs : List Res} {C : Cc} {vs : List V}, HoldA K (C.ext r1) rs en H vs → (∀ r, r ∈ rs → nob r) → HoldA K C rs (en.set i (slR r1)) H vs
  | [], _, _, h, _ => h
  | r :: rs, C, _, ⟨v, ws, e, h1, h2⟩, n => ⟨v, ws, e, Hold.stored (by rw [exts_ext]; exact h1) n1 (n r List.mem_cons_self), HoldA.stored n1 (rs := rs) (C := C.ext r) (by rw [ext_ext]; exact h2) fun r' h => n r' (List.mem_cons_of_mem _ h)⟩
end
section
variable {X : Cx} {W : WX} {a b c e : Expr} {ta tb tc te ti : TDe} {tA tB' : TDt} {p pos : Pos} {st : Stmt} {rest body : List Stmt} {t u v : TDs} {tg : Expr} {S : List Nat} {tG : TDg} {tR : TDa}
theorem ds_asg (he : DE X W e te) (hg : DG X S tg tG) (hs : swapsWithSole [tg] e pos.line X.env = pure false := by rfl) (hw : swappedStores [tg] e X.env = pure none := by rfl)
    (h1 : (assignEach [tg] X.env).map (·.2) = [assign tg X.env] := by rfl) : DS X W (.Assign [tg] e pos) (tAsgD te tG) := PSi (ps_asg he hg hs hw h1) fun D σ H ⟨C, en, De, R1, h, k⟩ =>
  ⟨C, en, _, De.ex, R1, h, k.x σ, fun r en' v H' q R' o' _ _ _ => by
    cases e : vl r with
    | none => simp only [e] at q
    | some d =>
      simp only [e] at q
      exact ⟨C, en', d, _, R'.dropX, o'.rp R' e, q, fun σ2 en2 g R2 _ _ => k.nx σ2 en2 H' g R2⟩⟩
theorem ds_par {i j : Nat} {x y : Str} {px py pt : Pos} {kt k2 pt2} (hc : X.calm = true) (hN : X.N.Nodup) (hi : X.N[i]? = some x) (hj : X.N[j]? = some y) (hij : i ≠ j)
    (hx : X.env.scope.names.lookup x = some .local) (hy : X.env.scope.names.lookup y = some .local) (ha : DA X W [a, b] tR)
    (hw : swappedStores [.Tuple [.Name x px, .Name y py] kt pt] (.Tuple [a, b] k2 pt2) X.env = pure (some [x, y]) := by rfl)
    (hs : swapsWithSole [.Tuple [.Name x px, .Name y py] kt pt] (.Tuple [a, b] k2 pt2) pos.line X.env = pure false := by rfl) :
    DS X W (.Assign [.Tuple [.Name x px, .Name y py] kt pt] (.Tuple [a, b] k2 pt2) pos) (tParD i j tR) := PSi (ps_par hc hN hi hj hij hx hy ha hw hs) fun D σ H ⟨C, en, De, R1, h, k⟩ =>
  ⟨C, en, _, De.ex, R1, h, k.x σ, fun rs en' vs H' q R' o' _ _ _ => by
    match rs, q, R', o' with
    | [r1, r2], ⟨n1, n2, q⟩, R', ⟨v1, ws, e1, h1, v2, ws', e2, h2, e3⟩ =>
      subst e1 e2 e3
      refine ⟨v1, v2, rfl, k.nx _ _ H' q ?_⟩
      have R'' : R X.K ((C.ext r2).ext r1) σ H' en' := by rw [ext_ext]; exact R'
      exact R.setR (R.setR R'' h1 n1) (Hold.stored h2 n1 n2) n2⟩
theorem ds_par3 {i j l : Nat} {x y z : Str} {px py pz pt : Pos} {kt k2 pt2} (hc : X.calm = true) (hN : X.N.Nodup) (hi : X.N[i]? = some x) (hj : X.N[j]? = some y) (hl : X.N[l]? = some z) (hij : i ≠ j) (hil : i ≠ l) (hjl : j ≠ l)
    (hx : X.env.scope.names.lookup x = some .local) (hy : X.env.scope.names.lookup y = some .local) (hz : X.env.scope.names.lookup z = some .local) (ha : DA X W [a, b, c] tR)
    (hw : swappedStores [.Tuple [.Name x px, .Name y py, .Name z pz] kt pt] (.Tuple [a, b, c] k2 pt2) X.env = pure (some [x, y, z]) := by rfl)
    (hs : swapsWithSole [.Tuple [.Name x px, .Name y py, .Name z pz] kt pt] (.Tuple [a, b, c] k2 pt2) pos.line X.env = pure false := by rfl) :
    DS X W (.Assign [.Tuple [.Name x px, .Name y py, .Name z pz] kt pt] (.Tuple [a, b, c] k2 pt2) pos) (tPar3D i j l tR) := PSi (ps_par3 hc hN hi hj hl hij hil hjl hx hy hz ha hw hs) fun D σ H ⟨C, en, De, R1, h, k⟩ =>
  ⟨C, en, _, De.ex, R1, h, k.x σ, fun rs en' vs H' q R' o' _ _ _ => by
    match rs, q, R', o' with
    | [r1, r2, r3], ⟨n1, n2, n3, q⟩, R', ⟨v1, ws, e1, h1, v2, ws', e2, h2, v3, ws'', e3, h3, e4⟩ =>
      subst e1 e2 e3 e4
      refine ⟨v1, v2, v3, rfl, k.nx _ _ H' q ?_⟩
      have Ra : R X.K (((C.ext r2).ext r3).ext r1) σ H' en' := by
        have : ((C.ext r2).ext r3).ext r1 = ((C.ext r1).ext r2).ext r3 := by rw [ext_ext (C := C.ext r2), ext_ext (C := C) (r1 := r2)]
        rw [this]; exact R'
      have R1' := R.setR (i := i) Ra h1 n1
      have R2' : R X.K ((C.ext r3).ext r2) (σ.set i (some v1)) H' (en'.set i (slR r1)) := by rw [ext_ext]; exact R1'
      have h2' : Hold X.K (C.ext r3) r2 (en'.set i (slR r1)) H' v2 := Hold.stored (by rw [ext_ext]; exact h2) n1 n2
      have R3' := R.setR (i := j) R2' h2' n2
      have h3' : Hold X.K (C.ext r2) r3 (en'.set i (slR r1)) H' v3 := Hold.stored (by rw [ext_ext]; exact h3) n1 n3
      exact R.setR R3' (Hold.stored h3' n2 n3) n3⟩
theorem ds_while (hp : PassesOwn (model X.prog X.w) X.A X.env X.xe) (hc : DT X W c tA) (hb : DSs X W body t) : DS X W (.While c body [] pos) (tWhileD tA t) := PSi (ps_while hp hc hb) fun D σ H ⟨C, en, De, R1, ⟨J, ⟨m0, h0⟩, step⟩, k⟩ => by
  refine ⟨fun m σ H => ∃ en, R X.K C σ H en ∧ J m en, ⟨m0, en, R1, h0⟩, fun m σ1 H1 ⟨en1, R2, i1⟩ => ?_⟩
  refine ⟨C, en1, _, De.ex, R2, step m en1 i1, k.x σ1, fun b en2 H2 q R3 _ _ => ?_⟩
  cases b with
  | true =>
    have q' : t { De with nx := fun e => ∃ m', m' < m ∧ J m' e, ct := fun e => ∃ m', m' < m ∧ J m' e, bk := De.nx } en2 := q
    refine ⟨fun σ' H' => ∃ m' en', m' < m ∧ R X.K C σ' H' en' ∧ J m' en', fun σ' H' ⟨m', en', l, r, i⟩ => ⟨m', l, en', r, i⟩, C, en2, _, R3, q', ⟨?_, k.rt, k.nx, ?_, k.ex⟩⟩
    · rintro σ' en' H' ⟨m', l, i⟩ r
      exact ⟨m', en', l, r, i⟩
    · rintro σ' en' H' ⟨m', l, i⟩ r
      exact ⟨m', en', l, r, i⟩
  | false => exact k.nx σ1 en2 H2 q R3
/-- xs[k] = e -/
theorem ds_sto {i : Nat} {o ix : Expr} {spos : Pos} (he : DE X W e te) (ho : PE X o (tVar i)) (hi : DE X W ix ti) (ha : ∀ v, assign (.Subscript o ix spos) X.env v = (do
      let ov ← holding [v] (eval o X.env)
      let iv ← holding [v, ov] (eval ix X.env)
      standAt spos
      holding [v, ov, iv] (setItem ov iv v)
      release [v, ov, iv] []) := by intro _; rfl) (hs : swapsWithSole [.Subscript o ix spos] e pos.line X.env = pure false := by rfl) (hw : swappedStores [.Subscript o ix spos] e X.env = pure none := by rfl)
    (h1 : (assignEach [.Subscript o ix spos] X.env).map (·.2) = [assign (.Subscript o ix spos) X.env] := by rfl) : DS X W (.Assign [.Subscript o ix spos] e pos) (tStoD i te ti) :=
  PSi (ps_asg he (pg_sub ho hi set_list ha) hs hw h1) fun D σ H ⟨C, en, De, R1, h, k⟩ =>
  ⟨C, en, _, De.ex, R1, h, k.x σ, fun r en1 v H1 q R2 o1 s1 k1 _ => by
    have R2' := R2.dropX
    cases e1 : vl r with
    | none => simp only [e1] at q
    | some d =>
      cases e2 : en1[i]? with
      | none => simp only [e1, e2] at q
      | some s0 =>
        cases s0 <;> simp only [e1, e2] at q
        rename_i a d0
        have hv := o1.rp R2 e1
        refine ⟨.ref a, (R2'.getO e2).1, C, en1, _, De.ex, R2', q, k.x σ, fun rj en2 v2 H2 q2 R3 o2 s2 k2 n2 => ?_⟩
        obtain ⟨d1, e3⟩ := s2.own e2
        cases rj with
        | own => exact (show False from by simpa using q2).elim
        | bor => exact (show False from by simpa using q2).elim
        | val dj =>
          cases dj <;> try exact (show False from by simpa using q2).elim
          rename_i kk
          rw [e3] at q2
          cases d1 <;> try exact (show False from by simpa using q2).elim
          rename_i ds
          cases e4 : ixN ds.length kk with
          | none => simp only [e4] at q2
          | some j =>
            simp only [e4] at q2
            cases o2
            have g := (show R X.K C σ H2 en2 from R3).getO e3
            obtain ⟨vs, g1, g2⟩ := g.2.2.2
            refine ⟨a, vs, kk, j, rfl, rfl, g1, by rw [g2.length]; exact e4, ?_⟩
            have hv2 : Rp X.K (mm C (oas en2)) H2 v d := Rp.mono (k2.le s2) _ _ hv
            have le : Le (mm C (oas en2)) H2 (mm C (oas en2)) (upd H2 a (.lst (vs.set j v))) := fun b u n z => ⟨n, by rw [upd_ne (fun w => n (.inr (by rw [w]; exact oas_mem.mpr ⟨i, _, e3⟩)))]; exact z⟩
            exact k.nx σ _ _ q2 (R.put R3 e3 ⟨_, upd_same, RpA.mono le _ _ (RpA.set hv2 j g2)⟩)⟩
end

/-! ### methods of an own list -/
/-- m: what the method asks of the list and the args, what it gives and leaves -/
def tMetD (i : Nat) (m : D → List D → (D → D → Prop) → Prop) (ta : TDa) : TDe := fun Ψ en Φ => match en[i]? with
  | some (.own _ (.lst _)) => ta Ψ en fun rs en1 => (match vls rs, en1[i]? with
    | some ds, some (.own a d) => m d ds fun z d' => Φ (.val z) (en1.set i (.own a d'))
    | _, _ => False)
  | _ => False
def MeD (X : Cx) (r : V → List V → Hp → VK → Prop) (m : D → List D → (D → D → Prop) → Prop) : Prop :=
  ∀ (M : Ms) (H : Hp) (a : Addr) (d : D) (ds : List D) (vs : List V) (Φ : D → D → Prop) (Q : VK), M a → Cell X.K M H a d → RpA X.K M H vs ds → m d ds Φ →
    (∀ z d' v' o, Φ z d' → Rp X.K M (upd H a o) v' z → Cell X.K M (upd H a o) a d' → Q v' (upd H a o)) → r (.ref a) vs H Q
section
variable {X : Cx} {W : WX} {e : Expr} {es : List Expr} {tR : TDa} {i : Nat} {o : Expr} {name : Str} {apos cpos : Pos} {id : String} {r : V → List V → Hp → VK → Prop} {m : D → List D → (D → D → Prop) → Prop}
theorem met_go {σ : L2.St} {H : Hp} {Q : VK} {to : TDe} (hm : MeD X r m) (h : lE X.K W (tMetD i m tR) σ H Q) : tBM X.K "list" r (tVar i) (lA X.K W tR) σ H Q := by
  obtain ⟨C, en, Φ, Ψ, R0, hT, hX, k⟩ := h
  unfold tMetD at hT
  cases e0 : en[i]? with
  | none => simp only [e0] at hT
  | some s0 =>
    rw [e0] at hT
    cases s0 <;> try exact hT.elim
    rename_i a d0
    cases d0 <;> try exact hT.elim
    rename_i ds0
    have g0 := R0.getO e0
    refine ⟨.ref a, g0.1, .inl ⟨rfl, ?_⟩, C, en, _, Ψ, R0, hT, hX, fun rs en1 vs H1 h1 R1 hold1 s1 k1 _ => ?_⟩
    · obtain ⟨ws, g, _⟩ := g0.2.2.2
      exact ⟨ws, SqL.of g⟩
    · obtain ⟨d1, e1⟩ := s1.own e0
      cases e2 : vls rs with
      | none => simp only [e2] at h1
      | some ds =>
        simp only [e2, e1] at h1
        have g := R1.dropA.getO e1
        have ma : a ∈ oas en1 := oas_mem.mpr ⟨i, d1, e1⟩
        refine hm (mm C (oas en1)) H1 a d1 ds vs _ Q (.inr ma) g.2.2.2 (hold1.rp R1 e2) h1 fun z d' v' o hz q1 q2 => ?_
        have sh : Shape en1 (en1.set i (.own a d')) := Shape.set e1 rfl
        refine k (.val z) _ v' _ hz (R.put R1.dropA e1 q2) ?_ (s1.trans sh) (k1.trans s1 (Keep.put e1)) trivial
        show Rp X.K (mm C (oas (en1.set i (.own a d')))) _ v' z
        rw [← oas_shape sh]
        exact q1
theorem met_go0 {σ : L2.St} {H : Hp} {Q : VK} (hm : MeD X r m) (h : lE X.K W (tMetD i m tNilD) σ H Q) : tBM0 X.K "list" r (tVar i) σ H Q := by
  obtain ⟨C, en, Φ, Ψ, R0, hT, hX, k⟩ := h
  unfold tMetD at hT
  cases e0 : en[i]? with
  | none => simp only [e0] at hT
  | some s0 =>
    rw [e0] at hT
    cases s0 <;> try exact hT.elim
    rename_i a d0
    cases d0 <;> try exact hT.elim
    rename_i ds0
    have g0 := R0.getO e0
    refine ⟨.ref a, g0.1, .inl ⟨rfl, ?_⟩, ?_⟩
    · obtain ⟨ws, g, _⟩ := g0.2.2.2
      exact ⟨ws, SqL.of g⟩
    · simp only [tNilD, vls, e0] at hT
      have ma : a ∈ oas en := oas_mem.mpr ⟨i, _, e0⟩
      refine hm (mm C (oas en)) H a _ [] [] _ Q (.inr ma) g0.2.2.2 .nil hT fun z d' v' o hz q1 q2 => ?_
      have sh : Shape en (en.set i (.own a d')) := Shape.set e0 rfl
      refine k (.val z) _ v' _ hz (R.put R0 e0 q2) ?_ sh (Keep.put e0) trivial
      show Rp X.K (mm C (oas (en.set i (.own a d')))) _ v' z
      rw [← oas_shape sh]
      exact q1
theorem de_met (slot : Slot "list" name id) (hty : typeOf (.builtin id) = pure (.type "method_descriptor")) (hm : MtR X id r) (hd : MeD X r m) (ho : PE X o (tVar i)) (ha : DA X W (e :: es) tR)
    (hbase : attributeBase o name X.env (eval o X.env) = eval o X.env := by rfl)
    (hfew : ((backTo cpos (starEach (e :: es) X.env)).all (fun x => !x.1) && (backToKw cpos (keywordEach [] X.env)).all (fun x => x.1.isSome)
      && decide ((e :: es).length + ([] : List Keyword).length + (if ([] : List Keyword).isEmpty then 0 else 1) < 30)) = true := by rfl)
    (hline : (apos.endLine == cpos.line) = true := by rfl) (hs : starEach (e :: es) X.env = (false, eval e X.env) :: starEach es X.env := by rfl) (hplain : (backTo cpos (starEach es X.env)).any (·.1) = false := by rfl) :
    DE X W (.Call (.Attribute o name apos) (e :: es) [] cpos) (tMetD i m tR) := PEi (pe_bm PySem.F.plainAttrs_list slot hty hm ho ha hbase hfew hline hs hplain) fun σ H Q h => met_go (to := tVarD 0) hd h
theorem de_met0 (slot : Slot "list" name id) (hty : typeOf (.builtin id) = pure (.type "method_descriptor")) (hm : MtR X id r) (hd : MeD X r m) (ho : PE X o (tVar i))
    (hbase : attributeBase o name X.env (eval o X.env) = eval o X.env := by rfl) (hline : (apos.endLine == cpos.line) = true := by rfl) :
    DE X W (.Call (.Attribute o name apos) [] [] cpos) (tMetD i m tNilD) := PEi (pe_bm0 PySem.F.plainAttrs_list slot hty hm ho hbase hline) fun σ H Q h => met_go0 hd h
end
def mAppend : D → List D → (D → D → Prop) → Prop := fun d ds k => match d, ds with
  | .lst xs, [y] => xs.length < sizeLine ∧ k .non (.lst (xs ++ [y]))
  | _, _ => False
def mPop : D → List D → (D → D → Prop) → Prop := fun d ds k => match d, ds with
  | .lst xs, [] => (match xs[xs.length - 1]? with
    | some y => k y (.lst xs.dropLast)
    | none => False)
  | _, _ => False
def mPopAt : D → List D → (D → D → Prop) → Prop := fun d ds k => match d, ds with
  | .lst xs, [.int i] => 0 ≤ i ∧ i < 2 ^ 63 ∧ (match xs[i.toNat]? with
    | some y => k y (.lst (xs.eraseIdx i.toNat))
    | none => False)
  | _, _ => False
def mInsert : D → List D → (D → D → Prop) → Prop := fun d ds k => match d, ds with
  | .lst xs, [.int i, y] => xs.length < sizeLine ∧ 0 ≤ i ∧ i < 2 ^ 63 ∧ k .non (.lst (xs.take i.toNat ++ [y] ++ xs.drop i.toNat))
  | _, _ => False
def mReverse : D → List D → (D → D → Prop) → Prop := fun d ds k => match d, ds with
  | .lst xs, [] => k .non (.lst xs.reverse)
  | _, _ => False
theorem le_upd {M : Ms} {H : Hp} {a : Addr} {o : HO} (h : M a) : Le M H M (upd H a o) := fun b u n z => ⟨n, by rw [upd_ne (fun w => n (by rw [w]; exact h))]; exact z⟩
section
variable {X : Cx}
theorem RpA.eraseIdx {K : PySem.W.Frag} {M : Ms} {H : Hp} {vs : List V} {ds : List D} (h : RpA K M H vs ds) (i : Nat) : RpA K M H (vs.eraseIdx i) (ds.eraseIdx i) := by
  rw [List.eraseIdx_eq_take_drop_succ, List.eraseIdx_eq_take_drop_succ]
  exact (h.take i).append (h.drop (i + 1))
theorem me_append : MeD X rAppend mAppend := by
  intro M H a d ds vs Φ Q ma hc hv h k
  unfold mAppend at h
  split at h
  · obtain ⟨ws, g1, g2⟩ := hc
    cases hv with
    | cons h1 h2 =>
      cases h2
      refine ⟨a, ws, _, rfl, rfl, g1, by rw [g2.length]; exact h.1, k _ _ _ _ h.2 .non ⟨_, upd_same, RpA.mono (le_upd ma) _ _ (g2.append (.cons h1 .nil))⟩⟩
  · exact h.elim
theorem me_pop : MeD X rPop mPop := by
  intro M H a d ds vs Φ Q ma hc hv h k
  unfold mPop at h
  split at h
  · rename_i xs
    obtain ⟨ws, g1, g2⟩ := hc
    cases hv
    split at h
    · rename_i y hy
      obtain ⟨v, e1, e2⟩ := g2.get hy
      refine ⟨a, ws, v, rfl, rfl, g1, by rw [g2.length]; exact e1, k _ _ _ _ h (Rp.mono (le_upd ma) _ _ e2) ⟨_, upd_same, ?_⟩⟩
      rw [List.dropLast_eq_take, List.dropLast_eq_take, g2.length]
      exact RpA.mono (le_upd ma) _ _ (g2.take _)
    · exact h.elim
  · exact h.elim
theorem me_popAt : MeD X rPopAt mPopAt := by
  intro M H a d ds vs Φ Q ma hc hv h k
  unfold mPopAt at h
  split at h
  · rename_i xs i
    obtain ⟨ws, g1, g2⟩ := hc
    cases hv with
    | cons h1 h2 =>
      cases h2
      cases h1
      obtain ⟨i0, i1, h⟩ := h
      split at h
      · rename_i y hy
        obtain ⟨v, e1, e2⟩ := g2.get hy
        have hl : i.toNat < xs.length := (List.getElem?_eq_some_iff.mp hy).1
        refine ⟨a, ws, i, i.toNat, v, rfl, rfl, g1, by omega, i1, ?_, e1, k _ _ _ _ h (Rp.mono (le_upd ma) _ _ e2) ⟨_, upd_same, RpA.mono (le_upd ma) _ _ (g2.eraseIdx _)⟩⟩
        have := g2.length
        simp only [seqIndex?, show ¬ i < 0 by omega, if_false]
        rw [if_pos (by simp; omega)]
      · exact h.elim
  · exact h.elim
theorem me_insert : MeD X (fun x vs H Q => ∃ (l : Addr) (xs : List V) (i : Int) (y : V), x = .ref l ∧ vs = [.int i, y] ∧ H l = some (.lst xs) ∧ xs.length < sizeLine ∧ 0 ≤ i ∧ i < 2 ^ 63 ∧ Q .non (upd H l (.lst (xs.take i.toNat ++ [y] ++ xs.drop i.toNat)))) mInsert := by
  intro M H a d ds vs Φ Q ma hc hv h k
  unfold mInsert at h
  split at h
  · obtain ⟨ws, g1, g2⟩ := hc
    cases hv with
    | cons h1 h2 =>
      cases h2 with
      | cons h2 h3 =>
        cases h3
        cases h1
        obtain ⟨l, i0, i1, h⟩ := h
        exact ⟨a, ws, _, _, rfl, rfl, g1, by rw [g2.length]; exact l, i0, i1, k _ _ _ _ h .non ⟨_, upd_same, RpA.mono (le_upd ma) _ _ (((g2.take _).append (.cons h2 .nil)).append (g2.drop _))⟩⟩
  · exact h.elim
theorem me_reverse : MeD X rReverse mReverse := by
  intro M H a d ds vs Φ Q ma hc hv h k
  unfold mReverse at h
  split at h
  · obtain ⟨ws, g1, g2⟩ := hc
    cases hv
    exact ⟨a, ws, rfl, rfl, g1, k _ _ _ _ h .non ⟨_, upd_same, RpA.mono (le_upd ma) _ _ g2.reverse⟩⟩
  · exact h.elim
end
end VS

namespace VS
open PySem L2 PySem.Spec PyProof.Rows

/-! ### from here on: the heap as it stands -/
def Cc.re (C : Cc) (en : En) (H : Hp) : Cc := { M := C.M, F := fun x => x ∈ oas en, H := H }
section
variable {K : PySem.W.Frag} {C : Cc} {σ σ' : L2.St} {H H' : Hp} {en en' : En} {a : Addr} {d : D} {v : V} {r : Res}
theorem R.re (R1 : R K C σ H en) : R K (C.re en H) σ H en where
  sl := Pmap R1.sl fun i x y _ hy q => by
    cases y with
    | own b e =>
      cases x with
      | none => exact q.elim
      | some v => exact ⟨q.1, q.2.1, .inl (oas_mem.mpr ⟨i, e, hy⟩), q.2.2.2⟩
    | no => trivial
    | val d => cases x <;> exact q
    | exc => cases x <;> exact q
  inj := R1.inj
  dom := fun b w => w.elim (fun w => R1.dom b (.inl w)) fun w => R1.oD w
  keep := fun b u q _ => q
  nt := fun b xs w => w.elim (fun w => R1.nt b xs (.inl w)) fun w => R1.mN (.inr w) xs
theorem ext_re : ((C.re en H).ext r).M = (C.ext r).M := by cases r <;> rfl
/-- .. and back: whatever was held aside -/
theorem R.un (R1 : R K C σ H en) {M' : Ms} (hM : ∀ x, C.M x → M' x) (R2 : R K { M := M', F := fun x => x ∈ oas en, H := H } σ' H' en') : R K { M := M', F := C.F, H := C.H } σ' H' en' where
  sl := Pmap R2.sl fun i x y _ hy q => by
    cases y with
    | own b e =>
      cases x with
      | none => exact q.elim
      | some v =>
        refine ⟨q.1, q.2.1, ?_, q.2.2.2⟩
        rcases q.2.2.1 with f | f
        · exact R1.oF f
        · exact .inr (R1.new f)
    | no => trivial
    | val d => cases x <;> exact q
    | exc => cases x <;> exact q
  inj := R2.inj
  dom := fun b w => by
    rcases w with w | w
    · exact R2.dom b (.inl w)
    · obtain ⟨u, z⟩ := R1.dom b (.inr w)
      by_cases m : b ∈ oas en
      · exact R2.dom b (.inr m)
      · exact ⟨u, R2.keep b u z m⟩
  keep := fun b u q n => by
    refine R2.keep b u (R1.keep b u q n) fun m => ?_
    rcases R1.oF m with f | f
    · exact n f
    · have q' : C.H b = some u := q
      rw [f] at q'; cases q'
  nt := fun b xs w z => by
    rcases w with w | w
    · exact R2.nt b xs (.inl w) z
    · obtain ⟨u, q⟩ := R1.dom b (.inr w)
      by_cases m : b ∈ oas en
      · exact R2.nt b xs (.inr m) z
      · have q' := R2.keep b u q m
        rw [z] at q'
        cases q'
        exact R1.nt b xs (.inr w) q
theorem R.unx (R1 : R K C σ H en) (R2 : R K ((C.re en H).ext r) σ' H' en') : R K (C.ext r) σ' H' en' := by
  have e1 : (C.re en H).ext r = { M := (C.ext r).M, F := fun x => x ∈ oas en, H := H } := by cases r <;> rfl
  have e2 : C.ext r = { M := (C.ext r).M, F := C.F, H := C.H } := by cases r <;> rfl
  rw [e1] at R2
  rw [e2]
  exact R1.un (fun x h => by cases r <;> first | exact h | exact .inl h) R2
theorem R.un0 (R1 : R K C σ H en) (R2 : R K (C.re en H) σ' H' en') : R K C σ' H' en' := R.unx (r := .val .non) R1 R2
theorem Hold.un (R1 : R K C σ H en) (h : Hold K (C.re en H) r en' H' v) : Hold K C r en' H' v := by
  cases r with
  | val d => exact h
  | own p d =>
    obtain ⟨h1, h2, h3, h4⟩ := h
    refine ⟨h1, h2, ?_, h4⟩
    rcases h3 with f | f
    · exact R1.oF f
    · exact .inr (R1.new f)
  | bor i => exact h
theorem SOk.re {W : WX} {Ds : Ends} {De : Ed} (k : SOk K C W Ds De) (R1 : R K C σ H en) : SOk K (C.re en H) W Ds De where
  nx := fun σ2 en2 H2 q R2 => k.nx σ2 en2 H2 q (R1.un0 R2)
  rt := fun r en2 σ2 v H2 q R2 h => k.rt r en2 σ2 v H2 q (R1.unx R2) (h.un R1)
  bk := fun σ2 en2 H2 q R2 => k.bk σ2 en2 H2 q (R1.un0 R2)
  ct := fun σ2 en2 H2 q R2 => k.ct σ2 en2 H2 q (R1.un0 R2)
  ex := fun x en2 σ2 cls d H2 q R2 h => k.ex x en2 σ2 cls d H2 q (R1.un0 R2) h
/-- what stood when the loop began stands -/
theorem R.stood (R1 : R K C σ H en) (R2 : R K (C.re en H) σ' H' en') : Le (mm C (oas en)) H (mm (C.re en H) (oas en')) H' := fun b u n q => by
  refine ⟨fun z => ?_, R2.keep b u q fun m => n (.inr m)⟩
  rcases z with z | z
  · exact n (.inl z)
  · rcases R2.oF z with f | f
    · exact n (.inr f)
    · have q' : H b = none := f
      rw [q] at q'; cases q'
end

/-! ### for -/
def tForLD (ta : TDe) (tg : TDg) (tb : TDs) : TDs := fun De en => ta De.ex en fun r en1 => match vl r with
  | some (.lst ds) => ∃ J : Nat → En → Prop, J 0 en1 ∧ (∀ i d en, ds[i]? = some d → J i en → tg d en fun en2 => tb { De with nx := J (i + 1), ct := J (i + 1), bk := De.nx } en2) ∧ ∀ en, J ds.length en → De.nx en
  | _ => False
def tForTD (ta : TDe) (tg : TDg) (tb : TDs) : TDs := fun De en => ta De.ex en fun r en1 => match vl r with
  | some (.tup ds) => ∃ J : Nat → En → Prop, J 0 en1 ∧ (∀ i d en, ds[i]? = some d → J i en → tg d en fun en2 => tb { De with nx := J (i + 1), ct := J (i + 1), bk := De.nx } en2) ∧ ∀ en, J ds.length en → De.nx en
  | _ => False
def tForR1 (ta : TDa) (tg : TDg) (tb : TDs) : TDs := fun De en => ta De.ex en fun rs en1 => match rs with
  | [.val (.int n)] => -(2 ^ 62) ≤ n ∧ n < 2 ^ 62 ∧ ∃ J : Nat → En → Prop, J 0 en1 ∧ (∀ (i : Nat) en, (i : Int) < n → J i en → tg (.int i) en fun en2 => tb { De with nx := J (i + 1), ct := J (i + 1), bk := De.nx } en2) ∧ ∀ en, J n.toNat en → De.nx en
  | _ => False
def tForR2 (ta : TDa) (tg : TDg) (tb : TDs) : TDs := fun De en => ta De.ex en fun rs en1 => match rs with
  | [.val (.int lo), .val (.int n)] => -(2 ^ 62) ≤ lo ∧ lo < 2 ^ 62 ∧ -(2 ^ 62) ≤ n ∧ n < 2 ^ 62 ∧
      ∃ J : Nat → En → Prop, J 0 en1 ∧ (∀ (i : Nat) en, lo + (i : Int) < n → J i en → tg (.int (lo + i)) en fun en2 => tb { De with nx := J (i + 1), ct := J (i + 1), bk := De.nx } en2) ∧ ∀ en, J (n - lo).toNat en → De.nx en
  | _ => False
section
variable {X : Cx} {W : WX} {a b c e iter : Expr} {ta tb tc te ti : TDe} {p pos : Pos} {body : List Stmt} {t : TDs} {tg : Expr} {S : List Nat} {tG : TDg} {tR : TDa}
theorem body_go {K : PySem.W.Frag} {C : Cc} {Ds : Ends} {De : Ed} {σ : L2.St} {H : Hp} {en : En} {d : VS.D} {v : V} {J : En → Prop} {N : L2.St → Hp → Prop} (k : SOk K C W Ds De) (R1 : R K C σ H en) (hv : Rp K (mm C (oas en)) H v d)
    (h : tG d en fun en2 => t { De with nx := J, ct := J, bk := De.nx } en2) (hN : ∀ σ' H' en', J en' → R K C σ' H' en' → N σ' H') :
    lG K S tG v σ H fun σ2 H2 => lS K W t { Ds with nx := N, ct := N, bk := Ds.nx } σ2 H2 :=
  ⟨C, en, d, _, R1, hv, h, fun σ' en' q R' _ _ => ⟨C, en', _, R', q, ⟨fun σ2 en2 H2 q2 R2 => hN σ2 H2 en2 q2 R2, k.rt, k.nx, fun σ2 en2 H2 q2 R2 => hN σ2 H2 en2 q2 R2, k.ex⟩⟩⟩
theorem ds_forL (hp : PassesOwn (model X.prog X.w) X.A X.env X.xe) (hc : X.calm = true) (hi : DE X W iter ti) (hg : DG X S tg tG) (hb : DSs X W body t) (hs : ∀ x, foldedSetIterable iter X.env x = pure x := by intro _; rfl) :
    DS X W (.For tg iter body [] pos) (tForLD ti tG t) := PSi (ps_for hp hc (pi_list hi) hg hb hs) fun D σ H ⟨C, en, De, R0, h, k⟩ =>
  ⟨C, en, _, De.ex, R0, h, k.x σ, fun r en1 v H1 q R1 o1 _ _ _ => by
    cases e1 : vl r with
    | none => simp only [e1] at q
    | some d =>
      cases d <;> simp only [e1] at q
      rename_i ds
      obtain ⟨J, j0, step, done⟩ := q
      have hv := o1.rp R1 e1
      have R1' := R1.dropX
      cases hv with
      | lst h1 h2 =>
        rename_i a vs
        refine ⟨a, rfl, ⟨vs, h1.sq⟩, for_list (xs := vs) (fun i σ H => ∃ en, R X.K (C.re en1 H1) σ H en ∧ J i en) ⟨en1, R1'.re, j0⟩ (fun i σ2 H2 _ ⟨en2, R2, _⟩ => (h1.mono (R1'.stood R2)).sq) ?_ ?_⟩
        · rintro i x σ2 H2 hx ⟨en2, R2, j2⟩
          obtain ⟨d, hd, hr⟩ := h2.get' hx
          have sok := k.re R1'
          exact body_go sok R2 (Rp.mono (R1'.stood R2) _ _ hr) (step i d en2 hd j2) fun σ' H' en' z R' => ⟨en', R', z⟩
        · rintro σ2 H2 ⟨en2, R2, j2⟩
          rw [h2.length] at j2
          exact k.nx _ _ _ (done en2 j2) (R1'.un0 R2)⟩
theorem ds_forT (hp : PassesOwn (model X.prog X.w) X.A X.env X.xe) (hc : X.calm = true) (hi : DE X W iter ti) (hg : DG X S tg tG) (hb : DSs X W body t) (hs : ∀ x, foldedSetIterable iter X.env x = pure x := by intro _; rfl) :
    DS X W (.For tg iter body [] pos) (tForTD ti tG t) := PSi (ps_for hp hc (pi_tup hi) hg hb hs) fun D σ H ⟨C, en, De, R0, h, k⟩ =>
  ⟨C, en, _, De.ex, R0, h, k.x σ, fun r en1 v H1 q R1 o1 _ _ _ => by
    cases e1 : vl r with
    | none => simp only [e1] at q
    | some d =>
      cases d <;> simp only [e1] at q
      rename_i ds
      obtain ⟨J, j0, step, done⟩ := q
      have hv := o1.rp R1 e1
      have R1' := R1.dropX
      cases hv with
      | tup h1 h2 =>
        rename_i a vs
        refine ⟨a, rfl, ⟨vs, h1.sq⟩, for_tup (xs := vs) (fun i σ H => ∃ en, R X.K (C.re en1 H1) σ H en ∧ J i en) ⟨en1, R1'.re, j0⟩ (fun i σ2 H2 _ ⟨en2, R2, _⟩ => (h1.mono (R1'.stood R2)).sq) ?_ ?_⟩
        · rintro i x σ2 H2 hx ⟨en2, R2, j2⟩
          obtain ⟨d, hd, hr⟩ := h2.get' hx
          have sok := k.re R1'
          exact body_go sok R2 (Rp.mono (R1'.stood R2) _ _ hr) (step i d en2 hd j2) fun σ' H' en' z R' => ⟨en', R', z⟩
        · rintro σ2 H2 ⟨en2, R2, j2⟩
          rw [h2.length] at j2
          exact k.nx _ _ _ (done en2 j2) (R1'.un0 R2)⟩
theorem ds_forR1 (hm : X.mg "range" = none) (hp : PassesOwn (model X.prog X.w) X.A X.env X.xe) (hc : X.calm = true) (ha : DA X W [a] tR) (hg : DG X S tg tG) (hb : DSs X W body t) (hG : Gl X "range" := by rfl)
    (h1 : starEach [a] X.env = [(false, eval a X.env)] := by rfl) {p2 : Pos} (hs : ∀ x, foldedSetIterable (.Call (.Name "range" p) [a] [] p2) X.env x = pure x := by intro _; rfl) : DS X W (.For tg (.Call (.Name "range" p) [a] [] p2) body [] pos) (tForR1 tR tG t) :=
  PSi (ps_for hp hc (pi_range1 hG hm ha h1) hg hb hs) fun D σ H ⟨C, en, De, R0, h, k⟩ =>
  ⟨C, en, _, De.ex, R0, h, k.x σ, fun rs en1 vs H1 q R1 o1 _ _ _ => by
    match rs, q, R1, o1 with
    | [.val (.int n)], ⟨b1, b2, J, j0, step, done⟩, R1, ⟨v, ws, e1, h1, e2⟩ =>
      subst e1 e2
      have hv : v = .int n := by cases h1; rfl
      subst hv
      refine ⟨n, rfl, b1, b2, for_range (fun i σ H => ∃ en, R X.K C σ H en ∧ J i en) ⟨en1, R1, j0⟩ ?_ ?_⟩
      · rintro i σ2 H2 hi ⟨en2, R2, j2⟩
        rw [Int.zero_add]
        exact body_go k R2 (.int _) (step i en2 (by omega) j2) fun σ' H' en' z R' => ⟨en', R', z⟩
      · rintro σ2 H2 ⟨en2, R2, j2⟩
        exact k.nx _ _ _ (done en2 j2) R2⟩
theorem ds_forR2 (hm : X.mg "range" = none) (hp : PassesOwn (model X.prog X.w) X.A X.env X.xe) (hc : X.calm = true) (ha : DA X W [a, b] tR) (hg : DG X S tg tG) (hb : DSs X W body t) (hG : Gl X "range" := by rfl)
    (h1 : starEach [a, b] X.env = [(false, eval a X.env), (false, eval b X.env)] := by rfl) (h2 : starEach [b] X.env = [(false, eval b X.env)] := by rfl) {p2 : Pos} (hs : ∀ x, foldedSetIterable (.Call (.Name "range" p) [a, b] [] p2) X.env x = pure x := by intro _; rfl) :
    DS X W (.For tg (.Call (.Name "range" p) [a, b] [] p2) body [] pos) (tForR2 tR tG t) :=
  PSi (ps_for hp hc (pi_range2 hG hm ha h1 h2) hg hb hs) fun D σ H ⟨C, en, De, R0, h, k⟩ =>
  ⟨C, en, _, De.ex, R0, h, k.x σ, fun rs en1 vs H1 q R1 o1 _ _ _ => by
    match rs, q, R1, o1 with
    | [.val (.int lo), .val (.int n)], ⟨a1, a2, b1, b2, J, j0, step, done⟩, R1, ⟨v, ws, e1, h1, v2, ws2, e2, h2, e3⟩ =>
      subst e1 e2 e3
      have hv : v = .int lo := by cases h1; rfl
      have hv2 : v2 = .int n := by cases h2; rfl
      subst hv hv2
      refine ⟨lo, n, rfl, ⟨a1, a2, b1, b2⟩, for_range (fun i σ H => ∃ en, R X.K C σ H en ∧ J i en) ⟨en1, R1, j0⟩ ?_ ?_⟩
      · rintro i σ2 H2 hi ⟨en2, R2, j2⟩
        exact body_go k R2 (.int _) (step i en2 (by omega) j2) fun σ' H' en' z R' => ⟨en', R', z⟩
      · rintro σ2 H2 ⟨en2, R2, j2⟩
        exact k.nx _ _ _ (done en2 j2) R2⟩
end
end VS

namespace VS
open PySem L2 PySem.Spec PyProof.Rows

/-! ### comprehensions -/
def wipeD (en : En) : List Nat → En
  | [] => en
  | i :: is => (wipeD en is).set i .no
section
variable {K : PySem.W.Frag} {C : Cc} {σ σ' : L2.St} {H H' : Hp} {en en' : En} {a : Addr} {d : D} {v : V} {r : Res} {vs : List Nat}
theorem R.wipe (R1 : R K C σ H en) : ∀ vs : List Nat, R K C (L2.wipe σ vs) H (wipeD en vs)
  | [] => R1
  | i :: is => (R.wipe R1 is).setS (i := i) (s := .no) (o := none) rfl trivial
theorem wipe_len : ∀ vs : List Nat, (L2.wipe σ vs).length = σ.length
  | [] => rfl
  | i :: is => by simp only [L2.wipe, List.length_set, wipe_len is]
theorem wipeD_len : ∀ vs : List Nat, (wipeD en vs).length = en.length
  | [] => rfl
  | i :: is => by simp only [wipeD, List.length_set, wipeD_len is]
theorem wipe_at : ∀ (vs : List Nat) (j : Nat), (L2.wipe σ vs)[j]? = if j ∈ vs then (if j < σ.length then some none else none) else σ[j]?
  | [], j => by simp [L2.wipe]
  | i :: is, j => by
    have ih := wipe_at is j
    simp only [L2.wipe, List.getElem?_set, wipe_len]
    by_cases h : i = j
    · subst h
      simp
    · rw [if_neg h, ih]
      have h' : (j ∈ i :: is) ↔ j ∈ is := by simp [Ne.symm h]
      simp only [h']
theorem wipeD_at : ∀ (vs : List Nat) (j : Nat), (wipeD en vs)[j]? = if j ∈ vs then (if j < en.length then some .no else none) else en[j]?
  | [], j => by simp [wipeD]
  | i :: is, j => by
    have ih := wipeD_at is j
    simp only [wipeD, List.getElem?_set, wipeD_len]
    by_cases h : i = j
    · subst h
      simp
    · rw [if_neg h, ih]
      have h' : (j ∈ i :: is) ↔ j ∈ is := by simp [Ne.symm h]
      simp only [h']
theorem wipe_same (h : ∀ (j : Nat), j ∉ vs → σ'[j]? = σ[j]?) (hl : σ'.length = σ.length) : L2.wipe σ' vs = L2.wipe σ vs := by
  refine List.ext_getElem? fun j => ?_
  rw [wipe_at, wipe_at, hl]
  by_cases hj : j ∈ vs
  · rw [if_pos hj, if_pos hj]
  · rw [if_neg hj, if_neg hj, h j hj]
theorem wipe_idem : L2.wipe (L2.wipe σ vs) vs = L2.wipe σ vs := wipe_same (fun j hj => by rw [wipe_at, if_neg hj]) (wipe_len vs)
theorem wipeD_same (h : ∀ (j : Nat), j ∉ vs → en'[j]? = en[j]?) (hl : en'.length = en.length) : wipeD en' vs = wipeD en vs := by
  refine List.ext_getElem? fun j => ?_
  rw [wipeD_at, wipeD_at, hl]
  by_cases hj : j ∈ vs
  · rw [if_pos hj, if_pos hj]
  · rw [if_neg hj, if_neg hj, h j hj]
theorem Shape.wipe (s : Shape en en') : ∀ vs : List Nat, Shape (wipeD en vs) (wipeD en' vs)
  | [] => s
  | i :: is => by
    have ih := Shape.wipe s is
    unfold Shape at ih ⊢
    simp only [wipeD, List.map_set, ih]
/-- slots that hold nothing may be anything -/
theorem R.rep (R1 : R K C σ H en) (h : ∀ (j : Nat), en[j]? = some Sl.no ∨ σ'[j]? = σ[j]?) (hl : σ'.length = σ.length) : R K C σ' H en where
  sl := Pof (by rw [hl]; exact Plen R1.sl) fun i x y hx hy => by
    rcases h i with z | z
    · rw [z] at hy
      cases hy
      trivial
    · rw [z] at hx
      exact Pat R1.sl hx hy
  inj := R1.inj
  dom := R1.dom
  keep := R1.keep
  nt := R1.nt
/-- what is held aside is changed -/
theorem R.poke {p : Addr} {o : HO} (R1 : R K (C.add p) σ H en) (h : C.H p = none) (no : ∀ xs, o ≠ .tup xs := by exact fun _ z => nomatch z) : R K (C.add p) σ (upd H p o) en where
  sl := Pmap R1.sl fun i x y _ hy q => q.mono (fun b u n z => ⟨n, by rw [upd_ne (fun w => n (.inl (.inr w)))]; exact z⟩) fun b d e u z => by
    subst e
    have : b ∈ oas en := oas_mem.mpr ⟨i, d, hy⟩
    rw [upd_ne (fun w => R1.oM this (.inr w))]
    exact z
  inj := R1.inj
  dom := fun b w => by
    by_cases e : b = p
    · exact ⟨o, by rw [e]; exact upd_same⟩
    · obtain ⟨u, z⟩ := R1.dom b w
      exact ⟨u, by rw [upd_ne e]; exact z⟩
  keep := fun b u q n => by
    rw [upd_ne (fun e => by rw [e] at q; have q' : C.H p = some u := q; rw [h] at q'; cases q')]
    exact R1.keep b u q n
  nt := fun b xs w z => by
    by_cases e : b = p
    · rw [e, upd_same] at z
      exact no xs (Option.some.inj z)
    · rw [upd_ne e] at z
      exact R1.nt b xs w z
end
def XF : Px := fun _ _ => False
def tYesD : TDt := fun _ en Φ => Φ true en
/-- a turn: the item stored, the test, the element -/
def lcStep (tG : TDg) (tt : TDt) (te : TDe) (vs : List Nat) (J : List D → En → Prop) (d : D) (acc : List D) (en : En) : Prop :=
  tG d en fun en2 => tt XF en2 fun b en3 => if b = true then te XF en3 fun r en4 => (match vl r with
    | some y => acc.length < sizeLine ∧ J (acc ++ [y]) (wipeD en4 vs)
    | none => False) else J acc (wipeD en3 vs)
def tLcL (ti : TDe) (tG : TDg) (tt : TDt) (te : TDe) (vs : List Nat) : TDe := fun Ψ en Φ => ti Ψ en fun r en1 => match vl r with
  | some (.lst ds) => wipeD en1 vs = en1 ∧ ∃ J : Nat → List D → En → Prop, J 0 [] en1 ∧ (∀ i d acc en, ds[i]? = some d → J i acc en → lcStep tG tt te vs (J (i + 1)) d acc en) ∧ ∀ acc en2 p, J ds.length acc en2 → Φ (.own p (.lst acc)) en2
  | _ => False
def tLcT (ti : TDe) (tG : TDg) (tt : TDt) (te : TDe) (vs : List Nat) : TDe := fun Ψ en Φ => ti Ψ en fun r en1 => match vl r with
  | some (.tup ds) => wipeD en1 vs = en1 ∧ ∃ J : Nat → List D → En → Prop, J 0 [] en1 ∧ (∀ i d acc en, ds[i]? = some d → J i acc en → lcStep tG tt te vs (J (i + 1)) d acc en) ∧ ∀ acc en2 p, J ds.length acc en2 → Φ (.own p (.lst acc)) en2
  | _ => False
def tLcR1 (ti : TDa) (tG : TDg) (tt : TDt) (te : TDe) (vs : List Nat) : TDe := fun Ψ en Φ => ti Ψ en fun rs en1 => match rs with
  | [.val (.int n)] => -(2 ^ 62) ≤ n ∧ n < 2 ^ 62 ∧ wipeD en1 vs = en1 ∧ ∃ J : Nat → List D → En → Prop, J 0 [] en1 ∧ (∀ (i : Nat) acc en, (i : Int) < n → J i acc en → lcStep tG tt te vs (J (i + 1)) (.int i) acc en) ∧ ∀ acc en2 p, J n.toNat acc en2 → Φ (.own p (.lst acc)) en2
  | _ => False
abbrev DTs (X : Cx) (W : WX) (ifs : List Expr) (T : TDt) : Prop := PTs X ifs (lT X.K W T)
theorem PTsi {X : Cx} {e : List Expr} {t t' : TT} (h : PTs X e t) (i : ∀ σ H Q, t' σ H Q → t σ H Q) : PTs X e t' := ⟨fun pins s σ H Q I q => h.run pins s σ H Q I (i σ H Q q)⟩
theorem dts_nil {X : Cx} {W : WX} : DTs X W [] tYesD := PTsi pts_nil fun σ H Q ⟨C, en, Φ, Ψ, R1, h, _, k⟩ => k true en H h R1 rfl Keep.refl
theorem dts_one {X : Cx} {W : WX} {c : Expr} {t : TDt} (h : DT X W c t) : DTs X W [c] t := pts_one h
section
variable {K : PySem.W.Frag} {C : Cc} {σ : L2.St} {H H1 : Hp} {en en1 : En} {Dl : Addr} {tG : TDg} {tt : TDt} {te : TDe} {vs : List Nat} {S : List Nat} {d : VS.D} {x : V}
/-- what holds between two turns -/
def LcP (K : PySem.W.Frag) (C : Cc) (σ : L2.St) (H1 : Hp) (en1 : En) (vs : List Nat) (Dl : Addr) (J : List D → En → Prop) (H : Hp) : Prop :=
  ∃ acc en ws, R K ((C.re en1 H1).add Dl) (L2.wipe σ vs) H en ∧ Shape en1 en ∧ H Dl = some (.lst ws) ∧ RpA K (mm ((C.re en1 H1).add Dl) (oas en)) H ws acc ∧ J acc en
theorem lc_start {J : List D → En → Prop} (R1 : R K C σ H1 en1) (hD : H1 Dl = none) (hw : wipeD en1 vs = en1) (j0 : J [] en1) : LcP K C σ H1 en1 vs Dl J (upd H1 Dl (.lst [])) := by
  refine ⟨[], en1, [], ?_, rfl, upd_same, .nil, j0⟩
  have h := (R1.re.hold (p := Dl) (o := .lst []) hD).wipe vs
  rw [hw] at h
  exact h
theorem lc_turn {J J' : List D → En → Prop} (R1 : R K C σ H1 en1) (hD : H1 Dl = none) (hw : wipeD en1 vs = en1) (hS : ∀ j, j ∈ S → j ∈ vs) (P : LcP K C σ H1 en1 vs Dl J H) (hx : ∀ acc en, J acc en → R K ((C.re en1 H1).add Dl) (L2.wipe σ vs) H en → Rp K (mm ((C.re en1 H1).add Dl) (oas en)) H x d)
    (step : ∀ acc en, J acc en → lcStep tG tt te vs J' d acc en) : lG K S tG x (L2.wipe σ vs) H fun σ2 H2 => L2.wipe σ2 vs = L2.wipe σ vs ∧ lT K W0 tt σ2 H2 fun b H3 =>
      if b = true then lE K W0 te σ2 H3 fun y H4 => ∃ acc, H4 Dl = some (.lst acc) ∧ acc.length < sizeLine ∧ LcP K C σ H1 en1 vs Dl J' (upd H4 Dl (.lst (acc ++ [y]))) else LcP K C σ H1 en1 vs Dl J' H3 := by
  obtain ⟨acc, en, ws, R2, sh, hd, hr, j⟩ := P
  have hst := step acc en j
  refine ⟨_, en, d, _, R2, hx acc en j R2, hst, fun σ2 en2 q2 R3 le3 o3 => ?_⟩
  have e1 : L2.wipe σ2 vs = L2.wipe σ vs := by
    rw [wipe_same (σ := L2.wipe σ vs) (fun j hj => o3.1 j fun z => hj (hS j z)) o3.2.2.1, wipe_idem]
  have e2 : wipeD en2 vs = wipeD en vs := wipeD_same (fun j hj => o3.2.1 j fun z => hj (hS j z)) o3.2.2.2
  have shw : ∀ en', Shape en2 en' → Shape en1 (wipeD en' vs) := fun en' s => by
    have h1 := s.wipe vs
    rw [e2] at h1
    have h2 := sh.wipe vs
    rw [hw] at h2
    exact h2.trans h1
  have hr2 : RpA K (mm ((C.re en1 H1).add Dl) (oas en2)) H ws acc := RpA.mono le3 _ _ hr
  refine ⟨e1, _, en2, _, XF, R3, q2, fun _ _ _ _ _ z => z.elim, fun b en3 H3 q3 R4 s4 k4 => ?_⟩
  have nD : ∀ {e : En} {s : L2.St} {Hx : Hp}, R K ((C.re en1 H1).add Dl) s Hx e → Dl ∉ oas e := fun r z => r.oM z (.inr rfl)
  have hd3 := k4 Dl _ (nD R3) hd
  have hr3 := RpA.mono (k4.le (C := (C.re en1 H1).add Dl) s4) _ _ hr2
  have le_w : ∀ (e : En) (Hx : Hp), Le (mm ((C.re en1 H1).add Dl) (oas e)) Hx (mm ((C.re en1 H1).add Dl) (oas (wipeD e vs))) Hx := fun e Hx b u n q => by
    refine ⟨fun z => n (z.imp id fun z => ?_), q⟩
    have : ∀ vs : List Nat, b ∈ oas (wipeD e vs) → b ∈ oas e := fun vs => by
      induction vs with
      | nil => exact id
      | cons i is ih => exact fun z => ih ((oas_set_sub i rfl).subset z)
    exact this vs z
  cases b with
  | false =>
    refine ⟨acc, _, ws, ?_, shw en3 s4, hd3, RpA.mono (le_w en3 H3) _ _ hr3, q3⟩
    have := R4.wipe vs
    rw [e1] at this
    exact this
  | true =>
    refine ⟨_, en3, _, XF, R4, q3, fun _ _ _ _ _ z => z.elim, fun r en4 y H4 q4 R5 o5 s5 k5 _ => ?_⟩
    cases ey : vl r with
    | none => simp only [ey] at q4
    | some yd =>
      simp only [ey] at q4
      obtain ⟨q5, q6⟩ := q4
      have hy := o5.rp R5 ey
      have R6 := R5.dropX
      have hd4 := k5 Dl _ (nD R4) hd3
      have hr4 := RpA.mono (k5.le (C := (C.re en1 H1).add Dl) s5) _ _ hr3
      have lp : ∀ l : List Addr, Le (mm ((C.re en1 H1).add Dl) l) H4 (mm ((C.re en1 H1).add Dl) l) (upd H4 Dl (.lst (ws ++ [y]))) := fun l => le_upd (.inl (.inr rfl))
      refine ⟨ws, hd4, by rw [hr4.length]; exact q5, acc ++ [yd], _, ws ++ [y], ?_, shw en4 (s4.trans s5), upd_same, ?_, q6⟩
      · have := (R6.poke (o := .lst (ws ++ [y])) hD).wipe vs
        rw [e1] at this
        exact this
      · exact RpA.mono (lp _) _ _ (RpA.mono (le_w en4 H4) _ _ (hr4.append (.cons hy .nil)))
theorem lc_end {J : List D → En → Prop} {Φ : Res → En → Prop} (R1 : R K C σ H1 en1) (hD : H1 Dl = none) (hw : wipeD en1 vs = en1) (P : LcP K C σ H1 en1 vs Dl J H) (done : ∀ acc en2 p, J acc en2 → Φ (.own p (.lst acc)) en2) :
    ∃ acc en2, Φ (.own Dl (.lst acc)) en2 ∧ R K (C.add Dl) σ H en2 ∧ Hold K C (.own Dl (.lst acc)) en2 H (.ref Dl) ∧ Shape en1 en2 ∧ Keep en1 H1 H := by
  obtain ⟨acc, en, ws, R2, sh, hd, hr, j⟩ := P
  have R3 : R K (C.add Dl) (L2.wipe σ vs) H en := R.unx (r := .own Dl .non) R1 R2
  refine ⟨acc, en, done acc en Dl j, R3.rep (fun j => ?_) (wipe_len vs).symm, ⟨rfl, fun z => ?_, .inr (R1.new hD), ws, hd, hr⟩, sh, fun a u n q => R2.keep a u q n⟩
  · rw [wipe_at]
    by_cases hj : j ∈ vs
    · by_cases hl : j < σ.length
      · left
        have hl' : j < en1.length := by rw [← Plen R1.sl]; exact hl
        have h0 : en1[j]? = some .no := by
          rw [← hw, wipeD_at, if_pos hj, if_pos hl']
        obtain ⟨s', h1, h2⟩ := sh.at h0
        cases s' <;> simp only [shp] at h2 <;> first | exact h1 | cases h2
      · right
        rw [if_pos hj, if_neg hl]
        exact List.getElem?_eq_none_iff.mpr (by omega)
    · right
      rw [if_neg hj]
  · obtain ⟨u, q⟩ := R1.dom Dl (.inl z)
    rw [hD] at q; cases q
end
section
variable {X : Cx} {W : WX} {elt tg iter a : Expr} {ifs : List Expr} {scope : Scope} {own : List (Str × Nat)} {p pos : Pos} {ti te : TDe} {tG : TDg} {tt : TDt} {S : List Nat} {tR : TDa}
theorem lcL_go {σ : L2.St} {H : Hp} {Q : VK} (hS : ∀ j, j ∈ S → j ∈ own.map (·.2)) (h : lE X.K W (tLcL ti tG tt te (own.map (·.2))) σ H Q) : tLc (iList X.K (lE X.K W ti)) (lG X.K S tG) (lT X.K W0 tt) (lE X.K W0 te) (own.map (·.2)) σ H Q := by
  obtain ⟨C, en, Φ, Ψ, R0, hT, hX, k⟩ := h
  refine ⟨C, en, _, Ψ, R0, hT, hX, fun r en1 v H1 q R1 o1 s1 k1 _ => ?_⟩
  cases e1 : vl r with
  | none => simp only [e1] at q
  | some d =>
    cases d <;> simp only [e1] at q
    rename_i ds
    obtain ⟨hw, J, j0, step, done⟩ := q
    have hv := o1.rp R1 e1
    have R1' := R1.dropX
    cases hv with
    | lst h1 h2 =>
      rename_i a vs0
      have stood : ∀ {Hx : Hp} {ex : En} {Dl : Addr}, R X.K ((C.re en1 H1).add Dl) (L2.wipe σ (own.map (·.2))) Hx ex → H1 Dl = none → Le (mm C (oas en1)) H1 (mm ((C.re en1 H1).add Dl) (oas ex)) Hx := fun {Hx ex Dl} r hD b u n z => by
        obtain ⟨q1, q2⟩ := R1'.stood r.drop b u n z
        refine ⟨fun w => ?_, q2⟩
        rcases w with (w | w) | w
        · exact q1 (.inl w)
        · rw [w, hD] at z; cases z
        · exact q1 (.inr w)
      refine ⟨a, rfl, ⟨vs0, h1.sq⟩, fun Dl hD => lc_list (xs := vs0) (fun i H => LcP X.K C σ H1 en1 (own.map (·.2)) Dl (J i) H) (lc_start R1' hD hw j0) (fun i Hx _ ⟨_, ex, _, r, _⟩ => (h1.mono (stood r hD)).sq) (fun i x Hx hx P => ?_) fun Hx P => ?_⟩
      · obtain ⟨d, hd, hr⟩ := h2.get' hx
        exact lc_turn R1' hD hw hS P (fun _ ex _ r => Rp.mono (stood r hD) _ _ hr) fun acc ex j => step i d acc ex hd j
      · rw [h2.length] at P
        obtain ⟨acc, en2, z1, z2, z3, z4, z5⟩ := lc_end R1' hD hw P done
        exact k _ en2 _ Hx z1 z2 z3 (s1.trans z4) (k1.trans s1 z5) (k1.new s1 R1' hD)
theorem de_lcL (hc : X.calm = true) (hN : X.N.Nodup) (hi : DE X W iter ti) (ok : BlkOk X.N X.env.scope scope own)
    (hg : ∀ (s : Shared) (H : Hp) (C : Addr) (cl : List (Str × Addr)) (fp : List Addr), DG (X.blk s H scope (compEnvC scope cl C X.env) fp) S tg tG) (ht : ∀ (s : Shared) (H : Hp) (C : Addr) (cl : List (Str × Addr)) (fp : List Addr), DTs (X.blk s H scope (compEnvC scope cl C X.env) fp) W0 ifs tt)
    (he : ∀ (s : Shared) (H : Hp) (C : Addr) (cl : List (Str × Addr)) (fp : List Addr), DE (X.blk s H scope (compEnvC scope cl C X.env) fp) W0 elt te) (hS : ∀ j, j ∈ S → j ∈ own.map (·.2) := by decide) (hs : ∀ x, foldedSetIterable iter X.env x = pure x := by intro _; rfl) :
    DE X W (.ListComp elt [⟨tg, iter, ifs, 0⟩] scope pos) (tLcL ti tG tt te (own.map (·.2))) := PEi (pe_lc (g := lG X.K S tG) (tt := lT X.K W0 tt) (te := lE X.K W0 te) hc hN (pi_list hi) ok hg ht he hs) fun σ H Q h => lcL_go hS h
theorem lcT_go {σ : L2.St} {H : Hp} {Q : VK} (hS : ∀ j, j ∈ S → j ∈ own.map (·.2)) (h : lE X.K W (tLcT ti tG tt te (own.map (·.2))) σ H Q) : tLc (iTup X.K (lE X.K W ti)) (lG X.K S tG) (lT X.K W0 tt) (lE X.K W0 te) (own.map (·.2)) σ H Q := by
  obtain ⟨C, en, Φ, Ψ, R0, hT, hX, k⟩ := h
  refine ⟨C, en, _, Ψ, R0, hT, hX, fun r en1 v H1 q R1 o1 s1 k1 _ => ?_⟩
  cases e1 : vl r with
  | none => simp only [e1] at q
  | some d =>
    cases d <;> simp only [e1] at q
    rename_i ds
    obtain ⟨hw, J, j0, step, done⟩ := q
    have hv := o1.rp R1 e1
    have R1' := R1.dropX
    cases hv with
    | tup h1 h2 =>
      rename_i a vs0
      have stood : ∀ {Hx : Hp} {ex : En} {Dl : Addr}, R X.K ((C.re en1 H1).add Dl) (L2.wipe σ (own.map (·.2))) Hx ex → H1 Dl = none → Le (mm C (oas en1)) H1 (mm ((C.re en1 H1).add Dl) (oas ex)) Hx := fun {Hx ex Dl} r hD b u n z => by
        obtain ⟨q1, q2⟩ := R1'.stood r.drop b u n z
        refine ⟨fun w => ?_, q2⟩
        rcases w with (w | w) | w
        · exact q1 (.inl w)
        · rw [w, hD] at z; cases z
        · exact q1 (.inr w)
      refine ⟨a, rfl, ⟨vs0, h1.sq⟩, fun Dl hD => lc_tup (xs := vs0) (fun i H => LcP X.K C σ H1 en1 (own.map (·.2)) Dl (J i) H) (lc_start R1' hD hw j0) (fun i Hx _ ⟨_, ex, _, r, _⟩ => (h1.mono (stood r hD)).sq) (fun i x Hx hx P => ?_) fun Hx P => ?_⟩
      · obtain ⟨d, hd, hr⟩ := h2.get' hx
        exact lc_turn R1' hD hw hS P (fun _ ex _ r => Rp.mono (stood r hD) _ _ hr) fun acc ex j => step i d acc ex hd j
      · rw [h2.length] at P
        obtain ⟨acc, en2, z1, z2, z3, z4, z5⟩ := lc_end R1' hD hw P done
        exact k _ en2 _ Hx z1 z2 z3 (s1.trans z4) (k1.trans s1 z5) (k1.new s1 R1' hD)
theorem de_lcT (hc : X.calm = true) (hN : X.N.Nodup) (hi : DE X W iter ti) (ok : BlkOk X.N X.env.scope scope own)
    (hg : ∀ (s : Shared) (H : Hp) (C : Addr) (cl : List (Str × Addr)) (fp : List Addr), DG (X.blk s H scope (compEnvC scope cl C X.env) fp) S tg tG) (ht : ∀ (s : Shared) (H : Hp) (C : Addr) (cl : List (Str × Addr)) (fp : List Addr), DTs (X.blk s H scope (compEnvC scope cl C X.env) fp) W0 ifs tt)
    (he : ∀ (s : Shared) (H : Hp) (C : Addr) (cl : List (Str × Addr)) (fp : List Addr), DE (X.blk s H scope (compEnvC scope cl C X.env) fp) W0 elt te) (hS : ∀ j, j ∈ S → j ∈ own.map (·.2) := by decide) (hs : ∀ x, foldedSetIterable iter X.env x = pure x := by intro _; rfl) :
    DE X W (.ListComp elt [⟨tg, iter, ifs, 0⟩] scope pos) (tLcT ti tG tt te (own.map (·.2))) := PEi (pe_lc (g := lG X.K S tG) (tt := lT X.K W0 tt) (te := lE X.K W0 te) hc hN (pi_tup hi) ok hg ht he hs) fun σ H Q h => lcT_go hS h
theorem lcR1_go {σ : L2.St} {H : Hp} {Q : VK} (hS : ∀ j, j ∈ S → j ∈ own.map (·.2)) (h : lE X.K W (tLcR1 tR tG tt te (own.map (·.2))) σ H Q) : tLc (iRng1 (lA X.K W tR)) (lG X.K S tG) (lT X.K W0 tt) (lE X.K W0 te) (own.map (·.2)) σ H Q := by
  obtain ⟨C, en, Φ, Ψ, R0, hT, hX, k⟩ := h
  refine ⟨C, en, _, Ψ, R0, hT, hX, fun rs en1 ws H1 q R1 o1 s1 k1 _ => ?_⟩
  match rs, q, R1, o1 with
  | [.val (.int n)], ⟨b1, b2, hw, J, j0, step, done⟩, R1, ⟨v, ws', e1, h1, e2⟩ =>
    subst e1 e2
    have hv : v = .int n := by cases h1; rfl
    subst hv
    refine ⟨n, rfl, b1, b2, fun Dl hD => lc_range (fun i H => LcP X.K C σ H1 en1 (own.map (·.2)) Dl (J i) H) (lc_start R1 hD hw j0) (fun i Hx hi P => ?_) fun Hx P => ?_⟩
    · rw [Int.zero_add]
      exact lc_turn R1 hD hw hS P (fun _ ex _ r => .int _) fun acc ex j => step i acc ex (by omega) j
    · obtain ⟨acc, en2, z1, z2, z3, z4, z5⟩ := lc_end R1 hD hw P done
      exact k _ en2 _ Hx z1 z2 z3 (s1.trans z4) (k1.trans s1 z5) (k1.new s1 R1 hD)
theorem de_lcR1 (hm : X.mg "range" = none) (hc : X.calm = true) (hN : X.N.Nodup) (ha : DA X W [a] tR) (ok : BlkOk X.N X.env.scope scope own)
    (hg : ∀ (s : Shared) (H : Hp) (C : Addr) (cl : List (Str × Addr)) (fp : List Addr), DG (X.blk s H scope (compEnvC scope cl C X.env) fp) S tg tG) (ht : ∀ (s : Shared) (H : Hp) (C : Addr) (cl : List (Str × Addr)) (fp : List Addr), DTs (X.blk s H scope (compEnvC scope cl C X.env) fp) W0 ifs tt)
    (he : ∀ (s : Shared) (H : Hp) (C : Addr) (cl : List (Str × Addr)) (fp : List Addr), DE (X.blk s H scope (compEnvC scope cl C X.env) fp) W0 elt te) (hS : ∀ j, j ∈ S → j ∈ own.map (·.2) := by decide) (hG : Gl X "range" := by rfl)
    (h1 : starEach [a] X.env = [(false, eval a X.env)] := by rfl) {p2 : Pos} (hs : ∀ x, foldedSetIterable (.Call (.Name "range" p) [a] [] p2) X.env x = pure x := by intro _; rfl) :
    DE X W (.ListComp elt [⟨tg, .Call (.Name "range" p) [a] [] p2, ifs, 0⟩] scope pos) (tLcR1 tR tG tt te (own.map (·.2))) := PEi (pe_lc (g := lG X.K S tG) (tt := lT X.K W0 tt) (te := lE X.K W0 te) hc hN (pi_range1 hG hm ha h1) ok hg ht he hs) fun σ H Q h => lcR1_go hS h
end
end VS

namespace VS
open PySem L2 PySem.Spec PyProof.Rows

/-! ### list + list -/
def rCatS (K : PySem.W.Frag) : R2 := fun x y H Q => ∃ l b xs zs, x = .ref l ∧ y = .ref b ∧ SqL K H l xs ∧ SqL K H b zs ∧ xs.length + zs.length ≤ sizeLine ∧ ∀ p, H p = none → Q (.ref p) (upd H p (.lst (xs ++ zs)))
theorem op_catS {X : Cx} : OpR X (binaryOp .Add) (rCatS X.K) := by
  intro pins s σ H x y v u Q I rx ry h
  obtain ⟨l, b, xs, zs, rfl, rfl, hH, hB, hz, q⟩ := h
  cases rx
  cases ry
  obtain ⟨its, r, p1, z1⟩ := I.list hH
  obtain ⟨its2, r2, p2, z2⟩ := I.list hB
  have l1 := r.length
  have l2 := r2.length
  obtain ⟨⟨cls, dd, data, sl⟩, ho, hc, n, hd⟩ := id p1.isList
  obtain ⟨⟨cls2, dd2, data2, sl2⟩, ho2, hc2, n2, hd2⟩ := id p2.isList
  simp only at hc hd hc2 hd2
  subst hc hd hc2 hd2
  refine concat_meets ⟨_, ho, rfl⟩ ⟨_, ho2, rfl⟩ noFill_list_add seq_list_add PySem.F.slot_list_add PySem.F.entry_list_add (PySem.F.args_list_add_2 _ _) (list_addW l b its.toArray its2.toArray n n2 dd dd2 sl sl2 (by simp; omega)) ⟨ho, ho2, ?_⟩
  have e : its.toArray ++ its2.toArray = (its ++ its2).toArray := by simp
  rw [e]
  exact ⟨.ref _, _, I.lnew (t' := s.toks) (r.append r2) (by rw [List.length_append]; omega), rfl, q _ I.fresh⟩
def gCat : D → D → (Res → Prop) → Prop := fun x y Φ => match x, y with
  | .lst ds, .lst es => ds.length + es.length ≤ sizeLine ∧ ∀ p, Φ (.own p (.lst (ds ++ es)))
  | _, _ => False
theorem od_cat {X : Cx} : OpD X (rCatS X.K) gCat := by
  intro C σ H en x y v w Φ Q R1 hx hy h k
  cases x <;> cases y <;> try exact (show False from h).elim
  obtain ⟨a, vs, rfl, h1, h2⟩ := hx
  obtain ⟨b, ws, rfl, g1, g2⟩ := hy
  refine ⟨a, b, vs, ws, rfl, rfl, h1, g1, by rw [h2.length, g2.length]; exact h.1, fun p hp => ?_⟩
  obtain ⟨z1, z2⟩ := own_new R1 hp (h2.append g2)
  exact k _ _ _ (h.2 p) z1 z2 (same_new hp) hp
/-! ### slices of lists -/
def cutD (ds : List D) (lo hi : Option Int) : List D := (ds.drop (HT.sIx ds.length 0 lo)).take (HT.sIx ds.length ds.length hi - HT.sIx ds.length 0 lo)
abbrev TDo := Px → En → (Option Int → En → Prop) → Prop
def lO (K : PySem.W.Frag) (W : WX) (T : TDo) : TO := fun σ H Q => ∃ (C : Cc) (en : En) (Φ : Option Int → En → Prop) (Ψ : Px), R K C σ H en ∧ T Ψ en Φ ∧ XOk K C W σ Ψ ∧
  ∀ b en' H', Φ b en' → R K C σ H' en' → Shape en en' → Keep en H H' → Q b H'
abbrev DO (X : Cx) (W : WX) (e : Option Expr) (T : TDo) : Prop := PO X e (lO X.K W T)
def tNoPartD : TDo := fun _ en Φ => Φ none en
def tPartD (te : TDe) : TDo := fun Ψ en Φ => te Ψ en fun r en1 => match r with
  | .val (.int i) => Φ (some i) en1
  | _ => False
def tSlLD (te : TDe) (tl th : TDo) : TDe := fun Ψ en Φ => te Ψ en fun r en1 => tl Ψ en1 fun lo en2 => th Ψ en2 fun hi en3 => match rd en3 r with
  | some (.lst ds) => ∀ p, Φ (.own p (.lst (cutD ds lo hi))) en3
  | _ => False
section
variable {X : Cx} {W : WX} {a b c e : Expr} {ta tb te : TDe} {tl th : TDo} {pos p2 : Pos} {lo hi : Option Expr}
theorem de_cat (ha : DE X W a ta) (hb : DE X W b tb) : DE X W (.BinOp a .Add b pos) (tOpD gCat ta tb) := de_op op_catS od_cat ha hb
theorem POi {t t' : TO} {o : Option Expr} (h : PO X o t) (i : ∀ σ H Q, t' σ H Q → t σ H Q) : PO X o t' := ⟨fun pins s σ H Q I q => h.run pins s σ H Q I (i σ H Q q)⟩
theorem do_none : DO X W none tNoPartD := POi po_none fun σ H Q ⟨C, en, Φ, Ψ, R1, h, _, k⟩ => k none en H h R1 rfl Keep.refl
theorem do_some (he : DE X W e te) : DO X W (some e) (tPartD te) := POi (po_some he) fun σ H Q ⟨C, en, Φ, Ψ, R0, h, hX, k⟩ => by
  refine ⟨C, en, _, Ψ, R0, h, hX, fun r en1 v H1 q R1 o1 s1 k1 n1 => ?_⟩
  cases r with
  | own => exact (show False from q).elim
  | bor => exact (show False from q).elim
  | val d =>
    cases d <;> try exact (show False from q).elim
    cases o1
    exact ⟨_, rfl, k _ en1 H1 q R1 s1 k1⟩
theorem de_slL (he : DE X W e te) (hl : DO X W lo tl) (hh : DO X W hi th) : DE X W (.Subscript e (.Slice lo hi none p2) pos) (tSlLD te tl th) := PEi (pe_slice sl_list he hl hh) fun σ H Q ⟨C, en, Φ, Ψ, R0, h, hX, k⟩ => by
  refine ⟨C, en, _, Ψ, R0, h, hX, fun r en1 v H1 q1 R1 o1 s1 k1 n1 => ?_⟩
  refine ⟨C.ext r, en1, _, Ψ, R1, q1, hX.ext, fun l en2 H2 q2 R2 s2 k2 => ?_⟩
  refine ⟨C.ext r, en2, _, Ψ, R2, q2, hX.ext, fun u en3 H3 q3 R3 s3 k3 => ?_⟩
  have o3 := (o1.stay R2 s2 k2).stay R3 s3 k3
  cases ed : rd en3 r with
  | none => simp only [ed] at q3
  | some d =>
    cases d <;> simp only [ed] at q3
    rename_i ds
    obtain ⟨a, vs, rfl, h1, h2⟩ := o3.sq R3 ed
    refine ⟨a, vs, rfl, h1, fun p hp => ?_⟩
    have hc : RpA X.K (mm C (oas en3)) H3 (cutV vs l u) (cutD ds l u) := by
      unfold cutV cutD
      rw [h2.length]
      exact (h2.drop _).take _
    obtain ⟨z1, z2⟩ := own_new R3.dropX hp hc
    have kk := (k1.trans s1 k2).trans (s1.trans s2) k3
    exact k _ en3 _ _ (q3 p) z1 z2 ((s1.trans s2).trans s3) (kk.trans ((s1.trans s2).trans s3) (Keep.same (same_new hp))) (kk.new ((s1.trans s2).trans s3) R3.dropX hp)
end
/-! ### sum, all -/
def gSum : List D → (Res → Prop) → Prop := fun xs Φ => match xs with
  | [.lst ds] => ∃ ns : List Int, ds = ns.map D.int ∧ Φ (.val (.int ns.sum))
  | _ => False
def gAll : List D → (Res → Prop) → Prop := fun xs Φ => match xs with
  | [.lst ds] => ∃ bs : List Bool, ds = bs.map D.bl ∧ Φ (.val (.bl (bs.all id)))
  | _ => False
theorem RpA.bls {K : PySem.W.Frag} {M : Ms} {H : Hp} : ∀ {vs : List V} (ns : List Bool), RpA K M H vs (ns.map D.bl) → vs = ns.map V.bl
  | _, [], h => by cases h; rfl
  | _, n :: ns, h => by
    cases h with
    | cons h1 h2 =>
      cases h1
      rw [RpA.bls ns h2]
      rfl
section
variable {X : Cx} {W : WX} {a b c e : Expr} {ta tb te : TDe} {p pos : Pos} {es : List Expr} {t : TDa}
theorem ca_sum : CaD X (rSum X.K) gSum := by
  intro C σ H en ds vs Φ Q R1 hs h k
  unfold gSum at h
  split at h
  · obtain ⟨ns, rfl, h⟩ := h
    cases hs with
    | cons h1 h2 =>
      cases h2
      obtain ⟨a, ws, rfl, q1, q2⟩ := h1
      rw [RpA.ints ns q2] at q1
      exact ⟨a, ns, rfl, q1, k _ _ H h R1 (.int _) (fun _ _ q => q) trivial⟩
  · exact h.elim
theorem ca_all : CaD X (rAll X.K) gAll := by
  intro C σ H en ds vs Φ Q R1 hs h k
  unfold gAll at h
  split at h
  · obtain ⟨ns, rfl, h⟩ := h
    cases hs with
    | cons h1 h2 =>
      cases h2
      obtain ⟨a, ws, rfl, q1, q2⟩ := h1
      rw [RpA.bls ns q2] at q1
      exact ⟨a, ns, rfl, q1, k _ _ H h R1 (.bl _) (fun _ _ q => q) trivial⟩
  · exact h.elim
theorem de_sum (hc : X.calm = true) (hm : X.mg "sum" = none) (ha : DA X W (e :: es) t) (hg : Gl X "sum" := by rfl) (he : starEach (e :: es) X.env = (false, eval e X.env) :: starEach es X.env := by rfl) (hpl : (backTo pos (starEach es X.env)).any (·.1) = false := by rfl) :
    DE X W (.Call (.Name "sum" p) (e :: es) [] pos) (tCaD gSum t) := de_callB (cr_sum hc) ca_sum hg hm (by decide +kernel) ha (by decide) (by decide) he hpl
theorem de_all (hc : X.calm = true) (hm : X.mg "all" = none) (ha : DA X W (e :: es) t) (hg : Gl X "all" := by rfl) (he : starEach (e :: es) X.env = (false, eval e X.env) :: starEach es X.env := by rfl) (hpl : (backTo pos (starEach es X.env)).any (·.1) = false := by rfl) :
    DE X W (.Call (.Name "all" p) (e :: es) [] pos) (tCaD gAll t) := de_callB (cr_all hc) ca_all hg hm (by decide +kernel) ha (by decide) (by decide) he hpl
end
/-! ### tuple(list), tuple(tuple) -/
def gTup1 : List D → (Res → Prop) → Prop
  | [.lst ds], Φ => Φ (.val (.tup ds))
  | [.tup ds], Φ => Φ (.val (.tup ds))
  | _, _ => False
/-! ### isinstance -/
def tyN : D → String
  | .non => "NoneType"
  | .bl _ => "bool"
  | .int _ => "int"
  | .str _ => "str"
  | .tup _ => "tuple"
  | .lst _ => "list"
  | .dct _ _ _ => "dict"
def isD (n : String) (d : D) : Bool := tyN d == n || (n == "int" && tyN d == "bool")
theorem Sq.ty {K : PySem.W.Frag} {C : Cc} {en : En} {H : Hp} {v : V} : ∀ {d : D}, Sq K C en H v d → TyX K H v (.type (tyN d))
  | .non, h => by cases h; exact .base .non
  | .bl _, h => by cases h; exact .base (.bl _)
  | .int _, h => by cases h; exact .base (.int _)
  | .str _, h => by cases h; exact .base (.str _)
  | .lst ds, ⟨a, vs, e, h, _⟩ => by
    subst e
    rcases h with (h | ⟨o, h⟩) | ⟨o, its, n, h1, h2, _⟩
    · exact .base (.lst h)
    · exact .base (.frz h)
    · exact .kList h1 h2
  | .tup ds, ⟨a, vs, e, h, _⟩ => by
    subst e
    rcases h with (h | ⟨o, h⟩) | ⟨o, its, n, h1, h2, _⟩
    · exact .base (.tup h)
    · exact .fTuple h
    · exact .kTuple h1 h2
  | .dct _ _ _, ⟨a, c, e, h, _⟩ => by
    subst e
    cases c with
    | k kvs =>
      rcases h with h | ⟨o, h⟩
      · exact .base (.dK h)
      · exact .fDict h
    | t kvs => exact .base (.dT h)
def tIsiD (n : String) (te : TDe) : TDe := fun Ψ en Φ => te Ψ en fun r en1 => match rd en1 r with
  | some d => Φ (.val (.bl (isD n d))) en1
  | none => False
def tIsi2D (n m : String) (te : TDe) : TDe := fun Ψ en Φ => te Ψ en fun r en1 => match rd en1 r with
  | some d => Φ (.val (.bl (isD n d || isD m d))) en1
  | none => False
section
variable {X : Cx} {W : WX} {e : Expr} {te : TDe} {p pos p2 p3 p4 : Pos} {n m : Str} {sn sm : String}
theorem de_isi (hm : X.mg "isinstance" = none) (he : DE X W e te) (gn : Gl X n) (mn : X.mg n = none) (vn : bootBuiltins n = some (.type sn)) (hk : ∀ d, kitB (tyN d) sn = some (isD sn d))
    (hg : Gl X "isinstance" := by rfl) (nn : n ≠ "__name__" := by decide) (nd : (n == ("__debug__" : Str)) = false := by decide)
    (h1 : starEach [e, .Name n p2] X.env = (false, eval e X.env) :: starEach [.Name n p2] X.env := by rfl) (h2 : starEach [.Name n p2] X.env = (false, eval (.Name n p2) X.env) :: starEach [] X.env := by rfl)
    (hpl : (backTo pos (starEach [.Name n p2] X.env)).any (·.1) = false := by rfl) : DE X W (.Call (.Name "isinstance" p) [e, .Name n p2] [] pos) (tIsiD sn te) :=
  PEi (pe_callB call_isi hg hm PyProof.Rows.boot_isinstance (pa_cons he (pa_cons (pe_bltn (v := .ty sn) gn mn vn rfl nn nd) pa_nil h2) h1) (by decide) (by decide) h1 hpl) fun σ H Q ⟨C, en, Φ, Ψ, R0, h, hX, k⟩ => by
    refine ⟨C, en, _, Ψ, R0, h, hX, fun r en1 v H1 q R1 o1 s1 k1 n1 => ?_⟩
    cases ed : rd en1 r with
    | none => simp only [ed] at q
    | some d =>
      simp only [ed] at q
      exact ⟨v, .ty sn, _, _, _, rfl, .ty sn, (o1.sq R1 ed).ty, kit_ty (hk d), k _ en1 _ H1 q R1.dropX (.bl _) s1 k1 trivial⟩
theorem de_isi2 (hm : X.mg "isinstance" = none) (he : DE X W e te) (gn : Gl X n) (mn : X.mg n = none) (vn : bootBuiltins n = some (.type sn)) (hk : ∀ d, kitB (tyN d) sn = some (isD sn d))
    (gm : Gl X m) (mm' : X.mg m = none) (vm : bootBuiltins m = some (.type sm)) (hk2 : ∀ d, kitB (tyN d) sm = some (isD sm d))
    (hg : Gl X "isinstance" := by rfl) (nn : n ≠ "__name__" := by decide) (nd : (n == ("__debug__" : Str)) = false := by decide) (nn' : m ≠ "__name__" := by decide) (nd' : (m == ("__debug__" : Str)) = false := by decide) {x1 : _}
    (h1 : starEach [e, .Tuple [.Name n p2, .Name m p3] x1 p4] X.env = (false, eval e X.env) :: starEach [.Tuple [.Name n p2, .Name m p3] x1 p4] X.env := by rfl)
    (h2 : starEach [.Tuple [.Name n p2, .Name m p3] x1 p4] X.env = (false, eval (.Tuple [.Name n p2, .Name m p3] x1 p4) X.env) :: starEach [] X.env := by rfl)
    (h3 : starEach [.Name n p2, .Name m p3] X.env = (false, eval (.Name n p2) X.env) :: starEach [.Name m p3] X.env := by rfl) (h4 : starEach [.Name m p3] X.env = (false, eval (.Name m p3) X.env) :: starEach [] X.env := by rfl)
    (hpl : (backTo pos (starEach [.Tuple [.Name n p2, .Name m p3] x1 p4] X.env)).any (·.1) = false := by rfl) : DE X W (.Call (.Name "isinstance" p) [e, .Tuple [.Name n p2, .Name m p3] x1 p4] [] pos) (tIsi2D sn sm te) :=
  PEi (pe_callB call_isiT hg hm PyProof.Rows.boot_isinstance (pa_cons he (pa_cons (pe_tup (pa_cons (pe_bltn (v := .ty sn) gn mn vn rfl nn nd) (pa_cons (pe_bltn (v := .ty sm) gm mm' vm rfl nn' nd') pa_nil h4) h3)) pa_nil h2) h1) (by decide) (by decide) h1 hpl) fun σ H Q ⟨C, en, Φ, Ψ, R0, h, hX, k⟩ => by
    refine ⟨C, en, _, Ψ, R0, h, hX, fun r en1 v H1 q R1 o1 s1 k1 n1 => ?_⟩
    cases ed : rd en1 r with
    | none => simp only [ed] at q
    | some d =>
      simp only [ed] at q
      refine ⟨by show 2 ≤ sizeLine; decide, fun tp htp => ?_⟩
      have R2 := R1.dropX.grow (same_new (o := HO.tup [V.ty sn, V.ty sm]) htp)
      have ty : TyX X.K (upd H1 tp (.tup [V.ty sn, V.ty sm])) v (.type (tyN d)) := by
        have h0 := o1.sq R1 ed
        have lift : ∀ {d : D}, Sq X.K C en1 H1 v d → Sq X.K C en1 (upd H1 tp (.tup [V.ty sn, V.ty sm])) v d := fun {d} h => by
          have le : Le (mm C (oas en1)) H1 (mm C (oas en1)) (upd H1 tp (.tup [V.ty sn, V.ty sm])) := fun b u n q => ⟨n, same_new htp b u q⟩
          have sq : ∀ a xs, SqL X.K H1 a xs → SqL X.K (upd H1 tp (.tup [V.ty sn, V.ty sm])) a xs := fun a xs h => by
            rcases h with (h | ⟨o, h⟩) | h
            · exact .inl (.inl (same_new htp _ _ h))
            · exact .inl (.inr ⟨o, same_new htp _ _ h⟩)
            · exact .inr h
          have sq2 : ∀ a xs, SqT X.K H1 a xs → SqT X.K (upd H1 tp (.tup [V.ty sn, V.ty sm])) a xs := fun a xs h => by
            rcases h with (h | ⟨o, h⟩) | h
            · exact .inl (.inl (same_new htp _ _ h))
            · exact .inl (.inr ⟨o, same_new htp _ _ h⟩)
            · exact .inr h
          cases d with
          | lst ds => obtain ⟨a, vs, e1, e2, e3⟩ := h; exact ⟨a, vs, e1, sq _ _ e2, RpA.mono le _ _ e3⟩
          | tup ds => obtain ⟨a, vs, e1, e2, e3⟩ := h; exact ⟨a, vs, e1, sq2 _ _ e2, RpA.mono le _ _ e3⟩
          | dct t ks ds => obtain ⟨a, c, e1, e2, e3, e4⟩ := h; exact ⟨a, c, e1, e2.all (same_new htp _), e3, RpA.mono le _ _ e4⟩
          | non => exact Rp.mono le _ _ h
          | bl => exact Rp.mono le _ _ h
          | int => exact Rp.mono le _ _ h
          | str => exact Rp.mono le _ _ h
        exact (lift h0).ty
      have kk : PySem.W.kitAny X.K (.type (tyN d)) [.type sn, .type sm] = some (isD sn d || isD sm d) := by
        refine kitAny_cons (kit_ty (hk d)) (fun e => ?_) (fun e => by rw [e, Bool.true_or])
        rw [e, Bool.false_or]
        refine kitAny_cons (kit_ty (hk2 d)) (fun e => ?_) (fun e => e)
        rw [e]
        exact kitAny_nil
      exact ⟨v, tp, _, _, _, _, rfl, upd_same, .cons (.ty sn) (.cons (.ty sm) .nil), ty, kk, k _ en1 _ _ q R2 (.bl _) s1 (k1.trans s1 (Keep.same (same_new htp))) trivial⟩
end
theorem isD_dict : ∀ d, kitB (tyN d) "dict" = some (isD "dict" d) := by intro d; cases d <;> (dsimp only [tyN, isD]; decide +kernel)
theorem isD_list : ∀ d, kitB (tyN d) "list" = some (isD "list" d) := by intro d; cases d <;> (dsimp only [tyN, isD]; decide +kernel)
theorem isD_tuple : ∀ d, kitB (tyN d) "tuple" = some (isD "tuple" d) := by intro d; cases d <;> (dsimp only [tyN, isD]; decide +kernel)
theorem isD_bool : ∀ d, kitB (tyN d) "bool" = some (isD "bool" d) := by intro d; cases d <;> (dsimp only [tyN, isD]; decide +kernel)
theorem isD_str : ∀ d, kitB (tyN d) "str" = some (isD "str" d) := by intro d; cases d <;> (dsimp only [tyN, isD]; decide +kernel)
theorem isD_int : ∀ d, kitB (tyN d) "int" = some (isD "int" d) := by intro d; cases d <;> (dsimp only [tyN, isD]; decide +kernel)
/-! ### is None -/
def gIsN (f : Bool → Bool) : D → D → (Res → Prop) → Prop := fun x y Φ => match y with
  | .non => (match x with
    | .non => Φ (.val (.bl (f true)))
    | _ => Φ (.val (.bl (f false))))
  | _ => False
section
variable {X : Cx} {W : WX} {a b : Expr} {ta tb : TDe} {pos : Pos}
theorem sq_non {K : PySem.W.Frag} {C : Cc} {en : En} {H : Hp} {v : V} {d : D} (h : Sq K C en H v d) : decide (v = .non) = (match d with
    | .non => true
    | _ => false) := by
  cases d with
  | non => cases h; rfl
  | bl => cases h; rfl
  | int => cases h; rfl
  | str => cases h; rfl
  | lst => obtain ⟨a, _, rfl, _⟩ := h; rfl
  | tup => obtain ⟨a, _, rfl, _⟩ := h; rfl
  | dct => obtain ⟨a, _, rfl, _⟩ := h; rfl
theorem od_isN : OpD X (fun x y H Q => y = .non ∧ Q (.bl (decide (x = .non))) H) (gIsN id) := by
  intro C σ H en x y v w Φ Q R1 hx hy h k
  cases y <;> try exact (show False from h).elim
  cases hy
  refine ⟨rfl, ?_⟩
  rw [sq_non hx]
  cases x <;> exact k _ _ H h R1 (.bl _) (fun _ _ q => q) trivial
theorem od_notN : OpD X (fun x y H Q => y = .non ∧ Q (.bl (!decide (x = .non))) H) (gIsN not) := by
  intro C σ H en x y v w Φ Q R1 hx hy h k
  cases y <;> try exact (show False from h).elim
  cases hy
  refine ⟨rfl, ?_⟩
  rw [sq_non hx]
  cases x <;> exact k _ _ H h R1 (.bl _) (fun _ _ q => q) trivial
theorem de_isN (ha : DE X W a ta) (hb : DE X W b tb) : DE X W (.Compare a [.Is] [b] pos) (tOpD (gIsN id) ta tb) := de_cmp op_isN od_isN ha hb
theorem de_notN (ha : DE X W a ta) (hb : DE X W b tb) : DE X W (.Compare a [.IsNot] [b] pos) (tOpD (gIsN not) ta tb) := de_cmp op_notN od_notN ha hb
theorem dt_isN (ha : DE X W a ta) (hb : DE X W b tb) : DT X W (.Compare a [.Is] [b] pos) (tValD (tOpD (gIsN id) ta tb)) := dt_cmp op_isN od_isN ha hb
theorem dt_notN (ha : DE X W a ta) (hb : DE X W b tb) : DT X W (.Compare a [.IsNot] [b] pos) (tValD (tOpD (gIsN not) ta tb)) := dt_cmp op_notN od_notN ha hb
end
/-! ### never reached -/
def tNeverD : TDs := fun _ _ => False
theorem ds_never {X : Cx} {W : WX} {st : Stmt} : DS X W st tNeverD := PSi ps_never fun D σ H ⟨C, en, De, R1, h, k⟩ => h
end VS

namespace VS
open PySem L2 PySem.Spec PyProof.Rows

/-! ### comprehensions over zip -/
def tLcZ (ti : TDa) (tG : TDg) (tt : TDt) (te : TDe) (vs : List Nat) : TDe := fun Ψ en Φ => ti Ψ en fun rs en1 => match vls rs with
  | some [x, y] => ∃ ds es : List D, (x = .lst ds ∧ y = .lst es ∨ x = .tup ds ∧ y = .tup es) ∧ wipeD en1 vs = en1 ∧
      ∃ J : Nat → List D → En → Prop, J 0 [] en1 ∧ (∀ i d e acc en, ds[i]? = some d → es[i]? = some e → J i acc en → lcStep tG tt te vs (J (i + 1)) (.tup [d, e]) acc en) ∧ ∀ acc en2 p, J (min ds.length es.length) acc en2 → Φ (.own p (.lst acc)) en2
  | _ => False
theorem LcP.grow {K : PySem.W.Frag} {C : Cc} {σ : L2.St} {H1 H H' : Hp} {en1 : En} {vs : List Nat} {Dl : Addr} {J : List D → En → Prop} (P : LcP K C σ H1 en1 vs Dl J H) (e : Same H H') : LcP K C σ H1 en1 vs Dl J H' := by
  obtain ⟨acc, en, ws, R2, sh, hd, hr, j⟩ := P
  exact ⟨acc, en, ws, R2.grow e, sh, e _ _ hd, RpA.mono (fun b u n q => ⟨n, e b u q⟩) _ _ hr, j⟩
section
variable {X : Cx} {W : WX} {elt tg e1 e2 : Expr} {elts : List Expr} {kk : Nat} {tpos : Pos} {ifs : List Expr} {scope : Scope} {own : List (Str × Nat)} {p pos : Pos} {te : TDe} {tG : TDg} {tt : TDt} {S : List Nat} {tR : TDa}
theorem de_lcZ (hm : X.mg "zip" = none) (hc : X.calm = true) (hN : X.N.Nodup) (ha : DA X W [e1, e2] tR) (ok : BlkOk X.N X.env.scope scope own)
    (hg : ∀ (s : Shared) (H : Hp) (C : Addr) (cl : List (Str × Addr)) (fp : List Addr), DG (X.blk s H scope (compEnvC scope cl C X.env) fp) S (.Tuple elts kk tpos) tG) (ht : ∀ (s : Shared) (H : Hp) (C : Addr) (cl : List (Str × Addr)) (fp : List Addr), DTs (X.blk s H scope (compEnvC scope cl C X.env) fp) W0 ifs tt)
    (he : ∀ (s : Shared) (H : Hp) (C : Addr) (cl : List (Str × Addr)) (fp : List Addr), DE (X.blk s H scope (compEnvC scope cl C X.env) fp) W0 elt te) (hS : ∀ j, j ∈ S → j ∈ own.map (·.2) := by decide) (hG : Gl X "zip" := by rfl)
    (h1 : starEach [e1, e2] X.env = (false, eval e1 X.env) :: starEach [e2] X.env := by rfl) {p2 : Pos} (hpl : (backTo p2 (starEach [e2] X.env)).any (·.1) = false := by rfl) (hs : ∀ x, foldedSetIterable (.Call (.Name "zip" p) [e1, e2] [] p2) X.env x = pure x := by intro _; rfl) :
    DE X W (.ListComp elt [⟨.Tuple elts kk tpos, .Call (.Name "zip" p) [e1, e2] [] p2, ifs, 0⟩] scope pos) (tLcZ tR tG tt te (own.map (·.2))) :=
  PEi (pe_lc (g := lG X.K S tG) (tt := lT X.K W0 tt) (te := lE X.K W0 te) hc hN (RZ.pi_zipA hG hm ha h1 hpl) ok hg ht he hs) fun σ H Q ⟨C, en, Φ, Ψ, R0, hT, hX, k⟩ => by
  refine ⟨C, en, _, Ψ, R0, hT, hX, fun rs en1 ws H1 q R1 o1 s1 k1 _ => ?_⟩
  cases ev : vls rs with
  | none => simp only [ev] at q
  | some zs =>
    match zs, ev, q with
    | [], ev, q => simp only [ev] at q
    | [_], ev, q => simp only [ev] at q
    | _ :: _ :: _ :: _, ev, q => simp only [ev] at q
    | [x, y], ev, q =>
      simp only [ev] at q
      obtain ⟨ds, es, hxy, hw, J, j0, step, done⟩ := q
      have hr := o1.rp R1 ev
      have R1' := R1.dropA
      cases hr with
      | cons q1 q2 =>
        cases q2 with
        | cons q2 q3 =>
          cases q3
          have stood : ∀ {Hx : Hp} {ex : En} {Dl : Addr}, R X.K ((C.re en1 H1).add Dl) (L2.wipe σ (own.map (·.2))) Hx ex → H1 Dl = none → Le (mm C (oas en1)) H1 (mm ((C.re en1 H1).add Dl) (oas ex)) Hx := fun {Hx ex Dl} r hD b u n z => by
            obtain ⟨q1, q2⟩ := R1'.stood r.drop b u n z
            refine ⟨fun w => ?_, q2⟩
            rcases w with (w | w) | w
            · exact q1 (.inl w)
            · rw [w, hD] at z; cases z
            · exact q1 (.inr w)
          have fin : ∀ {Dl : Addr} {Hx : Hp}, H1 Dl = none → LcP X.K C σ H1 en1 (own.map (·.2)) Dl (J (min ds.length es.length)) Hx → Q (.ref Dl) Hx := fun {Dl Hx} hD P => by
            obtain ⟨acc, en2, z1, z2, z3, z4, z5⟩ := lc_end R1' hD hw P done
            exact k _ en2 _ Hx z1 z2 z3 (s1.trans z4) (k1.trans s1 z5) (k1.new s1 R1' hD)
          have turn : ∀ {Dl T : Addr} {Hx : Hp} {i : Nat} {d e : VS.D} {u v : V}, H1 Dl = none → LcP X.K C σ H1 en1 (own.map (·.2)) Dl (J i) Hx → Hx T = none → ds[i]? = some d → es[i]? = some e → Rp X.K (mm C (oas en1)) H1 u d → Rp X.K (mm C (oas en1)) H1 v e →
              lG X.K S tG (.ref T) (L2.wipe σ (own.map (·.2))) (upd Hx T (.tup [u, v])) fun σ2 H2 => L2.wipe σ2 (own.map (·.2)) = L2.wipe σ (own.map (·.2)) ∧ lT X.K W0 tt σ2 H2 fun b H3 =>
                if b = true then lE X.K W0 te σ2 H3 fun y H4 => ∃ acc, H4 Dl = some (.lst acc) ∧ acc.length < sizeLine ∧ LcP X.K C σ H1 en1 (own.map (·.2)) Dl (J (i + 1)) (upd H4 Dl (.lst (acc ++ [y]))) else LcP X.K C σ H1 en1 (own.map (·.2)) Dl (J (i + 1)) H3 :=
            fun {Dl T Hx i d e u v} hD P hT hd he ru rv => by
              obtain ⟨acc0, en0, ws0, R2, sh, hd0, hr0, j⟩ := P
              have P' : LcP X.K C σ H1 en1 (own.map (·.2)) Dl (fun a e => e = en0 ∧ J i a e) (upd Hx T (.tup [u, v])) := LcP.grow ⟨acc0, en0, ws0, R2, sh, hd0, hr0, rfl, j⟩ (same_new hT)
              refine lc_turn R1' hD hw hS P' (fun _ ex jx r => ?_) fun acc ex j => step i d e acc ex hd he j.2
              obtain ⟨rfl, _⟩ := jx
              refine .tup ⟨fun z => ?_, upd_same⟩ (.cons (Rp.mono (stood r hD) _ _ ru) (.cons (Rp.mono (stood r hD) _ _ rv) .nil))
              obtain ⟨u', z'⟩ := R2.mD z
              rw [hT] at z'; cases z'
          have len2 : ∀ {Hx : Hp} {ex : En} {Dl : Addr} {a : Addr} {xs : List V}, SLx X.K (mm C (oas en1)) H1 a xs → H1 Dl = none → R X.K ((C.re en1 H1).add Dl) (L2.wipe σ (own.map (·.2))) Hx ex → SqL X.K Hx a xs := fun h hD r => (h.mono (stood r hD)).sq
          have len3 : ∀ {Hx : Hp} {ex : En} {Dl : Addr} {a : Addr} {xs : List V}, STx X.K (mm C (oas en1)) H1 a xs → H1 Dl = none → R X.K ((C.re en1 H1).add Dl) (L2.wipe σ (own.map (·.2))) Hx ex → SqT X.K Hx a xs := fun h hD r => (h.mono (stood r hD)).sq
          rcases hxy with ⟨rfl, rfl⟩ | ⟨rfl, rfl⟩
          · cases q1 with
            | lst a1 a2 =>
              cases q2 with
              | lst b1 b2 =>
                rename_i a vs b ws'
                refine ⟨a, b, vs, ws', rfl, .inl ⟨a1.sq, b1.sq, fun Dl hD => ?_⟩⟩
                refine ⟨fun i m Hx => m + i = min ds.length es.length ∧ LcP X.K C σ H1 en1 (own.map (·.2)) Dl (J i) Hx, ⟨_, rfl, lc_start R1' hD hw j0⟩, fun i m Hx ⟨hm, P⟩ => ?_⟩
                have sA : SqL X.K Hx a vs := by obtain ⟨_, _, _, r, _⟩ := P; exact len2 a1 hD r
                have sB : SqL X.K Hx b ws' := by obtain ⟨_, _, _, r, _⟩ := P; exact len2 b1 hD r
                have l1 := a2.length
                have l2 := b2.length
                by_cases hi : i < min ds.length es.length
                · obtain ⟨u, eu, ru⟩ := a2.get (List.getElem?_eq_getElem (show i < ds.length by omega))
                  obtain ⟨v, ev', rv⟩ := b2.get (List.getElem?_eq_getElem (show i < es.length by omega))
                  refine .inr ⟨⟨vs, ws', u, v, sA, sB, eu, ev'⟩, fun H' => LcP X.K C σ H1 en1 (own.map (·.2)) Dl (J (i + 1)) H', fun H' P' => ⟨m - 1, by omega, by omega, P'⟩, ?_⟩
                  rintro x H' ⟨T, x1, x2, rfl, hT, rfl, f1, f2⟩
                  have g1 := f1 _ sA
                  have g2 := f2 _ sB
                  rw [eu] at g1; rw [ev'] at g2
                  cases g1; cases g2
                  exact turn hD P hT (List.getElem?_eq_getElem _) (List.getElem?_eq_getElem _) ru rv
                · have hi' : i = min ds.length es.length := by omega
                  subst hi'
                  exact .inl ⟨⟨vs, ws', sA, sB, by omega⟩, fin hD P⟩
          · cases q1 with
            | tup a1 a2 =>
              cases q2 with
              | tup b1 b2 =>
                rename_i a vs b ws'
                refine ⟨a, b, vs, ws', rfl, .inr ⟨a1.sq, b1.sq, fun Dl hD => ?_⟩⟩
                refine ⟨fun i m Hx => m + i = min ds.length es.length ∧ LcP X.K C σ H1 en1 (own.map (·.2)) Dl (J i) Hx, ⟨_, rfl, lc_start R1' hD hw j0⟩, fun i m Hx ⟨hm, P⟩ => ?_⟩
                have sA : SqT X.K Hx a vs := by obtain ⟨_, _, _, r, _⟩ := P; exact len3 a1 hD r
                have sB : SqT X.K Hx b ws' := by obtain ⟨_, _, _, r, _⟩ := P; exact len3 b1 hD r
                have l1 := a2.length
                have l2 := b2.length
                by_cases hi : i < min ds.length es.length
                · obtain ⟨u, eu, ru⟩ := a2.get (List.getElem?_eq_getElem (show i < ds.length by omega))
                  obtain ⟨v, ev', rv⟩ := b2.get (List.getElem?_eq_getElem (show i < es.length by omega))
                  refine .inr ⟨⟨vs, ws', u, v, sA, sB, eu, ev'⟩, fun H' => LcP X.K C σ H1 en1 (own.map (·.2)) Dl (J (i + 1)) H', fun H' P' => ⟨m - 1, by omega, by omega, P'⟩, ?_⟩
                  rintro x H' ⟨T, x1, x2, rfl, hT, rfl, f1, f2⟩
                  have g1 := f1 _ sA
                  have g2 := f2 _ sB
                  rw [eu] at g1; rw [ev'] at g2
                  cases g1; cases g2
                  exact turn hD P hT (List.getElem?_eq_getElem _) (List.getElem?_eq_getElem _) ru rv
                · have hi' : i = min ds.length es.length := by omega
                  subst hi'
                  exact .inl ⟨⟨vs, ws', sA, sB, by omega⟩, fin hD P⟩
end
/-! ### x in (ints) -/
def gInI : D → D → (Res → Prop) → Prop := fun x y Φ => match x, y with
  | .int i, .tup ds => ∃ ns : List Int, ds = ns.map D.int ∧ Φ (.val (.bl (ns.any fun n => n == i)))
  | .int i, .lst ds => ∃ ns : List Int, ds = ns.map D.int ∧ Φ (.val (.bl (ns.any fun n => n == i)))
  | _, _ => False
theorem flat_ints : ∀ ns : List Int, (ns.map V.int).all flatV = true
  | [] => rfl
  | n :: ns => by rw [List.map_cons, List.all_cons, flat_ints ns] <;> rfl
theorem inV_ints (i : Int) : ∀ ns : List Int, inV (.int i) (ns.map V.int) = ns.any fun n => n == i
  | [] => rfl
  | n :: ns => by
    have ih := inV_ints i ns
    unfold inV at ih ⊢
    rw [List.map_cons, List.any_cons, List.any_cons, ih]
    rfl
section
variable {X : Cx} {W : WX} {a b : Expr} {ta tb : TDe} {pos : Pos}
theorem od_in : OpD X (rIn X.K false) gInI := by
  intro C σ H en x y v w Φ Q R1 hx hy h k
  cases x <;> try exact (show False from h).elim
  cases hx
  cases y <;> try exact (show False from h).elim
  · obtain ⟨ns, rfl, h⟩ := h
    obtain ⟨a, vs, rfl, h1, h2⟩ := hy
    rw [RpA.ints ns h2] at h1
    refine ⟨a, _, rfl, .inr h1, rfl, flat_ints ns, ?_⟩
    rw [if_neg Bool.false_ne_true, inV_ints]
    exact k _ _ H h R1 (.bl _) (fun _ _ q => q) trivial
  · obtain ⟨ns, rfl, h⟩ := h
    obtain ⟨a, vs, rfl, h1, h2⟩ := hy
    rw [RpA.ints ns h2] at h1
    refine ⟨a, _, rfl, .inl h1, rfl, flat_ints ns, ?_⟩
    rw [if_neg Bool.false_ne_true, inV_ints]
    exact k _ _ H h R1 (.bl _) (fun _ _ q => q) trivial
theorem de_in (ha : DE X W a ta) (hb : DE X W b tb) (hm : behindInMarks .In b = false := by rfl) : DE X W (.Compare a [.In] [b] pos) (tOpD gInI ta tb) := de_cmp op_in_seq od_in ha hb hm
theorem dt_in (ha : DE X W a ta) (hb : DE X W b tb) (hm : behindInMarks .In b = false := by rfl) : DT X W (.Compare a [.In] [b] pos) (tValD (tOpD gInI ta tb)) := dt_cmp op_in_seq od_in ha hb hm
end
end VS

namespace VS
open PySem L2 PySem.Spec PyProof.Rows

theorem Sq.lift {K : PySem.W.Frag} {C : Cc} {en : En} {H H' : Hp} {v : V} {d : D} (h : Sq K C en H v d) (e : Same H H') : Sq K C en H' v d := by
  have le : Le (mm C (oas en)) H (mm C (oas en)) H' := fun b u n q => ⟨n, e b u q⟩
  have sq : ∀ a xs, SqL K H a xs → SqL K H' a xs := fun a xs h => by
    rcases h with (h | ⟨o, h⟩) | h
    · exact .inl (.inl (e _ _ h))
    · exact .inl (.inr ⟨o, e _ _ h⟩)
    · exact .inr h
  have sq2 : ∀ a xs, SqT K H a xs → SqT K H' a xs := fun a xs h => by
    rcases h with (h | ⟨o, h⟩) | h
    · exact .inl (.inl (e _ _ h))
    · exact .inl (.inr ⟨o, e _ _ h⟩)
    · exact .inr h
  cases d with
  | lst ds => obtain ⟨a, vs, e1, e2, e3⟩ := h; exact ⟨a, vs, e1, sq _ _ e2, RpA.mono le _ _ e3⟩
  | tup ds => obtain ⟨a, vs, e1, e2, e3⟩ := h; exact ⟨a, vs, e1, sq2 _ _ e2, RpA.mono le _ _ e3⟩
  | dct t ks ds => obtain ⟨a, c, e1, e2, e3, e4⟩ := h; exact ⟨a, c, e1, e2.all (e _), e3, RpA.mono le _ _ e4⟩
  | non => exact Rp.mono le _ _ h
  | bl => exact Rp.mono le _ _ h
  | int => exact Rp.mono le _ _ h
  | str => exact Rp.mono le _ _ h
def tIsiTD (c0 c1 : String) (te : TDe) : TDe := fun Ψ en Φ => te Ψ en fun r en1 => match rd en1 r with
  | some d => Φ (.val (.bl (isD c0 d || isD c1 d))) en1
  | none => False
theorem de_isiT2 {X : Cx} {W : WX} {e : Expr} {te : TDe} {p pos q0 q1 q4 : Pos} {n0 n1 : Str} {c0 c1 : String} {x1 : Nat} (hm : X.mg "isinstance" = none) (he : DE X W e te)
    (g0 : Gl X n0) (m0 : X.mg n0 = none) (v0 : bootBuiltins n0 = some (.type c0)) (y0 : ∀ d, kitB (tyN d) c0 = some (isD c0 d))
    (g1 : Gl X n1) (m1 : X.mg n1 = none) (v1 : bootBuiltins n1 = some (.type c1)) (y1 : ∀ d, kitB (tyN d) c1 = some (isD c1 d))
    (hg : Gl X "isinstance" := by rfl) (a0 : n0 ≠ "__name__" := by decide) (b0 : (n0 == ("__debug__" : Str)) = false := by decide) (a1 : n1 ≠ "__name__" := by decide) (b1 : (n1 == ("__debug__" : Str)) = false := by decide)
    (h1 : starEach [e, .Tuple [.Name n0 q0, .Name n1 q1] x1 q4] X.env = (false, eval e X.env) :: starEach [.Tuple [.Name n0 q0, .Name n1 q1] x1 q4] X.env := by rfl)
    (h2 : starEach [.Tuple [.Name n0 q0, .Name n1 q1] x1 q4] X.env = (false, eval (.Tuple [.Name n0 q0, .Name n1 q1] x1 q4) X.env) :: starEach [] X.env := by rfl)
    (w0 : starEach [.Name n0 q0, .Name n1 q1] X.env = (false, eval (.Name n0 q0) X.env) :: starEach [.Name n1 q1] X.env := by rfl) (w1 : starEach [.Name n1 q1] X.env = (false, eval (.Name n1 q1) X.env) :: starEach [] X.env := by rfl)
    (hpl : (backTo pos (starEach [.Tuple [.Name n0 q0, .Name n1 q1] x1 q4] X.env)).any (·.1) = false := by rfl) : DE X W (.Call (.Name "isinstance" p) [e, .Tuple [.Name n0 q0, .Name n1 q1] x1 q4] [] pos) (tIsiTD c0 c1 te) :=
  PEi (pe_callB call_isiT hg hm PyProof.Rows.boot_isinstance (pa_cons he (pa_cons (pe_tup (pa_cons (pe_bltn (v := .ty c0) g0 m0 v0 rfl a0 b0) (pa_cons (pe_bltn (v := .ty c1) g1 m1 v1 rfl a1 b1) pa_nil w1) w0)) pa_nil h2) h1) (by decide) (by decide) h1 hpl) fun σ H Q ⟨C, en, Φ, Ψ, R0, h, hX, k⟩ => by
    refine ⟨C, en, _, Ψ, R0, h, hX, fun r en1 v H1 q R1 o1 s1 k1 n1 => ?_⟩
    cases ed : rd en1 r with
    | none => simp only [ed] at q
    | some d =>
      simp only [ed] at q
      refine ⟨by show 2 ≤ sizeLine; decide, fun tp htp => ?_⟩
      have R2 := R1.dropX.grow (same_new (o := HO.tup [V.ty c0, V.ty c1]) htp)
      have ty : TyX X.K (upd H1 tp (.tup [V.ty c0, V.ty c1])) v (.type (tyN d)) := ((o1.sq R1 ed).lift (same_new htp)).ty
      have kk : PySem.W.kitAny X.K (.type (tyN d)) [.type c0, .type c1] = some ((isD c0 d || isD c1 d)) := by
        refine kitAny_cons (kit_ty (y0 d)) (fun e => ?_) (fun e => by rw [e, Bool.true_or])
        rw [e, Bool.false_or]
        refine kitAny_cons (kit_ty (y1 d)) (fun e => ?_) (fun e => e)
        rw [e]
        exact kitAny_nil
      exact ⟨v, tp, _, _, _, _, rfl, upd_same, (.cons (.ty c0) (.cons (.ty c1) .nil)), ty, kk, k _ en1 _ _ q R2 (.bl _) s1 (k1.trans s1 (Keep.same (same_new htp))) trivial⟩
def tIsi3D (c0 c1 c2 : String) (te : TDe) : TDe := fun Ψ en Φ => te Ψ en fun r en1 => match rd en1 r with
  | some d => Φ (.val (.bl (isD c0 d || (isD c1 d || isD c2 d)))) en1
  | none => False
theorem de_isi3 {X : Cx} {W : WX} {e : Expr} {te : TDe} {p pos q0 q1 q2 q4 : Pos} {n0 n1 n2 : Str} {c0 c1 c2 : String} {x1 : Nat} (hm : X.mg "isinstance" = none) (he : DE X W e te)
    (g0 : Gl X n0) (m0 : X.mg n0 = none) (v0 : bootBuiltins n0 = some (.type c0)) (y0 : ∀ d, kitB (tyN d) c0 = some (isD c0 d))
    (g1 : Gl X n1) (m1 : X.mg n1 = none) (v1 : bootBuiltins n1 = some (.type c1)) (y1 : ∀ d, kitB (tyN d) c1 = some (isD c1 d))
    (g2 : Gl X n2) (m2 : X.mg n2 = none) (v2 : bootBuiltins n2 = some (.type c2)) (y2 : ∀ d, kitB (tyN d) c2 = some (isD c2 d))
    (hg : Gl X "isinstance" := by rfl) (a0 : n0 ≠ "__name__" := by decide) (b0 : (n0 == ("__debug__" : Str)) = false := by decide) (a1 : n1 ≠ "__name__" := by decide) (b1 : (n1 == ("__debug__" : Str)) = false := by decide) (a2 : n2 ≠ "__name__" := by decide) (b2 : (n2 == ("__debug__" : Str)) = false := by decide)
    (h1 : starEach [e, .Tuple [.Name n0 q0, .Name n1 q1, .Name n2 q2] x1 q4] X.env = (false, eval e X.env) :: starEach [.Tuple [.Name n0 q0, .Name n1 q1, .Name n2 q2] x1 q4] X.env := by rfl)
    (h2 : starEach [.Tuple [.Name n0 q0, .Name n1 q1, .Name n2 q2] x1 q4] X.env = (false, eval (.Tuple [.Name n0 q0, .Name n1 q1, .Name n2 q2] x1 q4) X.env) :: starEach [] X.env := by rfl)
    (w0 : starEach [.Name n0 q0, .Name n1 q1, .Name n2 q2] X.env = (false, eval (.Name n0 q0) X.env) :: starEach [.Name n1 q1, .Name n2 q2] X.env := by rfl) (w1 : starEach [.Name n1 q1, .Name n2 q2] X.env = (false, eval (.Name n1 q1) X.env) :: starEach [.Name n2 q2] X.env := by rfl) (w2 : starEach [.Name n2 q2] X.env = (false, eval (.Name n2 q2) X.env) :: starEach [] X.env := by rfl)
    (hpl : (backTo pos (starEach [.Tuple [.Name n0 q0, .Name n1 q1, .Name n2 q2] x1 q4] X.env)).any (·.1) = false := by rfl) : DE X W (.Call (.Name "isinstance" p) [e, .Tuple [.Name n0 q0, .Name n1 q1, .Name n2 q2] x1 q4] [] pos) (tIsi3D c0 c1 c2 te) :=
  PEi (pe_callB call_isiT hg hm PyProof.Rows.boot_isinstance (pa_cons he (pa_cons (pe_tup (pa_cons (pe_bltn (v := .ty c0) g0 m0 v0 rfl a0 b0) (pa_cons (pe_bltn (v := .ty c1) g1 m1 v1 rfl a1 b1) (pa_cons (pe_bltn (v := .ty c2) g2 m2 v2 rfl a2 b2) pa_nil w2) w1) w0)) pa_nil h2) h1) (by decide) (by decide) h1 hpl) fun σ H Q ⟨C, en, Φ, Ψ, R0, h, hX, k⟩ => by
    refine ⟨C, en, _, Ψ, R0, h, hX, fun r en1 v H1 q R1 o1 s1 k1 n1 => ?_⟩
    cases ed : rd en1 r with
    | none => simp only [ed] at q
    | some d =>
      simp only [ed] at q
      refine ⟨by show 3 ≤ sizeLine; decide, fun tp htp => ?_⟩
      have R2 := R1.dropX.grow (same_new (o := HO.tup [V.ty c0, V.ty c1, V.ty c2]) htp)
      have ty : TyX X.K (upd H1 tp (.tup [V.ty c0, V.ty c1, V.ty c2])) v (.type (tyN d)) := ((o1.sq R1 ed).lift (same_new htp)).ty
      have kk : PySem.W.kitAny X.K (.type (tyN d)) [.type c0, .type c1, .type c2] = some ((isD c0 d || (isD c1 d || isD c2 d))) := by
        refine kitAny_cons (kit_ty (y0 d)) (fun e => ?_) (fun e => by rw [e, Bool.true_or])
        rw [e, Bool.false_or]
        refine kitAny_cons (kit_ty (y1 d)) (fun e => ?_) (fun e => by rw [e, Bool.true_or])
        rw [e, Bool.false_or]
        refine kitAny_cons (kit_ty (y2 d)) (fun e => ?_) (fun e => e)
        rw [e]
        exact kitAny_nil
      exact ⟨v, tp, _, _, _, _, rfl, upd_same, (.cons (.ty c0) (.cons (.ty c1) (.cons (.ty c2) .nil))), ty, kk, k _ en1 _ _ q R2 (.bl _) s1 (k1.trans s1 (Keep.same (same_new htp))) trivial⟩

/-! ### +, * whatever the sizes -/
def CMulA (i j : Int) : Prop := CMul i j ∨ CMulW i j
theorem op_mulA {X : Cx} : OpR X (binaryOp .Mult) (rI CMulA fun i j => .int (i * j)) := opI fun _ _ _ _ _ _ _ hc q => mul_int q (hc.elim CMul.ok CMulW.ok)
def gAdd : D → D → (Res → Prop) → Prop := fun x y Φ => match x, y with
  | .int i, .int j => Φ (.val (.int (i + j)))
  | .lst ds, .lst es => ds.length + es.length ≤ sizeLine ∧ ∀ p, Φ (.own p (.lst (ds ++ es)))
  | _, _ => False
theorem od_add {X : Cx} : OpD X (fun x y H Q => rI0 (fun i j => .int (i + j)) x y H Q ∨ rCatS X.K x y H Q) gAdd := by
  intro C σ H en x y v w Φ Q R1 hx hy h k
  cases x <;> cases y <;> try exact (show False from h).elim
  · exact .inl (od_I0 (X := X) (g := (· + ·)) C σ H en _ _ v w Φ Q R1 hx hy h k)
  · exact .inr (od_cat C σ H en _ _ v w Φ Q R1 hx hy h k)
section
variable {X : Cx} {W : WX} {a b c e : Expr} {ta tb tc te : TDe} {p pos p2 : Pos} {es : List Expr} {t : TDa}
theorem de_addA (ha : DE X W a ta) (hb : DE X W b tb) : DE X W (.BinOp a .Add b pos) (tOpD gAdd ta tb) := de_op (op_add.or op_catS) od_add ha hb
theorem de_mulA (ha : DE X W a ta) (hb : DE X W b tb) : DE X W (.BinOp a .Mult b pos) (tOpD (gII CMulA (· * ·)) ta tb) := de_op op_mulA od_II ha hb
theorem ca_tup : CaD X (fun xs H Q => ∃ p ys, xs = [.ref p] ∧ ((SqL X.K H p ys ∧ ∀ l, H l = none → Q (.ref l) (upd H l (.tup ys))) ∨ (SqT X.K H p ys ∧ Q (.ref p) H))) (fun xs Φ => match xs with
    | [.lst ds] => Φ (.val (.tup ds))
    | _ => False) := by
  intro C σ H en ds vs Φ Q R1 hs h k
  split at h
  · cases hs with
    | cons h1 h2 =>
      cases h2
      obtain ⟨a, ws, rfl, q1, q2⟩ := h1
      refine ⟨a, ws, rfl, .inl ⟨q1, fun l hl => ?_⟩⟩
      refine k _ _ _ h (R1.grow (same_new hl)) (.tup ⟨fun z => ?_, upd_same⟩ (RpA.mono (fun b u n q => ⟨n, same_new hl b u q⟩) _ _ q2)) (same_new hl) trivial
      obtain ⟨u, q⟩ := R1.mD z
      rw [hl] at q; cases q
  · exact h.elim
def gTupC : List D → (Res → Prop) → Prop := fun xs Φ => match xs with
    | [.lst ds] => Φ (.val (.tup ds))
    | _ => False
theorem de_tupc (hm : X.mg "tuple" = none) (ha : DA X W (e :: es) t) (hg : Gl X "tuple" := by rfl) (he : starEach (e :: es) X.env = (false, eval e X.env) :: starEach es X.env := by rfl) (hpl : (backTo pos (starEach es X.env)).any (·.1) = false := by rfl) :
    DE X W (.Call (.Name "tuple" p) (e :: es) [] pos) (tCaD gTupC t) := de_callTy call_tuple_of ca_tup hg hm (by decide +kernel) ha (by decide) (by decide) he hpl
end
/-! ### chains a < b < c of ints -/
def tChD (g h : Int → Int → Bool) (ta tb tc : TDe) : TDe := fun Ψ en Φ => ta Ψ en fun ra en1 => tb Ψ en1 fun rb en2 => match ra, rb with
  | .val (.int i), .val (.int j) => if g i j = true then tc Ψ en2 fun rc en3 => (match rc with
    | .val (.int k) => Φ (.val (.bl (h j k))) en3
    | _ => False) else Φ (.val (.bl false)) en2
  | _, _ => False
section
variable {X : Cx} {W : WX} {a b c : Expr} {ta tb tc : TDe} {pos : Pos} {op op' : CmpOp} {g h : Int → Int → Bool}
theorem chain_go {σ : L2.St} {H : Hp} {Q : VK} {K : PySem.W.Frag} (hh : lE K W (tChD g h ta tb tc) σ H Q) : tChain (rI0 fun i j => .bl (g i j)) (rI0 fun i j => .bl (h i j)) (lE K W ta) (lE K W tb) (lE K W tc) σ H Q := by
  obtain ⟨C, en, Φ, Ψ, R0, hT, hX, k⟩ := hh
  refine ⟨C, en, _, Ψ, R0, hT, hX, fun ra en1 v1 H1 h1 R1 o1 s1 k1 nn1 => ?_⟩
  refine ⟨C.ext ra, en1, _, Ψ, R1, h1, hX.ext, fun rb en2 v2 H2 h2 R2 o2 s2 k2 nn2 => ?_⟩
  split at h2
  · rename_i i j
    cases o1
    cases o2
    refine ⟨i, j, rfl, rfl, g i j, rfl, ?_⟩
    by_cases hg : g i j = true
    · rw [if_pos hg] at h2 ⊢
      refine ⟨C, en2, _, Ψ, R2, h2, hX, fun rc en3 v3 H3 h3 R3 o3 s3 k3 nn3 => ?_⟩
      split at h3
      · cases o3
        exact ⟨_, _, rfl, rfl, k _ en3 _ H3 h3 R3 (.bl _) ((s1.trans s2).trans s3) ((k1.trans s1 k2).trans (s1.trans s2) k3) trivial⟩
      · exact h3.elim
    · rw [if_neg hg] at h2 ⊢
      exact k _ en2 _ H2 h2 R2 (.bl _) (s1.trans s2) (k1.trans s1 k2) trivial
  · exact h2.elim
theorem de_chain (ho : OpR X (compareOp op) (rI0 fun i j => .bl (g i j))) (ho' : OpR X (compareOp op') (rI0 fun i j => .bl (h i j))) (ha : DE X W a ta) (hb : DE X W b tb) (hc : DE X W c tc)
    (hm : lastMarks [op, op'] [b, c] = false := by with_unfolding_all rfl) : DE X W (.Compare a [op, op'] [b, c] pos) (tChD g h ta tb tc) := PEi (pe_chain ho ho' ha hb hc hm) fun _ _ _ h => chain_go h
theorem dt_chain (ho : OpR X (compareOp op) (rI0 fun i j => .bl (g i j))) (ho' : OpR X (compareOp op') (rI0 fun i j => .bl (h i j))) (ha : DE X W a ta) (hb : DE X W b tb) (hc : DE X W c tc)
    (hm : lastMarks [op, op'] [b, c] = false := by with_unfolding_all rfl) : DT X W (.Compare a [op, op'] [b, c] pos) (tValD (tChD g h ta tb tc)) := PTi (pt_chain ho ho' ha hb hc hm) fun σ H Q hh => by
  obtain ⟨C, en, Φ, Ψ, R0, hT, hX, k⟩ := hh
  refine chain_go ⟨C, en, _, Ψ, R0, hT, hX, fun r en1 v1 H1 h1 R1 hold1 s1 k1 _ => ?_⟩
  cases r with
  | val d =>
    cases d <;> try exact (show False from h1).elim
    exact ⟨_, val_bl hold1, k _ en1 H1 h1 R1 s1 k1⟩
  | own => exact (show False from h1).elim
  | bor => exact (show False from h1).elim
end
/-! ### targets: a list's items; x = [.. for ..] -/
def tUnlG (n : Nat) (t : TDgs) : TDg := fun d en Φ => match d with
  | .lst ds => ds.length = n ∧ t ds en Φ
  | _ => False
section
variable {X : Cx} {S : List Nat} {tgs : List Expr} {u : TDgs} {pos : Pos}
theorem dg_unl {k n : Nat} (hc : X.calm = true) (h : DGs X S tgs u) (hn : (assignEach tgs X.env).length = n := by rfl) (hst : (assignEach tgs X.env).findIdx? (·.1) = none := by rfl) : DG X S (.Tuple tgs k pos) (tUnlG n u) :=
  PGi (pg_unl hc h hn hst) fun v σ H Q ⟨C, en, d, Φ, R1, hv, h, k⟩ => by
    cases d <;> try exact (show False from h).elim
    rename_i ds
    obtain ⟨hl, h⟩ := h
    cases hv with
    | lst h1 h2 => exact ⟨_, _, rfl, h1.sq, h2.length.trans hl, C, en, ds, Φ, R1, h2, h, k⟩
end
section
variable {X : Cx} {W : WX} {elt tg iter a : Expr} {ifs : List Expr} {scope : Scope} {own : List (Str × Nat)} {p pos spos : Pos} {ti te : TDe} {tG : TDg} {tt : TDt} {S : List Nat} {tR : TDa} {i : Nat} {y : Str} {py : Pos} {tl : TDe}
/-- the store of a comprehension's list: kept as it is (own), or let go (value) -/
theorem setD_go {t : TE} {Ds : Ends} {σ : L2.St} {H : Hp} (hl : ∀ σ H Q, lE X.K W tl σ H Q → t σ H Q) (h : lS X.K W (tSetD i tl) Ds σ H) : tAsg t (gName i) Ds σ H := by
  obtain ⟨C, en, De, R1, h, k⟩ := h
  refine hl _ _ _ ⟨C, en, _, De.ex, R1, h, k.x σ, fun r en' v H' q R' o' _ _ _ => ?_⟩
  cases r with
  | val d => exact k.nx _ _ H' q (R.setV R' o')
  | own a d =>
    obtain ⟨rfl, h1, h2, h3⟩ := o'
    exact k.nx _ _ H' q (R.setO R' h1 h2 h3)
  | bor i => exact (show False from q).elim
theorem setV_go {t : TE} {Ds : Ends} {σ : L2.St} {H : Hp} (hl : ∀ σ H Q, lE X.K W tl σ H Q → t σ H Q) (h : lS X.K W (tSetV i tl) Ds σ H) : tAsg t (gName i) Ds σ H := by
  obtain ⟨C, en, De, R1, h, k⟩ := h
  refine hl _ _ _ ⟨C, en, _, De.ex, R1, h, k.x σ, fun r en' v H' q R' o' _ _ _ => ?_⟩
  cases e : vl r with
  | none => simp only [e] at q
  | some d =>
    simp only [e] at q
    exact k.nx _ _ H' q (R'.dropX.setV (o'.rp R' e))
theorem ds_setDlcL (hc : X.calm = true) (hN : X.N.Nodup) (hy : X.N[i]? = some y) (hyl : X.env.scope.names.lookup y = some .local) (hsw : swapsWith (.ListComp elt [⟨tg, iter, ifs, 0⟩] scope pos) (some (.Name y py)) spos.line X.env = pure true) (hi : DE X W iter ti) (ok : BlkOk X.N X.env.scope scope own)
    (hg : ∀ (s : Shared) (H : Hp) (C : Addr) (cl : List (Str × Addr)) (fp : List Addr), DG (X.blk s H scope (compEnvC scope cl C X.env) fp) S tg tG) (ht : ∀ (s : Shared) (H : Hp) (C : Addr) (cl : List (Str × Addr)) (fp : List Addr), DTs (X.blk s H scope (compEnvC scope cl C X.env) fp) W0 ifs tt)
    (he : ∀ (s : Shared) (H : Hp) (C : Addr) (cl : List (Str × Addr)) (fp : List Addr), DE (X.blk s H scope (compEnvC scope cl C X.env) fp) W0 elt te) (hS : ∀ j, j ∈ S → j ∈ own.map (·.2) := by decide) (hs : ∀ x, foldedSetIterable iter X.env x = pure x := by intro _; rfl) :
    DS X W (.Assign [.Name y py] (.ListComp elt [⟨tg, iter, ifs, 0⟩] scope pos) spos) (tSetD i (tLcL ti tG tt te (own.map (·.2)))) :=
  PSi (ps_setLc (g := lG X.K S tG) (tt := lT X.K W0 tt) (te := lE X.K W0 te) hc hN hy hyl hsw (pi_list hi) ok hg ht he hs) fun Ds σ H h => setD_go (fun _ _ _ h => lcL_go hS h) h
theorem ds_setDlcT (hc : X.calm = true) (hN : X.N.Nodup) (hy : X.N[i]? = some y) (hyl : X.env.scope.names.lookup y = some .local) (hsw : swapsWith (.ListComp elt [⟨tg, iter, ifs, 0⟩] scope pos) (some (.Name y py)) spos.line X.env = pure true) (hi : DE X W iter ti) (ok : BlkOk X.N X.env.scope scope own)
    (hg : ∀ (s : Shared) (H : Hp) (C : Addr) (cl : List (Str × Addr)) (fp : List Addr), DG (X.blk s H scope (compEnvC scope cl C X.env) fp) S tg tG) (ht : ∀ (s : Shared) (H : Hp) (C : Addr) (cl : List (Str × Addr)) (fp : List Addr), DTs (X.blk s H scope (compEnvC scope cl C X.env) fp) W0 ifs tt)
    (he : ∀ (s : Shared) (H : Hp) (C : Addr) (cl : List (Str × Addr)) (fp : List Addr), DE (X.blk s H scope (compEnvC scope cl C X.env) fp) W0 elt te) (hS : ∀ j, j ∈ S → j ∈ own.map (·.2) := by decide) (hs : ∀ x, foldedSetIterable iter X.env x = pure x := by intro _; rfl) :
    DS X W (.Assign [.Name y py] (.ListComp elt [⟨tg, iter, ifs, 0⟩] scope pos) spos) (tSetD i (tLcT ti tG tt te (own.map (·.2)))) :=
  PSi (ps_setLc (g := lG X.K S tG) (tt := lT X.K W0 tt) (te := lE X.K W0 te) hc hN hy hyl hsw (pi_tup hi) ok hg ht he hs) fun Ds σ H h => setD_go (fun _ _ _ h => lcT_go hS h) h
theorem ds_setDlcR1 (hm : X.mg "range" = none) (hc : X.calm = true) (hN : X.N.Nodup) (hy : X.N[i]? = some y) (hyl : X.env.scope.names.lookup y = some .local) {p2 : Pos} (hsw : swapsWith (.ListComp elt [⟨tg, (.Call (.Name "range" p) [a] [] p2), ifs, 0⟩] scope pos) (some (.Name y py)) spos.line X.env = pure true) (ha : DA X W [a] tR) (ok : BlkOk X.N X.env.scope scope own)
    (hg : ∀ (s : Shared) (H : Hp) (C : Addr) (cl : List (Str × Addr)) (fp : List Addr), DG (X.blk s H scope (compEnvC scope cl C X.env) fp) S tg tG) (ht : ∀ (s : Shared) (H : Hp) (C : Addr) (cl : List (Str × Addr)) (fp : List Addr), DTs (X.blk s H scope (compEnvC scope cl C X.env) fp) W0 ifs tt)
    (he : ∀ (s : Shared) (H : Hp) (C : Addr) (cl : List (Str × Addr)) (fp : List Addr), DE (X.blk s H scope (compEnvC scope cl C X.env) fp) W0 elt te) (hS : ∀ j, j ∈ S → j ∈ own.map (·.2) := by decide) (hG : Gl X "range" := by rfl) (h1 : starEach [a] X.env = [(false, eval a X.env)] := by rfl) (hs : ∀ x, foldedSetIterable (.Call (.Name "range" p) [a] [] p2) X.env x = pure x := by intro _; rfl) :
    DS X W (.Assign [.Name y py] (.ListComp elt [⟨tg, (.Call (.Name "range" p) [a] [] p2), ifs, 0⟩] scope pos) spos) (tSetD i (tLcR1 tR tG tt te (own.map (·.2)))) :=
  PSi (ps_setLc (g := lG X.K S tG) (tt := lT X.K W0 tt) (te := lE X.K W0 te) hc hN hy hyl hsw (pi_range1 hG hm ha h1) ok hg ht he hs) fun Ds σ H h => setD_go (fun _ _ _ h => lcR1_go hS h) h
theorem ds_setVlcL (hc : X.calm = true) (hN : X.N.Nodup) (hy : X.N[i]? = some y) (hyl : X.env.scope.names.lookup y = some .local) (hsw : swapsWith (.ListComp elt [⟨tg, iter, ifs, 0⟩] scope pos) (some (.Name y py)) spos.line X.env = pure true) (hi : DE X W iter ti) (ok : BlkOk X.N X.env.scope scope own)
    (hg : ∀ (s : Shared) (H : Hp) (C : Addr) (cl : List (Str × Addr)) (fp : List Addr), DG (X.blk s H scope (compEnvC scope cl C X.env) fp) S tg tG) (ht : ∀ (s : Shared) (H : Hp) (C : Addr) (cl : List (Str × Addr)) (fp : List Addr), DTs (X.blk s H scope (compEnvC scope cl C X.env) fp) W0 ifs tt)
    (he : ∀ (s : Shared) (H : Hp) (C : Addr) (cl : List (Str × Addr)) (fp : List Addr), DE (X.blk s H scope (compEnvC scope cl C X.env) fp) W0 elt te) (hS : ∀ j, j ∈ S → j ∈ own.map (·.2) := by decide) (hs : ∀ x, foldedSetIterable iter X.env x = pure x := by intro _; rfl) :
    DS X W (.Assign [.Name y py] (.ListComp elt [⟨tg, iter, ifs, 0⟩] scope pos) spos) (tSetV i (tLcL ti tG tt te (own.map (·.2)))) :=
  PSi (ps_setLc (g := lG X.K S tG) (tt := lT X.K W0 tt) (te := lE X.K W0 te) hc hN hy hyl hsw (pi_list hi) ok hg ht he hs) fun Ds σ H h => setV_go (fun _ _ _ h => lcL_go hS h) h
theorem ds_setVlcT (hc : X.calm = true) (hN : X.N.Nodup) (hy : X.N[i]? = some y) (hyl : X.env.scope.names.lookup y = some .local) (hsw : swapsWith (.ListComp elt [⟨tg, iter, ifs, 0⟩] scope pos) (some (.Name y py)) spos.line X.env = pure true) (hi : DE X W iter ti) (ok : BlkOk X.N X.env.scope scope own)
    (hg : ∀ (s : Shared) (H : Hp) (C : Addr) (cl : List (Str × Addr)) (fp : List Addr), DG (X.blk s H scope (compEnvC scope cl C X.env) fp) S tg tG) (ht : ∀ (s : Shared) (H : Hp) (C : Addr) (cl : List (Str × Addr)) (fp : List Addr), DTs (X.blk s H scope (compEnvC scope cl C X.env) fp) W0 ifs tt)
    (he : ∀ (s : Shared) (H : Hp) (C : Addr) (cl : List (Str × Addr)) (fp : List Addr), DE (X.blk s H scope (compEnvC scope cl C X.env) fp) W0 elt te) (hS : ∀ j, j ∈ S → j ∈ own.map (·.2) := by decide) (hs : ∀ x, foldedSetIterable iter X.env x = pure x := by intro _; rfl) :
    DS X W (.Assign [.Name y py] (.ListComp elt [⟨tg, iter, ifs, 0⟩] scope pos) spos) (tSetV i (tLcT ti tG tt te (own.map (·.2)))) :=
  PSi (ps_setLc (g := lG X.K S tG) (tt := lT X.K W0 tt) (te := lE X.K W0 te) hc hN hy hyl hsw (pi_tup hi) ok hg ht he hs) fun Ds σ H h => setV_go (fun _ _ _ h => lcT_go hS h) h
theorem ds_setVlcR1 (hm : X.mg "range" = none) (hc : X.calm = true) (hN : X.N.Nodup) (hy : X.N[i]? = some y) (hyl : X.env.scope.names.lookup y = some .local) {p2 : Pos} (hsw : swapsWith (.ListComp elt [⟨tg, (.Call (.Name "range" p) [a] [] p2), ifs, 0⟩] scope pos) (some (.Name y py)) spos.line X.env = pure true) (ha : DA X W [a] tR) (ok : BlkOk X.N X.env.scope scope own)
    (hg : ∀ (s : Shared) (H : Hp) (C : Addr) (cl : List (Str × Addr)) (fp : List Addr), DG (X.blk s H scope (compEnvC scope cl C X.env) fp) S tg tG) (ht : ∀ (s : Shared) (H : Hp) (C : Addr) (cl : List (Str × Addr)) (fp : List Addr), DTs (X.blk s H scope (compEnvC scope cl C X.env) fp) W0 ifs tt)
    (he : ∀ (s : Shared) (H : Hp) (C : Addr) (cl : List (Str × Addr)) (fp : List Addr), DE (X.blk s H scope (compEnvC scope cl C X.env) fp) W0 elt te) (hS : ∀ j, j ∈ S → j ∈ own.map (·.2) := by decide) (hG : Gl X "range" := by rfl) (h1 : starEach [a] X.env = [(false, eval a X.env)] := by rfl) (hs : ∀ x, foldedSetIterable (.Call (.Name "range" p) [a] [] p2) X.env x = pure x := by intro _; rfl) :
    DS X W (.Assign [.Name y py] (.ListComp elt [⟨tg, (.Call (.Name "range" p) [a] [] p2), ifs, 0⟩] scope pos) spos) (tSetV i (tLcR1 tR tG tt te (own.map (·.2)))) :=
  PSi (ps_setLc (g := lG X.K S tG) (tt := lT X.K W0 tt) (te := lE X.K W0 te) hc hN hy hyl hsw (pi_range1 hG hm ha h1) ok hg ht he hs) fun Ds σ H h => setV_go (fun _ _ _ h => lcR1_go hS h) h
end
end VS

namespace VS
open PySem L2 PySem.Spec PyProof.Rows
abbrev q0 (sp : Spc) : Spc := fun a Φ _ => sp a Φ fun _ _ => False
/-- a def of the text that keeps its promise, as its callers want it -/
structure Cal (P : Program) (w : World) (K : PySem.W.Frag) (mg : Str → Option Value) (base : Heap) (CX : CXT) (k n : Nat) (sp : Spc) (x : Str) (f : Addr) (fd : FuncData) (ps : List Str) : Prop where
  F : FnOk P w K mg base CX k f fd ps (lSp K n sp)
  m : mg x = some (.ref f)
  kp : PySem.W.keepIn K (.ref f) = true
  b : Binds K fd ps []
section
variable {X : Cx} {W : WX} {j k n : Nat} {f : Addr} {fd : FuncData} {ps : List Str} {sp : Spc} {x : Str} {p pos : Pos} {e : Expr} {es : List Expr} {t : TDa}
theorem dc (G : Cal X.prog X.w X.K X.mg X.base CX0 j n sp x f fd ps) (hr : Room k X.A) (ha : DA X W (e :: es) t) (hj : j ≤ k := by decide) (hg : Gl X x := by rfl) (hdb : (x == ("__debug__" : Str)) = false := by decide)
    (he : starEach (e :: es) X.env = (false, eval e X.env) :: starEach es X.env := by rfl) (hpl : (backTo pos (starEach es X.env)).any (·.1) = false := by rfl) : DE X W (.Call (.Name x p) (e :: es) [] pos) (tCallD n (q0 sp) t) :=
  de_call G.F (hr.mono hj) hg G.m G.kp G.b ha hdb he hpl
theorem dcQ (G : Cal X.prog X.w X.K X.mg X.base (L2.CX X.prog X.w) j n sp x f fd ps) (hr : Room k X.A) (ha : DA X W (e :: es) t) (hj : j ≤ k := by decide) (hg : Gl X x := by rfl) (hdb : (x == ("__debug__" : Str)) = false := by decide)
    (he : starEach (e :: es) X.env = (false, eval e X.env) :: starEach es X.env := by rfl) (hpl : (backTo pos (starEach es X.env)).any (·.1) = false := by rfl) : DE X W (.Call (.Name x p) (e :: es) [] pos) (tCallD n (q0 sp) t) :=
  de_callQ G.F (hr.mono hj) hg G.m G.kp G.b ha hdb he hpl
theorem dcX (G : Cal X.prog X.w X.K X.mg X.base (L2.CX X.prog X.w) j n sp x f fd ps) (tk : Takes X W) (hr : Room k X.A) (ha : DA X W (e :: es) t) (hj : j ≤ k := by decide) (hg : Gl X x := by rfl) (hdb : (x == ("__debug__" : Str)) = false := by decide)
    (he : starEach (e :: es) X.env = (false, eval e X.env) :: starEach es X.env := by rfl) (hpl : (backTo pos (starEach es X.env)).any (·.1) = false := by rfl) : DE X W (.Call (.Name x p) (e :: es) [] pos) (tCallD n sp t) :=
  de_callX G.F (hr.mono hj) hg G.m G.kp G.b tk ha hdb he hpl
theorem dm_append {i : Nat} {o : Expr} {apos cpos : Pos} {tR : TDa} (ho : PE X o (tVar i)) (ha : DA X W (e :: es) tR) (hbase : attributeBase o "append" X.env (eval o X.env) = eval o X.env := by rfl)
    (hfew : ((backTo cpos (starEach (e :: es) X.env)).all (fun x => !x.1) && (backToKw cpos (keywordEach [] X.env)).all (fun x => x.1.isSome)
      && decide ((e :: es).length + ([] : List Keyword).length + (if ([] : List Keyword).isEmpty then 0 else 1) < 30)) = true := by rfl)
    (hline : (apos.endLine == cpos.line) = true := by rfl) (hs : starEach (e :: es) X.env = (false, eval e X.env) :: starEach es X.env := by rfl) (hplain : (backTo cpos (starEach es X.env)).any (·.1) = false := by rfl) :
    DE X W (.Call (.Attribute o "append" apos) (e :: es) [] cpos) (tMetD i mAppend tR) := de_met PySem.F.slot_list_append PySem.F.type_list_append mt_append me_append ho ha hbase hfew hline hs hplain
theorem dm_popAt {i : Nat} {o : Expr} {apos cpos : Pos} {tR : TDa} (ho : PE X o (tVar i)) (ha : DA X W (e :: es) tR) (hbase : attributeBase o "pop" X.env (eval o X.env) = eval o X.env := by rfl)
    (hfew : ((backTo cpos (starEach (e :: es) X.env)).all (fun x => !x.1) && (backToKw cpos (keywordEach [] X.env)).all (fun x => x.1.isSome)
      && decide ((e :: es).length + ([] : List Keyword).length + (if ([] : List Keyword).isEmpty then 0 else 1) < 30)) = true := by rfl)
    (hline : (apos.endLine == cpos.line) = true := by rfl) (hs : starEach (e :: es) X.env = (false, eval e X.env) :: starEach es X.env := by rfl) (hplain : (backTo cpos (starEach es X.env)).any (·.1) = false := by rfl) :
    DE X W (.Call (.Attribute o "pop" apos) (e :: es) [] cpos) (tMetD i mPopAt tR) := de_met PySem.F.slot_list_pop PySem.F.type_list_pop mt_popAt me_popAt ho ha hbase hfew hline hs hplain
theorem dm_insert {i : Nat} {o : Expr} {apos cpos : Pos} {tR : TDa} (ho : PE X o (tVar i)) (ha : DA X W (e :: es) tR) (hbase : attributeBase o "insert" X.env (eval o X.env) = eval o X.env := by rfl)
    (hfew : ((backTo cpos (starEach (e :: es) X.env)).all (fun x => !x.1) && (backToKw cpos (keywordEach [] X.env)).all (fun x => x.1.isSome)
      && decide ((e :: es).length + ([] : List Keyword).length + (if ([] : List Keyword).isEmpty then 0 else 1) < 30)) = true := by rfl)
    (hline : (apos.endLine == cpos.line) = true := by rfl) (hs : starEach (e :: es) X.env = (false, eval e X.env) :: starEach es X.env := by rfl) (hplain : (backTo cpos (starEach es X.env)).any (·.1) = false := by rfl) :
    DE X W (.Call (.Attribute o "insert" apos) (e :: es) [] cpos) (tMetD i mInsert tR) := de_met PySem.F.slot_list_insert PySem.F.type_list_insert mt_insert me_insert ho ha hbase hfew hline hs hplain
theorem dm_pop {i : Nat} {o : Expr} {apos cpos : Pos} (ho : PE X o (tVar i)) (hbase : attributeBase o "pop" X.env (eval o X.env) = eval o X.env := by rfl) (hline : (apos.endLine == cpos.line) = true := by rfl) :
    DE X W (.Call (.Attribute o "pop" apos) [] [] cpos) (tMetD i mPop tNilD) := de_met0 PySem.F.slot_list_pop PySem.F.type_list_pop mt_pop me_pop ho hbase hline
theorem dm_reverse {i : Nat} {o : Expr} {apos cpos : Pos} (ho : PE X o (tVar i)) (hbase : attributeBase o "reverse" X.env (eval o X.env) = eval o X.env := by rfl) (hline : (apos.endLine == cpos.line) = true := by rfl) :
    DE X W (.Call (.Attribute o "reverse" apos) [] [] cpos) (tMetD i mReverse tNilD) := de_met0 PySem.F.slot_list_reverse PySem.F.type_list_reverse mt_reverse me_reverse ho hbase hline
end
end VS

namespace VS
open PySem L2 PySem.Spec PyProof.Rows
/-! ### plain facts for the readings -/
theorem atI0 {α : Type} (x : α) (xs : List α) : atI (x :: xs) 0 = some x := atI_nat (j := 0) rfl
theorem atI1 {α : Type} (x y : α) (xs : List α) : atI (x :: y :: xs) 1 = some y := atI_nat (j := 1) rfl
theorem atI2 {α : Type} (x y z : α) (xs : List α) : atI (x :: y :: z :: xs) 2 = some z := atI_nat (j := 2) rfl
theorem atI3 {α : Type} (x y z u : α) (xs : List α) : atI (x :: y :: z :: u :: xs) 3 = some u := atI_nat (j := 3) rfl
theorem atI4 {α : Type} (x y z u v : α) (xs : List α) : atI (x :: y :: z :: u :: v :: xs) 4 = some v := atI_nat (j := 4) rfl
theorem ixN51 : ixN 5 1 = some 1 := by decide
theorem ixN52 : ixN 5 2 = some 2 := by decide
theorem ixN53 : ixN 5 3 = some 3 := by decide
theorem ixN54 : ixN 5 4 = some 4 := by decide
theorem atI_int {α : Type} {xs : List α} {i : Int} {v : α} (h0 : 0 ≤ i) (h : xs[i.toNat]? = some v) : atI xs i = some v := by
  have e : i = (i.toNat : Int) := by omega
  rw [e]
  exact atI_nat h
theorem atI_neg1 {α : Type} {xs : List α} {v : α} (h : xs[xs.length - 1]? = some v) : atI xs (-1) = some v := by
  have hl := (List.getElem?_eq_some_iff.mp h).1
  unfold atI ixN
  rw [if_neg (by omega), if_pos (by omega)]
  have : (-1 + (xs.length : Int)).toNat = xs.length - 1 := by omega
  simp only [Option.bind_some, this, h]
theorem mulR {i j : Int} (h1 : -(2 ^ 64) < j) (h2 : j < 2 ^ 64) : CMulA i j := .inl (.inr ⟨h1, h2⟩)
theorem mulL {i j : Int} (h1 : -(2 ^ 64) < i) (h2 : i < 2 ^ 64) : CMulA i j := .inl (.inl ⟨h1, h2⟩)
theorem mulB {i j : Int} (a b : Nat) (ha : i.natAbs < 2 ^ a) (hb : j.natAbs < 2 ^ b) (h0 : 0 < a := by decide) (h1 : 0 < b := by decide) (h : a + b ≤ 1000000 := by decide) : CMulA i j := .inr (wide_mul ha hb h0 h1 h)
theorem divB {i j : Int} (h : 0 < j) (hb : j < 2 ^ 63) : CDivW i j := wide_div (b := 63) h (by omega) (by decide) (by decide)
theorem pow3 {i : Int} (h : i.natAbs < 2 ^ 64) : CPow i 3 := ⟨by decide, by decide, h⟩
theorem pow1018 : CPow 10 18 := ⟨by decide, by decide, by decide⟩
theorem get_map {α β : Type} {f : α → β} {xs : List α} {i : Nat} {d : β} (h : (xs.map f)[i]? = some d) : ∃ x, xs[i]? = some x ∧ d = f x := by
  rw [List.getElem?_map] at h
  cases e : xs[i]? with
  | none => rw [e] at h; cases h
  | some x => rw [e] at h; exact ⟨x, rfl, (Option.some.inj h).symm⟩
def cutG {α : Type} (xs : List α) (lo hi : Option Int) : List α := (xs.drop (HT.sIx xs.length 0 lo)).take (HT.sIx xs.length xs.length hi - HT.sIx xs.length 0 lo)
theorem cut_map {α : Type} (f : α → D) (xs : List α) (lo hi : Option Int) : cutD (xs.map f) lo hi = (cutG xs lo hi).map f := by
  unfold cutD cutG
  rw [List.length_map, List.map_take, List.map_drop]
theorem cutG_len {α : Type} (xs : List α) (lo hi : Option Int) : (cutG xs lo hi).length ≤ xs.length := by
  unfold cutG
  rw [List.length_take, List.length_drop]
  omega
theorem sz1000 {n : Nat} (h : n ≤ 1000000) : n ≤ sizeLine := Nat.le_trans h (by decide)
theorem sz1001 {n : Nat} (h : n ≤ 1000000) : n < sizeLine := Nat.lt_of_le_of_lt h (by decide)
abbrev XN : Xc → List D → Prop := fun _ _ => False
/-! ### the law's bag -/
def bagD (ns : List Int) (i b m c : Int) : D := .lst [.lst (ns.map D.int), .int i, .int b, .int m, .int c]
def BagOk (d : D) : Prop := ∃ ns i b m c, d = bagD ns i b m c ∧ 0 ≤ i ∧ 0 ≤ b ∧ 0 ≤ m ∧ m < 2147483648
def sp__law_bag : Spc := fun args Φ _ => ∃ ns : List Int, args = [.val (.lst (ns.map D.int))] ∧ ∀ p d, BagOk d → Φ (.own p d) []
def sp__law_draw : Spc := fun args Φ _ => ∃ a d size, args = [.own a d, .val (.int size)] ∧ BagOk d ∧ 0 < size ∧ size < 2 ^ 62 ∧ ∀ k d', 0 ≤ k → k < size → BagOk d' → Φ (.val (.int k)) [d']
def sp__law_of : Spc := fun args Φ _ => ∃ a d ds, args = [.own a d, .val (.lst ds)] ∧ BagOk d ∧ ds ≠ [] ∧ ds.length < 2 ^ 62 ∧ ∀ x d', x ∈ ds → BagOk d' → Φ (.val x) [d']
/-! ### what compares as itself -/
mutual
def okD : D → Bool
  | .non => true
  | .bl _ => true
  | .int _ => true
  | .str x => SeqAt.shaped (.str x)
  | .tup xs => okDs xs && decide (xs.length ≤ 1000000)
  | .lst xs => okDs xs && decide (xs.length ≤ 1000000)
  | .dct _ _ _ => false
def okDs : List D → Bool
  | [] => true
  | d :: ds => okD d && okDs ds
end
mutual
def depD : D → Nat
  | .tup xs => depDs xs + 1
  | .lst xs => depDs xs + 1
  | _ => 0
def depDs : List D → Nat
  | [] => 0
  | d :: ds => max (depD d) (depDs ds)
end
/-- _law_like(d, d), n deep at most -/
def sp__law_like (n : Nat) : Spc := fun args Φ _ => ∃ d, args = [.val d, .val d] ∧ okD d = true ∧ depD d ≤ n ∧ Φ (.val (.bl true)) []
/-- what it promises of its own call, one level down -/
def spL__law_like : Nat → Spc
  | 0 => fun _ _ _ => False
  | n + 1 => sp__law_like n
theorem okDs_get : ∀ {ds : List D} {i : Nat} {d : D}, okDs ds = true → ds[i]? = some d → okD d = true
  | [], _, _, _, h => by simp at h
  | x :: r, 0, d, h, e => by
    simp only [List.getElem?_cons_zero, Option.some.injEq] at e
    subst e
    simp only [okDs, Bool.and_eq_true] at h
    exact h.1
  | x :: r, i + 1, d, h, e => by
    simp only [okDs, Bool.and_eq_true] at h
    exact okDs_get h.2 (by simpa using e)
theorem depDs_get : ∀ {ds : List D} {i : Nat} {d : D}, ds[i]? = some d → depD d ≤ depDs ds
  | [], _, _, h => by simp at h
  | x :: r, 0, d, e => by
    simp only [List.getElem?_cons_zero, Option.some.injEq] at e
    subst e
    simp only [depDs]
    omega
  | x :: r, i + 1, d, e => by
    have := depDs_get (ds := r) (i := i) (by simpa using e)
    simp only [depDs]
    omega
theorem okDs_map {α : Type} {f : α → D} {xs : List α} (h : ∀ x ∈ xs, okD (f x) = true) : okDs (xs.map f) = true := by
  induction xs with
  | nil => rfl
  | cons x r ih => simp only [List.map_cons, okDs, Bool.and_eq_true]; exact ⟨h x List.mem_cons_self, ih fun y hy => h y (List.mem_cons_of_mem _ hy)⟩
theorem depDs_map {α : Type} {f : α → D} {xs : List α} {n : Nat} (h : ∀ x ∈ xs, depD (f x) ≤ n) : depDs (xs.map f) ≤ n := by
  induction xs with
  | nil => exact Nat.zero_le _
  | cons x r ih =>
    have h1 := h x List.mem_cons_self
    have h2 := ih fun y hy => h y (List.mem_cons_of_mem _ hy)
    simp only [List.map_cons, depDs]
    omega
end VS

namespace VS
open PySem L2 PySem.Spec PyProof.Rows
/-! ### loops ahead of a rest: the invariant first, the text after -/
section
variable {ta : TDe} {ts : TDa} {tg : TDg} {tb u : TDs} {De : Ed} {en en1 : En} {n lo : Int} {ds : List D}
theorem forR1_i (J : Nat → En → Prop) (hta : ∀ Φ : List Res → En → Prop, Φ [.val (.int n)] en1 → ts De.ex en Φ) (l1 : -(2 ^ 62) ≤ n) (l2 : n < 2 ^ 62) (j0 : J 0 en1)
    (step : ∀ (i : Nat) en, (i : Int) < n → J i en → tg (.int i) en fun en2 => tb { De with nx := J (i + 1), ct := J (i + 1), bk := De.nx } en2) (fin : ∀ en, J n.toNat en → De.nx en) : tForR1 ts tg tb De en :=
  hta _ ⟨l1, l2, J, j0, step, fin⟩
theorem forR1_w (Pn : Int → En → Prop) (J : Nat → En → Prop) (hta : ∀ Φ : List Res → En → Prop, (∀ n en1, Pn n en1 → Φ [.val (.int n)] en1) → ts De.ex en Φ) (hb : ∀ n en1, Pn n en1 → -(2 ^ 62) ≤ n ∧ n < 2 ^ 62) (j0 : ∀ n en1, Pn n en1 → J 0 en1)
    (step : ∀ (n : Int) (e1 : En) (i : Nat) (en : En), Pn n e1 → (i : Int) < n → J i en → tg (.int i) en fun en2 => tb { De with nx := J (i + 1), ct := J (i + 1), bk := De.nx } en2) (fin : ∀ n e1 en, Pn n e1 → J n.toNat en → De.nx en) : tForR1 ts tg tb De en :=
  hta _ fun n en1 hP => ⟨(hb n en1 hP).1, (hb n en1 hP).2, J, j0 n en1 hP, fun i en hi hj => step n en1 i en hP hi hj, fun en hj => fin n en1 en hP hj⟩
theorem forR2_i (J : Nat → En → Prop) (hta : ∀ Φ : List Res → En → Prop, Φ [.val (.int lo), .val (.int n)] en1 → ts De.ex en Φ) (l1 : -(2 ^ 62) ≤ lo) (l2 : lo < 2 ^ 62) (l3 : -(2 ^ 62) ≤ n) (l4 : n < 2 ^ 62) (j0 : J 0 en1)
    (step : ∀ (i : Nat) en, lo + (i : Int) < n → J i en → tg (.int (lo + i)) en fun en2 => tb { De with nx := J (i + 1), ct := J (i + 1), bk := De.nx } en2) (fin : ∀ en, J (n - lo).toNat en → De.nx en) : tForR2 ts tg tb De en :=
  hta _ ⟨l1, l2, l3, l4, J, j0, step, fin⟩
theorem forL_i (J : Nat → En → Prop) (hta : ∀ Φ : Res → En → Prop, Φ (.val (.lst ds)) en1 → ta De.ex en Φ) (j0 : J 0 en1)
    (step : ∀ (i : Nat) d en, ds[i]? = some d → J i en → tg d en fun en2 => tb { De with nx := J (i + 1), ct := J (i + 1), bk := De.nx } en2) (fin : ∀ en, J ds.length en → De.nx en) : tForLD ta tg tb De en :=
  hta _ ⟨J, j0, step, fin⟩
theorem forLo_i (J : Nat → En → Prop) (hta : ∀ Φ : Res → En → Prop, (∀ p, Φ (.own p (.lst ds)) en1) → ta De.ex en Φ) (j0 : J 0 en1)
    (step : ∀ (i : Nat) d en, ds[i]? = some d → J i en → tg d en fun en2 => tb { De with nx := J (i + 1), ct := J (i + 1), bk := De.nx } en2) (fin : ∀ en, J ds.length en → De.nx en) : tForLD ta tg tb De en :=
  hta _ fun _ => ⟨J, j0, step, fin⟩
theorem forT_i (J : Nat → En → Prop) (hta : ∀ Φ : Res → En → Prop, Φ (.val (.tup ds)) en1 → ta De.ex en Φ) (j0 : J 0 en1)
    (step : ∀ (i : Nat) d en, ds[i]? = some d → J i en → tg d en fun en2 => tb { De with nx := J (i + 1), ct := J (i + 1), bk := De.nx } en2) (fin : ∀ en, J ds.length en → De.nx en) : tForTD ta tg tb De en :=
  hta _ ⟨J, j0, step, fin⟩
end
section
variable {ti : TDe} {ts : TDa} {tG : TDg} {tt : TDt} {te : TDe} {vs : List Nat} {Ψ : Px} {en en1 : En} {Φ : Res → En → Prop} {n : Int} {ds : List D}
theorem lcL_i (J : Nat → List D → En → Prop) (hti : ∀ Φ : Res → En → Prop, Φ (.val (.lst ds)) en1 → ti Ψ en Φ) (hw : wipeD en1 vs = en1) (j0 : J 0 [] en1)
    (step : ∀ i d acc en, ds[i]? = some d → J i acc en → lcStep tG tt te vs (J (i + 1)) d acc en) (fin : ∀ acc en2 p, J ds.length acc en2 → Φ (.own p (.lst acc)) en2) : tLcL ti tG tt te vs Ψ en Φ :=
  hti _ ⟨hw, J, j0, step, fin⟩
theorem lcT_i (J : Nat → List D → En → Prop) (hti : ∀ Φ : Res → En → Prop, Φ (.val (.tup ds)) en1 → ti Ψ en Φ) (hw : wipeD en1 vs = en1) (j0 : J 0 [] en1)
    (step : ∀ i d acc en, ds[i]? = some d → J i acc en → lcStep tG tt te vs (J (i + 1)) d acc en) (fin : ∀ acc en2 p, J ds.length acc en2 → Φ (.own p (.lst acc)) en2) : tLcT ti tG tt te vs Ψ en Φ :=
  hti _ ⟨hw, J, j0, step, fin⟩
theorem lcR1_i (J : Nat → List D → En → Prop) (hti : ∀ Φ : List Res → En → Prop, Φ [.val (.int n)] en1 → ts Ψ en Φ) (l1 : -(2 ^ 62) ≤ n) (l2 : n < 2 ^ 62) (hw : wipeD en1 vs = en1) (j0 : J 0 [] en1)
    (step : ∀ (i : Nat) acc en, (i : Int) < n → J i acc en → lcStep tG tt te vs (J (i + 1)) (.int i) acc en) (fin : ∀ acc en2 p, J n.toNat acc en2 → Φ (.own p (.lst acc)) en2) : tLcR1 ts tG tt te vs Ψ en Φ :=
  hti _ ⟨l1, l2, hw, J, j0, step, fin⟩
/-- a comprehension without a test whose elements are read off one by one -/
theorem lcL_map {f : D → D} (hl : ds.length ≤ 1000000) (hti : ∀ Φ : Res → En → Prop, Φ (.val (.lst ds)) en → ti Ψ en Φ) (hw : wipeD en vs = en)
    (step : ∀ d acc (J : List D → En → Prop), d ∈ ds → acc.length < sizeLine → J (acc ++ [f d]) en → lcStep tG tt te vs J d acc en) (fin : ∀ p, Φ (.own p (.lst (ds.map f))) en) : tLcL ti tG tt te vs Ψ en Φ :=
  lcL_i (fun i acc e => e = en ∧ acc = (ds.take i).map f) hti hw ⟨rfl, rfl⟩ (fun i d acc e hd ⟨h1, h2⟩ => by
    subst h1 h2
    have hi := (List.getElem?_eq_some_iff.mp hd).1
    refine step d _ _ (List.mem_of_getElem? hd) (sz1001 (by rw [List.length_map, List.length_take]; omega)) ⟨rfl, ?_⟩
    rw [List.take_succ, hd]
    simp) (fun acc e p ⟨h1, h2⟩ => by subst h1 h2; rw [List.take_length]; exact fin p)
theorem lcR1_map {f : Nat → D} {m : Nat} (hl : m ≤ 1000000) (hti : ∀ Φ : List Res → En → Prop, Φ [.val (.int m)] en → ts Ψ en Φ) (hw : wipeD en vs = en)
    (step : ∀ i acc (J : List D → En → Prop), i < m → acc.length < sizeLine → J (acc ++ [f i]) en → lcStep tG tt te vs J (.int i) acc en) (fin : ∀ p, Φ (.own p (.lst ((List.range m).map f))) en) : tLcR1 ts tG tt te vs Ψ en Φ :=
  lcR1_i (fun i acc e => e = en ∧ acc = (List.range i).map f) hti (by omega) (by omega) hw ⟨rfl, rfl⟩ (fun i acc e hi ⟨h1, h2⟩ => by
    subst h1 h2
    refine step i _ _ (by omega) (sz1001 (by rw [List.length_map, List.length_range]; omega)) ⟨rfl, ?_⟩
    rw [List.range_succ]
    simp) (fun acc e p ⟨h1, h2⟩ => by subst h1 h2; exact fin p)
end
/-! ### isinstance of each kind -/
theorem isT_dict_non : isD "dict" .non = false := by dsimp only [isD, tyN]; decide +kernel
theorem isT_dict_bl (b : Bool) : isD "dict" (.bl b) = false := by dsimp only [isD, tyN]; decide +kernel
theorem isT_dict_int (i : Int) : isD "dict" (.int i) = false := by dsimp only [isD, tyN]; decide +kernel
theorem isT_dict_str (x : Str) : isD "dict" (.str x) = false := by dsimp only [isD, tyN]; decide +kernel
theorem isT_dict_tup (ds : List D) : isD "dict" (.tup ds) = false := by dsimp only [isD, tyN]; decide +kernel
theorem isT_dict_lst (ds : List D) : isD "dict" (.lst ds) = false := by dsimp only [isD, tyN]; decide +kernel
theorem isT_list_non : isD "list" .non = false := by dsimp only [isD, tyN]; decide +kernel
theorem isT_list_bl (b : Bool) : isD "list" (.bl b) = false := by dsimp only [isD, tyN]; decide +kernel
theorem isT_list_int (i : Int) : isD "list" (.int i) = false := by dsimp only [isD, tyN]; decide +kernel
theorem isT_list_str (x : Str) : isD "list" (.str x) = false := by dsimp only [isD, tyN]; decide +kernel
theorem isT_list_tup (ds : List D) : isD "list" (.tup ds) = false := by dsimp only [isD, tyN]; decide +kernel
theorem isT_list_lst (ds : List D) : isD "list" (.lst ds) = true := by dsimp only [isD, tyN]; decide +kernel
theorem isT_tuple_non : isD "tuple" .non = false := by dsimp only [isD, tyN]; decide +kernel
theorem isT_tuple_bl (b : Bool) : isD "tuple" (.bl b) = false := by dsimp only [isD, tyN]; decide +kernel
theorem isT_tuple_int (i : Int) : isD "tuple" (.int i) = false := by dsimp only [isD, tyN]; decide +kernel
theorem isT_tuple_str (x : Str) : isD "tuple" (.str x) = false := by dsimp only [isD, tyN]; decide +kernel
theorem isT_tuple_tup (ds : List D) : isD "tuple" (.tup ds) = true := by dsimp only [isD, tyN]; decide +kernel
theorem isT_tuple_lst (ds : List D) : isD "tuple" (.lst ds) = false := by dsimp only [isD, tyN]; decide +kernel
theorem isT_bool_non : isD "bool" .non = false := by dsimp only [isD, tyN]; decide +kernel
theorem isT_bool_bl (b : Bool) : isD "bool" (.bl b) = true := by dsimp only [isD, tyN]; decide +kernel
theorem isT_bool_int (i : Int) : isD "bool" (.int i) = false := by dsimp only [isD, tyN]; decide +kernel
theorem isT_bool_str (x : Str) : isD "bool" (.str x) = false := by dsimp only [isD, tyN]; decide +kernel
theorem isT_bool_tup (ds : List D) : isD "bool" (.tup ds) = false := by dsimp only [isD, tyN]; decide +kernel
theorem isT_bool_lst (ds : List D) : isD "bool" (.lst ds) = false := by dsimp only [isD, tyN]; decide +kernel
theorem isT_str_non : isD "str" .non = false := by dsimp only [isD, tyN]; decide +kernel
theorem isT_str_bl (b : Bool) : isD "str" (.bl b) = false := by dsimp only [isD, tyN]; decide +kernel
theorem isT_str_int (i : Int) : isD "str" (.int i) = false := by dsimp only [isD, tyN]; decide +kernel
theorem isT_str_str (x : Str) : isD "str" (.str x) = true := by dsimp only [isD, tyN]; decide +kernel
theorem isT_str_tup (ds : List D) : isD "str" (.tup ds) = false := by dsimp only [isD, tyN]; decide +kernel
theorem isT_str_lst (ds : List D) : isD "str" (.lst ds) = false := by dsimp only [isD, tyN]; decide +kernel
theorem isT_int_non : isD "int" .non = false := by dsimp only [isD, tyN]; decide +kernel
theorem isT_int_bl (b : Bool) : isD "int" (.bl b) = true := by dsimp only [isD, tyN]; decide +kernel
theorem isT_int_int (i : Int) : isD "int" (.int i) = true := by dsimp only [isD, tyN]; decide +kernel
theorem isT_int_str (x : Str) : isD "int" (.str x) = false := by dsimp only [isD, tyN]; decide +kernel
theorem isT_int_tup (ds : List D) : isD "int" (.tup ds) = false := by dsimp only [isD, tyN]; decide +kernel
theorem isT_int_lst (ds : List D) : isD "int" (.lst ds) = false := by dsimp only [isD, tyN]; decide +kernel
end VS

namespace VS
open PySem L2 PySem.Spec PyProof.Rows
/-! ### try .. except C as n -/
def tTryD (C : Addr) (i : Nat) (tb : TDs) (ts : Addr → Value → Option Addr → TDs) : TDs := fun De en =>
  tb { De with ex := fun x en1 => x.cls = .ref C ∧ ∀ a cls d, ts a cls d { nx := fun e => De.nx (e.set i .no), rt := De.rt, bk := fun e => De.bk (e.set i .no), ct := fun e => De.ct (e.set i .no), ex := fun _ _ => False } (en1.set i (.exc a cls d x)) } en
section
variable {X : Cx} {W : WX} {x n : Str} {C : Addr} {i : Nat} {body suite : List Stmt} {b₀ : Stmt} {np pos pos' : Pos} {tb : TDs} {ts : Addr → Value → Option Addr → TDs}
theorem ds_try1 (hs : X.stack = X.env :: X.outer) (hf : X.env.frame = some X.env.locals) (hN : X.N.Nodup) (hi : X.N[i]? = some n) (hln : X.env.kindOf n = some .local) (hc : Names X x (.ref C)) (te : PySem.W.exmOne X.K (.ref C) (.ref C) = some true)
    (hb : ∀ (W : WX) (pn : List (Addr × Obj)) (xe : Value → Shared → Prop), Takes (X.tr pn xe) W → PassesOwn (model X.prog X.w) X.A X.env xe → DSs (X.tr pn xe) W body tb)
    (hsu : ∀ (a : Addr) (oe : Obj) (cls : Value) (d : Option Addr) (pn : List (Addr × Obj)), Zc cls d oe → (∃ vs, oe.data = .fields vs) → DSs (X.suite a ((a, oe) :: pn)) W0 (b₀ :: suite) (ts a cls d)) :
    DS X W (.Try body [.ExceptHandler (some (.Name x np)) (some n) (b₀ :: suite) pos'] [] [] pos) (tTryD C i tb ts) :=
  PSi (ps_try_as (tb := fun W => lS X.K W tb) (ts := fun a cls d => lS X.K W0 (ts a cls d)) (Wout := fun _ _ _ _ => False) hs hf hN hi hln hc takes0 hb hsu) fun Ds σ H ⟨Cc, en, De, R1, h, k⟩ =>
    ⟨Cc, en, _, R1, h, ⟨k.nx, k.rt, k.bk, k.ct, fun xx en1 σ1 cls d H1 hq R2 hx2 => by
      obtain ⟨hx, q⟩ := hq
      refine ⟨true, by rw [hx2.1, hx]; exact te, fun _ a ha => ?_, fun z => by cases z⟩
      refine ⟨Cc, _, _, R2.setS (o := some (.ref a)) (s := .exc a cls d xx) rfl ⟨rfl, hx2⟩, q a cls d, ?_⟩
      exact ⟨fun σ2 en2 H2 q2 r2 => k.nx _ _ H2 q2 (r2.setS rfl trivial), k.rt, fun σ2 en2 H2 q2 r2 => k.bk _ _ H2 q2 (r2.setS rfl trivial), fun σ2 en2 H2 q2 r2 => k.ct _ _ H2 q2 (r2.setS rfl trivial), fun _ _ _ _ _ _ z => z.elim⟩⟩⟩
end
/-! ### calls by keywords alone, in the parameters' order -/
abbrev DK (X : Cx) (W : WX) (kws : List Keyword) (T : TDa) : Prop := PK X kws (lA X.K W T)
def KwB (fd : FuncData) (ps : List Str) : Prop := ∀ (s : Shared) (ws : List Value), ws.length = ps.length → BindsTo s fd ⟨[], ps.zip ws⟩ (ps.zip ws)
section
variable {X : Cx} {W : WX} {e : Expr} {te : TDe} {t : TDa} {kws : List Keyword} {nm : Option Str} {kpos : Pos}
theorem PKi {t t' : TA} (h : PK X kws t) (i : ∀ σ H Q, t' σ H Q → t σ H Q) : PK X kws t' := ⟨fun pos pins s σ H Q I q => h.run pos pins s σ H Q I (i σ H Q q)⟩
theorem dk_nil : DK X W [] tNilD := PKi pk_nil fun σ H Q h => by
  obtain ⟨C, en, Φ, Ψ, R1, hT, hX, k⟩ := h
  exact k _ _ [] H hT R1 rfl rfl Keep.refl (fun _ z => by cases z)
theorem dk_cons (ha : DE X W e te) (hb : DK X W kws t) : DK X W (⟨nm, e, kpos⟩ :: kws) (tConsD te t) := PKi (pk_cons ha hb) fun σ H Q h => by
  obtain ⟨C, en, Φ, Ψ, R0, hT, hX, k⟩ := h
  refine ⟨C, en, _, Ψ, R0, hT, hX, fun ra en1 v1 H1 h1 R1 hold1 s1 k1 n1 => ?_⟩
  refine ⟨C.ext ra, en1, _, Ψ, R1, h1, hX.ext, fun rs en2 vs H2 h2 R2 hold2 s2 k2 n2 => ?_⟩
  refine k (ra :: rs) en2 (v1 :: vs) H2 h2 R2 ⟨v1, vs, rfl, hold1.later R1 R2 s2 k2 n2, hold2⟩ (s1.trans s2) (k1.trans s1 k2) fun r hr => ?_
  rcases List.mem_cons.mp hr with rfl | hr
  · exact n1
  · exact (n2 r hr).back k1 s1 R1
end
section
variable {X : Cx} {CX : CXT} {W : WX} {k n : Nat} {f : Addr} {fd : FuncData} {ps : List Str} {sp : Sp} {E : L2.St → XK} {x : Str} {p pos : Pos} {kws : List Keyword} {t : TA}
theorem pe_callKw (F : FnOk X.prog X.w X.K X.mg X.base CX k f fd ps sp) (hr : Room k X.A) (hg : Gl X x) (hm : X.mg x = some (.ref f)) (hk : PySem.W.keepIn X.K (.ref f) = true) (hb : KwB fd ps) (hx : ∀ σ, PassesAt CX X σ (E σ)) (ha : PK X kws t)
    (hall : (backToKw pos (keywordEach kws X.env)).all (·.1.isSome) = true) (hks : (backToKw pos (keywordEach kws X.env)).filterMap (·.1) = ps) (hdb : (x == ("__debug__" : Str)) = false)
    (hpl : ((backTo pos (starEach [] X.env)).any (·.1) || (backToKw pos (keywordEach kws X.env)).any (·.1.isNone)) = false) : PE X (.Call (.Name x p) [] kws pos) (tCallS sp E t) := by
  refine ⟨fun pins s σ H Q I h => ?_⟩
  refine wpAny_Call_Name_kw (ld_glob I hg hm ?_ hdb)
  refine PySem.W.callWith_KW0 (h₀ := X.base) I.ok.mod.kin hk hall (thn (ha.run pos pins s σ H _ I h) fun us s1 ⟨vs, H1, I1, r, q⟩ => ⟨I1.kIn, ?_⟩) hpl
  rw [hks]
  have hl : us.length = ps.length := by rw [← r.length]; exact F.len _ _ _ _ q
  refine wpAny_call (codeAny_mono (F.run X.A X.stack s1 H1 ⟨[], ps.zip us⟩ us vs Q (E σ) hr I1.env0 (hb s1 us hl) r q) fun r s' hq => ?_)
  cases r with
  | error e => exact hx σ pins H1 s1 e s' I1 hq
  | ok fl =>
    cases fl with
    | ret u => exact I1.after hq
    | next => exact False.elim hq
    | brk => exact False.elim hq
    | cont => exact False.elim hq
end
section
variable {X : Cx} {W : WX} {j k n : Nat} {f : Addr} {fd : FuncData} {ps : List Str} {sp : Spc} {x : Str} {p pos : Pos} {kws : List Keyword} {t : TDa}
theorem dcKQ (G : Cal X.prog X.w X.K X.mg X.base (L2.CX X.prog X.w) j n sp x f fd ps) (kb : KwB fd ps) (hr : Room k X.A) (ha : DK X W kws t) (hj : j ≤ k := by decide) (hg : Gl X x := by rfl) (hdb : (x == ("__debug__" : Str)) = false := by decide)
    (hall : (backToKw pos (keywordEach kws X.env)).all (·.1.isSome) = true := by rfl) (hks : (backToKw pos (keywordEach kws X.env)).filterMap (·.1) = ps := by rfl)
    (hpl : ((backTo pos (starEach [] X.env)).any (·.1) || (backToKw pos (keywordEach kws X.env)).any (·.1.isNone)) = false := by rfl) : DE X W (.Call (.Name x p) [] kws pos) (tCallD n (q0 sp) t) :=
  PEi (pe_callKw G.F (hr.mono hj) hg G.m G.kp kb (E := fun _ => E0) (fun σ pins H s e s' I z => passL pins σ H s e s' I z) ha hall hks hdb hpl) fun σ H Q h => call_go0 h
theorem dcK (G : Cal X.prog X.w X.K X.mg X.base CX0 j n sp x f fd ps) (kb : KwB fd ps) (hr : Room k X.A) (ha : DK X W kws t) (hj : j ≤ k := by decide) (hg : Gl X x := by rfl) (hdb : (x == ("__debug__" : Str)) = false := by decide)
    (hall : (backToKw pos (keywordEach kws X.env)).all (·.1.isSome) = true := by rfl) (hks : (backToKw pos (keywordEach kws X.env)).filterMap (·.1) = ps := by rfl)
    (hpl : ((backTo pos (starEach [] X.env)).any (·.1) || (backToKw pos (keywordEach kws X.env)).any (·.1.isNone)) = false := by rfl) : DE X W (.Call (.Name x p) [] kws pos) (tCallD n (q0 sp) t) :=
  PEi (pe_callKw G.F (hr.mono hj) hg G.m G.kp kb (E := fun _ => E0) (fun σ _ _ _ _ _ _ z => z.elim) ha hall hks hdb hpl) fun σ H Q h => call_go0 h
theorem dcKX (G : Cal X.prog X.w X.K X.mg X.base (L2.CX X.prog X.w) j n sp x f fd ps) (kb : KwB fd ps) (tk : Takes X W) (hr : Room k X.A) (ha : DK X W kws t) (hj : j ≤ k := by decide) (hg : Gl X x := by rfl) (hdb : (x == ("__debug__" : Str)) = false := by decide)
    (hall : (backToKw pos (keywordEach kws X.env)).all (·.1.isSome) = true := by rfl) (hks : (backToKw pos (keywordEach kws X.env)).filterMap (·.1) = ps := by rfl)
    (hpl : ((backTo pos (starEach [] X.env)).any (·.1) || (backToKw pos (keywordEach kws X.env)).any (·.1.isNone)) = false := by rfl) : DE X W (.Call (.Name x p) [] kws pos) (tCallD n sp t) :=
  PEi (pe_callKw G.F (hr.mono hj) hg G.m G.kp kb (E := fun σ => WE W σ) (fun σ => passAt tk σ) ha hall hks hdb hpl) fun σ H Q h => call_go (fun _ _ _ _ z => z) h
end
end VS

namespace VS
open PySem L2 PySem.Spec PyProof.Rows
/-! ### isinstance(error, T), error what the suite holds: an own class with its own dict -/
structure ExI (K : PySem.W.Frag) (C : Addr) : Prop where
  ga : PySem.W.findIn K (.ref C) "__getattribute__" = some (some (.builtin "BaseException.__getattribute__"))
  gg : PySem.W.findIn K (.ref C) "__getattr__" = some none
  exC : PySem.W.subIn K (.ref C) (.type "BaseException") = some true
  hd : PySem.W.isClsIn K C = true
  ca : PySem.W.findIn K (.ref C) "__class__" = some (some (.builtin "object.__class__"))
  sp : PySem.W.specialIn K (.builtin "object.__class__") "__get__" = some (some (.builtin "getset_descriptor.__get__"))
  tk : PySem.W.takesIn K (.builtin "object.__class__") = some true
  mo : PySem.W.mroIn K C (.type "object") = some true
def rIsX (C a : Addr) (cls : Value) (dd : Option Addr) (T : String) (b : Bool) : List V → Hp → VK → Prop := fun xs H Q => xs = [.ref a, .ty T] ∧ cls = .ref C ∧ (∃ (d0 : Addr) (f : Str) (v : V), dd = some d0 ∧ H d0 = some (.xd [(f, v)])) ∧ Q (.bl b) H
theorem call_isX {X : Cx} {a C : Addr} {oe : Obj} {cls : Value} {dd : Option Addr} {pn : List (Addr × Obj)} {T : String} {b : Bool} (E : ExI X.K C) (hz : Zc cls dd oe) (hf : ∃ vs, oe.data = .fields vs) (hk : PySem.W.kitOne X.K (.ref C) (.type T) = some b) :
    CallR (X.suite a ((a, oe) :: pn)) (.builtin "isinstance") (rIsX C a cls dd T b) := by
  intro pins s σ H xs us Q I r h
  obtain ⟨rfl, rfl, ⟨d0, f, v, rfl, hd0⟩, q⟩ := h
  cases r with
  | cons rx rr =>
    cases rr with
    | cons rt rr =>
      cases rr
      cases rx
      obtain rfl := rt
      obtain ⟨ha, _⟩ := I.pin (a, oe) (List.mem_append_left _ List.mem_cons_self)
      obtain ⟨vs, hv⟩ := hf
      have hx : ObjOk X.prog X.w H s.heap d0 (.xd [(f, v)]) := I.hok d0 _ hd0
      obtain ⟨mA, hns, hr⟩ := hx
      obtain ⟨od, ho, hl⟩ := lookIn_ns hns
      have J : PySem.W.InstAt s.heap a oe C (some od) := ⟨ha, hz.1, by unfold PySem.W.notCls; rw [hv] <;> rfl, by rw [hz.2]; exact ho⟩
      exact PySem.W.kia_one (PySem.W.kitx_exc E.hd E.ga E.gg E.exC E.ca E.sp E.tk E.mo) I.kIn J hk (fun z => nomatch z) fun tk => ⟨.bl b, H, I.kept (t' := tk) fun _ _ z => z, rfl, q⟩
def tIsX (C a : Addr) (cls : Value) (dd : Option Addr) (b : Bool) (i : Nat) : TDe := fun _ en Φ => match en[i]? with
  | some (.exc a' cls' dd' x) => a' = a ∧ cls' = cls ∧ dd' = dd ∧ x.cls = .ref C ∧ x.fld.isSome = true ∧ Φ (.val (.bl b)) en
  | _ => False
theorem de_isX {X : Cx} {W : WX} {a C : Addr} {oe : Obj} {cls : Value} {dd : Option Addr} {pn : List (Addr × Obj)} {T : String} {b : Bool} {e : Expr} {i : Nat} {n : Str} {p pos p2 : Pos} (E : ExI X.K C) (hz : Zc cls dd oe) (hf : ∃ vs, oe.data = .fields vs)
    (hk : PySem.W.kitOne X.K (.ref C) (.type T) = some b) (hm : X.mg "isinstance" = none) (he : PE (X.suite a ((a, oe) :: pn)) e (L2.tVar i)) (gn : Gl (X.suite a ((a, oe) :: pn)) n) (mn : X.mg n = none) (vn : bootBuiltins n = some (.type T))
    (hg : Gl (X.suite a ((a, oe) :: pn)) "isinstance" := by rfl) (nn : n ≠ "__name__" := by decide) (nd : (n == ("__debug__" : Str)) = false := by decide)
    (h1 : starEach [e, .Name n p2] X.env = (false, eval e X.env) :: starEach [.Name n p2] X.env := by rfl) (h2 : starEach [.Name n p2] X.env = (false, eval (.Name n p2) X.env) :: starEach [] X.env := by rfl)
    (hpl : (backTo pos (starEach [.Name n p2] X.env)).any (·.1) = false := by rfl) : DE (X.suite a ((a, oe) :: pn)) W (.Call (.Name "isinstance" p) [e, .Name n p2] [] pos) (tIsX C a cls dd b i) :=
  PEi (pe_callB (call_isX E hz hf hk) hg hm PyProof.Rows.boot_isinstance (pa_cons he (pa_cons (pe_bltn (v := .ty T) gn mn vn rfl nn nd) pa_nil h2) h1) (by decide) (by decide) h1 hpl) fun σ H Q ⟨Cc, en, Φ, Ψ, R1, h, _, k⟩ => by
    unfold tIsX at h
    cases e1 : en[i]? with
    | none => simp only [e1] at h
    | some s =>
      cases s with
      | exc a' cls' dd' x =>
        simp only [e1] at h
        obtain ⟨rfl, rfl, rfl, hx, hs, h⟩ := h
        obtain ⟨xc, xf⟩ := x
        cases xf with
        | none => cases hs
        | some fd =>
          obtain ⟨f, d⟩ := fd
          obtain ⟨y, hy, hs⟩ := Pget R1.sl e1
          cases y with
          | none => exact hs.elim
          | some v =>
            obtain ⟨rfl, hc, d0, w, e2, _, e3, hv⟩ := hs
            exact ⟨_, hy, rfl, hc.trans hx, ⟨d0, f, w, e2, e3⟩, k (.val (.bl b)) en (.bl b) H h R1 (.bl b) rfl Keep.refl trivial⟩
      | _ => simp only [e1] at h
end VS

namespace VS
open PySem L2 PySem.Spec PyProof.Rows
/-! ### ahead of a statement a slot is forgotten -/
def tFgtD (i : Nat) (t : TDs) : TDs := fun De en => t De (en.set i .no)
theorem dss_fgt {X : Cx} {W : WX} {rest : List Stmt} {u : TDs} (i : Nat) (h2 : DSs X W rest u) : DSs X W rest (tFgtD i u) := PSsi h2 fun D σ H ⟨C, en, De, R1, h, k⟩ =>
  ⟨C, en.set i .no, De, R1.forget (i := i), h, k⟩
end VS

namespace VS
open PySem L2 PySem.Spec PyProof.Rows
/-! ### either of two readings -/
def tEitD (t u : TDe) : TDe := fun Ψ en Φ => t Ψ en Φ ∨ u Ψ en Φ
theorem de_eit {X : Cx} {W : WX} {e : Expr} {t u : TDe} (h1 : DE X W e t) (h2 : DE X W e u) : DE X W e (tEitD t u) := ⟨fun pins s σ H Q I h => by
  obtain ⟨C, en, Φ, Ψ, R1, h | h, hX, k⟩ := h
  · exact h1.run pins s σ H Q I ⟨C, en, Φ, Ψ, R1, h, hX, k⟩
  · exact h2.run pins s σ H Q I ⟨C, en, Φ, Ψ, R1, h, hX, k⟩⟩
def tEitS (t u : TDs) : TDs := fun De en => t De en ∨ u De en
theorem ds_eit {X : Cx} {W : WX} {st : Stmt} {t u : TDs} (h1 : DS X W st t) (h2 : DS X W st u) : DS X W st (tEitS t u) := ⟨fun pins s σ H D I h => by
  obtain ⟨C, en, De, R1, h | h, k⟩ := h
  · exact h1.run pins s σ H D I ⟨C, en, De, R1, h, k⟩
  · exact h2.run pins s σ H D I ⟨C, en, De, R1, h, k⟩⟩
/-! ### gcd of three -/
theorem args_gcd3 (a b c : Value) : argsOk "math.gcd" ⟨[a, b, c], []⟩ := by unfold argsOk; kernel_rfl
theorem run_gcd3 (a : Int) (t : Tok) (b : Int) (u : Tok) (c : Int) (v : Tok) :
    Gives (Builtin.«math.gcd» ⟨[.int a t, .int b u, .int c v], []⟩) (.int (((((Nat.gcd 0 a.natAbs).gcd b.natAbs).gcd c.natAbs : Nat) : Int))) :=
  .of_wp fun M A E s Q h => by obtain ⟨hp, g, d, tk, os⟩ := s; wp_walk; exact ⟨_, rfl, h⟩
def rGcd3 : List V → Hp → VK → Prop := fun vs H Q => ∃ a b c : Int, vs = [.int a, .int b, .int c] ∧ Q (.int (((a.natAbs.gcd b.natAbs).gcd c.natAbs : Nat) : Int)) H
theorem cr_gcd3 {X : Cx} : CallR X (.builtin "math.gcd") rGcd3 := by
  intro pins s σ H vs us Q I r h
  obtain ⟨a, b, c, rfl, q⟩ := h
  cases r with
  | cons ra r =>
    cases r with
    | cons rb r =>
      cases r with
      | cons rc r =>
        cases r
        obtain ⟨ta, rfl⟩ := ra
        obtain ⟨tb, rfl⟩ := rb
        obtain ⟨tc, rfl⟩ := rc
        have g := run_gcd3 a ta b tb c tc
        rw [Nat.gcd_zero_left] at g
        exact call_function_meets PySem.W.MGF.kind_gcd PySem.W.MGF.plain_gcd PySem.W.MGF.entry_gcd (args_gcd3 _ _ _) g.meets ⟨.int _, H, I.tok _, ⟨_, rfl⟩, q⟩
def gGcd3 : List D → (Res → Prop) → Prop
  | [.int a, .int b, .int c], Φ => Φ (.val (.int (Int.gcd (Int.gcd a b : Nat) c : Nat)))
  | _, _ => False
theorem ca_gcd3 {X : Cx} : CaD X rGcd3 gGcd3 := by
  intro C σ H en ds vs Φ Q R1 hs h k
  unfold gGcd3 at h
  split at h
  · cases hs with
    | cons h1 h2 =>
      cases h2 with
      | cons h2 h3 =>
        cases h3 with
        | cons h3 h4 =>
          cases h4
          cases h1
          cases h2
          cases h3
          exact ⟨_, _, _, rfl, k _ _ H h R1 (.int _) (fun _ _ q => q) trivial⟩
  · exact h.elim
theorem de_gcd3 {X : Cx} {W : WX} {e : Expr} {es : List Expr} {t : TDa} {p pos : Pos} (hm : X.mg "gcd" = some (.builtin "math.gcd")) (ha : DA X W (e :: es) t) (hg : Gl X "gcd" := by rfl) (he : starEach (e :: es) X.env = (false, eval e X.env) :: starEach es X.env := by rfl) (hpl : (backTo pos (starEach es X.env)).any (·.1) = false := by rfl) :
    DE X W (.Call (.Name "gcd" p) (e :: es) [] pos) (tCaD gGcd3 t) := de_callF cr_gcd3 ca_gcd3 hg hm ha (by decide) he hpl
/-! ### (a, b) < (c, d), of ints -/
def rLtT (K : PySem.W.Frag) : R2 := fun x y H Q => ∃ (a b : Addr) (ns ms : List Int), x = .ref a ∧ y = .ref b ∧ SqT K H a (ns.map V.int) ∧ SqT K H b (ms.map V.int) ∧
  Q (.bl (Ob.lexAt (fun j => decide (ns.getD j 0 = ms.getD j 0)) (fun j => decide (ns.getD j 0 < ms.getD j 0)) (decide (ns.length < ms.length)) 0 (min ns.length ms.length))) H
theorem op_ltT {X : Cx} (hu : X.A.units < cLine) : OpR X (compareOp .Lt) (rLtT X.K) := by
  intro pins s σ H x y v u Q I rx ry h
  obtain ⟨a, b, ns, ms, rfl, rfl, ha, hb, q⟩ := h
  cases rx
  cases ry
  obtain ⟨its, r1, p1, _⟩ := I.tuple ha
  obtain ⟨its2, r2, p2, _⟩ := I.tuple hb
  have i1 : IntsAre its ns := Vals.ints r1
  have i2 : IntsAre its2 ms := Vals.ints r2
  have e1 : its.toArray.size = ns.length := by rw [List.size_toArray]; exact i1.length
  have e2 : its2.toArray.size = ms.length := by rw [List.size_toArray]; exact i2.length
  have at1 : ∀ j (h1 : j < its.toArray.size), ∃ t, its.toArray[j] = .int (ns.getD j 0) t := fun j h1 => PyProof.Rows.IntsAre.int_at i1 _ _ (by simp at h1; simp [h1])
  have at2 : ∀ j (h1 : j < its2.toArray.size), ∃ t, its2.toArray[j] = .int (ms.getD j 0) t := fun j h1 => PyProof.Rows.IntsAre.int_at i2 _ _ (by simp at h1; simp [h1])
  have R := Ob.RcOp.tuples_lt (A := X.A) (s := s) (e := fun j => decide (ns.getD j 0 = ms.getD j 0)) (r := fun j => decide (ns.getD j 0 < ms.getD j 0)) p1 p2 hu (fun j h1 h2 => by
    obtain ⟨t, et⟩ := at1 j h1
    obtain ⟨t', et'⟩ := at2 j h2
    rw [et, et']
    have z : (ns.getD j 0 == ms.getD j 0) = decide (ns.getD j 0 = ms.getD j 0) := by
      by_cases q : ns.getD j 0 = ms.getD j 0
      · rw [decide_eq_true q]; exact beq_iff_eq.mpr q
      · rw [decide_eq_false q]; exact beq_eq_false_iff_ne.mpr q
    rw [← z]
    exact SeqAt.EqAt.int_int _ _ _ _) (fun j h1 h2 _ => by
    obtain ⟨t, et⟩ := at1 j h1
    obtain ⟨t', et'⟩ := at2 j h2
    rw [et, et']
    exact Ob.RcOp.lt_int _ _ _ _)
  rw [e1, e2] at R
  have z : wpAny (model X.prog X.w) X.A (compareOp .Lt (.ref a) (.ref b)) (EP X pins σ Q) X.xe s := R X.prog X.w X.xe (EP X pins σ Q) ⟨.bl _, H, I, rfl, q⟩
  exact z
def gLt2 : D → D → (Res → Prop) → Prop := fun x y Φ => match x, y with
  | .tup [.int a, .int b], .tup [.int c, .int d] => Φ (.val (.bl (if a = c then decide (b < d) else decide (a < c))))
  | _, _ => False
theorem od_lt2 {X : Cx} : OpD X (rLtT X.K) gLt2 := by
  intro C σ H en x y v w Φ Q R1 hx hy h k
  unfold gLt2 at h
  split at h
  · rename_i a b c d
    obtain ⟨p, vs, rfl, h1, h2⟩ := hx
    obtain ⟨q, ws, rfl, h3, h4⟩ := hy
    have e1 := RpA.ints [a, b] h2
    have e2 := RpA.ints [c, d] h4
    subst e1 e2
    refine ⟨p, q, [a, b], [c, d], rfl, rfl, h1, h3, ?_⟩
    have e : Ob.lexAt (fun j => decide ([a, b].getD j 0 = [c, d].getD j 0)) (fun j => decide ([a, b].getD j 0 < [c, d].getD j 0)) (decide ([a, b].length < [c, d].length)) 0 (min [a, b].length [c, d].length) = (if a = c then decide (b < d) else decide (a < c)) := by
      show Ob.lexAt _ _ _ 0 2 = _
      rw [Ob.lexAt_succ, Ob.lexAt_succ, Ob.lexAt_zero]
      simp only [List.getD_cons_zero, List.getD_cons_succ, decide_eq_true_eq, List.length_cons, List.length_nil]
      by_cases z1 : a = c
      · rw [if_pos z1, if_pos z1]
        by_cases z2 : b = d
        · rw [if_pos z2, z2]
          simp
        · rw [if_neg z2]
      · rw [if_neg z1, if_neg z1]
    rw [e]
    exact k _ _ H h R1 (.bl _) (fun _ _ q => q) trivial
  · exact h.elim
theorem de_lt2 {X : Cx} {W : WX} {a b : Expr} {ta tb : TDe} {pos : Pos} (hu : X.A.units + 64 < cLine) (ha : DE X W a ta) (hb : DE X W b tb) : DE X W (.Compare a [.Lt] [b] pos) (tOpD gLt2 ta tb) := de_cmp (op_ltT (Nat.lt_of_le_of_lt (Nat.le_add_right _ _) hu)) od_lt2 ha hb
theorem dt_lt2 {X : Cx} {W : WX} {a b : Expr} {ta tb : TDe} {pos : Pos} (hu : X.A.units + 64 < cLine) (ha : DE X W a ta) (hb : DE X W b tb) : DT X W (.Compare a [.Lt] [b] pos) (tValD (tOpD gLt2 ta tb)) := dt_cmp (op_ltT (Nat.lt_of_le_of_lt (Nat.le_add_right _ _) hu)) od_lt2 ha hb
/-! ### xs[::-1] -/
def tRevD (te : TDe) : TDe := fun Ψ en Φ => te Ψ en fun r en1 => match rd en1 r with
  | some (.lst ds) => ∀ p, Φ (.own p (.lst ds.reverse)) en1
  | _ => False
theorem de_rev {X : Cx} {W : WX} {e : Expr} {te : TDe} {k : Nat} {p1 p2 p3 pos : Pos} (he : DE X W e te) : DE X W (.Subscript e (.Slice none none (some (.UnaryOp .USub (.Constant (.int 1) k p1) p2)) p3) pos) (tRevD te) :=
  PEi (pe_revL he) fun σ H Q ⟨C, en, Φ, Ψ, R0, h, hX, k⟩ => by
    refine ⟨C, en, _, Ψ, R0, h, hX, fun r en1 v H1 q R1 o1 s1 k1 n1 => ?_⟩
    cases ed : rd en1 r with
    | none => simp only [ed] at q
    | some d =>
      cases d <;> simp only [ed] at q
      rename_i ds
      obtain ⟨a, vs, rfl, h1, h2⟩ := o1.sq R1 ed
      refine ⟨a, vs, rfl, h1, fun p hp => ?_⟩
      obtain ⟨q1, q2⟩ := own_new R1.dropX hp h2.reverse
      exact k _ en1 _ _ (q p) q1 q2 s1 (k1.trans s1 (Keep.same (same_new hp))) (k1.new s1 R1.dropX hp)
/-! ### [..] * n -/
def tRepD (ta tb : TDe) : TDe := fun Ψ en Φ => ta Ψ en fun r en1 => match r with
  | .own _ (.lst _) => tb Ψ en1 fun rb en2 => (match r, rb with
    | .own _ (.lst ds), .val (.int k) => -(2 ^ 63) ≤ k ∧ k < 2 ^ 63 ∧ ds.length * k.toNat ≤ sizeLine ∧ ∀ p, Φ (.own p (.lst (List.replicate k.toNat ds).flatten)) en2
    | _, _ => False)
  | _ => False
theorem RpA.rep {K : PySem.W.Frag} {M : Ms} {H : Hp} {vs : List V} {ds : List D} (h : RpA K M H vs ds) : ∀ n : Nat, RpA K M H (List.replicate n vs).flatten (List.replicate n ds).flatten
  | 0 => .nil
  | n + 1 => by
    rw [List.replicate_succ, List.replicate_succ, List.flatten_cons, List.flatten_cons]
    exact h.append (RpA.rep h n)
theorem de_rep {X : Cx} {W : WX} {a b : Expr} {ta tb : TDe} {pos : Pos} (ha : DE X W a ta) (hb : DE X W b tb) : DE X W (.BinOp a .Mult b pos) (tRepD ta tb) :=
  PEi (pe_op op_rep ha hb) fun σ H Q ⟨C, en, Φ, Ψ, R0, h, hX, k⟩ => by
    refine ⟨C, en, _, Ψ, R0, h, hX, fun ra en1 v1 H1 h1 R1 hold1 s1 k1 n1 => ?_⟩
    match ra, h1, R1, hold1, n1 with
    | .own p (.lst ds), h1, R1, hold1, n1 =>
      refine ⟨C.ext (.own p (.lst ds)), en1, _, Ψ, R1, h1, hX.ext, fun rb en2 v2 H2 h2 R2 hold2 s2 k2 n2 => ?_⟩
      have hold1' := hold1.stay R2.dropX s2 k2
      match rb, h2, R2, hold2, n2 with
      | .val (.int i), h2, R2, hold2, n2 =>
        cases hold2
        obtain ⟨b1, b2, b3, q⟩ := h2
        obtain ⟨rfl, e1, e2, vs, e3, e4⟩ := hold1'
        refine ⟨p, i, vs, rfl, rfl, e3, b1, b2, by rw [e4.length]; exact b3, fun l hl => ?_⟩
        have R3 := R2.dropX.dropX
        have e5 : RpA X.K (mm C (oas en2)) H2 vs ds := RpA.mono le_add _ _ e4
        obtain ⟨q1, q2⟩ := own_new R3 hl (e5.rep i.toNat)
        exact k _ en2 _ _ (q l) q1 q2 (s1.trans s2) ((k1.trans s1 k2).trans (s1.trans s2) (Keep.same (same_new hl))) ((k1.trans s1 k2).new (s1.trans s2) R3 hl)
/-! ### an own dict with tuples as keys -/
def kOf : D → Option Key
  | .int i => some (.inl i)
  | .str x => some (.inr x)
  | _ => none
def ksOf : List D → Option (List Key)
  | [] => some []
  | d :: ds => match kOf d, ksOf ds with
    | some k, some ks => some (k :: ks)
    | _, _ => none
def keyT : D → Option (List Key)
  | .tup ds => ksOf ds
  | _ => none
theorem ksOf_kD : ∀ ks : List Key, ksOf (ks.map kD) = some ks
  | [] => rfl
  | k :: ks => by
    rw [List.map_cons]
    unfold ksOf
    rw [ksOf_kD ks]
    cases k <;> rfl
theorem ksOf_is : ∀ {ds : List D} {ks : List Key}, ksOf ds = some ks → ds = ks.map kD
  | [], ks, h => by cases h; rfl
  | d :: ds, ks, h => by
    unfold ksOf at h
    cases e1 : kOf d with
    | none => simp only [e1] at h; cases h
    | some k =>
      cases e2 : ksOf ds with
      | none => simp only [e1, e2] at h; cases h
      | some ks' =>
        simp only [e1, e2] at h
        cases h
        rw [List.map_cons, ← ksOf_is e2]
        cases d <;> simp only [kOf] at e1 <;> cases e1 <;> rfl
theorem keyT_is {d : D} {k : List Key} (h : keyT d = some k) : d = .tup (k.map kD) := by
  cases d <;> simp only [keyT] at h
  · cases h
  · cases h
  · cases h
  · cases h
  · rw [ksOf_is h]
  · cases h
  · cases h
def dHas (ks : List D) (k : List Key) : Bool := ks.any fun d => decide (keyT d = some k)
def dPut (ks ds : List D) (k : List Key) (kd dv : D) : D :=
  if dHas ks k = true then .dct true ks (List.zipWith (fun d x => if keyT d = some k then dv else x) ks ds) else .dct true (ks ++ [kd]) (ds ++ [dv])
def kT (kvs : List (List Key × V)) : List D := kvs.map fun p => .tup (p.1.map kD)
theorem dHas_is (kvs : List (List Key × V)) (k : List Key) : dHas (kT kvs) k = kvs.any fun kv => decide (kv.1 = k) := by
  unfold dHas kT
  rw [List.any_map]
  congr 1
  funext kv
  simp only [Function.comp, keyT, ksOf_kD, Option.some.injEq]
theorem put_vals {K : PySem.W.Frag} {M : Ms} {H : Hp} {k : List Key} {v : V} {dv : D} (hv : Rp K M H v dv) : ∀ {kvs : List (List Key × V)} {ds : List D}, RpA K M H (kvs.map (·.2)) ds →
    RpA K M H ((kvs.map fun kv => if kv.1 = k then (kv.1, v) else kv).map (·.2)) (List.zipWith (fun d x => if keyT d = some k then dv else x) (kT kvs) ds)
  | [], ds, h => by cases h; exact .nil
  | (k', v') :: r, _, .cons h t => by
    have ih := put_vals (k := k) hv (kvs := r) t
    unfold kT at ih ⊢
    simp only [List.map_cons, List.zipWith_cons_cons, keyT, ksOf_kD, Option.some.injEq]
    by_cases e : k' = k
    · rw [if_pos e, if_pos e]
      exact .cons hv ih
    · rw [if_neg e, if_neg e]
      exact .cons h ih
theorem put_keys (k : List Key) (v : V) (kvs : List (List Key × V)) : kT (kvs.map fun kv => if kv.1 = k then (kv.1, v) else kv) = (kT kvs) := by
  unfold kT
  rw [List.map_map]
  congr 1
  funext kv
  simp only [Function.comp]
  split <;> rfl
theorem rpa_keys {K : PySem.W.Frag} {M : Ms} {H : Hp} : ∀ ks : List Key, RpA K M H (ks.map kV) (ks.map kD)
  | [] => .nil
  | .inl i :: r => .cons (.int i) (rpa_keys r)
  | .inr x :: r => .cons (.str x) (rpa_keys r)
theorem key_vals {K : PySem.W.Frag} {M : Ms} {H : Hp} : ∀ {ks : List Key} {vs : List V}, RpA K M H vs (ks.map kD) → vs = ks.map kV
  | [], _, h => by cases h; rfl
  | .inl i :: r, _, .cons h t => by cases h; rw [key_vals t]; rfl
  | .inr x :: r, _, .cons h t => by cases h; rw [key_vals t]; rfl
/-- {} of the kind with tuples as keys -/
def tNewT : TDe := fun _ en Φ => ∀ p, Φ (.own p (.dct true [] [])) en
theorem de_newT {X : Cx} {W : WX} {pos : Pos} : DE X W (.Dict [] [] pos) tNewT := PEi pe_dnewT fun σ H Q ⟨C, en, Φ, Ψ, R1, h, hX, k⟩ => fun p hp => by
  refine k _ en _ _ (h p) (R1.hold hp) ⟨rfl, fun z => ?_, .inr (R1.new hp), .t [], upd_same, rfl, .nil⟩ rfl (Keep.same (same_new hp)) hp
  obtain ⟨u, q⟩ := R1.dom p (.inl z)
  rw [hp] at q; cases q
/-- d[k] = v -/
def tPutT (i : Nat) (te tk : TDe) : TDs := fun De en => te De.ex en fun r en1 => match vl r, en1[i]? with
  | some dv, some (.own _ _) => tk De.ex en1 fun rk en2 => (match rk, en2[i]? with
    | .val kd, some (.own a (.dct true ks ds)) => (match keyT kd with
      | some k => ks.length < sizeLine ∧ De.nx (en2.set i (.own a (dPut ks ds k kd dv)))
      | none => False)
    | _, _ => False)
  | _, _ => False
theorem dk_t {c : Dk} {ks : List D} (e : (true, ks) = c.sig) : ∃ kvs, c = .t kvs ∧ ks = kT kvs := by
  cases c with
  | k kvs => cases e
  | t kvs => cases e; exact ⟨kvs, rfl, rfl⟩
theorem ds_putT {X : Cx} {W : WX} {i : Nat} {o ix value : Expr} {pos' pos : Pos} {te tk : TDe} (hu : X.A.units + 64 < cLine) (hv : DE X W value te) (ho : PE X o (tVar i)) (hi : DE X W ix tk) (hs : swapsWith value (some (.Subscript o ix pos')) pos.line X.env = pure false := by rfl) :
    DS X W (.Assign [.Subscript o ix pos'] value pos) (tPutT i te tk) :=
  PSi (ps_dput (by omega) ho hi hv hs) fun D σ H ⟨C, en, De, R1, h, k⟩ =>
  ⟨C, en, _, De.ex, R1, h, k.x σ, fun r en1 v H1 q R2 o1 s1 k1 _ => by
    have R2' := R2.dropX
    cases e1 : vl r with
    | none => simp only [e1] at q
    | some dv =>
      cases e2 : en1[i]? with
      | none => simp only [e1, e2] at q
      | some s0 =>
        cases s0 <;> simp only [e1, e2] at q
        rename_i a d0
        have hv := o1.rp R2 e1
        refine ⟨.ref a, (R2'.getO e2).1, C, en1, _, De.ex, R2', q, k.x σ, fun rk en2 v2 H2 q2 R3 o2 s2 k2 n2 => ?_⟩
        obtain ⟨d1, e3⟩ := s2.own e2
        cases rk with
        | own => exact (show False from by simpa using q2).elim
        | bor => exact (show False from by simpa using q2).elim
        | val kd =>
          rw [e3] at q2
          cases d1 <;> try exact (show False from by simpa using q2).elim
          rename_i t ks ds
          cases t <;> try exact (show False from by simpa using q2).elim
          cases ek : keyT kd with
          | none => simp only [ek] at q2
          | some kk =>
            simp only [ek] at q2
            obtain ⟨hl, q2⟩ := q2
            have R3' : R X.K C σ H2 en2 := R3
            have g := R3'.getO e3
            obtain ⟨c, g1, g2, g3⟩ := g.2.2.2
            obtain ⟨kvs, rfl, rfl⟩ := dk_t g2
            have ekd := keyT_is ek
            subst ekd
            obtain ⟨b, vs, rfl, kt1, kt2⟩ : ∃ b vs, v2 = .ref b ∧ (¬ mm C (oas en2) b ∧ H2 b = some (.tup vs)) ∧ RpA X.K (mm C (oas en2)) H2 vs (kk.map kD) := by
              cases o2 with
              | tup h1 h2 => exact ⟨_, _, rfl, h1, h2⟩
            have ev := key_vals kt2
            subst ev
            have hlen : kvs.length < sizeLine := by
              unfold kT at hl
              rw [List.length_map] at hl
              exact hl
            have hv2 : Rp X.K (mm C (oas en2)) H2 v dv := Rp.mono (k2.le s2) _ _ hv
            refine ⟨a, _, rfl, .t g1 kt1.2 hlen, k.nx σ _ _ q2 (R.put R3' e3 ?_)⟩
            have le : Le (mm C (oas en2)) H2 (mm C (oas en2)) (upd H2 a (.dT (putK kvs kk v))) := fun b u n z => ⟨n, by rw [upd_ne (fun w => n (.inr (by rw [w]; exact oas_mem.mpr ⟨i, _, e3⟩)))]; exact z⟩
            unfold dPut
            rw [dHas_is]
            by_cases hh : (kvs.any fun kv => decide (kv.1 = kk)) = true
            · rw [if_pos hh]
              refine ⟨.t (putK kvs kk v), upd_same, ?_, ?_⟩
              · have e := put_keys kk v kvs
                unfold kT at e
                unfold putK
                rw [if_pos hh]
                show (true, kT kvs) = (true, _)
                unfold kT
                rw [e]
              · have e := put_vals (k := kk) hv2 g3
                unfold putK at le ⊢
                rw [if_pos hh] at le ⊢
                exact RpA.mono le _ _ e
            · rw [if_neg hh]
              refine ⟨.t (putK kvs kk v), upd_same, ?_, ?_⟩
              · unfold putK
                rw [if_neg hh]
                show (true, kT kvs ++ [_]) = (true, List.map _ _)
                unfold kT
                rw [List.map_append]
                rfl
              · unfold putK at le ⊢
                rw [if_neg hh] at le ⊢
                show RpA _ _ _ (List.map _ _) _
                rw [List.map_append]
                exact RpA.mono le _ _ (g3.append (.cons hv2 .nil))⟩
/-- list(d): its keys -/
def gListT : List D → (Res → Prop) → Prop
  | [.dct true ks _], Φ => ∀ p, Φ (.own p (.lst ks))
  | _, _ => False
theorem keys_rp {K : PySem.W.Frag} {C : Cc} {σ : L2.St} {H : Hp} {en : En} (R1 : R K C σ H en) : ∀ {kvs : List (List Key × V)} {bs : List Addr}, IsKeys H kvs bs → RpA K (mm C (oas en)) H (bs.map V.ref) (kT kvs)
  | _, _, .nil => .nil
  | _, _, .cons h t => .cons (.tup ⟨fun z => R1.mN z _ h, h⟩ (rpa_keys _)) (keys_rp R1 t)
theorem ca_listT {X : Cx} : CaD X (fun xs H Q => ∃ d kvs, xs = [V.ref d] ∧ L2.Rd H d (.dT kvs) ∧ ∀ p bs, H p = none → IsKeys H kvs bs → Q (.ref p) (upd H p (.lst (bs.map V.ref)))) gListT := by
  intro C σ H en ds vs Φ Q R1 hs h k
  unfold gListT at h
  split at h
  · cases hs with
    | cons h1 h2 =>
      cases h2
      obtain ⟨a, c, rfl, q1, q2, q3⟩ := h1
      obtain ⟨kvs, rfl, rfl⟩ := dk_t q2
      refine ⟨a, kvs, rfl, .inl q1, fun p bs hp hb => ?_⟩
      obtain ⟨z1, z2⟩ := own_new R1 hp (keys_rp R1 hb)
      exact k _ _ _ (h p) z1 z2 (same_new hp) hp
  · exact h.elim
theorem de_listT {X : Cx} {W : WX} {e : Expr} {es : List Expr} {t : TDa} {p pos : Pos} (hc : X.calm = true) (hm : X.mg "list" = none) (ha : DA X W (e :: es) t) (hg : Gl X "list" := by rfl) (he : starEach (e :: es) X.env = (false, eval e X.env) :: starEach es X.env := by rfl) (hpl : (backTo pos (starEach es X.env)).any (·.1) = false := by rfl) :
    DE X W (.Call (.Name "list" p) (e :: es) [] pos) (tCaD gListT t) := de_callTy (call_list_dT hc) ca_listT hg hm (by decide +kernel) ha (by decide) (by decide) he hpl
/-! ### a test that changes nothing: all own things are lent -/
def frzAll (en : En) : En := en.map fun s => match s with
  | .own _ d => .val d
  | s => s
def tPureT (t : TDt) : TDt := fun _ en Φ => t (fun _ _ => False) (frzAll en) fun b en' => en' = frzAll en ∧ Φ b en
theorem oas_frzAll : ∀ en : En, oas (frzAll en) = []
  | [] => rfl
  | .own _ _ :: r => oas_frzAll r
  | .no :: r => oas_frzAll r
  | .val _ :: r => oas_frzAll r
  | .exc _ _ _ _ :: r => oas_frzAll r
theorem R.frzAll {K : PySem.W.Frag} {C : Cc} {σ : L2.St} {H : Hp} {en : En} (R1 : R K C σ H en) : R K C σ H (VS.frzAll en) := by
  have le : Le (mm C (oas en)) H (mm C []) H := fun b u n q => ⟨fun z => n (z.imp id fun z => by cases z), q⟩
  have e := oas_frzAll en
  refine ⟨?_, by rw [e]; exact List.nodup_nil, R1.dom, R1.keep, R1.nt⟩
  rw [e]
  have go : ∀ {xs : L2.St} {ys : En}, Paired (SlR K C (mm C (oas en)) H) xs ys → Paired (SlR K C (mm C []) H) xs (VS.frzAll ys) := by
    intro xs ys h
    induction h with
    | nil => exact .nil
    | @cons x y xs ys h1 h2 ih =>
      refine .cons ?_ ih
      cases y with
      | no => trivial
      | val d =>
        cases x with
        | none => exact h1
        | some v => exact Rp.mono le _ _ h1
      | own a d =>
        cases x with
        | none => exact h1
        | some v =>
          obtain ⟨rfl, n, _, c⟩ := h1
          exact c.rp le fun z => z.elim n fun z => by cases z
      | exc a cls dd x2 =>
        cases x with
        | none => exact h1
        | some v => exact ⟨h1.1, h1.2.mono le⟩
  exact go R1.sl
theorem dt_pure {X : Cx} {W : WX} {e : Expr} {t : TDt} (h : DT X W e t) : DT X W e (tPureT t) := PTi h fun σ H Q ⟨C, en, Φ, Ψ, R0, h, hX, k⟩ =>
  ⟨C, frzAll en, _, fun _ _ => False, R0.frzAll, h, fun _ _ _ _ _ z => z.elim, fun b en' H' ⟨e, q⟩ R1 s1 k1 => by
    have same : Same H H' := fun a u z => k1 a u (by rw [oas_frzAll]; exact fun z => by cases z) z
    exact k b en H' q (R0.grow same) rfl (Keep.same same)⟩
end VS

namespace VS
open PySem L2 PySem.Spec PyProof.Rows
/-! ### any, min -/
def gAny : List D → (Res → Prop) → Prop := fun xs Φ => match xs with
  | [.lst ds] => ∃ bs : List Bool, ds = bs.map D.bl ∧ Φ (.val (.bl (bs.any id)))
  | _ => False
def gMin : List D → (Res → Prop) → Prop := fun xs Φ => match xs with
  | [.lst ds] => ∃ ns : List Int, ds = ns.map D.int ∧ 0 < ns.length ∧ ∀ m, m ∈ ns → (∀ y, y ∈ ns → m ≤ y) → Φ (.val (.int m))
  | _ => False
section
variable {X : Cx} {W : WX} {e : Expr} {p pos : Pos} {es : List Expr} {t : TDa}
theorem ca_any : CaD X (rAny X.K) gAny := by
  intro C σ H en ds vs Φ Q R1 hs h k
  unfold gAny at h
  split at h
  · obtain ⟨ns, rfl, h⟩ := h
    cases hs with
    | cons h1 h2 =>
      cases h2
      obtain ⟨a, ws, rfl, q1, q2⟩ := h1
      rw [RpA.bls ns q2] at q1
      exact ⟨a, ns, rfl, q1, k _ _ H h R1 (.bl _) (fun _ _ q => q) trivial⟩
  · exact h.elim
theorem ca_min : CaD X (rMin X.K) gMin := by
  intro C σ H en ds vs Φ Q R1 hs h k
  unfold gMin at h
  split at h
  · obtain ⟨ns, rfl, hl, h⟩ := h
    cases hs with
    | cons h1 h2 =>
      cases h2
      obtain ⟨a, ws, rfl, q1, q2⟩ := h1
      rw [RpA.ints ns q2] at q1
      exact ⟨a, ns, rfl, q1, hl, fun m h1 h2 => k _ _ H (h m h1 h2) R1 (.int _) (fun _ _ q => q) trivial⟩
  · exact h.elim
theorem de_any (hc : X.calm = true) (hm : X.mg "any" = none) (ha : DA X W (e :: es) t) (hg : Gl X "any" := by rfl) (he : starEach (e :: es) X.env = (false, eval e X.env) :: starEach es X.env := by rfl) (hpl : (backTo pos (starEach es X.env)).any (·.1) = false := by rfl) :
    DE X W (.Call (.Name "any" p) (e :: es) [] pos) (tCaD gAny t) := de_callB (cr_any hc) ca_any hg hm (by decide +kernel) ha (by decide) (by decide) he hpl
theorem de_min (hc : X.calm = true) (hm : X.mg "min" = none) (ha : DA X W (e :: es) t) (hg : Gl X "min" := by rfl) (he : starEach (e :: es) X.env = (false, eval e X.env) :: starEach es X.env := by rfl) (hpl : (backTo pos (starEach es X.env)).any (·.1) = false := by rfl) :
    DE X W (.Call (.Name "min" p) (e :: es) [] pos) (tCaD gMin t) := de_callB (cr_min hc) ca_min hg hm (by decide +kernel) ha (by decide) (by decide) he hpl
end
section
variable {ta : TDe} {tg : TDg} {tb : TDs} {De : Ed} {en : En}
theorem forLo_p (Pn : List D → En → Prop) (J : Nat → En → Prop) (hta : ∀ Φ : Res → En → Prop, (∀ p ds en1, Pn ds en1 → Φ (.own p (.lst ds)) en1) → ta De.ex en Φ) (j0 : ∀ ds en1, Pn ds en1 → J 0 en1)
    (step : ∀ ds e1, Pn ds e1 → ∀ (i : Nat) d en, ds[i]? = some d → J i en → tg d en fun en2 => tb { De with nx := J (i + 1), ct := J (i + 1), bk := De.nx } en2) (fin : ∀ ds e1 en, Pn ds e1 → J ds.length en → De.nx en) : tForLD ta tg tb De en :=
  hta _ fun _ ds en1 hP => ⟨J, j0 ds en1 hP, step ds en1 hP, fun en hj => fin ds en1 en hP hj⟩
end
end VS

namespace VS
open PySem L2 PySem.Spec PyProof.Rows
/-! ### two keywords in the other order, both values -/
theorem R_swap {K : PySem.W.Frag} {C : Cc} {H : Hp} {v1 v2 : V} {d1 d2 : D} (r : R K C [some v2, some v1] H [.val d2, .val d1]) : R K C [some v1, some v2] H [.val d1, .val d2] := by
  have s := r.sl
  cases s with
  | cons h2 s =>
    cases s with
    | cons h1 s => exact ⟨.cons h1 (.cons h2 .nil), r.inj, r.dom, r.keep, r.nt⟩
def swapS (sp : Spc) : Spc := fun args Φ Ψ => ∃ d1 d2, args = [.val d2, .val d1] ∧ sp [.val d1, .val d2] Φ Ψ
theorem lSp_swap {K : PySem.W.Frag} {sp : Spc} {vs : List V} {H : Hp} {Q : VK} {E : XK} (h : lSp K 2 (swapS sp) vs H Q E) : ∃ a b, vs = [b, a] ∧ lSp K 2 sp [a, b] H Q E := by
  obtain ⟨hl, C, args, Φ, Ψ, r, eH, eF, ⟨d1, d2, rfl, hs⟩, k1, k2⟩ := h
  match vs, hl with
  | [b, a], _ =>
    refine ⟨a, b, rfl, rfl, C, [.val d1, .val d2], Φ, Ψ, R_swap r, eH, eF, hs, fun r ds v H' nb q R1 hv => ?_, fun x ds cls d H' q R1 hx => ?_⟩
    · have e1 : setOwns [.val d1, .val d2] ds = [.val d1, .val d2] := rfl
      have e2 : setOwns [.val d2, .val d1] ds = [.val d2, .val d1] := rfl
      rw [e1] at R1 hv
      refine k1 r ds v H' nb q (by rw [e2]; exact R_swap R1) ?_
      rw [e2]
      cases r with
      | val d => exact hv
      | own p d => exact hv
      | bor i => exact absurd rfl (nb i)
    · exact k2 x ds cls d H' q (R_swap R1) hx
def KwB2 (fd : FuncData) (p1 p2 : Str) : Prop := ∀ (s : Shared) (u1 u2 : Value), BindsTo s fd ⟨[], [(p2, u2), (p1, u1)]⟩ [(p1, u1), (p2, u2)]
section
variable {X : Cx} {CX : CXT} {W : WX} {j k n : Nat} {f : Addr} {fd : FuncData} {p1 p2 : Str} {sp : Sp} {E : L2.St → XK} {x : Str} {p pos : Pos} {kws : List Keyword} {t : TA}
theorem pe_callKw2 (F : FnOk X.prog X.w X.K X.mg X.base CX k f fd [p1, p2] sp) (hr : Room k X.A) (hg : Gl X x) (hm : X.mg x = some (.ref f)) (hk : PySem.W.keepIn X.K (.ref f) = true) (hb : KwB2 fd p1 p2) (hx : ∀ σ, PassesAt CX X σ (E σ)) (ha : PK X kws t)
    (hall : (backToKw pos (keywordEach kws X.env)).all (·.1.isSome) = true) (hks : (backToKw pos (keywordEach kws X.env)).filterMap (·.1) = [p2, p1]) (hdb : (x == ("__debug__" : Str)) = false)
    (hpl : ((backTo pos (starEach [] X.env)).any (·.1) || (backToKw pos (keywordEach kws X.env)).any (·.1.isNone)) = false) : PE X (.Call (.Name x p) [] kws pos) (tCallS (fun vs H Q E => ∃ a b, vs = [b, a] ∧ sp [a, b] H Q E) E t) := by
  refine ⟨fun pins s σ H Q I h => ?_⟩
  refine wpAny_Call_Name_kw (ld_glob I hg hm ?_ hdb)
  refine PySem.W.callWith_KW0 (h₀ := X.base) I.ok.mod.kin hk hall (thn (ha.run pos pins s σ H _ I h) fun us s1 ⟨vs, H1, I1, r, q⟩ => ⟨I1.kIn, ?_⟩) hpl
  rw [hks]
  obtain ⟨a, b, rfl, q⟩ := q
  obtain ⟨ub, ua, rfl, rb, ra⟩ : ∃ ub ua, us = [ub, ua] ∧ L2.RelV b ub ∧ L2.RelV a ua := by
    cases r with
    | cons rb r =>
      cases r with
      | cons ra r =>
        cases r
        exact ⟨_, _, rfl, rb, ra⟩
  refine wpAny_call (codeAny_mono (F.run X.A X.stack s1 H1 ⟨[], [p2, p1].zip [ub, ua]⟩ [ua, ub] [a, b] Q (E σ) hr I1.env0 (hb s1 ua ub) (.cons ra (.cons rb .nil)) q) fun r s' hq => ?_)
  cases r with
  | error e => exact hx σ pins H1 s1 e s' I1 hq
  | ok fl =>
    cases fl with
    | ret u => exact I1.after hq
    | next => exact False.elim hq
    | brk => exact False.elim hq
    | cont => exact False.elim hq
end
section
variable {X : Cx} {W : WX} {j k : Nat} {f : Addr} {fd : FuncData} {p1 p2 : Str} {sp : Spc} {x : Str} {p pos : Pos} {kws : List Keyword} {t : TDa}
theorem dcK2Q (G : Cal X.prog X.w X.K X.mg X.base (L2.CX X.prog X.w) j 2 sp x f fd [p1, p2]) (kb : KwB2 fd p1 p2) (hr : Room k X.A) (ha : DK X W kws t) (hj : j ≤ k := by decide) (hg : Gl X x := by rfl) (hdb : (x == ("__debug__" : Str)) = false := by decide)
    (hall : (backToKw pos (keywordEach kws X.env)).all (·.1.isSome) = true := by rfl) (hks : (backToKw pos (keywordEach kws X.env)).filterMap (·.1) = [p2, p1] := by rfl)
    (hpl : ((backTo pos (starEach [] X.env)).any (·.1) || (backToKw pos (keywordEach kws X.env)).any (·.1.isNone)) = false := by rfl) : DE X W (.Call (.Name x p) [] kws pos) (tCallD 2 (q0 (swapS sp)) t) :=
  PEi (pe_callKw2 G.F (hr.mono hj) hg G.m G.kp kb (E := fun _ => E0) (fun σ pins H s e s' I z => passL pins σ H s e s' I z) ha hall hks hdb hpl) fun σ H Q h => by
    obtain ⟨C, en, Φ, Ψ, R0, hT, hX, kk⟩ := call_go0 h
    exact ⟨C, en, Φ, Ψ, R0, hT, hX, fun rs en1 vs H1 h1 R1 hold1 s1 k1 n1 => lSp_swap (kk rs en1 vs H1 h1 R1 hold1 s1 k1 n1)⟩
end
/-! ### isinstance(error, C2), C2 a class of the program -/
def rIsO (C a C2 : Addr) (cls : Value) (dd : Option Addr) (b : Bool) : List V → Hp → VK → Prop := fun xs H Q => xs = [.ref a, .ref C2] ∧ cls = .ref C ∧ (∃ (d0 : Addr) (f : Str) (v : V), dd = some d0 ∧ H d0 = some (.xd [(f, v)])) ∧ Q (.bl b) H
theorem call_isO {X : Cx} {a C C2 : Addr} {oe : Obj} {cls : Value} {dd : Option Addr} {pn : List (Addr × Obj)} {b : Bool} (E : ExI X.K C) (hz : Zc cls dd oe) (hf : ∃ vs, oe.data = .fields vs) (hk : PySem.W.kitOne X.K (.ref C) (.ref C2) = some b) :
    CallR (X.suite a ((a, oe) :: pn)) (.builtin "isinstance") (rIsO C a C2 cls dd b) := by
  intro pins s σ H xs us Q I r h
  obtain ⟨rfl, rfl, ⟨d0, f, v, rfl, hd0⟩, q⟩ := h
  cases r with
  | cons rx rr =>
    cases rr with
    | cons rt rr =>
      cases rr
      cases rx
      obtain rfl := rt
      obtain ⟨ha, _⟩ := I.pin (a, oe) (List.mem_append_left _ List.mem_cons_self)
      obtain ⟨vs, hv⟩ := hf
      have hx : ObjOk X.prog X.w H s.heap d0 (.xd [(f, v)]) := I.hok d0 _ hd0
      obtain ⟨mA, hns, hr⟩ := hx
      obtain ⟨od, ho, hl⟩ := lookIn_ns hns
      have J : PySem.W.InstAt s.heap a oe C (some od) := ⟨ha, hz.1, by unfold PySem.W.notCls; rw [hv] <;> rfl, by rw [hz.2]; exact ho⟩
      exact PySem.W.kia_one (PySem.W.kitx_exc E.hd E.ga E.gg E.exC E.ca E.sp E.tk E.mo) I.kIn J hk (fun z => nomatch z) fun tk => ⟨.bl b, H, I.kept (t' := tk) fun _ _ z => z, rfl, q⟩
theorem de_isO {X : Cx} {W : WX} {a C C2 : Addr} {oe : Obj} {cls : Value} {dd : Option Addr} {pn : List (Addr × Obj)} {b : Bool} {e : Expr} {i : Nat} {n : Str} {p pos p2 : Pos} (E : ExI X.K C) (hz : Zc cls dd oe) (hf : ∃ vs, oe.data = .fields vs)
    (hk : PySem.W.kitOne X.K (.ref C) (.ref C2) = some b) (hm : X.mg "isinstance" = none) (he : PE (X.suite a ((a, oe) :: pn)) e (L2.tVar i)) (gn : Gl (X.suite a ((a, oe) :: pn)) n) (mn : X.mg n = some (.ref C2))
    (hg : Gl (X.suite a ((a, oe) :: pn)) "isinstance" := by rfl) (nd : (n == ("__debug__" : Str)) = false := by decide)
    (h1 : starEach [e, .Name n p2] X.env = (false, eval e X.env) :: starEach [.Name n p2] X.env := by rfl) (h2 : starEach [.Name n p2] X.env = (false, eval (.Name n p2) X.env) :: starEach [] X.env := by rfl)
    (hpl : (backTo pos (starEach [.Name n p2] X.env)).any (·.1) = false := by rfl) : DE (X.suite a ((a, oe) :: pn)) W (.Call (.Name "isinstance" p) [e, .Name n p2] [] pos) (tIsX C a cls dd b i) :=
  PEi (pe_callB (call_isO E hz hf hk) hg hm PyProof.Rows.boot_isinstance (pa_cons he (pa_cons (pe_glob (v := .ref C2) gn mn rfl nd) pa_nil h2) h1) (by decide) (by decide) h1 hpl) fun σ H Q ⟨Cc, en, Φ, Ψ, R1, h, _, k⟩ => by
    unfold tIsX at h
    cases e1 : en[i]? with
    | none => simp only [e1] at h
    | some s =>
      cases s with
      | exc a' cls' dd' x =>
        simp only [e1] at h
        obtain ⟨rfl, rfl, rfl, hx, hs, h⟩ := h
        obtain ⟨xc, xf⟩ := x
        cases xf with
        | none => cases hs
        | some fd =>
          obtain ⟨f, d⟩ := fd
          obtain ⟨y, hy, hs⟩ := Pget R1.sl e1
          cases y with
          | none => exact hs.elim
          | some v =>
            obtain ⟨rfl, hc, d0, w, e2, _, e3, hv⟩ := hs
            exact ⟨_, hy, rfl, hc.trans hx, ⟨d0, f, w, e2, e3⟩, k (.val (.bl b)) en (.bl b) H h R1 (.bl b) rfl Keep.refl trivial⟩
      | _ => simp only [e1] at h
end VS

set_option maxHeartbeats 2000000
namespace PySem
namespace FlatX
open PySem.W PySem.Calls PyProof.Rows PySem.HandSPX
def iA (p1 p2 : Pos) : Arguments := { posonlyargs := [], args := [{ arg := "self", annotation := none, pos := p1 }, { arg := "corner", annotation := none, pos := p2 }], vararg := none, kwonlyargs := [], kw_defaults := [], kwarg := none, defaults := [] }
def iB (q1 q2 q3 q4 : Pos) : List Stmt := [.Assign [.Attribute (.Name "self" q1) "corner" q2] (.Name "corner" q3) q4]
def iS : Scope := { kind := .function, names := [(PySem.Str.ofString "self", .local), (PySem.Str.ofString "corner", .local)], isGenerator := false, isCoroutine := false, more := [] }
structure FlatTxt (K : Frag) (mg : Str → Option Value) (C fI : Addr) : Prop where
  gC : mg "Flat" = some (.ref C)
  cls : ∃ nm q N bs bm sn sub ab col dd k0 k1 k2 k3 k5, K.lookup C = some (excClassObj nm q C N bs bm true sn sub ab col dd k0 k1 k2 k3 k5 "ValueError.__new__") ∧ refsVE bm = true
  sa : findIn K (.ref C) "__setattr__" = some (some (.builtin "object.__setattr__"))
  ga : findIn K (.ref C) "__getattribute__" = some (some (.builtin "BaseException.__getattribute__"))
  gg : findIn K (.ref C) "__getattr__" = some none
  noN : findIn K (.ref C) "corner" = some none
  iC : findIn K (.ref C) "__init__" = some (some (.ref fI))
  tC : typeIn K (.ref fI) = some (.type "function")
  kC : keepIn K (.ref C) = true
  exC : subIn K (.ref C) (.type "BaseException") = some true
  tyC : typeIn K (.ref C) = some (.type "type")
  hdC : hasDictIn K C = true
  te : exmOne K (.ref C) (.ref C) = some true
  fn : ∃ (oc : Value) (od : Option Addr) (doc pm : Value) (an : Option Addr) (cdv ct : Value) (osl : Array (Option Value)) (p1 p2 q1 q2 q3 q4 : Pos),
    K.lookup fI = some ⟨oc, od, .func (fnOf "__init__" "Flat.__init__" (iA p1 p2) (iB q1 q2 q3 q4) iS .none .none doc pm an cdv ct), osl⟩ ∧ codeIn K cdv "Flat.__init__" = true
theorem one_size (v : Value) : [v].length ≤ sizeLine := by
  rw [sizeLine_eq]
  exact (by decide : 1 ≤ 16777216)
theorem kept_but {K : Frag} {h h' : Heap} {x : Addr} (X : K.In h) (hx : K.lookup x = none) (k : ∀ b o, b ≠ x → h.get? b = some o → h'.get? b = some o) : K.In h' := fun a o e =>
  k a o (fun z => by rw [z, hx] at e; cases e) (X a o e)
theorem ldC {M : Model} {s : Shared} {name : Str} {scope : Scope} {L a : Addr} {cd : Value} {m : Str → Option Value} {x : Str} {pos : Pos} {v : Value} {Q : Value → Shared → Prop} {A : Around} {E : Value → Shared → Prop} (hn : s.heap.Ns L m) (hv : m x = some v) (h : Q v s)
    (hk : scope.kind = .function := by rfl) (hl : (envOfC name scope L a cd).kindOf x = some .local := by rfl) (hd : (x == ("__debug__" : Str)) = false := by decide) :
    wpAny M A (eval (.Name x pos) (envOfC name scope L a cd)) Q E s := wpAny_Name (wpAny_loadName_local hk hl hn hv h) hd
structure InitEnd (h h' : Heap) (x C dx t1 : Addr) (v : Value) : Prop where
  keep : ∀ b o, b ≠ x → h.get? b = some o → h'.get? b = some o
  obj : h'.get? x = some { cls := .ref C, dict := some dx, data := .fields #[.ref t1, .none, .none, .none, .bool false, .none] }
  dbig : h.objs.size ≤ dx
  dne : dx ≠ x
  ns : h'.Ns1 dx (fun y => if y = "corner" then some v else none)
structure OwnMade (h h' : Heap) (e C d : Addr) (v : Value) : Prop where
  keep : ∀ b o, h.get? b = some o → h'.get? b = some o
  new : h.objs.size ≤ e
  obj : ∃ oe vs, h'.get? e = some oe ∧ oe.cls = .ref C ∧ oe.dict = some d ∧ oe.data = .fields vs ∧ vs[1]? = some .none
  dbig : h.objs.size ≤ d
  dne : d ≠ e
  ns : h'.Ns1 d (fun y => if y = "corner" then some v else none)
section
variable {prog : Program} {w : World} {A : Around} {E : Value → Shared → Prop} {R : Result → Shared → Prop} {s : Shared} {K : Frag} {mg : Str → Option Value} {C fI : Addr}
theorem flat_init (T : FlatTxt K mg C fI) {x t0 : Addr} {v : Value} (X : K.In s.heap) (hlim : s.heap.NoLimit) (hx : s.heap.get? x = some (excO C t0)) (hnx : K.lookup x = none) (hroom : A.depth < recursionLimit)
    (hq : ∀ h' tk dx, InitEnd s.heap h' x C dx t0 v → R (.ok (.ret .none)) { s with heap := h', toks := tk }) :
    codeAny (model prog w) A (.call (.ref fI) ⟨[.ref x, v], []⟩) R s := by
  obtain ⟨oc, od, doc, pm, an, cdv, ct, osl, p1, p2, q1, q2, q3, q4, ho, hcd⟩ := T.fn
  obtain ⟨nm, q, N, bs, bm, sn, sub, ab, col, dd, k0, k1, k2, k3, k5, hC, hbm⟩ := T.cls
  have hcl : clsIn K C = some { name := nm, bases := bs, mro := .ref C :: bm, ns := N, qualname := q, hasDict := true, slotNames := sn, subclasses := sub, abstract := ab, collection := col, hasDel := false } := by unfold clsIn; rw [hC] <;> rfl
  refine Att.call_fn (binds := [("self", .ref x), ("corner", v)]) X hlim ho hcd hroom (BindsTo.of_eq (by first | rfl | with_unfolding_all rfl)) (by first | rfl | decide | with_unfolding_all rfl) (fun s₁ IC => ?_) rfl rfl rfl
  obtain ⟨h₁, tk₁, rfl⟩ := IC.toInCall.same
  have k : ∀ b o, s.heap.get? b = some o → h₁.get? b = some o := IC.toInCall.keep
  have hn := IC.toInCall.ns
  have hxL : s.heap.objs.size ≠ x := Nat.ne_of_gt (Heap.lt_size hx)
  have X₁ : K.In h₁ := X.keeps k
  have hx₁ := k _ _ hx
  show wpAny _ _ (execs _ _) _ _ _
  refine wpAny_execs_cons (plainObj_wpAny_Assign_Attribute ?_)
  refine ldC (v := v) hn (by first | rfl | with_unfolding_all rfl | kernel_rfl) (ldC (v := .ref x) hn (by first | rfl | with_unfolding_all rfl | kernel_rfl) ?_)
  refine set_plain X₁ (ox := excO C t0) (od := none) ⟨hx₁, rfl, rfl, trivial⟩ T.sa ?_
  refine exc_osa X₁ hx₁ hcl (show refsVE (.ref C :: bm) = true from hbm) rfl T.noN (fun h₃ tk₃ dx k₃ dn dne hx₃ hn₃ => ?_)
  show wpAny _ _ (execs _ _) _ _ _
  have z : s.heap.objs.size < h₁.objs.size := hn.lt
  exact wpAny_execs_nil (hq h₃ tk₃ dx ⟨fun b o hb e => k₃ b o hb (k b o e), hx₃, Nat.le_of_lt (Nat.lt_of_lt_of_le z dn), dne, hn₃⟩)
theorem flat_made (T : FlatTxt K mg C fI) {v : Value} (X : K.In s.heap) (hlim : s.heap.NoLimit) (hroom : A.depth + 1 < recursionLimit)
    (hq : ∀ h' tk e d, OwnMade s.heap h' e C d v → R (.ok (.ret (.ref e))) { s with heap := h', toks := tk }) :
    codeAny (model prog w) A (.call (.ref C) ⟨[v], []⟩) R s := by
  obtain ⟨nm, q, N, bs, bm, sn, sub, ab, col, dd, k0, k1, k2, k3, k5, hC, hbm⟩ := T.cls
  obtain ⟨hp, g, dr, tk, os⟩ := s
  have k : ∀ b o, hp.get? b = some o → ((hp.push (kdv_tup [v])).push (excO C hp.objs.size)).get? b = some o := fun b o e => Heap.get?_push_of_some _ (Heap.get?_push_of_some _ e)
  have hget : ((hp.push (kdv_tup [v])).push (excO C hp.objs.size)).get? (hp.objs.size + 1) = some (excO C hp.objs.size) := by heap_get
  have hnx : K.lookup (hp.objs.size + 1) = none := by
    cases e : K.lookup (hp.objs.size + 1) with
    | none => rfl
    | some o =>
      have z : hp.get? (hp.objs.size + 1) = some o := X _ _ e
      exact absurd (Nat.lt_of_succ_lt (Heap.lt_size z)) (Nat.lt_irrefl _)
  refine call_own F.excBase_ValueError (fun X => refsVE_contains X bm hbm) (X _ _ hC) (looks_findIn X T.iC) (fun self => bind_fn X self T.tC) (one_size v) ?_
  refine flat_init (s := ⟨(hp.push (kdv_tup [v])).push (excO C hp.objs.size), g, dr, tk, os⟩) T (X.keeps k) (hlim.keeps k) hget hnx ?_ fun h' tk' dx ⟨k', hx, dn, dne, hns⟩ => ?_
  · show A.depth + 1 < recursionLimit
    exact hroom
  · have old : ∀ b o, hp.get? b = some o → h'.get? b = some o := fun b o e => k' b o (Nat.ne_of_lt (Nat.lt_succ_of_lt (Heap.lt_size e))) (k b o e)
    have z : hp.objs.size + 1 + 1 ≤ dx := by
      first
        | (simpa only [Heap.size_push] using dn)
        | exact dn
        | (have q := dn; rw [Heap.size_push, Heap.size_push] at q; exact q)
    exact ⟨rfl, hq h' tk' (hp.objs.size + 1) dx ⟨old, Nat.le_succ _, ⟨_, _, hx, rfl, rfl, rfl, rfl⟩, Nat.le_trans (Nat.le_trans (Nat.le_succ _) (Nat.le_succ _)) z, dne, hns⟩⟩
end
end FlatX
end PySem
namespace L2
open PySem PySem.Spec PyProof.Rows
theorem relO_flat {v : V} {v' : Value} (r : RelV v v') (f : Str) : RelO (List.lookup f [(("corner" : Str), v)]) (if f = "corner" then some v' else none) := by
  by_cases hw : f = "corner"
  · subst hw
    rw [if_pos rfl]
    have q : List.lookup ("corner" : Str) [(("corner" : Str), v)] = some v := by simp [List.lookup]
    rw [q]
    exact r
  · rw [if_neg hw]
    have qw : (f == ("corner" : Str)) = false := by simpa using hw
    have q2 : List.lookup f [(("corner" : Str), v)] = none := by simp [List.lookup, qw]
    rw [q2]
    trivial
section
variable {X : Cx} {C fI : Addr}
def tMkFlat (C : Addr) (ta : TA) : St → Hp → XK → Prop := fun σ H Q => ta σ H fun vs H1 => ∃ v, vs = [v] ∧ ∀ d, H1 d = none → Q (.ref C) (some d) (upd H1 d (.xd [(("corner" : Str), v)]))
theorem pmk_flat {a : Expr} {ta : TA} {p pos : Pos} {k : Nat} (T : PySem.FlatX.FlatTxt X.K X.mg C fI) (hr : Room k X.A) (ha : PA X [a] ta) (hg : Gl X "Flat" := by rfl)
    (he : starEach (a :: []) X.env = (false, eval a X.env) :: starEach [] X.env := by rfl) (hpl : (backTo pos (starEach [] X.env)).any (·.1) = false := by rfl) :
    PMk X (.Call (.Name "Flat" p) [a] [] pos) (tMkFlat C ta) := by
  intro pins s σ H Q I h
  refine wpAny_Call_Name_kw (ld_glob I hg T.gC ?_)
  refine PySem.W.callWith_K (h₀ := X.base) I.ok.mod.kin T.kC (thn (ha.run pos pins s σ H _ I h) fun us s1 hh => ?_) he hpl
  obtain ⟨vs, H1, I1, r1, v, ev, q1⟩ := hh
  subst ev
  refine ⟨I1.kIn, ?_⟩
  cases r1 with
  | cons rv rn =>
    rename_i v' us'
    cases rn
    show wpAny _ _ (call (.ref C) [v']) _ _ _
    have hlim := I1.nolimit
    obtain ⟨hp, g, dr, tk, os⟩ := s1
    refine wpAny_call (PySem.FlatX.flat_made T I1.kIn hlim (by have := hr.dp; omega) fun h' tk' e d M => ?_)
    show MkP X pins σ Q (.ref e) ⟨h', g, dr, tk', os⟩
    obtain ⟨oe, fv, hoe, hc, hd, hdat, h1⟩ := M.obj
    have hns := M.ns
    obtain ⟨G', g1, g2⟩ := restrict h' fun b => decide (b ≠ e)
    have gk : ∀ b, b ≠ e → G'.get? b = h'.get? b := fun b hb => g1 b (decide_eq_true hb)
    have ge : G'.get? e = none := g2 e (by simp)
    have old : ∀ b o, hp.get? b = some o → G'.get? b = some o := fun b o q => (gk b (Nat.ne_of_lt (Nat.lt_of_lt_of_le (Heap.lt_size q) M.new))).trans (M.keep b o q)
    have ob : ObjOk X.prog X.w (upd H1 d (.xd [(("corner" : Str), v)])) G' d (.xd [(("corner" : Str), v)]) :=
      ⟨_, hns.at (fun o q => (gk d M.dne).trans q), fun f => relO_flat rv f⟩
    have J : Inv X pins σ (upd H1 d (.xd [(("corner" : Str), v)])) ⟨G', g, dr, tk', os⟩ := I1.laid (t' := tk') old M.dbig ob
    refine ⟨e, oe, fv, ⟨G', g, dr, tk', os⟩, _, .ref C, some d, rfl, J, fun b o q => ?_, ge, hoe, ⟨hc, hd⟩, hdat, h1, ?_, rfl, I1.bare, raises_own T.exC T.tyC, q1 d (I1.hok.fresh M.dbig)⟩
    · by_cases hb : b = e
      · have q' : G'.get? b = some o := q
        rw [hb, ge] at q'; cases q'
      · exact (gk b hb).symm.trans q
    · rw [upd_ne (Ne.symm M.dne)]
      exact I1.hok.fresh M.new
def tRaiseFlat (C : Addr) (W : WX) (ta : TA) : TS := fun _ σ H => tMkFlat C ta σ H fun cls d H' => W cls d σ H'
theorem ps_raiseFlat {a : Expr} {ta : TA} {W : WX} {p pos pos2 : Pos} {k : Nat} (hc : X.calm = true) (T : PySem.FlatX.FlatTxt X.K X.mg C fI) (hr : Room k X.A) (tk : Takes X W) (ha : PA X [a] ta) (hg : Gl X "Flat" := by rfl)
    (he : starEach (a :: []) X.env = (false, eval a X.env) :: starEach [] X.env := by rfl) (hpl : (backTo pos (starEach [] X.env)).any (·.1) = false := by rfl) :
    PS X (.Raise (some (.Call (.Name "Flat" p) [a] [] pos)) none pos2) (tRaiseFlat C W ta) := ps_raise hc tk (pmk_flat T hr ha hg he hpl)
def tFldFlat (C : Addr) (a : Addr) (cls : Value) (d : Option Addr) (te : TE) : TE := fun σ H Q => te σ H fun x H1 => x = .ref a ∧ cls = .ref C ∧ ∃ (dd : Addr) (v : V), d = some dd ∧ H1 dd = some (.xd [(("corner" : Str), v)]) ∧ Q v H1
theorem pe_fldFlat {a : Addr} {oe : Obj} {cls : Value} {d : Option Addr} {pn : List (Addr × Obj)} {e : Expr} {te : TE} {pos : Pos} (T : PySem.FlatX.FlatTxt X.K X.mg C fI) (hz : Zc cls d oe) (hf : ∃ vs, oe.data = .fields vs) (he : PE (X.suite a ((a, oe) :: pn)) e te)
    (hb : attributeBase e "corner" X.env (eval e X.env) = eval e X.env := by rfl) :
    PE (X.suite a ((a, oe) :: pn)) (.Attribute e "corner" pos) (tFldFlat C a cls d te) := by
  refine ⟨fun pins s σ H Q I h => ?_⟩
  refine attr_of hb (thn (he.run pins s σ H _ I h) fun u s1 hh => ?_)
  obtain ⟨x, H1, I1, rx, ex, ec, dd, v, ed, ea, q⟩ := hh
  subst ex
  obtain rfl : u = Value.ref a := rx
  subst ec
  subst ed
  obtain ⟨ha, _⟩ := I1.pin (a, oe) (List.mem_append_left _ List.mem_cons_self)
  obtain ⟨vs, hd⟩ := hf
  have hx : ObjOk X.prog X.w H1 s1.heap dd (.xd [(("corner" : Str), v)]) := I1.hok dd _ ea
  obtain ⟨mA, hns, hr⟩ := hx
  obtain ⟨od, ho, hl⟩ := lookIn_ns hns
  have l : List.lookup ("corner" : Str) [(("corner" : Str), v)] = some v := by simp [List.lookup]
  obtain ⟨u, hu, ru⟩ := RelO.some_of (v := v) (o := mA "corner") (by rw [← l]; exact hr "corner")
  have J : PySem.W.InstAt s1.heap a oe C (some od) := ⟨ha, hz.1, by unfold PySem.W.notCls; rw [hd] <;> rfl, by rw [hz.2]; exact ho⟩
  exact HandSPX.exc_get I1.kIn J T.ga T.gg T.exC (PySem.W.findObj_own T.hdC T.noN rfl (by rw [hl, hu])) (handed_of ru) ⟨v, H1, I1.tok _, ru, q⟩
end
end L2
namespace VS
open PySem L2 PySem.Spec PyProof.Rows
/-! ### Flat: raised, read, as readings -/
def tRaiseFlat (C : Addr) (ts : TDa) : TDs := fun De en => ts De.ex en fun rs en1 => match rs with
  | [r] => (match vl r with
    | some d => De.ex ⟨.ref C, some ("corner", d)⟩ en1
    | none => False)
  | _ => False
theorem ds_raiseFlat {X : Cx} {W : WX} {C fI : Addr} {a : Expr} {ts : TDa} {p pos pos2 : Pos} {k : Nat} (hc : X.calm = true) (T : PySem.FlatX.FlatTxt X.K X.mg C fI) (hr : Room k X.A) (tk : Takes X W) (ha : DA X W [a] ts) (hg : Gl X "Flat" := by rfl)
    (he : starEach [a] X.env = (false, eval a X.env) :: starEach [] X.env := by rfl) (hpl : (backTo pos (starEach [] X.env)).any (·.1) = false := by rfl) :
    DS X W (.Raise (some (.Call (.Name "Flat" p) [a] [] pos)) none pos2) (tRaiseFlat C ts) :=
  PSi (ps_raiseFlat hc T hr tk ha hg he hpl) fun Ds σ H ⟨Cc, en, De, R1, h, k⟩ =>
    ⟨Cc, en, _, De.ex, R1, h, k.x σ, fun rs en1 vs H1 q R2 hv _ _ _ => by
      match rs, hv, R2, q with
      | [r], ⟨v, ws, e1, h1, h2⟩, R2, q =>
        cases h2
        refine ⟨v, e1, fun d hd => ?_⟩
        cases e : vl r with
        | none => simp only [e] at q
        | some dd =>
          simp only [e] at q
          have R3 : R X.K (Cc.ext r) σ H1 en1 := R2
          have rp := h1.rp R3 e
          have R4 := R3.dropX
          have nm : ¬ mm Cc (oas en1) d := fun z => by
            rcases z with z | z
            · obtain ⟨u, eu⟩ := R4.dom d (.inl z)
              rw [hd] at eu
              cases eu
            · obtain ⟨u, eu⟩ := R4.oD z
              rw [hd] at eu
              cases eu
          have sm : Same H1 (upd H1 d (.xd [(("corner" : Str), v)])) := same_new hd
          exact k.ex _ _ σ _ _ _ q (R4.grow sm) ⟨rfl, d, v, rfl, nm, upd_same, Rp.mono (fun b u n z => ⟨n, sm b u z⟩) _ _ rp⟩⟩
/-- the field of the error that the suite holds in slot i -/
def tFldFlat (C : Addr) (a : Addr) (cls : Value) (dd : Option Addr) (i : Nat) : TDe := fun _ en Φ => match en[i]? with
  | some (.exc a' cls' dd' x) => a' = a ∧ cls' = cls ∧ dd' = dd ∧ x.cls = .ref C ∧ (match x.fld with
    | some (f, d) => f = "corner" ∧ Φ (.val d) en
    | none => False)
  | _ => False
theorem de_fldFlat {X : Cx} {W : WX} {C fI a : Addr} {oe : Obj} {cls : Value} {dd : Option Addr} {pn : List (Addr × Obj)} {e : Expr} {i : Nat} {pos : Pos} (T : PySem.FlatX.FlatTxt X.K X.mg C fI) (hz : Zc cls dd oe) (hf : ∃ vs, oe.data = .fields vs) (he : PE (X.suite a ((a, oe) :: pn)) e (L2.tVar i))
    (hb : attributeBase e "corner" X.env (eval e X.env) = eval e X.env := by rfl) : DE (X.suite a ((a, oe) :: pn)) W (.Attribute e "corner" pos) (tFldFlat C a cls dd i) :=
  PEi (pe_fldFlat T hz hf he hb) fun σ H Q ⟨Cc, en, Φ, Ψ, R1, h, _, k⟩ => by
    unfold tFldFlat at h
    cases e1 : en[i]? with
    | none => simp only [e1] at h
    | some s =>
      cases s with
      | exc a' cls' dd' x =>
        simp only [e1] at h
        obtain ⟨rfl, rfl, rfl, hx, h⟩ := h
        obtain ⟨xc, xf⟩ := x
        cases xf with
        | none => exact h.elim
        | some fd =>
          obtain ⟨f, d⟩ := fd
          obtain ⟨rfl, h⟩ := h
          obtain ⟨y, hy, hs⟩ := Pget R1.sl e1
          cases y with
          | none => exact hs.elim
          | some v =>
            obtain ⟨rfl, hc, d0, w, e2, _, e3, hv⟩ := hs
            refine ⟨_, hy, rfl, hc.trans hx, d0, w, e2, e3, k (.val d) en w H h R1 hv rfl Keep.refl trivial⟩
      | _ => simp only [e1] at h
end VS

namespace VS
/-! ### rows of points: counts by the ray, by quarters (plain Lean) -/
abbrev P3 := Int × Int × Int
def z3 : P3 := (0, 0, 0)
def crossI (p q : P3) : Int := p.1 * q.2.1 - p.2.1 * q.1
def dotI (p q : P3) : Int := p.1 * q.1 + p.2.1 * q.2.1
def Miss (p q : P3) : Prop := crossI p q ≠ 0 ∨ 0 < dotI p q
instance (p q : P3) : Decidable (Miss p q) := by unfold Miss; infer_instance
def rayX (b d X : Int) : Int := if b < 0 ∧ 0 ≤ d ∧ 0 < X then 1 else if 0 ≤ b ∧ d < 0 ∧ X < 0 then -1 else 0
def rayI (p q : P3) : Int := rayX p.2.1 q.2.1 (crossI p q)
def quadX (a b : Int) : Int := if 0 ≤ b then (if 0 < a then 0 else if 0 < b then 1 else 2) else if a < 0 then 2 else 3
def quadI (p : P3) : Int := quadX p.1 p.2.1
def moveX (m X : Int) : Int := if m % 4 = 2 then (if 0 < X then 2 else -2) else if m % 4 = 3 then -1 else m % 4
def moveI (p q : P3) : Int := moveX (quadI q - quadI p) (crossI p q)
theorem sg_nn {x y : Int} (h : 0 ≤ x) (k : 0 ≤ y) : 0 ≤ x * y := Int.mul_nonneg h k
theorem sg_np {x y : Int} (h : 0 ≤ x) (k : y ≤ 0) : x * y ≤ 0 := by
  have := Int.mul_nonneg h (show 0 ≤ -y by omega)
  rw [Int.mul_neg] at this
  omega
theorem sg_pn {x y : Int} (h : x ≤ 0) (k : 0 ≤ y) : x * y ≤ 0 := by
  rw [Int.mul_comm]
  exact sg_np k h
theorem sg_pp {x y : Int} (h : x ≤ 0) (k : y ≤ 0) : 0 ≤ x * y := by
  have := Int.mul_nonneg (show 0 ≤ -x by omega) (show 0 ≤ -y by omega)
  rw [Int.neg_mul_neg] at this
  exact this
theorem sg_P {x y : Int} (h : 0 < x) (k : 0 < y) : 0 < x * y := Int.mul_pos h k
theorem sg_N {x y : Int} (h : 0 < x) (k : y < 0) : x * y < 0 := Int.mul_neg_of_pos_of_neg h k
theorem sg_N' {x y : Int} (h : x < 0) (k : 0 < y) : x * y < 0 := Int.mul_neg_of_neg_of_pos h k
theorem sg_P' {x y : Int} (h : x < 0) (k : y < 0) : 0 < x * y := Int.mul_pos_of_neg_of_neg h k
/-- where the quarters lie -/
theorem quad_at (a b : Int) (h : ¬ (a = 0 ∧ b = 0)) : (quadX a b = 0 ∧ 0 ≤ b ∧ 0 < a) ∨ (quadX a b = 1 ∧ 0 < b ∧ a ≤ 0) ∨ (quadX a b = 2 ∧ b ≤ 0 ∧ a < 0) ∨ (quadX a b = 3 ∧ b < 0 ∧ 0 ≤ a) := by
  unfold quadX
  repeat' split
  all_goals omega
/-- the same, by the four numbers: X = a d - b c, Y = a c + b d -/
theorem move_rayX {a b c d X Y : Int} (hX : X = a * d - b * c) (hY : Y = a * c + b * d) (h : X ≠ 0 ∨ 0 < Y) (n1 : ¬ (a = 0 ∧ b = 0)) (n2 : ¬ (c = 0 ∧ d = 0)) :
    moveX (quadX c d - quadX a b) X = 4 * rayX b d X + quadX c d - quadX a b := by
  rcases quad_at a b n1 with ⟨e1, h1, h2⟩ | ⟨e1, h1, h2⟩ | ⟨e1, h1, h2⟩ | ⟨e1, h1, h2⟩ <;> rcases quad_at c d n2 with ⟨e2, h3, h4⟩ | ⟨e2, h3, h4⟩ | ⟨e2, h3, h4⟩ | ⟨e2, h3, h4⟩ <;> rw [e1, e2] <;> unfold moveX rayX
  -- 0 -> 0, 1, 2, 3
  · simp; omega
  · simp; omega
  · have t1 : a * c < 0 := sg_N h2 h4
    have t2 : b * d ≤ 0 := sg_np h1 h3
    have t3 : X ≠ 0 := by omega
    by_cases hd : d = 0
    · subst hd
      have t4 : b * c ≤ 0 := sg_np h1 (by omega)
      have t5 : a * 0 = 0 := Int.mul_zero a
      rw [if_pos (by decide), if_pos (by omega), if_neg (by omega), if_neg (by omega)]
      omega
    · by_cases hx : 0 < X
      · rw [if_pos (by decide), if_pos hx, if_neg (by omega), if_neg (by omega)]
        omega
      · rw [if_pos (by decide), if_neg hx, if_neg (by omega), if_pos (by omega)]
        omega
  · have t1 : a * d < 0 := sg_N h2 h3
    have t2 : 0 ≤ b * c := sg_nn h1 h4
    rw [if_neg (by decide), if_pos (by decide), if_neg (by omega), if_pos (by omega)]
    omega
  -- 1 -> 0, 1, 2, 3
  · simp; omega
  · simp; omega
  · have t1 : b * c < 0 := sg_N h1 h4
    have t2 : 0 ≤ a * d := sg_pp h2 h3
    rw [if_neg (by decide), if_neg (by decide), if_neg (by omega), if_neg (by omega)]
    omega
  · have t1 : a * c ≤ 0 := sg_pn h2 h4
    have t2 : b * d < 0 := sg_N h1 h3
    by_cases hx : 0 < X
    · rw [if_pos (by decide), if_pos hx, if_neg (by omega), if_neg (by omega)]
      omega
    · rw [if_pos (by decide), if_neg hx, if_neg (by omega), if_pos (by omega)]
      omega
  -- 2 -> 0, 1, 2, 3
  · have t1 : a * c < 0 := sg_N' h2 h4
    have t2 : b * d ≤ 0 := sg_pn h1 h3
    by_cases hb : b = 0
    · subst hb
      have t3 : a * d ≤ 0 := sg_pn (by omega) h3
      have t4 : 0 * c = 0 := Int.zero_mul c
      rw [if_pos (by decide), if_neg (by omega), if_neg (by omega), if_neg (by omega)]
      omega
    · by_cases hx : 0 < X
      · rw [if_pos (by decide), if_pos hx, if_pos (by omega)]
        omega
      · rw [if_pos (by decide), if_neg hx, if_neg (by omega), if_neg (by omega)]
        omega
  · have t1 : a * d < 0 := sg_N' h2 h3
    have t2 : 0 ≤ b * c := sg_pp h1 h4
    rw [if_neg (by decide), if_pos (by decide), if_neg (by omega), if_neg (by omega)]
    omega
  · by_cases hd : d = 0
    · subst hd
      have t1 : a * 0 = 0 := Int.mul_zero a
      have t2 : 0 ≤ b * c := sg_pp h1 (by omega)
      rw [if_neg (by decide), if_neg (by decide), if_neg (by omega), if_neg (by omega)]
      omega
    · have t1 : 0 < a * d := sg_P' h2 (by omega)
      by_cases hb : b = 0
      · subst hb
        have t2 : 0 * c = 0 := Int.zero_mul c
        rw [if_neg (by decide), if_neg (by decide), if_neg (by omega), if_neg (by omega)]
        omega
      · rw [if_neg (by decide), if_neg (by decide), if_neg (by omega), if_neg (by omega)]
        omega
  · have t1 : 0 < a * d := sg_P' h2 h3
    by_cases hb : b = 0
    · subst hb
      have t2 : 0 * c = 0 := Int.zero_mul c
      rw [if_neg (by decide), if_neg (by decide), if_neg (by omega), if_neg (by omega)]
      omega
    · rw [if_neg (by decide), if_neg (by decide), if_neg (by omega), if_neg (by omega)]
      omega
  -- 3 -> 0, 1, 2, 3
  · have t1 : 0 ≤ a * d := sg_nn h2 h3
    have t2 : b * c < 0 := sg_N' h1 h4
    rw [if_neg (by decide), if_neg (by decide), if_pos (by omega)]
    omega
  · have t1 : a * c ≤ 0 := sg_np h2 h4
    have t2 : b * d < 0 := sg_N' h1 h3
    by_cases hx : 0 < X
    · rw [if_pos (by decide), if_pos hx, if_pos (by omega)]
      omega
    · rw [if_pos (by decide), if_neg hx, if_neg (by omega), if_neg (by omega)]
      omega
  · have t1 : 0 < b * c := sg_P' h1 h4
    have t2 : a * d ≤ 0 := sg_np h2 h3
    rw [if_neg (by decide), if_pos (by decide), if_neg (by omega), if_neg (by omega)]
    omega
  · simp; omega
theorem miss_nz {p q : P3} (h : Miss p q) : ¬ (p.1 = 0 ∧ p.2.1 = 0) ∧ ¬ (q.1 = 0 ∧ q.2.1 = 0) := by
  constructor
  · rintro ⟨e1, e2⟩
    rcases h with h | h
    · exact h (by simp [crossI, e1, e2])
    · simp [dotI, e1, e2] at h
  · rintro ⟨e1, e2⟩
    rcases h with h | h
    · exact h (by simp [crossI, e1, e2])
    · simp [dotI, e1, e2] at h
theorem move_ray {p q : P3} (h : Miss p q) : moveI p q = 4 * rayI p q + quadI q - quadI p :=
  move_rayX (a := p.1) (b := p.2.1) (c := q.1) (d := q.2.1) (X := crossI p q) (Y := dotI p q) rfl rfl h (miss_nz h).1 (miss_nz h).2
/-! ### sums along a closed row -/
def sumTo (f : Nat → Int) : Nat → Int
  | 0 => 0
  | n + 1 => sumTo f n + f n
theorem sumTo_congr {f g : Nat → Int} : ∀ n, (∀ i, i < n → f i = g i) → sumTo f n = sumTo g n
  | 0, _ => rfl
  | n + 1, h => by
    simp only [sumTo]
    rw [sumTo_congr n fun i hi => h i (by omega), h n (by omega)]
theorem sumTo_tele (k : Nat → Int) : ∀ n, sumTo (fun i => k (i + 1) - k i) n = k n - k 0
  | 0 => by simp [sumTo]
  | n + 1 => by simp only [sumTo]; rw [sumTo_tele k n]; omega
theorem sumTo_lin (a : Int) (f g : Nat → Int) : ∀ n, sumTo (fun i => a * f i + g i) n = a * sumTo f n + sumTo g n
  | 0 => by simp [sumTo]
  | n + 1 => by simp only [sumTo]; rw [sumTo_lin a f g n, Int.mul_add]; omega
theorem sumTo_neg (f : Nat → Int) : ∀ n, sumTo (fun i => - f i) n = - sumTo f n
  | 0 => by simp [sumTo]
  | n + 1 => by simp only [sumTo]; rw [sumTo_neg f n]; omega
/-- around a closed row what is a difference of a number of the points is nothing -/
theorem sumTo_cyc (k : Nat → Int) (n : Nat) : sumTo (fun i => k ((i + 1) % n) - k i) n = 0 := by
  cases n with
  | zero => rfl
  | succ m =>
    have h1 : sumTo (fun i => k ((i + 1) % (m + 1)) - k i) m = sumTo (fun i => k (i + 1) - k i) m := sumTo_congr m fun i hi => by rw [Nat.mod_eq_of_lt (by omega)]
    simp only [sumTo]
    rw [h1, sumTo_tele, Nat.mod_self]
    omega
def at3 (ps : List P3) (i : Nat) : P3 := ps.getD i z3
def nxt (ps : List P3) (i : Nat) : P3 := at3 ps ((i + 1) % ps.length)
def Cyc (ps : List P3) : Prop := ∀ i, i < ps.length → Miss (at3 ps i) (nxt ps i)
def roundsI (ps : List P3) : Int := sumTo (fun i => rayI (at3 ps i) (nxt ps i)) ps.length
def movesI (ps : List P3) : Int := sumTo (fun i => moveI (at3 ps i) (nxt ps i)) ps.length
theorem moves_rounds {ps : List P3} (h : Cyc ps) : movesI ps = 4 * roundsI ps := by
  unfold movesI roundsI
  have h1 : sumTo (fun i => moveI (at3 ps i) (nxt ps i)) ps.length = sumTo (fun i => 4 * rayI (at3 ps i) (nxt ps i) + (quadI (at3 ps ((i + 1) % ps.length)) - quadI (at3 ps i))) ps.length :=
    sumTo_congr _ fun i hi => by
      rw [move_ray (h i hi)]
      show 4 * rayI (at3 ps i) (nxt ps i) + quadI (at3 ps ((i + 1) % ps.length)) - quadI (at3 ps i) = _
      omega
  rw [h1, sumTo_lin, sumTo_cyc fun i => quadI (at3 ps i)]
  omega
/-! ### mapped rows -/
/-- crossings of the ray of a linear form: l at both ends, X the turn -/
def mapP (a b c d : Int) (p : P3) : P3 := (a * p.1 + b * p.2.1, c * p.1 + d * p.2.1, p.2.2)
def lin (c d : Int) (p : P3) : Int := c * p.1 + d * p.2.1
theorem cross_map (a b c d : Int) (p q : P3) : crossI (mapP a b c d p) (mapP a b c d q) = (a * d - b * c) * crossI p q := by
  unfold crossI mapP
  simp only
  grind
theorem ray_map (a b c d : Int) (p q : P3) : rayI (mapP a b c d p) (mapP a b c d q) = rayX (lin c d p) (lin c d q) ((a * d - b * c) * crossI p q) := by
  unfold rayI
  rw [cross_map]
  rfl
/-- with the turn the other way the ray of a form is crossed on its other side -/
theorem ray_flip {A B X : Int} (h : X = 0 → (A < 0 ↔ B < 0)) : rayX A B (-X) = (if 0 ≤ B then 1 else 0) - (if 0 ≤ A then 1 else 0) - rayX A B X := by
  unfold rayX
  repeat' split
  all_goals omega
theorem ray_scale {A B X k : Int} (hk : 0 < k) : rayX A B (k * X) = rayX A B X := by
  have h1 : (0 < k * X ↔ 0 < X) := ⟨fun h => by
    rcases Int.lt_trichotomy X 0 with z | z | z
    · have := sg_N hk z; omega
    · rw [z, Int.mul_zero] at h; omega
    · exact z, fun h => sg_P hk h⟩
  have h2 : (k * X < 0 ↔ X < 0) := ⟨fun h => by
    rcases Int.lt_trichotomy X 0 with z | z | z
    · exact z
    · rw [z, Int.mul_zero] at h; omega
    · have := sg_P hk z; omega, fun h => sg_N hk h⟩
  unfold rayX
  simp only [h1, h2]
/-! ### which ray is counted is nothing to a closed row -/
def secX (A B : Int) : Int := if 0 ≤ A ∧ B < 0 then 1 else 0
theorem ray_two {A B A' B' X K : Int} (hK : 0 < K) (hZ : K * X = A * B' - A' * B) (h0 : X = 0 → (A < 0 ↔ A' < 0) ∧ (B < 0 ↔ B' < 0)) : rayX A A' X - rayX B B' X = secX A' B' - secX A B := by
  have p1 : 0 < X → 0 < K * X := fun h => sg_P hK h
  have p2 : X < 0 → K * X < 0 := fun h => sg_N hK h
  generalize K * X = Z at *
  unfold rayX secX
  by_cases a : A < 0 <;> by_cases a' : A' < 0 <;> by_cases b : B < 0 <;> by_cases b' : B' < 0
  · simp [a, a', b, b']; omega
  · simp [a, a', b, b']
    have t1 : A * B' ≤ 0 := sg_pn (by omega) (by omega)
    have t2 : 0 < A' * B := sg_P' a' b
    omega
  · simp [a, a', b, b']
    have t1 : 0 < A * B' := sg_P' a b'
    have t2 : A' * B ≤ 0 := sg_pn (by omega) (by omega)
    omega
  · simp [a, a', b, b']; omega
  · have t1 : 0 < A * B' := sg_P' a b'
    have t2 : A' * B ≤ 0 := sg_np (by omega) (by omega)
    simp [a, a', b, b']
    omega
  · simp [a, a', b, b']
    repeat' split
    all_goals omega
  · simp [a, a', b, b']
    repeat' split
    all_goals omega
  · have t1 : A * B' ≤ 0 := sg_pn (by omega) (by omega)
    have t2 : 0 ≤ A' * B := sg_nn (by omega) (by omega)
    simp [a, a', b, b']
    repeat' split
    all_goals omega
  · have t1 : A * B' ≤ 0 := sg_np (by omega) (by omega)
    have t2 : 0 < A' * B := sg_P' a' b
    simp [a, a', b, b']
    repeat' split
    all_goals omega
  · simp [a, a', b, b']
    repeat' split
    all_goals omega
  · simp [a, a', b, b']
    repeat' split
    all_goals omega
  · have t1 : 0 ≤ A * B' := sg_nn (by omega) (by omega)
    have t2 : A' * B ≤ 0 := sg_pn (by omega) (by omega)
    simp [a, a', b, b']
    repeat' split
    all_goals omega
  all_goals
    simp [a, a', b, b']
    first
      | omega
      | (have t1 : A * B' ≤ 0 := sg_np (by omega) (by omega)
         have t2 : 0 ≤ A' * B := sg_nn (by omega) (by omega)
         repeat' split
         all_goals omega)
      | (have t1 : 0 ≤ A * B' := sg_nn (by omega) (by omega)
         have t2 : A' * B ≤ 0 := sg_np (by omega) (by omega)
         repeat' split
         all_goals omega)
      | (repeat' split
         all_goals omega)
theorem lin_two (c d c' d' : Int) (p q : P3) : (c * d' - d * c') * crossI p q = lin c d p * lin c' d' q - lin c d q * lin c' d' p := by
  unfold lin crossI
  grind
theorem same_way {p q : P3} (h : Miss p q) (hx : crossI p q = 0) (c d : Int) : ∃ k Y : Int, 0 < k ∧ 0 < Y ∧ k * lin c d q = Y * lin c d p := by
  have hY : 0 < dotI p q := h.resolve_left fun z => z hx
  refine ⟨p.1 * p.1 + p.2.1 * p.2.1, dotI p q, ?_, hY, ?_⟩
  · have n := (miss_nz h).1
    have h1 : 0 ≤ p.1 * p.1 := by
      rcases Int.le_total 0 p.1 with z | z
      · exact sg_nn z z
      · exact sg_pp z z
    have h2 : 0 ≤ p.2.1 * p.2.1 := by
      rcases Int.le_total 0 p.2.1 with z | z
      · exact sg_nn z z
      · exact sg_pp z z
    by_cases e : p.1 = 0
    · have e2 : p.2.1 ≠ 0 := fun z => n ⟨e, z⟩
      have : 0 < p.2.1 * p.2.1 := by
        rcases Int.lt_or_gt_of_ne e2 with z | z
        · exact sg_P' z z
        · exact sg_P z z
      omega
    · have : 0 < p.1 * p.1 := by
        rcases Int.lt_or_gt_of_ne e with z | z
        · exact sg_P' z z
        · exact sg_P z z
      omega
  · unfold crossI at hx
    unfold lin dotI
    grind
theorem pos_iff {k Y x y : Int} (hk : 0 < k) (hY : 0 < Y) (h : k * x = Y * y) : (y < 0 ↔ x < 0) := by
  constructor
  · intro z
    rcases Int.lt_trichotomy x 0 with w | w | w
    · exact w
    · rw [w, Int.mul_zero] at h
      have := sg_N hY z
      omega
    · have h1 := sg_P hk w
      have h2 := sg_N hY z
      omega
  · intro z
    rcases Int.lt_trichotomy y 0 with w | w | w
    · exact w
    · rw [w, Int.mul_zero] at h
      have := sg_N hk z
      omega
    · have h1 := sg_P hY w
      have h2 := sg_N hk z
      omega
def linSum (c d : Int) (ps : List P3) : Int := sumTo (fun i => rayX (lin c d (at3 ps i)) (lin c d (nxt ps i)) (crossI (at3 ps i) (nxt ps i))) ps.length
theorem lin_sum_pos {ps : List P3} (h : Cyc ps) {c d c' d' : Int} (hK : 0 < c * d' - d * c') : linSum c d ps = linSum c' d' ps := by
  have key : ∀ i, i < ps.length → rayX (lin c d (at3 ps i)) (lin c d (nxt ps i)) (crossI (at3 ps i) (nxt ps i)) =
      1 * rayX (lin c' d' (at3 ps i)) (lin c' d' (nxt ps i)) (crossI (at3 ps i) (nxt ps i)) + (secX (lin c d (at3 ps ((i + 1) % ps.length))) (lin c' d' (at3 ps ((i + 1) % ps.length))) - secX (lin c d (at3 ps i)) (lin c' d' (at3 ps i))) := fun i hi => by
    have h1 := ray_two hK (X := crossI (at3 ps i) (nxt ps i)) (lin_two c d c' d' (at3 ps i) (nxt ps i)) fun hx => by
      obtain ⟨k, Y, k1, k2, k3⟩ := same_way (h i hi) hx c d
      obtain ⟨l, Z, l1, l2, l3⟩ := same_way (h i hi) hx c' d'
      exact ⟨pos_iff k1 k2 k3, pos_iff l1 l2 l3⟩
    unfold nxt at h1 ⊢
    omega
  unfold linSum
  rw [sumTo_congr _ key, sumTo_lin, sumTo_cyc fun i => secX (lin c d (at3 ps i)) (lin c' d' (at3 ps i))]
  omega
theorem lin_sum_ne {ps : List P3} (h : Cyc ps) {c d c' d' : Int} (hK : c * d' - d * c' ≠ 0) : linSum c d ps = linSum c' d' ps := by
  rcases Int.lt_or_gt_of_ne hK with z | z
  · refine (lin_sum_pos h ?_).symm
    have e1 : c' * d = d * c' := Int.mul_comm _ _
    have e2 : d' * c = c * d' := Int.mul_comm _ _
    omega
  · exact lin_sum_pos h z
theorem sq_pos {a b : Int} (h : ¬ (a = 0 ∧ b = 0)) : 0 < a * a + b * b := by
  have h1 : 0 ≤ a * a := by
    rcases Int.le_total 0 a with z | z
    · exact sg_nn z z
    · exact sg_pp z z
  have h2 : 0 ≤ b * b := by
    rcases Int.le_total 0 b with z | z
    · exact sg_nn z z
    · exact sg_pp z z
  by_cases e : a = 0
  · have e2 : b ≠ 0 := fun z => h ⟨e, z⟩
    have : 0 < b * b := by
      rcases Int.lt_or_gt_of_ne e2 with z | z
      · exact sg_P' z z
      · exact sg_P z z
    omega
  · have : 0 < a * a := by
      rcases Int.lt_or_gt_of_ne e with z | z
      · exact sg_P' z z
      · exact sg_P z z
    omega
theorem lin_sum_any {ps : List P3} (h : Cyc ps) {c d c' d' : Int} (n1 : ¬ (c = 0 ∧ d = 0)) (n2 : ¬ (c' = 0 ∧ d' = 0)) : linSum c d ps = linSum c' d' ps := by
  by_cases hK : c * d' - d * c' = 0
  · have h1 : linSum c d ps = linSum (-d) c ps := lin_sum_pos h (by
      have := sq_pos n1
      have e : d * -d = -(d * d) := Int.mul_neg _ _
      omega)
    have h2 : linSum (-d) c ps = linSum c' d' ps := lin_sum_ne h (fun z => by
      have e : (-d) * d' = -(d * d') := Int.neg_mul _ _
      have w : c * c' + d * d' = 0 := by omega
      have s1 := sq_pos n1
      have s2 := sq_pos n2
      have s3 := sg_P s1 s2
      have id : (c * c + d * d) * (c' * c' + d' * d') = (c * c' + d * d') * (c * c' + d * d') + (c * d' - d * c') * (c * d' - d * c') := by grind
      rw [w, hK] at id
      omega)
    exact h1.trans h2
  · exact lin_sum_ne h hK
theorem lin_y (ps : List P3) : linSum 0 1 ps = roundsI ps := by
  unfold linSum roundsI rayI lin
  simp
theorem at3_map (f : P3 → P3) (ps : List P3) {i : Nat} (hi : i < ps.length) : at3 (ps.map f) i = f (at3 ps i) := by
  unfold at3
  simp [List.getD, hi]
theorem nxt_map (f : P3 → P3) (ps : List P3) {i : Nat} (hi : i < ps.length) : nxt (ps.map f) i = f (nxt ps i) := by
  unfold nxt
  rw [List.length_map]
  exact at3_map f ps (Nat.mod_lt _ (by omega))
theorem cyc_map {a b c d : Int} {ps : List P3} (h : Cyc ps) (hD : a * d - b * c ≠ 0) : Cyc (ps.map (mapP a b c d)) := fun i hi => by
  rw [List.length_map] at hi
  rw [at3_map _ _ hi, nxt_map _ _ hi]
  have hm := h i hi
  generalize at3 ps i = p at *
  generalize nxt ps i = q at *
  by_cases hx : crossI p q = 0
  · right
    obtain ⟨k, Y, k1, k2, k3⟩ := same_way hm hx a b
    have hY : 0 < dotI p q := hm.resolve_left fun z => z hx
    have np : ¬ ((mapP a b c d p).1 = 0 ∧ (mapP a b c d p).2.1 = 0) := by
      rintro ⟨e1, e2⟩
      have n := (miss_nz hm).1
      unfold mapP at e1 e2
      simp only at e1 e2
      have f1 : (a * d - b * c) * p.1 = 0 := by grind
      have f2 : (a * d - b * c) * p.2.1 = 0 := by grind
      rcases Int.mul_eq_zero.mp f1 with z | z
      · exact hD z
      · rcases Int.mul_eq_zero.mp f2 with w | w
        · exact hD w
        · exact n ⟨z, w⟩
    have s := sq_pos np
    have n := sq_pos (miss_nz hm).1
    have id : (p.1 * p.1 + p.2.1 * p.2.1) * dotI (mapP a b c d p) (mapP a b c d q) = dotI p q * ((mapP a b c d p).1 * (mapP a b c d p).1 + (mapP a b c d p).2.1 * (mapP a b c d p).2.1) := by
      unfold crossI at hx
      unfold dotI mapP
      simp only
      grind
    have s2 := sg_P hY s
    rw [← id] at s2
    rcases Int.lt_trichotomy (dotI (mapP a b c d p) (mapP a b c d q)) 0 with z | z | z
    · have := sg_N n z; omega
    · rw [z, Int.mul_zero] at s2; omega
    · exact z
  · left
    rw [cross_map]
    exact fun z => (Int.mul_eq_zero.mp z).elim hD hx
/-- a mapped row goes round as often, or as often the other way -/
theorem rounds_map {a b c d : Int} {ps : List P3} (h : Cyc ps) (hD : a * d - b * c ≠ 0) : roundsI (ps.map (mapP a b c d)) = (if b * c < a * d then 1 else -1) * roundsI ps := by
  have ncd : ¬ (c = 0 ∧ d = 0) := by
    rintro ⟨rfl, rfl⟩
    simp at hD
  have e0 : roundsI (ps.map (mapP a b c d)) = sumTo (fun i => rayX (lin c d (at3 ps i)) (lin c d (nxt ps i)) ((a * d - b * c) * crossI (at3 ps i) (nxt ps i))) ps.length := by
    unfold roundsI
    rw [List.length_map]
    exact sumTo_congr _ fun i hi => by rw [at3_map _ _ hi, nxt_map _ _ hi, ray_map]
  have e1 : linSum c d ps = roundsI ps := (lin_sum_any h ncd (by omega)).trans (lin_y ps)
  rw [e0]
  by_cases hp : b * c < a * d
  · rw [if_pos hp, ← e1]
    unfold linSum
    rw [Int.one_mul]
    exact sumTo_congr _ fun i hi => ray_scale (by omega)
  · rw [if_neg hp, ← e1]
    unfold linSum
    have key : ∀ i, i < ps.length → rayX (lin c d (at3 ps i)) (lin c d (nxt ps i)) ((a * d - b * c) * crossI (at3 ps i) (nxt ps i)) =
        (-1) * rayX (lin c d (at3 ps i)) (lin c d (nxt ps i)) (crossI (at3 ps i) (nxt ps i)) + ((if 0 ≤ lin c d (at3 ps ((i + 1) % ps.length)) then 1 else 0) - (if 0 ≤ lin c d (at3 ps i) then 1 else 0)) := fun i hi => by
      have f1 : (a * d - b * c) * crossI (at3 ps i) (nxt ps i) = -(a * d - b * c) * -crossI (at3 ps i) (nxt ps i) := by rw [Int.neg_mul_neg]
      rw [f1, ray_scale (by omega), ray_flip fun hx => by
        obtain ⟨k, Y, k1, k2, k3⟩ := same_way (h i hi) hx c d
        exact pos_iff k1 k2 k3]
      unfold nxt
      omega
    rw [sumTo_congr _ key, sumTo_lin, sumTo_cyc fun i => if 0 ≤ lin c d (at3 ps i) then 1 else 0]
    omega
end VS

namespace VS
/-! ### hulls (plain Lean): turns, order, steps -/
def turnI (p q r : P3) : Int := p.1 * (q.2.1 * r.2.2 - r.2.1 * q.2.2) - p.2.1 * (q.1 * r.2.2 - r.1 * q.2.2) + p.2.2 * (q.1 * r.2.1 - r.1 * q.2.1)
def dx (p q : P3) : Int := q.1 * p.2.2 - p.1 * q.2.2
def dy (p q : P3) : Int := q.2.1 * p.2.2 - p.2.1 * q.2.2
def crs (a1 a2 b1 b2 : Int) : Int := a1 * b2 - a2 * b1
/-- the lexical order of two points -/
def LtP (p q : P3) : Prop := 0 < dx p q ∨ dx p q = 0 ∧ 0 < dy p q
instance (p q : P3) : Decidable (LtP p q) := by unfold LtP; infer_instance
def farI (c p : P3) : Int := (dx c p).natAbs + (dy c p).natAbs
/-- a direction to the right, or straight up (or none) -/
def Lex (a b : Int) : Prop := 0 < a ∨ a = 0 ∧ 0 < b
def Lex0 (a b : Int) : Prop := 0 < a ∨ a = 0 ∧ 0 ≤ b
theorem Lex.z {a b : Int} (h : Lex a b) : Lex0 a b := by
  unfold Lex at h
  unfold Lex0
  omega
theorem mul_sg {g x : Int} (h : 0 < g) : (0 < g * x ↔ 0 < x) ∧ (0 ≤ g * x ↔ 0 ≤ x) ∧ (g * x < 0 ↔ x < 0) ∧ (g * x = 0 ↔ x = 0) := by
  rcases Int.lt_trichotomy x 0 with z | z | z
  · have := sg_N h z
    omega
  · subst z
    rw [Int.mul_zero]
    omega
  · have := sg_P h z
    omega
theorem crs_id (a1 a2 b1 b2 c1 c2 : Int) : b1 * crs a1 a2 c1 c2 = a1 * crs b1 b2 c1 c2 + c1 * crs a1 a2 b1 b2 := by
  unfold crs
  grind
theorem half_trans {a1 a2 b1 b2 c1 c2 : Int} (ha : Lex0 a1 a2) (hb : Lex b1 b2) (hc : Lex0 c1 c2) (h1 : 0 ≤ crs a1 a2 b1 b2) (h2 : 0 ≤ crs b1 b2 c1 c2) : 0 ≤ crs a1 a2 c1 c2 := by
  unfold Lex0 at ha hc
  rcases hb with hb | ⟨hb, hb2⟩
  · have e := crs_id a1 a2 b1 b2 c1 c2
    have t1 : 0 ≤ a1 * crs b1 b2 c1 c2 := sg_nn (by omega) h2
    have t2 : 0 ≤ c1 * crs a1 a2 b1 b2 := sg_nn (by omega) h1
    exact (mul_sg hb).2.1.mp (by omega)
  · subst hb
    have e : crs 0 b2 c1 c2 = - (b2 * c1) := by unfold crs; grind
    rw [e] at h2
    have c0 : c1 = 0 := by
      rcases Int.lt_or_le 0 c1 with z | z
      · have := sg_P hb2 z
        omega
      · omega
    subst c0
    have e2 : crs a1 a2 0 c2 = a1 * c2 := by unfold crs; grind
    rw [e2]
    exact sg_nn (by omega) (by omega)
/-- .. strictly, where one of the two is -/
theorem half_lt1 {a1 a2 b1 b2 c1 c2 : Int} (ha : Lex a1 a2) (hb : Lex b1 b2) (hc : Lex c1 c2) (h1 : 0 ≤ crs a1 a2 b1 b2) (h2 : 0 < crs b1 b2 c1 c2) : 0 < crs a1 a2 c1 c2 := by
  unfold Lex at ha hc
  rcases hb with hb | ⟨hb, hb2⟩
  · have e := crs_id a1 a2 b1 b2 c1 c2
    have t2 : 0 ≤ c1 * crs a1 a2 b1 b2 := sg_nn (by omega) h1
    rcases ha with ha | ⟨ha, ha2⟩
    · have t1 := sg_P ha h2
      exact (mul_sg hb).1.mp (by omega)
    · subst ha
      have e1 : crs 0 a2 b1 b2 = - (a2 * b1) := by unfold crs; grind
      have := sg_P ha2 hb
      omega
  · subst hb
    have e : crs 0 b2 c1 c2 = - (b2 * c1) := by unfold crs; grind
    rw [e] at h2
    have : 0 ≤ b2 * c1 := sg_nn (by omega) (by omega)
    omega
theorem half_lt2 {a1 a2 b1 b2 c1 c2 : Int} (ha : Lex a1 a2) (hb : Lex b1 b2) (hc : Lex c1 c2) (h1 : 0 < crs a1 a2 b1 b2) (h2 : 0 ≤ crs b1 b2 c1 c2) : 0 < crs a1 a2 c1 c2 := by
  unfold Lex at ha hc
  rcases hb with hb | ⟨hb, hb2⟩
  · have e := crs_id a1 a2 b1 b2 c1 c2
    have t1 : 0 ≤ a1 * crs b1 b2 c1 c2 := sg_nn (by omega) h2
    rcases hc with hc | ⟨hc, hc2⟩
    · have t2 := sg_P hc h1
      exact (mul_sg hb).1.mp (by omega)
    · subst hc
      have e2 : crs a1 a2 0 c2 = a1 * c2 := by unfold crs; grind
      rw [e2]
      rcases ha with ha | ⟨ha, ha2⟩
      · exact sg_P ha hc2
      · subst ha
        have e1 : crs 0 a2 b1 b2 = - (a2 * b1) := by unfold crs; grind
        have := sg_P ha2 hb
        omega
  · subst hb
    have e2 : crs a1 a2 0 b2 = a1 * b2 := by unfold crs; grind
    rw [e2] at h1
    have a0 : 0 < a1 := by
      rcases ha with ha | ⟨ha, _⟩
      · exact ha
      · subst ha
        omega
    have e : crs 0 b2 c1 c2 = - (b2 * c1) := by unfold crs; grind
    rw [e] at h2
    have c0 : c1 = 0 := by
      rcases Int.lt_or_le 0 c1 with z | z
      · have := sg_P hb2 z
        omega
      · omega
    subst c0
    have e3 : crs a1 a2 0 c2 = a1 * c2 := by unfold crs; grind
    rw [e3]
    exact sg_P a0 (by omega)
/-- turns by steps -/
theorem turn_crs (c p q : P3) : crs (dx c p) (dy c p) (dx c q) (dy c q) = c.2.2 * turnI c p q := by
  unfold crs dx dy turnI
  grind
theorem dx_neg (p q : P3) : dx q p = - dx p q := by unfold dx; omega
theorem dy_neg (p q : P3) : dy q p = - dy p q := by unfold dy; omega
theorem turn_swap (p q r : P3) : turnI p r q = - turnI p q r := by unfold turnI; grind
theorem turn_rot (p q r : P3) : turnI q r p = turnI p q r := by unfold turnI; grind
theorem turn_same (p q : P3) : turnI p q q = 0 := by unfold turnI; grind
theorem turn_same2 (p q : P3) : turnI p q p = 0 := by unfold turnI; grind
theorem dx_add (p q r : P3) : q.2.2 * dx p r = r.2.2 * dx p q + p.2.2 * dx q r := by unfold dx; grind
theorem dy_add (p q r : P3) : q.2.2 * dy p r = r.2.2 * dy p q + p.2.2 * dy q r := by unfold dy; grind
theorem crs_neg1 (a b c d : Int) : crs (-a) (-b) c d = - crs a b c d := by unfold crs; grind
theorem crs_neg2 (a b c d : Int) : crs a b (-c) (-d) = - crs a b c d := by unfold crs; grind
theorem crs_sym (a b c d : Int) : crs c d a b = - crs a b c d := by unfold crs; grind
def PosW (p : P3) : Prop := 0 < p.2.2
theorem LtP.trans {p q r : P3} (wp : PosW p) (wq : PosW q) (wr : PosW r) (h1 : LtP p q) (h2 : LtP q r) : LtP p r := by
  unfold PosW at *
  have e1 := dx_add p q r
  have e2 := dy_add p q r
  unfold LtP at *
  rcases h1 with h1 | ⟨h1, h1'⟩ <;> rcases h2 with h2 | ⟨h2, h2'⟩
  · left
    have := sg_P wr h1
    have := sg_P wp h2
    exact (mul_sg wq).1.mp (by omega)
  · left
    have := sg_P wr h1
    rw [h2, Int.mul_zero] at e1
    exact (mul_sg wq).1.mp (by omega)
  · left
    have := sg_P wp h2
    rw [h1, Int.mul_zero] at e1
    exact (mul_sg wq).1.mp (by omega)
  · right
    rw [h1, h2, Int.mul_zero, Int.mul_zero] at e1
    have := sg_P wr h1'
    have := sg_P wp h2'
    exact ⟨(mul_sg wq).2.2.2.mp (by omega), (mul_sg wq).1.mp (by omega)⟩
theorem LtP.irr {p : P3} (h : LtP p p) : False := by
  unfold LtP dx dy at h
  omega
theorem LtP.asym {p q : P3} (h : LtP p q) (k : LtP q p) : False := by
  unfold LtP at h k
  rw [dx_neg, dy_neg] at k
  omega
theorem LtP.lex {p q : P3} (h : LtP p q) : Lex (dx p q) (dy p q) := h
/-! ### the rim of a row in order; the stack with its top first -/
def popT (p : P3) : List P3 → List P3
  | b :: a :: r => if turnI a b p ≤ 0 then popT p (a :: r) else b :: a :: r
  | l => l
def rimT (st : List P3) : List P3 → List P3
  | [] => st
  | p :: r => rimT (p :: popT p st) r
abbrev SetP := P3 → Prop
def Good (S : SetP) : List P3 → Prop
  | [] => True
  | [a] => ∀ p, S p → p = a ∨ LtP a p
  | b :: a :: r => LtP a b ∧ (∀ p, S p → 0 ≤ turnI a b p) ∧ (∀ z, r.head? = some z → 0 < turnI z a b) ∧ Good S (a :: r)
theorem pop_ok {S : SetP} {p : P3} (hW : ∀ q, S q → PosW q) (hp : ∀ q, S q → LtP q p) : ∀ {st : List P3}, Good S st → st ≠ [] → (∀ k ∈ st, S k) → (∀ t, st.head? = some t → ∀ q, S q → LtP t q → 0 ≤ turnI t p q) →
    popT p st ≠ [] ∧ Good S (popT p st) ∧ (∀ t, (popT p st).head? = some t → ∀ q, S q → LtP t q → 0 ≤ turnI t p q) ∧ (∀ b a r, popT p st = b :: a :: r → 0 < turnI a b p) ∧ (∀ k ∈ popT p st, k ∈ st) ∧ (popT p st).getLast? = st.getLast?
  | [], _, h, _, _ => absurd rfl h
  | [a], g, _, _, hd => ⟨by simp [popT], g, hd, fun b a r h => by simp [popT] at h, fun k h => h, rfl⟩
  | b :: a :: r, g, _, hm, hd => by
    by_cases z : turnI a b p ≤ 0
    · have e : popT p (b :: a :: r) = popT p (a :: r) := by rw [popT, if_pos z]
      rw [e]
      have ma := hm a (by simp)
      have ih := pop_ok hW hp (st := a :: r) g.2.2.2 (by simp) (fun k h => hm k (List.mem_cons_of_mem _ h)) (fun t ht q hq hl => by
        obtain rfl : a = t := by simpa using ht
        have wa : 0 < a.2.2 := hW _ ma
        have c1 : 0 ≤ crs (dx a b) (dy a b) (dx a q) (dy a q) := by
          rw [turn_crs]
          exact sg_nn (Int.le_of_lt wa) (g.2.1 q hq)
        have c2 : 0 ≤ crs (dx a p) (dy a p) (dx a b) (dy a b) := by
          rw [turn_crs, turn_swap]
          exact sg_nn (Int.le_of_lt wa) (by omega)
        have c3 := half_trans (hp a ma).lex.z g.1.lex hl.lex.z c2 c1
        rw [turn_crs] at c3
        exact (mul_sg wa).2.1.mp c3)
      exact ⟨ih.1, ih.2.1, ih.2.2.1, ih.2.2.2.1, fun k h => List.mem_cons_of_mem _ (ih.2.2.2.2.1 k h), by rw [ih.2.2.2.2.2]; simp⟩
    · have e : popT p (b :: a :: r) = b :: a :: r := by rw [popT, if_neg z]
      rw [e]
      exact ⟨by simp, g, hd, fun b' a' r' h => by cases h; omega, fun k h => h, rfl⟩
/-- a point more, farther on: it lies on the left of all sides -/
theorem good_more {S : SetP} {p : P3} (hW : ∀ q, S q → PosW q) (hp : ∀ q, S q → LtP q p) : ∀ {st : List P3}, Good S st → (∀ k ∈ st, S k) → (∀ b a r, st = b :: a :: r → 0 ≤ turnI a b p) → Good (fun q => q = p ∨ S q) st
  | [], _, _, _ => trivial
  | [a], g, hm, _ => fun q hq => by
    rcases hq with rfl | hq
    · exact .inr (hp a (hm a (by simp)))
    · exact g q hq
  | b :: a :: r, g, hm, ht => by
    have t0 := ht b a r rfl
    refine ⟨g.1, fun q hq => ?_, g.2.2.1, good_more hW hp g.2.2.2 (fun k h => hm k (List.mem_cons_of_mem _ h)) fun a' z r' e => ?_⟩
    · rcases hq with rfl | hq
      · exact t0
      · exact g.2.1 q hq
    · cases e
      have ma := hm a (by simp)
      have mz := hm z (by simp)
      have wa : 0 < a.2.2 := hW _ ma
      have gz := g.2.2.1 z rfl
      have lz : LtP z a := g.2.2.2.1
      have c1 : 0 ≤ crs (dx z a) (dy z a) (dx a b) (dy a b) := by
        have e1 := turn_crs a b z
        rw [turn_rot z a b] at e1
        rw [dx_neg z a, dy_neg z a, crs_neg2, crs_sym (dx z a) (dy z a)] at e1
        have := sg_P wa gz
        omega
      have c2 : 0 ≤ crs (dx a b) (dy a b) (dx a p) (dy a p) := by
        rw [turn_crs]
        exact sg_nn (Int.le_of_lt wa) t0
      have c3 := half_trans lz.lex.z g.1.lex (hp a ma).lex.z c1 c2
      have e2 := turn_crs a p z
      rw [turn_rot z a p, dx_neg z a, dy_neg z a, crs_neg2, crs_sym (dx z a) (dy z a)] at e2
      exact (mul_sg wa).2.1.mp (by omega)
theorem good_push {S : SetP} {p : P3} (hW : ∀ q, S q → PosW q) (hp : ∀ q, S q → LtP q p) (tot : ∀ q t, S q → S t → q = t ∨ LtP q t ∨ LtP t q) {st : List P3} (g : Good S st) (hne : st ≠ []) (hm : ∀ k ∈ st, S k) (hmax : ∀ t, st.head? = some t → ∀ q, S q → q = t ∨ LtP q t) :
    Good (fun q => q = p ∨ S q) (p :: popT p st) := by
  obtain ⟨h1, h2, h3, h4, h5, _⟩ := pop_ok hW hp g hne hm (fun t ht q hq hl => by
    rcases hmax t ht q hq with e | e
    · subst e
      exact absurd hl LtP.irr
    · exact absurd hl e.asym)
  generalize popT p st = s' at *
  have hm' : ∀ k ∈ s', S k := fun k h => hm k (h5 k h)
  have hmore := good_more hW hp h2 hm' (fun b a r e => Int.le_of_lt (h4 b a r e))
  cases s' with
  | nil => exact absurd rfl h1
  | cons t r =>
    have mt := hm' t (by simp)
    have wt : 0 < t.2.2 := hW _ mt
    refine ⟨hp t mt, fun q hq => ?_, fun z hz => ?_, hmore⟩
    · rcases hq with rfl | hq
      · rw [turn_same]
        exact Int.le_refl _
      · rcases tot q t hq mt with e | e | e
        · subst e
          rw [turn_same2]
          exact Int.le_refl _
        · cases r with
          | nil =>
            rcases h2 q hq with z | z
            · subst z
              exact absurd e LtP.irr
            · exact absurd e z.asym
          | cons a r =>
            have ma := hm' a (by simp)
            have u := h4 t a r rfl
            have lat : LtP a t := h2.1
            have c1 : 0 ≤ crs (dx q t) (dy q t) (dx a t) (dy a t) := by
              have e1 := turn_crs t q a
              rw [turn_rot a t q, dx_neg a t, dy_neg a t, dx_neg q t, dy_neg q t, crs_neg1, crs_neg2] at e1
              have := sg_nn (Int.le_of_lt wt) (h2.2.1 q hq)
              omega
            have c2 : 0 ≤ crs (dx a t) (dy a t) (dx t p) (dy t p) := by
              have e1 := turn_crs t p a
              rw [turn_rot a t p, dx_neg a t, dy_neg a t, crs_neg2, crs_sym (dx a t) (dy a t)] at e1
              have := sg_P wt u
              omega
            have c3 := half_trans e.lex.z lat.lex (hp t mt).lex.z c1 c2
            have e2 := turn_crs t p q
            rw [dx_neg q t, dy_neg q t, crs_neg2, crs_sym (dx q t) (dy q t)] at e2
            exact (mul_sg wt).2.1.mp (by omega)
        · exact h3 t rfl q hq e
    · cases r with
      | nil => cases hz
      | cons a r =>
        obtain rfl : a = z := by simpa using hz
        exact h4 t a r rfl
end VS

namespace VS
theorem good_congr {S T : SetP} (h : ∀ q, S q ↔ T q) : ∀ {st : List P3}, Good S st → Good T st
  | [], g => g
  | [a], g => fun p hp => g p ((h p).mpr hp)
  | b :: a :: r, g => ⟨g.1, fun p hp => g.2.1 p ((h p).mpr hp), g.2.2.1, good_congr h g.2.2.2⟩
/-- a row in order -/
def Srt (row : List P3) : Prop := row.Pairwise LtP
structure RimOk (S : SetP) (st : List P3) : Prop where
  ne : st ≠ []
  good : Good S st
  mem : ∀ k ∈ st, S k
  top : ∀ t, st.head? = some t → ∀ q, S q → q = t ∨ LtP q t
theorem rim_ok : ∀ {row : List P3} {S : SetP} {st : List P3}, RimOk S st → (∀ q, S q → PosW q) → (∀ q t, S q → S t → q = t ∨ LtP q t ∨ LtP t q) → Srt row → (∀ p ∈ row, PosW p) → (∀ q, S q → ∀ p ∈ row, LtP q p) →
    RimOk (fun q => S q ∨ q ∈ row) (rimT st row) ∧ (rimT st row).getLast? = st.getLast?
  | [], S, st, ok, _, _, _, _, _ => ⟨⟨ok.ne, good_congr (fun q => by simp) ok.good, fun k h => .inl (ok.mem k h), fun t h q hq => ok.top t h q (by simpa using hq)⟩, rfl⟩
  | p :: row, S, st, ok, hW, tot, srt, hw, hlt => by
    have hp : ∀ q, S q → LtP q p := fun q hq => hlt q hq p (by simp)
    obtain ⟨h1, h2, h3, h4, h5, h6⟩ := pop_ok hW hp ok.good ok.ne ok.mem (fun t ht q hq hl => by
      rcases ok.top t ht q hq with e | e
      · subst e
        exact absurd hl LtP.irr
      · exact absurd hl e.asym)
    have g := good_push hW hp tot ok.good ok.ne ok.mem ok.top
    have srt' := List.pairwise_cons.mp srt
    have ok' : RimOk (fun q => q = p ∨ S q) (p :: popT p st) := ⟨by simp, g, fun k hk => by
      rcases List.mem_cons.mp hk with e | e
      · exact .inl e
      · exact .inr (ok.mem k (h5 k e)), fun t ht q hq => by
      obtain rfl : p = t := by simpa using ht
      rcases hq with e | e
      · exact .inl e
      · exact .inr (hp q e)⟩
    obtain ⟨i1, i2⟩ := rim_ok (row := row) ok' (fun q hq => by
      rcases hq with rfl | hq
      · exact hw q (by simp)
      · exact hW q hq) (fun q t hq ht => by
      rcases hq with rfl | hq <;> rcases ht with rfl | ht
      · exact .inl rfl
      · exact .inr (.inr (hp t ht))
      · exact .inr (.inl (hp q hq))
      · exact tot q t hq ht) srt'.2 (fun q hq => hw q (List.mem_cons_of_mem _ hq)) (fun q hq x hx => by
      rcases hq with rfl | hq
      · exact srt'.1 x hx
      · exact hlt q hq x (List.mem_cons_of_mem _ hx))
    refine ⟨⟨i1.ne, good_congr (fun q => by
      rw [List.mem_cons]
      exact ⟨fun h => h.elim (fun h => h.elim (fun h => .inr (.inl h)) .inl) (fun h => .inr (.inr h)), fun h => h.elim (fun h => .inl (.inr h)) (fun h => h.elim (fun h => .inl (.inl h)) .inr)⟩) i1.good, fun k hk => ?_, fun t ht q hq => i1.top t ht q ?_⟩, ?_⟩
    · have := i1.mem k hk
      simp only [List.mem_cons]
      rcases this with (h | h) | h
      · exact .inr (.inl h)
      · exact .inl h
      · exact .inr (.inr h)
    · simp only [List.mem_cons] at hq
      rcases hq with h | h | h
      · exact .inl (.inr h)
      · exact .inl (.inl h)
      · exact .inr h
    · show (rimT (p :: popT p st) row).getLast? = _
      rw [i2]
      cases hs : popT p st with
      | nil => exact absurd hs h1
      | cons t r =>
        rw [← h6, hs]
        simp
theorem rim_row {row : List P3} (srt : Srt row) (hw : ∀ p ∈ row, PosW p) (hne : row ≠ []) : RimOk (fun q => q ∈ row) (rimT [] row) ∧ (rimT [] row).getLast? = row.head? ∧ (rimT [] row).head? = row.getLast? := by
  cases row with
  | nil => exact absurd rfl hne
  | cons p r =>
    have srt' := List.pairwise_cons.mp srt
    have ok0 : RimOk (fun q => q = p) [p] := ⟨by simp, fun q hq => .inl hq, fun k hk => by simpa using hk, fun t ht q hq => by
      obtain rfl : p = t := by simpa using ht
      exact .inl hq⟩
    obtain ⟨h1, h2⟩ := rim_ok (row := r) ok0 (fun q hq => by subst hq; exact hw q (by simp)) (fun q t hq ht => .inl (hq.trans ht.symm)) srt'.2 (fun q hq => hw q (List.mem_cons_of_mem _ hq)) (fun q hq x hx => by subst hq; exact srt'.1 x hx)
    have e : rimT [] (p :: r) = rimT [p] r := rfl
    rw [e]
    refine ⟨⟨h1.ne, good_congr (fun q => by simp) h1.good, fun k hk => by simpa using h1.mem k hk, fun t ht q hq => h1.top t ht q (by simpa using hq)⟩, by rw [h2]; rfl, ?_⟩
    have headof : ∀ (row st : List P3), st ≠ [] → (rimT st row).head? = ((st.head?.toList) ++ row).getLast? := by
      intro row
      induction row with
      | nil =>
        intro st hst
        cases st with
        | nil => exact absurd rfl hst
        | cons a l => rfl
      | cons x row ih =>
        intro st hst
        show (rimT (x :: popT x st) row).head? = _
        rw [ih _ (by simp)]
        simp [List.getLast?_append, List.getLast?_cons]
    rw [headof r [p] (by simp)]
    rfl
/-! ### the next corner -/
structure Next (S : SetP) (c q : P3) : Prop where
  mem : S q
  ne : q ≠ c
  all : ∀ p, S p → p ≠ c → p ≠ q → 0 < turnI c q p ∨ turnI c q p = 0 ∧ farI c p * q.2.2 < farI c q * p.2.2
theorem Next.one {S : SetP} {c q q' : P3} (h : Next S c q) (h' : Next S c q') : q = q' := by
  by_cases e : q = q'
  · exact e
  · have a1 := h.all q' h'.mem h'.ne (fun z => e z.symm)
    have a2 := h'.all q h.mem h.ne e
    have := turn_swap c q q'
    omega
/-- between two points on a line: how far -/
theorem far_add {a p b : P3} (wa : PosW a) (wp : PosW p) (wb : PosW b) (h1 : LtP a p) (h2 : LtP p b) (h : turnI a b p = 0) : farI a p * b.2.2 < farI a b * p.2.2 := by
  have e1 := dx_add a p b
  have e2 := dy_add a p b
  have c : crs (dx a p) (dy a p) (dx p b) (dy p b) = 0 := by
    have e := turn_crs p b a
    rw [turn_rot a p b, turn_swap, h, dx_neg a p, dy_neg a p, crs_neg2, crs_sym (dx a p) (dy a p)] at e
    omega
  unfold PosW at wa wp wb
  unfold farI
  have x1 : 0 ≤ dx a p := by unfold LtP at h1; omega
  have x2 : 0 ≤ dx p b := by unfold LtP at h2; omega
  have hx : ((dx a b).natAbs : Int) * p.2.2 = (dx a p).natAbs * b.2.2 + (dx p b).natAbs * a.2.2 := by
    have : 0 ≤ dx a b := by
      have t1 := sg_nn (Int.le_of_lt wb) x1
      have t2 := sg_nn (Int.le_of_lt wa) x2
      exact (mul_sg wp).2.1.mp (by omega)
    rw [Int.natAbs_of_nonneg this, Int.natAbs_of_nonneg x1, Int.natAbs_of_nonneg x2]
    grind
  have sgn : (0 ≤ dy a p ∧ 0 ≤ dy p b) ∨ (dy a p ≤ 0 ∧ dy p b ≤ 0) := by
    unfold crs at c
    rcases h1 with h1 | ⟨h1, h1'⟩
    · rcases h2 with h2 | ⟨h2, h2'⟩
      · rcases Int.lt_trichotomy (dy a p) 0 with z | z | z
        · have t := sg_N' z h2
          right
          refine ⟨by omega, ?_⟩
          rcases Int.lt_or_le 0 (dy p b) with w | w
          · have := sg_P h1 w
            omega
          · exact w
        · have t : dx a p * dy p b = 0 := by rw [z, Int.zero_mul] at c; omega
          have := (mul_sg h1).2.2.2.mp t
          left
          omega
        · have t := sg_P z h2
          left
          refine ⟨by omega, ?_⟩
          rcases Int.lt_or_le (dy p b) 0 with w | w
          · have := sg_N h1 w
            omega
          · exact w
      · rw [h2, Int.mul_zero] at c
        have t := sg_P h1 h2'
        omega
    · rw [h1, Int.zero_mul] at c
      rcases h2 with h2 | ⟨h2, h2'⟩
      · have t := sg_P h1' h2
        omega
      · left
        omega
  have hy : ((dy a b).natAbs : Int) * p.2.2 = (dy a p).natAbs * b.2.2 + (dy p b).natAbs * a.2.2 := by
    rcases sgn with ⟨s1, s2⟩ | ⟨s1, s2⟩
    · have : 0 ≤ dy a b := by
        have t1 := sg_nn (Int.le_of_lt wb) s1
        have t2 := sg_nn (Int.le_of_lt wa) s2
        exact (mul_sg wp).2.1.mp (by omega)
      rw [Int.natAbs_of_nonneg this, Int.natAbs_of_nonneg s1, Int.natAbs_of_nonneg s2]
      grind
    · have : dy a b ≤ 0 := by
        have t1 := sg_np (Int.le_of_lt wb) s1
        have t2 := sg_np (Int.le_of_lt wa) s2
        have e3 : p.2.2 * (- dy a b) = -(b.2.2 * dy a p + a.2.2 * dy p b) := by rw [Int.mul_neg]; omega
        have := (mul_sg wp (x := - dy a b)).2.1.mp (by omega)
        omega
      rw [Int.ofNat_natAbs_of_nonpos this, Int.ofNat_natAbs_of_nonpos s1, Int.ofNat_natAbs_of_nonpos s2]
      grind
  have hpos : 0 < (((dx p b).natAbs : Int) + (dy p b).natAbs) * a.2.2 := sg_P (by unfold LtP at h2; omega) wa
  have g1 : (((dx a b).natAbs : Int) + (dy a b).natAbs) * p.2.2 = ((dx a b).natAbs : Int) * p.2.2 + ((dy a b).natAbs : Int) * p.2.2 := by grind
  have g2 : (((dx a p).natAbs : Int) + (dy a p).natAbs) * b.2.2 = ((dx a p).natAbs : Int) * b.2.2 + ((dy a p).natAbs : Int) * b.2.2 := by grind
  have g3 : (((dx p b).natAbs : Int) + (dy p b).natAbs) * a.2.2 = ((dx p b).natAbs : Int) * a.2.2 + ((dy p b).natAbs : Int) * a.2.2 := by grind
  omega
/-- a side of the rim leads to the next corner -/
theorem good_next {S : SetP} (hW : ∀ q, S q → PosW q) (tot : ∀ q t, S q → S t → q = t ∨ LtP q t ∨ LtP t q) {b a : P3} {r : List P3} (g : Good S (b :: a :: r)) (hm : ∀ k ∈ b :: a :: r, S k) (up : (∀ q, S q → q = b ∨ LtP q b) ∨ ∃ c, LtP b c ∧ 0 < turnI a b c ∧ S c ∧ ∀ q, S q → 0 ≤ turnI b c q) : Next S a b := by
  have ma := hm a (by simp)
  have mb := hm b (by simp)
  have wa : 0 < a.2.2 := hW _ ma
  have wb : 0 < b.2.2 := hW _ mb
  have lab : LtP a b := g.1
  refine ⟨mb, fun e => LtP.irr (e ▸ lab), fun p hp n1 n2 => ?_⟩
  have t0 := g.2.1 p hp
  rcases Int.lt_or_le 0 (turnI a b p) with z | z
  · exact .inl z
  right
  have tz : turnI a b p = 0 := by omega
  refine ⟨tz, ?_⟩
  rcases tot p a hp ma with e | e | e
  · exact absurd e n1
  · exfalso
    cases r with
    | nil =>
      rcases g.2.2.2 p hp with w | w
      · exact n1 w
      · exact e.asym w
    | cons y r =>
      have my := hm y (by simp)
      have s := g.2.2.1 y rfl
      have ga : 0 ≤ turnI y a p := g.2.2.2.2.1 p hp
      have lya : LtP y a := g.2.2.2.1
      have c1 : 0 ≤ crs (dx p a) (dy p a) (dx y a) (dy y a) := by
        have e1 := turn_crs a p y
        rw [turn_rot y a p, dx_neg y a, dy_neg y a, dx_neg p a, dy_neg p a, crs_neg1, crs_neg2] at e1
        have := sg_nn (Int.le_of_lt wa) ga
        omega
      have c2 : 0 < crs (dx y a) (dy y a) (dx a b) (dy a b) := by
        have e1 := turn_crs a b y
        rw [turn_rot y a b, dx_neg y a, dy_neg y a, crs_neg2, crs_sym (dx y a) (dy y a)] at e1
        have := sg_P wa s
        omega
      have c3 := half_lt1 e.lex lya.lex lab.lex c1 c2
      have e2 := turn_crs a b p
      rw [tz, Int.mul_zero, dx_neg p a, dy_neg p a, crs_neg2, crs_sym (dx p a) (dy p a)] at e2
      omega
  · rcases tot p b hp mb with w | w | w
    · exact absurd w n2
    · exact far_add (hW _ ma) (hW _ hp) (hW _ mb) e w tz
    · exfalso
      rcases up with up | ⟨c, l, s, mc, hc⟩
      · rcases up p hp with v | v
        · exact n2 v
        · exact w.asym v
      · have c1 : 0 < crs (dx a b) (dy a b) (dx b c) (dy b c) := by
          have e1 := turn_crs b c a
          rw [turn_rot a b c, dx_neg a b, dy_neg a b, crs_neg2, crs_sym (dx a b) (dy a b)] at e1
          have := sg_P wb s
          omega
        have c2 : 0 ≤ crs (dx b c) (dy b c) (dx b p) (dy b p) := by
          rw [turn_crs]
          exact sg_nn (Int.le_of_lt wb) (hc p hp)
        have c3 := half_lt2 lab.lex l.lex w.lex c1 c2
        have e2 := turn_crs b p a
        rw [turn_rot a b p, tz, Int.mul_zero, dx_neg a b, dy_neg a b, crs_neg2, crs_sym (dx a b) (dy a b)] at e2
        omega
/-- consecutive points, each the next corner -/
def Path (S : SetP) : List P3 → Prop
  | a :: b :: r => Next S a b ∧ Path S (b :: r)
  | _ => True
theorem path_snoc {S : SetP} {a b : P3} : ∀ {l : List P3}, Path S (l ++ [a]) → Next S a b → Path S (l ++ [a, b])
  | [], _, h => ⟨h, trivial⟩
  | [x], h, k => ⟨h.1, k, trivial⟩
  | x :: y :: r, h, k => ⟨h.1, path_snoc (l := y :: r) h.2 k⟩
theorem good_path {S : SetP} (hW : ∀ q, S q → PosW q) (tot : ∀ q t, S q → S t → q = t ∨ LtP q t ∨ LtP t q) : ∀ {st : List P3}, Good S st → (∀ k ∈ st, S k) → (∀ b a r, st = b :: a :: r → (∀ q, S q → q = b ∨ LtP q b) ∨ ∃ c, LtP b c ∧ 0 < turnI a b c ∧ S c ∧ ∀ q, S q → 0 ≤ turnI b c q) → Path S st.reverse
  | [], _, _, _ => trivial
  | [a], _, _, _ => trivial
  | b :: a :: r, g, hm, up => by
    have n := good_next hW tot g hm (up b a r rfl)
    have ih := good_path hW tot (st := a :: r) g.2.2.2 (fun k h => hm k (List.mem_cons_of_mem _ h)) (fun b' a' r' e => by
      cases e
      exact .inr ⟨b, g.1, g.2.2.1 a' rfl, hm b (by simp), g.2.1⟩)
    rw [List.reverse_cons] at ih ⊢
    rw [List.reverse_cons, List.append_assoc]
    exact path_snoc ih n
theorem RimOk.path {S : SetP} {st : List P3} (ok : RimOk S st) (hW : ∀ q, S q → PosW q) (tot : ∀ q t, S q → S t → q = t ∨ LtP q t ∨ LtP t q) : Path S st.reverse :=
  good_path hW tot ok.good ok.mem fun b a r e => .inl (ok.top b (by rw [e]; rfl))
/-! ### turned by half a turn -/
def ngP (p : P3) : P3 := (-p.1, -p.2.1, p.2.2)
theorem ngP_ngP (p : P3) : ngP (ngP p) = p := by
  obtain ⟨x, y, w⟩ := p
  simp [ngP]
theorem turn_ng (p q r : P3) : turnI (ngP p) (ngP q) (ngP r) = turnI p q r := by unfold turnI ngP; grind
theorem lt_ng (p q : P3) : LtP (ngP p) (ngP q) ↔ LtP q p := by
  have e1 : dx (ngP p) (ngP q) = dx q p := by unfold dx ngP; grind
  have e2 : dy (ngP p) (ngP q) = dy q p := by unfold dy ngP; grind
  unfold LtP
  rw [e1, e2]
theorem far_ng (p q : P3) : farI (ngP p) (ngP q) = farI p q := by
  have e1 : dx (ngP p) (ngP q) = - dx p q := by unfold dx ngP; grind
  have e2 : dy (ngP p) (ngP q) = - dy p q := by unfold dy ngP; grind
  unfold farI
  rw [e1, e2, Int.natAbs_neg, Int.natAbs_neg]
theorem pop_ng (p : P3) : ∀ st : List P3, popT (ngP p) (st.map ngP) = (popT p st).map ngP
  | [] => rfl
  | [a] => rfl
  | b :: a :: r => by
    have ih := pop_ng p (a :: r)
    simp only [List.map_cons] at ih ⊢
    rw [popT, popT, turn_ng]
    split
    · exact ih
    · rfl
theorem rim_ng : ∀ (row st : List P3), rimT (st.map ngP) (row.map ngP) = (rimT st row).map ngP
  | [], st => rfl
  | p :: r, st => by
    rw [List.map_cons]
    show rimT (ngP p :: popT (ngP p) (st.map ngP)) (r.map ngP) = _
    rw [pop_ng, ← List.map_cons, rim_ng r]
    rfl
theorem next_ng {S : SetP} {a b : P3} (h : Next (fun q => S (ngP q)) (ngP a) (ngP b)) : Next S a b := by
  refine ⟨by have := h.mem; rwa [ngP_ngP] at this, fun e => h.ne (by rw [e]), fun p hp n1 n2 => ?_⟩
  have := h.all (ngP p) (by rwa [ngP_ngP]) (fun e => n1 (by rw [← ngP_ngP p, e, ngP_ngP])) (fun e => n2 (by rw [← ngP_ngP p, e, ngP_ngP]))
  rw [turn_ng, far_ng, far_ng] at this
  exact this
theorem path_ng {S : SetP} : ∀ {l : List P3}, Path (fun q => S (ngP q)) (l.map ngP) → Path S l
  | [], _ => trivial
  | [a], _ => trivial
  | a :: b :: r, h => ⟨next_ng h.1, path_ng (l := b :: r) h.2⟩
theorem srt_ng {row : List P3} (h : Srt row) : Srt (row.reverse.map ngP) := by
  unfold Srt at *
  rw [List.pairwise_map, List.pairwise_reverse]
  exact h.imp fun {a b} z => (lt_ng b a).mpr z
end VS

namespace VS
def lowerL (row : List P3) : List P3 := (rimT [] row).reverse
def hullL (row : List P3) : List P3 := if row.length < 3 then row else (lowerL row).dropLast ++ (lowerL row.reverse).dropLast
def Tot (S : SetP) : Prop := ∀ q t, S q → S t → q = t ∨ LtP q t ∨ LtP t q
structure IsHull (S : SetP) (L : List P3) (v : P3) (t : List P3) : Prop where
  eq : L = v :: t
  least : ∀ q, S q → q = v ∨ LtP v q
  mem : ∀ x ∈ L, S x
  cyc : (t = [] ∧ ∀ q, S q → q = v) ∨ (t ≠ [] ∧ Path S (L ++ [v]) ∧ v ∉ t)
theorem path_app {S : SetP} {m : P3} {B : List P3} : ∀ {A : List P3}, Path S (A ++ [m]) → Path S (m :: B) → Path S (A ++ m :: B)
  | [], _, k => k
  | [x], h, k => ⟨h.1, k⟩
  | x :: y :: r, h, k => ⟨h.1, path_app (A := y :: r) h.2 k⟩
theorem good_pw {S : SetP} (hW : ∀ q, S q → PosW q) : ∀ {st : List P3}, Good S st → (∀ k ∈ st, S k) → st.Pairwise fun b a => LtP a b
  | [], _, _ => List.Pairwise.nil
  | [a], _, _ => by simp
  | b :: a :: r, g, hm => by
    have ih := good_pw hW (st := a :: r) g.2.2.2 (fun k h => hm k (List.mem_cons_of_mem _ h))
    refine List.pairwise_cons.mpr ⟨fun x hx => ?_, ih⟩
    rcases List.mem_cons.mp hx with e | e
    · rw [e]; exact g.1
    · exact LtP.trans (hW _ (hm x (by simp [e]))) (hW _ (hm a (by simp))) (hW _ (hm b (by simp))) ((List.pairwise_cons.mp ih).1 x e) g.1
theorem srt_tot {row : List P3} (h : Srt row) : Tot (· ∈ row) := by
  intro q t hq ht
  induction row with
  | nil => cases hq
  | cons a r ih =>
    obtain ⟨h1, h2⟩ := List.pairwise_cons.mp h
    rcases List.mem_cons.mp hq with e | e <;> rcases List.mem_cons.mp ht with e' | e'
    · exact .inl (e.trans e'.symm)
    · rw [e]; exact .inr (.inl (h1 t e'))
    · rw [e']; exact .inr (.inr (h1 q e))
    · exact ih h2 e e'
theorem lower_facts {row : List P3} (srt : Srt row) (hw : ∀ p ∈ row, PosW p) (h2 : 2 ≤ row.length) {v m : P3} (hv : row.head? = some v) (hm : row.getLast? = some m) :
    ∃ t, lowerL row = v :: t ++ [m] ∧ Path (· ∈ row) (lowerL row) ∧ (∀ x ∈ lowerL row, x ∈ row) ∧ (∀ x ∈ t ++ [m], LtP v x) ∧ ∀ x ∈ v :: t, LtP x m := by
  have hne : row ≠ [] := fun z => by subst z; simp at h2
  obtain ⟨ok, e1, e2⟩ := rim_row srt hw hne
  have vm : LtP v m := by
    cases row with
    | nil => exact absurd rfl hne
    | cons a r =>
      obtain rfl : a = v := by simpa using hv
      cases r with
      | nil => simp at h2
      | cons b r =>
        refine (List.pairwise_cons.mp srt).1 m ?_
        rw [List.getLast?_cons_cons] at hm
        exact List.mem_of_getLast? hm
  have pw := good_pw (fun q hq => hw q hq) ok.good ok.mem
  have pth := ok.path (fun q hq => hw q hq) (srt_tot srt)
  unfold lowerL
  generalize rimT [] row = st at *
  rw [hv] at e1
  rw [hm] at e2
  cases st with
  | nil => exact absurd rfl ok.ne
  | cons b r =>
    obtain rfl : b = m := by simpa using e2
    rcases List.eq_nil_or_concat r with rfl | ⟨s, x, rfl⟩
    · exfalso
      obtain rfl : b = v := by simpa using e1
      exact vm.irr
    · rw [List.concat_eq_append] at *
      obtain rfl : x = v := by simpa [List.getLast?_cons, List.getLast?_append] using e1
      have er : (b :: (s ++ [x])).reverse = x :: s.reverse ++ [b] := by simp
      rw [er] at pth ⊢
      have pw2 : (x :: s.reverse ++ [b]).Pairwise LtP := by
        rw [← er, List.pairwise_reverse]
        exact pw
      refine ⟨s.reverse, rfl, pth, fun y hy => ok.mem y ?_, fun y hy => ?_, fun y hy => ?_⟩
      · rw [← er] at hy
        exact List.mem_reverse.mp hy
      · exact (List.pairwise_cons.mp pw2).1 y hy
      · exact (List.pairwise_append.mp pw2).2.2 y hy b (by simp)
theorem upper_facts {row : List P3} (srt : Srt row) (hw : ∀ p ∈ row, PosW p) (h2 : 2 ≤ row.length) {v m : P3} (hv : row.head? = some v) (hm : row.getLast? = some m) :
    ∃ t, lowerL row.reverse = m :: t ++ [v] ∧ Path (· ∈ row) (lowerL row.reverse) ∧ (∀ x ∈ lowerL row.reverse, x ∈ row) ∧ ∀ x ∈ m :: t, LtP v x := by
  have srt2 := srt_ng srt
  have e : lowerL (row.reverse.map ngP) = (lowerL row.reverse).map ngP := by
    unfold lowerL
    have := rim_ng row.reverse []
    rw [show ([] : List P3).map ngP = [] from rfl] at this
    rw [this, List.map_reverse]
  obtain ⟨t, e1, p1, m1, l1, l2⟩ := lower_facts srt2 (fun p hp => by
    obtain ⟨q, hq, rfl⟩ := List.mem_map.mp hp
    exact hw q (by simpa using hq)) (by simpa using h2) (v := ngP m) (m := ngP v) (by simp [List.head?_map, hm]) (by simp [List.getLast?_map, hv])
  rw [e] at e1 p1 m1
  have inj : ∀ {a b : P3}, ngP a = ngP b → a = b := fun {a b} h => by rw [← ngP_ngP a, h, ngP_ngP]
  have e2 : lowerL row.reverse = m :: t.map ngP ++ [v] := by
    have := congrArg (List.map ngP) e1
    rw [List.map_map] at this
    have idm : ∀ l : List P3, l.map (ngP ∘ ngP) = l := fun l => by
      have : (ngP ∘ ngP) = id := by funext x; exact ngP_ngP x
      rw [this, List.map_id]
    rw [idm] at this
    rw [this]
    simp [ngP_ngP]
  have memng : ∀ q, ngP q ∈ row.reverse.map ngP ↔ q ∈ row := fun q => by
    rw [List.mem_map]
    constructor
    · rintro ⟨x, hx, hh⟩
      rw [inj hh] at hx
      simpa using hx
    · intro h
      exact ⟨q, by simpa using h, rfl⟩
  refine ⟨t.map ngP, e2, path_ng ?_, fun x hx => (memng x).mp (m1 _ (List.mem_map.mpr ⟨x, hx, rfl⟩)), fun x hx => ?_⟩
  · have : (fun q => ngP q ∈ row) = fun q => q ∈ row.reverse.map ngP := by
      funext q
      have := memng (ngP q)
      rw [ngP_ngP] at this
      exact propext this.symm
    rw [this]
    exact p1
  · have : ngP x ∈ ngP m :: t := by
      rcases List.mem_cons.mp hx with rfl | hx
      · simp
      · obtain ⟨y, hy, rfl⟩ := List.mem_map.mp hx
        rw [ngP_ngP]
        simp [hy]
    exact (lt_ng x v).mp (l2 _ this)
theorem hull_ok {row : List P3} (srt : Srt row) (hw : ∀ p ∈ row, PosW p) (hne : row ≠ []) : ∃ v t, IsHull (· ∈ row) (hullL row) v t := by
  match row, hne with
  | [a], _ => exact ⟨a, [], rfl, fun q hq => .inl (by simpa using hq), fun x hx => by simpa [hullL] using hx, .inl ⟨rfl, fun q hq => by simpa using hq⟩⟩
  | [a, b], _ =>
    have lab : LtP a b := (List.pairwise_cons.mp srt).1 b (by simp)
    refine ⟨a, [b], rfl, fun q hq => ?_, fun x hx => hx, .inr ⟨by simp, ⟨⟨by simp, fun e => by
      subst e
      exact lab.irr, fun p hp n1 n2 => ?_⟩, ⟨by simp, fun e => by
      subst e
      exact lab.irr, fun p hp n1 n2 => ?_⟩, trivial⟩, fun e => ?_⟩⟩
    · simp only [List.mem_cons, List.not_mem_nil, or_false] at hq
      rcases hq with rfl | rfl
      · exact .inl rfl
      · exact .inr lab
    · simp only [List.mem_cons, List.not_mem_nil, or_false] at hp
      rcases hp with e | e
      · exact absurd e n1
      · exact absurd e n2
    · simp only [List.mem_cons, List.not_mem_nil, or_false] at hp
      rcases hp with e | e
      · exact absurd e n2
      · exact absurd e n1
    · obtain rfl : a = b := by simpa using e
      exact lab.irr
  | a :: b :: c :: r, hne =>
    generalize hr : a :: b :: c :: r = row at *
    have h2 : 2 ≤ row.length := by rw [← hr]; simp
    have h3 : ¬ row.length < 3 := by rw [← hr]; simp
    obtain ⟨v, hv⟩ : ∃ v, row.head? = some v := ⟨a, by rw [← hr]; rfl⟩
    obtain ⟨m, hm⟩ : ∃ m, row.getLast? = some m := by
      cases e : row.getLast? with
      | none => exact absurd (List.getLast?_eq_none_iff.mp e) hne
      | some m => exact ⟨m, rfl⟩
    obtain ⟨t1, e1, p1, m1, l1, l2⟩ := lower_facts srt hw h2 hv hm
    obtain ⟨t2, e2, p2, m2, l3⟩ := upper_facts srt hw h2 hv hm
    have d1 : (lowerL row).dropLast = v :: t1 := by rw [e1, List.dropLast_concat]
    have d2 : (lowerL row.reverse).dropLast = m :: t2 := by rw [e2, List.dropLast_concat]
    have e : hullL row = v :: (t1 ++ m :: t2) := by
      unfold hullL
      rw [if_neg h3, d1, d2]
      rfl
    refine ⟨v, t1 ++ m :: t2, e, fun q hq => ?_, fun x hx => ?_, .inr ⟨by simp, ?_, fun z => ?_⟩⟩
    · cases row with
      | nil => exact absurd rfl hne
      | cons x r =>
        obtain rfl : x = v := by simpa using hv
        rcases List.mem_cons.mp hq with e | e
        · exact .inl e
        · exact .inr ((List.pairwise_cons.mp srt).1 q e)
    · rw [e] at hx
      have : x ∈ lowerL row ∨ x ∈ lowerL row.reverse := by
        rw [e1, e2]
        simp only [List.mem_cons, List.mem_append] at hx ⊢
        rcases hx with h | h | h | h
        · exact .inl (.inl (.inl h))
        · exact .inl (.inl (.inr h))
        · exact .inl (.inr (.inl h))
        · exact .inr (.inl (.inr h))
      rcases this with h | h
      · exact m1 x h
      · exact m2 x h
    · rw [e1] at p1
      rw [e2] at p2
      rw [e]
      have : v :: (t1 ++ m :: t2) ++ [v] = (v :: t1) ++ m :: (t2 ++ [v]) := by simp
      rw [this]
      exact path_app p1 p2
    · rcases List.mem_append.mp z with z | z
      · exact (l1 v (List.mem_append_left _ z)).irr
      · exact (l3 v z).irr
theorem path_det {S : SetP} {v : P3} : ∀ {t t' : List P3} {c : P3}, Path S (c :: t ++ [v]) → Path S (c :: t' ++ [v]) → v ∉ t → v ∉ t' → t = t'
  | [], [], _, _, _, _, _ => rfl
  | [], x :: r, c, h, k, _, n => by
    have e : v = x := h.1.one k.1
    exact absurd (by rw [e]; simp) n
  | x :: r, [], c, h, k, n, _ => by
    have e : x = v := h.1.one k.1
    exact absurd (by rw [e]; simp) n
  | x :: r, y :: s, c, h, k, n, n' => by
    have e : x = y := h.1.one k.1
    subst e
    rw [path_det (t := r) (t' := s) (c := x) h.2 k.2 (fun z => n (List.mem_cons_of_mem _ z)) (fun z => n' (List.mem_cons_of_mem _ z))]
theorem hull_one {S : SetP} {L L' : List P3} {v v' : P3} {t t' : List P3} (h : IsHull S L v t) (h' : IsHull S L' v' t') : L = L' := by
  have hv : v = v' := by
    have m := h.mem v (by rw [h.eq]; simp)
    have m' := h'.mem v' (by rw [h'.eq]; simp)
    rcases h.least v' m' with e | e
    · exact e.symm
    · rcases h'.least v m with e' | e'
      · exact e'
      · exact absurd e' e.asym
  subst hv
  rw [h.eq, h'.eq]
  congr 1
  rcases h.cyc with ⟨e, a⟩ | ⟨n, p, nv⟩ <;> rcases h'.cyc with ⟨e', a'⟩ | ⟨n', p', nv'⟩
  · rw [e, e']
  · cases t' with
    | nil => exact absurd rfl n'
    | cons x r =>
      have := a x (h'.mem x (by rw [h'.eq]; simp))
      exact absurd (by rw [this]; simp) nv'
  · cases t with
    | nil => exact absurd rfl n
    | cons x r =>
      have := a' x (h.mem x (by rw [h.eq]; simp))
      exact absurd (by rw [this]; simp) nv
  · rw [h.eq] at p
    rw [h'.eq] at p'
    exact path_det p p' nv nv'
theorem path_suffix {S : SetP} {B : List P3} : ∀ {A : List P3}, Path S (A ++ B) → Path S B
  | [], h => h
  | [x], h => by
    cases B with
    | nil => trivial
    | cons y r => exact h.2
  | x :: y :: r, h => path_suffix (A := y :: r) h.2
theorem path_nodup {S : SetP} {v : P3} : ∀ {t : List P3} {c : P3}, Path S (c :: t ++ [v]) → v ∉ t → (c :: t).Nodup
  | [], c, _, _ => by simp
  | y :: t, c, h, n => by
    refine List.nodup_cons.mpr ⟨fun m => ?_, path_nodup (t := t) (c := y) h.2 fun z => n (List.mem_cons_of_mem _ z)⟩
    obtain ⟨A, B, e⟩ := List.append_of_mem m
    have h2 : Path S (c :: B ++ [v]) := by
      have h' := h
      rw [e] at h'
      have : c :: (A ++ c :: B) ++ [v] = (c :: A) ++ (c :: B ++ [v]) := by simp
      rw [this] at h'
      exact path_suffix h'
    have := path_det h h2 n (fun z => n (by rw [e]; simp [z]))
    rw [e] at this
    have l := congrArg List.length this
    simp at l
    omega
theorem nodup_le [DecidableEq P3] : ∀ {L rows : List P3}, L.Nodup → (∀ x ∈ L, x ∈ rows) → L.length ≤ rows.length
  | [], _, _, _ => Nat.zero_le _
  | a :: L, rows, h, k => by
    obtain ⟨h1, h2⟩ := List.nodup_cons.mp h
    have ma := k a (by simp)
    have ih := nodup_le (L := L) (rows := rows.erase a) h2 fun x hx => (List.mem_erase_of_ne (fun e => h1 (by rw [← e]; exact hx))).mpr (k x (List.mem_cons_of_mem _ hx))
    rw [List.length_erase_of_mem ma] at ih
    have := List.length_pos_of_mem ma
    simp only [List.length_cons]
    omega
/-! ### the same hull -/
theorem path_mono {S T : SetP} (h : ∀ c q, S c → T q → Next S c q → Next T c q) : ∀ {l : List P3}, (∀ x ∈ l, S x ∧ T x) → Path S l → Path T l
  | [], _, _ => trivial
  | [a], _, _ => trivial
  | a :: b :: r, m, p => ⟨h a b (m a (by simp)).1 (m b (by simp)).2 p.1, path_mono h (l := b :: r) (fun x hx => m x (List.mem_cons_of_mem _ hx)) p.2⟩
theorem hull_sub {S T : SetP} {L : List P3} {v : P3} {t : List P3} (h : IsHull S L v t) (hT : ∀ x, T x → S x) (hL : ∀ x ∈ L, T x) : IsHull T L v t := by
  refine ⟨h.eq, fun q hq => h.least q (hT q hq), hL, ?_⟩
  rcases h.cyc with ⟨e, a⟩ | ⟨n, p, nv⟩
  · exact .inl ⟨e, fun q hq => a q (hT q hq)⟩
  · refine .inr ⟨n, path_mono (fun c q _ hq k => ⟨hq, k.ne, fun p hp => k.all p (hT p hp)⟩) (fun x hx => ?_) p, nv⟩
    have : x ∈ L := by
      rcases List.mem_append.mp hx with z | z
      · exact z
      · rw [h.eq]; simpa using Or.inl z
    exact ⟨h.mem x this, hL x this⟩
/-- m is the middle of p and r -/
def Mid (p r m : P3) : Prop := ∃ g : Int, 0 < g ∧ g * m.1 = p.1 * r.2.2 + r.1 * p.2.2 ∧ g * m.2.1 = p.2.1 * r.2.2 + r.2.1 * p.2.2 ∧ g * m.2.2 = 2 * p.2.2 * r.2.2
theorem mid_turn {p r m c q : P3} {g : Int} (h1 : g * m.1 = p.1 * r.2.2 + r.1 * p.2.2) (h2 : g * m.2.1 = p.2.1 * r.2.2 + r.2.1 * p.2.2) (h3 : g * m.2.2 = 2 * p.2.2 * r.2.2) :
    g * turnI c q m = r.2.2 * turnI c q p + p.2.2 * turnI c q r ∧ g * dx c m = r.2.2 * dx c p + p.2.2 * dx c r ∧ g * dy c m = r.2.2 * dy c p + p.2.2 * dy c r := by
  refine ⟨?_, ?_, ?_⟩
  · have e : g * turnI c q m = c.1 * (q.2.1 * (g * m.2.2) - (g * m.2.1) * q.2.2) - c.2.1 * (q.1 * (g * m.2.2) - (g * m.1) * q.2.2) + c.2.2 * (q.1 * (g * m.2.1) - (g * m.1) * q.2.1) := by
      unfold turnI
      grind
    rw [e, h1, h2, h3]
    unfold turnI
    grind
  · have e : g * dx c m = (g * m.1) * c.2.2 - c.1 * (g * m.2.2) := by
      unfold dx
      grind
    rw [e, h1, h3]
    unfold dx
    grind
  · have e : g * dy c m = (g * m.2.1) * c.2.2 - c.2.1 * (g * m.2.2) := by
      unfold dy
      grind
    rw [e, h2, h3]
    unfold dy
    grind
theorem natAbs_lin {g u v x y z : Int} (hg : 0 < g) (hu : 0 < u) (hv : 0 < v) (h : g * z = u * x + v * y) : g * (z.natAbs : Int) ≤ u * (x.natAbs : Int) + v * (y.natAbs : Int) := by
  have a1 : (g * z).natAbs ≤ (u * x).natAbs + (v * y).natAbs := by rw [h]; exact Int.natAbs_add_le _ _
  rw [Int.natAbs_mul, Int.natAbs_mul, Int.natAbs_mul] at a1
  have e1 : ((g.natAbs * z.natAbs : Nat) : Int) = g * (z.natAbs : Int) := by rw [Int.natCast_mul, Int.natAbs_of_nonneg (Int.le_of_lt hg)]
  have e2 : ((u.natAbs * x.natAbs : Nat) : Int) = u * (x.natAbs : Int) := by rw [Int.natCast_mul, Int.natAbs_of_nonneg (Int.le_of_lt hu)]
  have e3 : ((v.natAbs * y.natAbs : Nat) : Int) = v * (y.natAbs : Int) := by rw [Int.natCast_mul, Int.natAbs_of_nonneg (Int.le_of_lt hv)]
  rw [← e1, ← e2, ← e3]
  omega
theorem next_mid {S T : SetP} (hW : ∀ q, T q → PosW q) (tot : Tot T) (hS : ∀ x, S x → T x) (hM : ∀ m, T m → S m ∨ ∃ p r, S p ∧ S r ∧ Mid p r m) {c q : P3} (hc : S c) (h : Next S c q) : Next T c q := by
  have wc : 0 < c.2.2 := hW c (hS c hc)
  have wq : 0 < q.2.2 := hW q (hS q h.mem)
  have fq : 0 < farI c q := by
    rcases tot c q (hS c hc) (hS q h.mem) with e | e | e
    · exact absurd e.symm h.ne
    · unfold LtP at e
      unfold farI
      omega
    · unfold LtP at e
      rw [dx_neg, dy_neg] at e
      unfold farI
      omega
  have t0 : ∀ p, S p → 0 ≤ turnI c q p := fun p hp => by
    by_cases e1 : p = c
    · rw [e1, turn_same2]; exact Int.le_refl _
    by_cases e2 : p = q
    · rw [e2, turn_same]; exact Int.le_refl _
    have := h.all p hp e1 e2
    omega
  have f0 : ∀ p, S p → turnI c q p = 0 → farI c p * q.2.2 ≤ farI c q * p.2.2 ∧ (farI c p * q.2.2 = farI c q * p.2.2 → p = q) := fun p hp z => by
    have wp : 0 < p.2.2 := hW p (hS p hp)
    by_cases e2 : p = q
    · rw [e2]; exact ⟨Int.le_refl _, fun _ => rfl⟩
    have : farI c p * q.2.2 < farI c q * p.2.2 := by
      by_cases e1 : p = c
      · have : farI c p = 0 := by rw [e1]; unfold farI dx dy; omega
        rw [this, Int.zero_mul]
        exact sg_P fq wp
      · have := h.all p hp e1 e2
        omega
    exact ⟨Int.le_of_lt this, fun z => by omega⟩
  refine ⟨hS q h.mem, h.ne, fun m hm n1 n2 => ?_⟩
  rcases hM m hm with hm' | ⟨p, r, hp, hr, g, g0, h1, h2, h3⟩
  · exact h.all m hm' n1 n2
  have wp : 0 < p.2.2 := hW p (hS p hp)
  have wr : 0 < r.2.2 := hW r (hS r hr)
  have wm : 0 < m.2.2 := hW m hm
  obtain ⟨u1, u2, u3⟩ := mid_turn (c := c) (q := q) h1 h2 h3
  have tp := t0 p hp
  have tr := t0 r hr
  have s1 := sg_nn (Int.le_of_lt wr) tp
  have s2 := sg_nn (Int.le_of_lt wp) tr
  by_cases z : 0 < turnI c q m
  · exact .inl z
  right
  have zm : turnI c q m = 0 := by
    have : 0 ≤ turnI c q m := (mul_sg g0).2.1.mp (by omega)
    omega
  rw [zm, Int.mul_zero] at u1
  have zp : turnI c q p = 0 := (mul_sg wr).2.2.2.mp (by omega)
  have zr : turnI c q r = 0 := (mul_sg wp).2.2.2.mp (by omega)
  refine ⟨zm, ?_⟩
  have fm : g * farI c m ≤ r.2.2 * farI c p + p.2.2 * farI c r := by
    have a1 := natAbs_lin g0 wr wp u2
    have a2 := natAbs_lin g0 wr wp u3
    unfold farI
    have e1 : g * (((dx c m).natAbs : Int) + (dy c m).natAbs) = g * (dx c m).natAbs + g * (dy c m).natAbs := Int.mul_add _ _ _
    have e2 : r.2.2 * (((dx c p).natAbs : Int) + (dy c p).natAbs) = r.2.2 * (dx c p).natAbs + r.2.2 * (dy c p).natAbs := Int.mul_add _ _ _
    have e3 : p.2.2 * (((dx c r).natAbs : Int) + (dy c r).natAbs) = p.2.2 * (dx c r).natAbs + p.2.2 * (dy c r).natAbs := Int.mul_add _ _ _
    omega
  obtain ⟨p1, p2⟩ := f0 p hp zp
  obtain ⟨r1, r2⟩ := f0 r hr zr
  have k1 : r.2.2 * (farI c p * q.2.2) ≤ r.2.2 * (farI c q * p.2.2) := Int.mul_le_mul_of_nonneg_left p1 (Int.le_of_lt wr)
  have k2 : p.2.2 * (farI c r * q.2.2) ≤ p.2.2 * (farI c q * r.2.2) := Int.mul_le_mul_of_nonneg_left r1 (Int.le_of_lt wp)
  have k3 : g * farI c m * q.2.2 ≤ (r.2.2 * farI c p + p.2.2 * farI c r) * q.2.2 := Int.mul_le_mul_of_nonneg_right fm (Int.le_of_lt wq)
  have k4 : g * (farI c q * m.2.2) = farI c q * (2 * p.2.2 * r.2.2) := by rw [← h3]; grind
  have k5 : (r.2.2 * farI c p + p.2.2 * farI c r) * q.2.2 = r.2.2 * (farI c p * q.2.2) + p.2.2 * (farI c r * q.2.2) := by grind
  have k6 : r.2.2 * (farI c q * p.2.2) + p.2.2 * (farI c q * r.2.2) = farI c q * (2 * p.2.2 * r.2.2) := by grind
  have k7 : g * (farI c m * q.2.2) = g * farI c m * q.2.2 := by grind
  have le : g * (farI c m * q.2.2) ≤ g * (farI c q * m.2.2) := by omega
  by_cases eq : farI c m * q.2.2 = farI c q * m.2.2
  · exfalso
    rw [eq] at k7
    have ep : r.2.2 * (farI c p * q.2.2) = r.2.2 * (farI c q * p.2.2) := by omega
    have er : p.2.2 * (farI c r * q.2.2) = p.2.2 * (farI c q * r.2.2) := by omega
    have e1 : p = q := p2 (Int.eq_of_mul_eq_mul_left (Int.ne_of_gt wr) ep)
    have e2 : r = q := r2 (Int.eq_of_mul_eq_mul_left (Int.ne_of_gt wp) er)
    subst e1
    subst e2
    have d1 : dx r m = 0 := by
      have := (mid_turn (c := r) (q := r) h1 h2 h3).2.1
      have z0 : dx r r = 0 := by unfold dx; omega
      rw [z0, Int.mul_zero] at this
      exact (mul_sg g0).2.2.2.mp (by omega)
    have d2 : dy r m = 0 := by
      have := (mid_turn (c := r) (q := r) h1 h2 h3).2.2
      have z0 : dy r r = 0 := by unfold dy; omega
      rw [z0, Int.mul_zero] at this
      exact (mul_sg g0).2.2.2.mp (by omega)
    rcases tot r m (hS r hr) hm with e | e | e
    · exact n2 e.symm
    · unfold LtP at e; omega
    · unfold LtP at e; rw [dx_neg, dy_neg] at e; omega
  · have hlt : g * (farI c m * q.2.2) < g * (farI c q * m.2.2) := by
      rcases Int.lt_or_eq_of_le le with w | w
      · exact w
      · exact absurd (Int.eq_of_mul_eq_mul_left (Int.ne_of_gt g0) w) eq
    exact Int.lt_of_mul_lt_mul_left hlt (Int.le_of_lt g0)
theorem hull_mid {S T : SetP} (hW : ∀ q, T q → PosW q) (tot : Tot T) (hS : ∀ x, S x → T x) (hM : ∀ m, T m → S m ∨ ∃ p r, S p ∧ S r ∧ Mid p r m) {L : List P3} {v : P3} {t : List P3} (h : IsHull S L v t) : IsHull T L v t := by
  have sv : S v := h.mem v (by rw [h.eq]; simp)
  have mids : ∀ m, T m → m = v ∨ LtP v m := fun m hm => by
    rcases hM m hm with hm' | ⟨p, r, hp, hr, g, g0, h1, h2, h3⟩
    · exact h.least m hm'
    have wp : 0 < p.2.2 := hW p (hS p hp)
    have wr : 0 < r.2.2 := hW r (hS r hr)
    obtain ⟨_, u2, u3⟩ := mid_turn (c := v) (q := v) h1 h2 h3
    have lex : ∀ p, S p → Lex0 (dx v p) (dy v p) := fun p hp => by
      rcases h.least p hp with e | e
      · subst e
        right
        unfold dx dy
        omega
      · exact e.lex.z
    have a1 := lex p hp
    have a2 := lex r hr
    rcases tot m v hm (hS v sv) with e | e | e
    · exact .inl e
    · exfalso
      unfold LtP at e
      rw [dx_neg v m, dy_neg v m] at e
      have f1 : 0 ≤ r.2.2 * dx v p := sg_nn (Int.le_of_lt wr) (by unfold Lex0 at a1; omega)
      have f2 : 0 ≤ p.2.2 * dx v r := sg_nn (Int.le_of_lt wp) (by unfold Lex0 at a2; omega)
      rcases e with e | ⟨e, e'⟩
      · have := sg_N g0 (show dx v m < 0 by omega)
        omega
      · have z : dx v m = 0 := by omega
        rw [z, Int.mul_zero] at u2
        have z1 := (mul_sg wr (x := dx v p)).2.2.2.mp (by omega)
        have z2 := (mul_sg wp (x := dx v r)).2.2.2.mp (by omega)
        have y1 : 0 ≤ dy v p := by unfold Lex0 at a1; omega
        have y2 : 0 ≤ dy v r := by unfold Lex0 at a2; omega
        have f3 := sg_nn (Int.le_of_lt wr) y1
        have f4 := sg_nn (Int.le_of_lt wp) y2
        have := sg_N g0 (show dy v m < 0 by omega)
        omega
    · exact .inr e
  refine ⟨h.eq, mids, fun x hx => hS x (h.mem x hx), ?_⟩
  rcases h.cyc with ⟨e, a⟩ | ⟨n, p, nv⟩
  · refine .inl ⟨e, fun m hm => ?_⟩
    rcases hM m hm with hm' | ⟨p, r, hp, hr, g, g0, h1, h2, h3⟩
    · exact a m hm'
    · have ep := a p hp
      have er := a r hr
      subst ep
      subst er
      obtain ⟨_, u2, u3⟩ := mid_turn (c := r) (q := r) h1 h2 h3
      have z0 : dx r r = 0 := by unfold dx; omega
      have z1 : dy r r = 0 := by unfold dy; omega
      rw [z0, Int.mul_zero] at u2
      rw [z1, Int.mul_zero] at u3
      have d1 := (mul_sg g0 (x := dx r m)).2.2.2.mp (by omega)
      have d2 := (mul_sg g0 (x := dy r m)).2.2.2.mp (by omega)
      rcases mids m hm with w | w
      · exact w
      · unfold LtP at w
        omega
  · refine .inr ⟨n, path_mono (fun c q hc _ k => next_mid hW tot hS hM hc k) (fun x hx => ?_) p, nv⟩
    have : S x := by
      rcases List.mem_append.mp hx with z | z
      · exact h.mem x z
      · obtain rfl : x = v := by simpa using z
        exact sv
    exact ⟨this, hS x this⟩
end VS

namespace VS
/-! ### lowest terms -/
def gI (p : P3) : Int := (Int.gcd (Int.gcd p.1 p.2.1 : Nat) p.2.2 : Nat)
def lowI (p : P3) : P3 := (p.1 / gI p, p.2.1 / gI p, p.2.2 / gI p)
def sclP (k : Int) (p : P3) : P3 := (k * p.1, k * p.2.1, k * p.2.2)
theorem gI_pos {p : P3} (h : PosW p) : 0 < gI p ∧ gI p ≤ p.2.2 := by
  obtain ⟨x, y, w⟩ := p
  unfold PosW at h
  simp only at h
  have e : gI (x, y, w) = ((Nat.gcd (Int.gcd x y) w.natAbs : Nat) : Int) := rfl
  rw [e]
  have hw : 0 < w.natAbs := by omega
  have a1 := Nat.gcd_pos_of_pos_right (Int.gcd x y) hw
  have a2 := Nat.gcd_le_right (Int.gcd x y) hw
  simp only
  omega
theorem gI_scl {k : Int} (hk : 0 < k) (p : P3) : gI (sclP k p) = k * gI p := by
  unfold gI sclP
  simp only
  rw [Int.gcd_mul_left]
  have e : ((k.natAbs * Int.gcd p.1 p.2.1 : Nat) : Int) = k * (Int.gcd p.1 p.2.1 : Nat) := by
    rw [Int.natCast_mul, Int.natAbs_of_nonneg (Int.le_of_lt hk)]
  rw [e, Int.gcd_mul_left, Int.natCast_mul, Int.natAbs_of_nonneg (Int.le_of_lt hk)]
theorem gI_dvd (p : P3) : gI p ∣ p.1 ∧ gI p ∣ p.2.1 ∧ gI p ∣ p.2.2 := by
  have h : gI p ∣ ((Int.gcd p.1 p.2.1 : Nat) : Int) := Int.gcd_dvd_left ..
  exact ⟨Int.dvd_trans h (Int.gcd_dvd_left ..), Int.dvd_trans h (Int.gcd_dvd_right ..), Int.gcd_dvd_right ..⟩
theorem low_scl (p : P3) : sclP (gI p) (lowI p) = p := by
  obtain ⟨h1, h2, h3⟩ := gI_dvd p
  unfold sclP lowI
  rw [Int.mul_ediv_cancel' h1, Int.mul_ediv_cancel' h2, Int.mul_ediv_cancel' h3]
structure LowP (p : P3) : Prop where
  w : PosW p
  g : gI p = 1
theorem low_low {p : P3} (h : PosW p) : LowP (lowI p) := by
  obtain ⟨g0, g1⟩ := gI_pos h
  have e := low_scl p
  have w : PosW (lowI p) := by
    unfold PosW at h ⊢
    have : gI p * (lowI p).2.2 = p.2.2 := congrArg (fun q : P3 => q.2.2) e
    exact (mul_sg g0).1.mp (by omega)
  refine ⟨w, ?_⟩
  have e2 := gI_scl g0 (lowI p)
  rw [e] at e2
  have : gI p * 1 = gI p * gI (lowI p) := by omega
  exact (Int.eq_of_mul_eq_mul_left (Int.ne_of_gt g0) this).symm
theorem low_id {p : P3} (h : LowP p) : lowI p = p := by
  obtain ⟨x, y, w⟩ := p
  unfold lowI
  rw [h.g]
  simp
theorem low_mul {k : Int} (hk : 0 < k) (p : P3) : lowI (sclP k p) = lowI p := by
  unfold lowI
  rw [gI_scl hk]
  unfold sclP
  simp only
  rw [Int.mul_ediv_mul_of_pos _ _ hk, Int.mul_ediv_mul_of_pos _ _ hk, Int.mul_ediv_mul_of_pos _ _ hk]
theorem low_tot {p q : P3} (hp : LowP p) (hq : LowP q) : p = q ∨ LtP p q ∨ LtP q p := by
  have wp := hp.w
  have wq := hq.w
  unfold PosW at wp wq
  by_cases h : dx p q = 0 ∧ dy p q = 0
  · left
    obtain ⟨h1, h2⟩ := h
    have e : sclP p.2.2 q = sclP q.2.2 p := by
      unfold sclP
      unfold dx at h1
      unfold dy at h2
      have a1 : p.2.2 * q.1 = q.2.2 * p.1 := by rw [Int.mul_comm, Int.mul_comm q.2.2]; omega
      have a2 : p.2.2 * q.2.1 = q.2.2 * p.2.1 := by rw [Int.mul_comm, Int.mul_comm q.2.2]; omega
      rw [a1, a2, Int.mul_comm p.2.2 q.2.2]
    have g := congrArg gI e
    rw [gI_scl wp, gI_scl wq, hp.g, hq.g, Int.mul_one, Int.mul_one] at g
    rw [g] at e
    unfold sclP at e
    obtain ⟨p0, p1, p2⟩ := p
    obtain ⟨q0, q1, q2⟩ := q
    simp only [Prod.mk.injEq] at e g ⊢
    exact ⟨(Int.eq_of_mul_eq_mul_left (Int.ne_of_gt wq) e.1).symm, (Int.eq_of_mul_eq_mul_left (Int.ne_of_gt wq) e.2.1).symm, g⟩
  · right
    unfold LtP
    rw [dx_neg p q, dy_neg p q]
    omega
theorem low_le (p : P3) (h : PosW p) : (lowI p).1.natAbs ≤ p.1.natAbs ∧ (lowI p).2.1.natAbs ≤ p.2.1.natAbs ∧ (lowI p).2.2 ≤ p.2.2 := by
  obtain ⟨g0, g1⟩ := gI_pos h
  have e := low_scl p
  have w := (low_low h).w
  unfold PosW at w
  have e1 : gI p * (lowI p).1 = p.1 := congrArg (fun q : P3 => q.1) e
  have e2 : gI p * (lowI p).2.1 = p.2.1 := congrArg (fun q : P3 => q.2.1) e
  have e3 : gI p * (lowI p).2.2 = p.2.2 := congrArg (fun q : P3 => q.2.2) e
  refine ⟨?_, ?_, ?_⟩
  · rw [← e1, Int.natAbs_mul]
    exact Nat.le_mul_of_pos_left _ (by omega)
  · rw [← e2, Int.natAbs_mul]
    exact Nat.le_mul_of_pos_left _ (by omega)
  · rw [← e3]
    have : 1 * (lowI p).2.2 ≤ gI p * (lowI p).2.2 := Int.mul_le_mul_of_nonneg_right (by omega) (Int.le_of_lt w)
    omega
/-- the middle of two points, told by the lowest terms -/
theorem mid_low {p q : P3} (wp : PosW p) (wq : PosW q) : Mid (lowI p) (lowI q) (lowI (p.1 * q.2.2 + q.1 * p.2.2, p.2.1 * q.2.2 + q.2.1 * p.2.2, 2 * p.2.2 * q.2.2)) := by
  obtain ⟨g0, _⟩ := gI_pos wp
  obtain ⟨k0, _⟩ := gI_pos wq
  have hg : 0 < gI p * gI q := Int.mul_pos g0 k0
  have ep := low_scl p
  have eq := low_scl q
  have wl := (low_low wp).w
  have wk := (low_low wq).w
  generalize lowI p = P at *
  generalize lowI q = Q at *
  generalize gI p = g at *
  generalize gI q = k at *
  have e : (p.1 * q.2.2 + q.1 * p.2.2, p.2.1 * q.2.2 + q.2.1 * p.2.2, 2 * p.2.2 * q.2.2) = sclP (g * k) (P.1 * Q.2.2 + Q.1 * P.2.2, P.2.1 * Q.2.2 + Q.2.1 * P.2.2, 2 * P.2.2 * Q.2.2) := by
    rw [← ep, ← eq]
    unfold sclP
    simp only [Prod.mk.injEq]
    refine ⟨?_, ?_, ?_⟩ <;> grind
  rw [e, low_mul hg]
  have wt : PosW (P.1 * Q.2.2 + Q.1 * P.2.2, P.2.1 * Q.2.2 + Q.2.1 * P.2.2, 2 * P.2.2 * Q.2.2) := by
    unfold PosW at *
    exact Int.mul_pos (Int.mul_pos (by decide) wl) wk
  have e2 := low_scl (P.1 * Q.2.2 + Q.1 * P.2.2, P.2.1 * Q.2.2 + Q.2.1 * P.2.2, 2 * P.2.2 * Q.2.2)
  exact ⟨_, (gI_pos wt).1, congrArg (fun q : P3 => q.1) e2, congrArg (fun q : P3 => q.2.1) e2, congrArg (fun q : P3 => q.2.2) e2⟩
/-! ### a row in order: where a point belongs -/
theorem srt_get {rs : List P3} (h : Srt rs) {i j : Nat} (hi : i < j) (hj : j < rs.length) : LtP (at3 rs i) (at3 rs j) := by
  have := (List.pairwise_iff_getElem.mp h) i j (by omega) hj hi
  unfold at3
  simp only [List.getD, List.getElem?_eq_getElem (show i < rs.length by omega), List.getElem?_eq_getElem hj, Option.getD_some]
  exact this
theorem srt_insert {rs : List P3} {p : P3} {k : Nat} (h : Srt rs) (hk : k ≤ rs.length) (h1 : ∀ j, j < k → LtP (at3 rs j) p) (h2 : ∀ j, k ≤ j → j < rs.length → LtP p (at3 rs j)) : Srt (rs.take k ++ p :: rs.drop k) := by
  unfold Srt at *
  have g : ∀ j, j < rs.length → rs[j]? = some (at3 rs j) := fun j hj => by
    unfold at3
    simp [List.getD, hj]
  refine List.pairwise_append.mpr ⟨h.sublist (List.take_sublist _ _), List.pairwise_cons.mpr ⟨fun x hx => ?_, h.sublist (List.drop_sublist _ _)⟩, fun a ha b hb => ?_⟩
  · obtain ⟨j, hj⟩ := List.mem_iff_getElem?.mp hx
    rw [List.getElem?_drop] at hj
    have hl := (List.getElem?_eq_some_iff.mp hj).1
    rw [g _ hl] at hj
    cases hj
    exact h2 _ (by omega) hl
  · obtain ⟨i, hi⟩ := List.mem_iff_getElem?.mp ha
    rw [List.getElem?_take] at hi
    by_cases hik : i < k
    · rw [if_pos hik, g i (by omega)] at hi
      cases hi
      rcases List.mem_cons.mp hb with e | e
      · rw [e]; exact h1 i hik
      · obtain ⟨j, hj⟩ := List.mem_iff_getElem?.mp e
        rw [List.getElem?_drop] at hj
        have hl := (List.getElem?_eq_some_iff.mp hj).1
        rw [g _ hl] at hj
        cases hj
        exact srt_get h (by omega) hl
    · rw [if_neg hik] at hi
      cases hi
theorem mem_insert {rs : List P3} {p x : P3} {k : Nat} : x ∈ rs.take k ++ p :: rs.drop k ↔ x = p ∨ x ∈ rs := by
  have : rs.take k ++ rs.drop k = rs := List.take_append_drop ..
  constructor
  · intro h
    rcases List.mem_append.mp h with h | h
    · exact .inr (List.mem_of_mem_take h)
    · rcases List.mem_cons.mp h with h | h
      · exact .inl h
      · exact .inr (List.mem_of_mem_drop h)
  · rintro (h | h)
    · simp [h]
    · rw [← this] at h
      rcases List.mem_append.mp h with h | h
      · simp [h]
      · simp [h]
end VS

namespace VS
/-! ### there is a hull -/
def insP (p : P3) : List P3 → List P3
  | [] => [p]
  | r :: rs => if p = r then r :: rs else if LtP p r then p :: r :: rs else r :: insP p rs
theorem ins_mem (p x : P3) : ∀ rs, x ∈ insP p rs ↔ x = p ∨ x ∈ rs
  | [] => by simp [insP]
  | r :: rs => by
    have ih := ins_mem p x rs
    unfold insP
    split
    · rename_i e
      subst e
      simp
    · split
      · simp
      · simp only [List.mem_cons, ih]
        constructor
        · rintro (h | h | h)
          · exact .inr (.inl h)
          · exact .inl h
          · exact .inr (.inr h)
        · rintro (h | h | h)
          · exact .inr (.inl h)
          · exact .inl h
          · exact .inr (.inr h)
theorem ins_srt {p : P3} (hp : LowP p) : ∀ {rs : List P3}, Srt rs → (∀ r ∈ rs, LowP r) → Srt (insP p rs)
  | [], _, _ => by simp [insP, Srt]
  | r :: rs, h, hr => by
    obtain ⟨h1, h2⟩ := List.pairwise_cons.mp h
    have lr := hr r (by simp)
    unfold insP
    split
    · exact h
    · rename_i ne
      split
      · rename_i lt
        refine List.pairwise_cons.mpr ⟨fun x hx => ?_, h⟩
        rcases List.mem_cons.mp hx with e | e
        · rw [e]; exact lt
        · exact LtP.trans hp.w lr.w (hr x hx).w lt (h1 x e)
      · rename_i nlt
        refine List.pairwise_cons.mpr ⟨fun x hx => ?_, ins_srt hp h2 fun x hx => hr x (List.mem_cons_of_mem _ hx)⟩
        rcases (ins_mem p x rs).mp hx with e | e
        · rw [e]
          rcases low_tot hp lr with w | w | w
          · exact absurd w ne
          · exact absurd w nlt
          · exact w
        · exact h1 x e
theorem srt_ex : ∀ {ps : List P3}, (∀ p ∈ ps, LowP p) → ∃ rs, Srt rs ∧ ∀ x, x ∈ rs ↔ x ∈ ps
  | [], _ => ⟨[], List.Pairwise.nil, fun x => Iff.rfl⟩
  | p :: ps, h => by
    obtain ⟨rs, h1, h2⟩ := srt_ex (ps := ps) fun x hx => h x (List.mem_cons_of_mem _ hx)
    refine ⟨insP p rs, ins_srt (h p (by simp)) h1 fun r hr => h r (List.mem_cons_of_mem _ ((h2 r).mp hr)), fun x => ?_⟩
    rw [ins_mem, h2, List.mem_cons]
theorem hull_ex {ps : List P3} (h : ∀ p ∈ ps, LowP p) (hne : ps ≠ []) : ∃ L v t, IsHull (fun x => x ∈ ps) L v t := by
  obtain ⟨rs, h1, h2⟩ := srt_ex h
  have rne : rs ≠ [] := fun e => by
    obtain ⟨p, hp⟩ := List.exists_mem_of_ne_nil _ hne
    have := (h2 p).mpr hp
    rw [e] at this
    cases this
  obtain ⟨v, t, hh⟩ := hull_ok h1 (fun p hp => (h p ((h2 p).mp hp)).w) rne
  have e : (fun x => x ∈ rs) = fun x => x ∈ ps := by
    funext x
    exact propext (h2 x)
  rw [e] at hh
  exact ⟨_, v, t, hh⟩
theorem hull_len {ps L : List P3} {v : P3} {t : List P3} (h : IsHull (fun x => x ∈ ps) L v t) : L.length ≤ ps.length := by
  refine nodup_le ?_ h.mem
  rw [h.eq]
  rcases h.cyc with ⟨e, _⟩ | ⟨_, p, n⟩
  · rw [e]; simp
  · rw [h.eq] at p
    exact path_nodup p n
theorem path_at {S : SetP} : ∀ {l : List P3} {i : Nat}, Path S l → i + 1 < l.length → Next S (at3 l i) (at3 l (i + 1))
  | [], i, _, h => by simp at h
  | [a], i, _, h => by simp at h
  | a :: b :: r, 0, p, _ => p.1
  | a :: b :: r, i + 1, p, h => path_at (l := b :: r) (i := i) p.2 (by simpa using h)
/-- a turn of the search for the next corner -/
theorem next_step {S : SetP} {c q b p : P3} (h : Next S c q) (hp : S p) (pc : p ≠ c) (hb : S b) (bc : b ≠ c) (T : Prop) (hT : T ↔ (turnI c b p < 0 ∨ turnI c b p = 0 ∧ farI c b * p.2.2 < farI c p * b.2.2)) :
    (b = q → ¬ T) ∧ (p = q → b ≠ q → T) := by
  constructor
  · intro e t
    subst e
    rw [hT] at t
    by_cases pq : p = b
    · subst pq
      rw [turn_same] at t
      omega
    · have := h.all p hp pc pq
      omega
  · intro e ne
    subst e
    rw [hT]
    have := h.all b hb bc ne
    have := turn_swap c p b
    omega
end VS

namespace VS
/-! ### seen from (0, 0): half planes, the rightmost point, sides -/
def nzP (p : P3) : Prop := p.1 ≠ 0 ∨ p.2.1 ≠ 0
instance (p : P3) : Decidable (nzP p) := by unfold nzP; infer_instance
/-- p lies anticlockwise from d, by less than half a turn, or along d -/
def HO (d p : P3) : Prop := Lex (crossI d p) (dotI d p)
theorem nrm_pos {d : P3} (h : nzP d) : 0 < dotI d d := by
  unfold nzP at h
  have e : dotI d d = d.1 * d.1 + d.2.1 * d.2.1 := rfl
  rw [e]
  exact sq_pos (by omega)
theorem crs_dir (d p q : P3) : crs (crossI d q) (dotI d q) (crossI d p) (dotI d p) = dotI d d * crossI p q := by
  unfold crs crossI dotI
  grind
theorem cross_self (p : P3) : crossI p p = 0 := by unfold crossI; grind
theorem cross_neg (p q : P3) : crossI q p = - crossI p q := by unfold crossI; grind
theorem ho_trans {d p q r : P3} (hd : nzP d) (hp : HO d p) (hq : HO d q) (hr : HO d r) (h1 : 0 ≤ crossI p q) (h2 : 0 ≤ crossI q r) : 0 ≤ crossI p r := by
  have n := nrm_pos hd
  have c1 : 0 ≤ crs (crossI d q) (dotI d q) (crossI d p) (dotI d p) := by rw [crs_dir]; exact sg_nn (Int.le_of_lt n) h1
  have c2 : 0 ≤ crs (crossI d r) (dotI d r) (crossI d q) (dotI d q) := by rw [crs_dir]; exact sg_nn (Int.le_of_lt n) h2
  have c3 := half_trans (Lex.z hr) hq (Lex.z hp) c2 c1
  rw [crs_dir] at c3
  exact (mul_sg n).2.1.mp c3
theorem ho_lt {d p q r : P3} (hd : nzP d) (hp : HO d p) (hq : HO d q) (hr : HO d r) (h1 : 0 < crossI p q) (h2 : 0 ≤ crossI q r) : 0 < crossI p r := by
  have n := nrm_pos hd
  have c1 : 0 < crs (crossI d q) (dotI d q) (crossI d p) (dotI d p) := by rw [crs_dir]; exact sg_P n h1
  have c2 : 0 ≤ crs (crossI d r) (dotI d r) (crossI d q) (dotI d q) := by rw [crs_dir]; exact sg_nn (Int.le_of_lt n) h2
  have c3 := half_lt1 hr hq hp c2 c1
  rw [crs_dir] at c3
  exact (mul_sg n).1.mp c3
/-- what lies along the end of the half plane, or nowhere -/
theorem ho_end {d f p : P3} (hd : nzP d) (hf : HO d f) (h1 : crossI d p = 0) (h2 : dotI d p ≤ 0) : 0 ≤ crossI f p := by
  have n := nrm_pos hd
  have e := crs_dir d f p
  unfold crs at e
  rw [h1, Int.zero_mul] at e
  have hA : 0 ≤ crossI d f := by unfold HO Lex at hf; omega
  have t : dotI d p * crossI d f ≤ 0 := sg_pn h2 hA
  exact (mul_sg n).2.1.mp (by omega)
theorem ho_or {d p : P3} (h : 0 ≤ crossI d p) : HO d p ∨ crossI d p = 0 ∧ dotI d p ≤ 0 := by
  unfold HO Lex
  omega
theorem ho_le {d f g p : P3} (hd : nzP d) (hf : HO d f) (hg : HO d g) (h : 0 ≤ crossI f g) (h2 : 0 ≤ crossI g p) (hp : 0 ≤ crossI d p) : 0 ≤ crossI f p := by
  rcases ho_or hp with z | ⟨z1, z2⟩
  · exact ho_trans hd hf hg z h h2
  · exact ho_end hd hf z1 z2
def rstep (f : Option P3) (p : P3) : Option P3 := match f with
  | none => if nzP p then some p else none
  | some f => if crossI f p < 0 then some p else some f
def rightm (ps : List P3) : Option P3 := (ps ++ ps).foldl rstep none
theorem fold_some (f : P3) : ∀ l : List P3, ∃ g, l.foldl rstep (some f) = some g ∧ (g = f ∨ g ∈ l)
  | [] => ⟨f, rfl, .inl rfl⟩
  | p :: l => by
    show ∃ g, l.foldl rstep (if crossI f p < 0 then some p else some f) = some g ∧ _
    split
    · obtain ⟨g, h1, h2⟩ := fold_some p l
      exact ⟨g, h1, .inr (by rcases h2 with h | h <;> simp [h])⟩
    · obtain ⟨g, h1, h2⟩ := fold_some f l
      exact ⟨g, h1, by rcases h2 with h | h <;> simp [h]⟩
theorem fold_nz {f : P3} (hf : nzP f) : ∀ {l : List P3} {g : P3}, l.foldl rstep (some f) = some g → nzP g
  | [], g, h => by cases h; exact hf
  | p :: l, g, h => by
    have h' : l.foldl rstep (if crossI f p < 0 then some p else some f) = some g := h
    split at h'
    · rename_i z
      refine fold_nz (l := l) ?_ h'
      unfold nzP
      by_cases e : p.1 = 0 ∧ p.2.1 = 0
      · exfalso
        unfold crossI at z
        rw [e.1, e.2] at z
        simp at z
      · omega
    · exact fold_nz (l := l) hf h'
theorem fold_none : ∀ {l : List P3}, (∀ p ∈ l, ¬ nzP p) → l.foldl rstep none = none
  | [], _ => rfl
  | p :: l, h => by
    show l.foldl rstep (if nzP p then some p else none) = none
    rw [if_neg (h p (by simp))]
    exact fold_none fun q hq => h q (List.mem_cons_of_mem _ hq)
theorem fold_first : ∀ {l : List P3}, (∃ p ∈ l, nzP p) → ∃ g, l.foldl rstep none = some g ∧ g ∈ l ∧ nzP g
  | [], ⟨p, h, _⟩ => by cases h
  | p :: l, ⟨q, hq, nz⟩ => by
    by_cases z : nzP p
    · have e : (p :: l).foldl rstep none = l.foldl rstep (some p) := by
        show l.foldl rstep (if nzP p then some p else none) = _
        rw [if_pos z]
      obtain ⟨g, h1, h2⟩ := fold_some p l
      exact ⟨g, by rw [e, h1], by rcases h2 with h | h <;> simp [h], fold_nz z h1⟩
    · have e : (p :: l).foldl rstep none = l.foldl rstep none := by
        show l.foldl rstep (if nzP p then some p else none) = _
        rw [if_neg z]
      have : q ∈ l := by
        rcases List.mem_cons.mp hq with h | h
        · subst h; exact absurd nz z
        · exact h
      obtain ⟨g, h1, h2, h3⟩ := fold_first ⟨q, this, nz⟩
      exact ⟨g, by rw [e, h1], List.mem_cons_of_mem _ h2, h3⟩
theorem rightm_none {ps : List P3} : rightm ps = none ↔ ∀ p ∈ ps, ¬ nzP p := by
  constructor
  · intro h p hp nz
    obtain ⟨g, h1, _⟩ := fold_first (l := ps ++ ps) ⟨p, List.mem_append_left _ hp, nz⟩
    unfold rightm at h
    rw [h1] at h
    cases h
  · intro h
    exact fold_none fun p hp => h p ((List.mem_append.mp hp).elim id id)
theorem rightm_mem {ps : List P3} {f : P3} (h : rightm ps = some f) : f ∈ ps ∧ nzP f := by
  by_cases z : ∃ p ∈ ps, nzP p
  · obtain ⟨p, hp, nz⟩ := z
    obtain ⟨g, h1, h2, h3⟩ := fold_first (l := ps ++ ps) ⟨p, List.mem_append_left _ hp, nz⟩
    unfold rightm at h
    rw [h1] at h
    cases h
    exact ⟨(List.mem_append.mp h2).elim id id, h3⟩
  · have : rightm ps = none := rightm_none.mpr fun p hp nz => z ⟨p, hp, nz⟩
    rw [this] at h
    cases h
/-- a pass over points of a half plane, from one that is not at its end -/
theorem pass {d : P3} (hd : nzP d) : ∀ {l : List P3} {f g : P3}, HO d f → (∀ p ∈ l, 0 ≤ crossI d p) → l.foldl rstep (some f) = some g → HO d g ∧ 0 ≤ crossI g f ∧ ∀ p ∈ l, 0 ≤ crossI g p
  | [], f, g, hf, _, h => by
    cases h
    exact ⟨hf, by rw [cross_self]; exact Int.le_refl _, by simp⟩
  | p :: l, f, g, hf, hl, h => by
    have hp := hl p (by simp)
    have hl' : ∀ q ∈ l, 0 ≤ crossI d q := fun q hq => hl q (List.mem_cons_of_mem _ hq)
    have h' : l.foldl rstep (if crossI f p < 0 then some p else some f) = some g := h
    split at h'
    · rename_i z
      have hop : HO d p := by
        rcases ho_or hp with w | ⟨w1, w2⟩
        · exact w
        · have := ho_end hd hf w1 w2
          omega
      obtain ⟨g1, g2, g3⟩ := pass hd (l := l) hop hl' h'
      refine ⟨g1, ho_trans hd g1 hop hf g2 (by rw [cross_neg]; omega), fun q hq => ?_⟩
      rcases List.mem_cons.mp hq with e | e
      · rw [e]; exact g2
      · exact g3 q e
    · rename_i z
      obtain ⟨g1, g2, g3⟩ := pass hd (l := l) hf hl' h'
      refine ⟨g1, g2, fun q hq => ?_⟩
      rcases List.mem_cons.mp hq with e | e
      · rw [e]; exact ho_le hd g1 hf g2 (by omega) hp
      · exact g3 q e
/-- the first pass: behind it stands a point that is not at the end, or all lie on the line -/
theorem pass0 {d : P3} (hd : nzP d) : ∀ {l : List P3} {f g : P3}, nzP f → 0 ≤ crossI d f → (∀ p ∈ l, 0 ≤ crossI d p) → l.foldl rstep (some f) = some g → HO d g ∨ crossI d f = 0 ∧ ∀ p ∈ l, crossI d p = 0
  | [], f, g, _, hf, _, h => by
    cases h
    rcases ho_or hf with w | w
    · exact .inl w
    · exact .inr ⟨w.1, by simp⟩
  | p :: l, f, g, nf, hf, hl, h => by
    have hp := hl p (by simp)
    have hl' : ∀ q ∈ l, 0 ≤ crossI d q := fun q hq => hl q (List.mem_cons_of_mem _ hq)
    rcases ho_or hf with w | ⟨w1, w2⟩
    · exact .inl (pass hd w hl h).1
    · have h' : l.foldl rstep (if crossI f p < 0 then some p else some f) = some g := h
      have n := nrm_pos hd
      have e := crs_dir d f p
      unfold crs at e
      rw [w1, Int.mul_zero] at e
      split at h'
      · rename_i z
        have hop : HO d p := by
          rcases ho_or hp with w | ⟨v1, v2⟩
          · exact w
          · rw [v1, Int.zero_mul] at e
            have := (mul_sg n (x := crossI f p)).2.2.2.mp (by omega)
            omega
        exact .inl (pass hd hop hl' h').1
      · rename_i z
        rcases pass0 hd (l := l) nf hf hl' h' with w | ⟨v1, v2⟩
        · exact .inl w
        · by_cases zp : crossI d p = 0
          · refine .inr ⟨w1, fun q hq => ?_⟩
            rcases List.mem_cons.mp hq with e | e
            · rw [e]; exact zp
            · exact v2 q e
          · exfalso
            -- a point within the half plane is taken
            have bneg : dotI d f < 0 := by
              rcases Int.lt_or_le (dotI d f) 0 with q | q
              · exact q
              · have z0 : dotI d f = 0 := by omega
                have e2 := crs_dir d f f
                unfold nzP at nf hd
                have k1 : dotI d d * f.1 = dotI d f * d.1 - crossI d f * d.2.1 := by unfold dotI crossI; grind
                have k2 : dotI d d * f.2.1 = dotI d f * d.2.1 + crossI d f * d.1 := by unfold dotI crossI; grind
                rw [z0, w1] at k1 k2
                have a1 := (mul_sg n (x := f.1)).2.2.2.mp (by omega)
                have a2 := (mul_sg n (x := f.2.1)).2.2.2.mp (by omega)
                omega
            have : crossI d p * dotI d f < 0 := sg_N (by omega) bneg
            have := (mul_sg n (x := crossI f p)).2.2.1.mp (by omega)
            omega
def Sided (ps : List P3) : Prop := ∃ d, nzP d ∧ ∀ p ∈ ps, 0 ≤ crossI d p
theorem rightm_side {ps : List P3} {f : P3} (h : rightm ps = some f) (hs : Sided ps) : ∀ p ∈ ps, 0 ≤ crossI f p := by
  obtain ⟨d, hd, hp⟩ := hs
  have ⟨mf, nf⟩ := rightm_mem h
  unfold rightm at h
  rw [List.foldl_append] at h
  obtain ⟨g, h1, h2, h3⟩ := fold_first (l := ps) ⟨f, mf, nf⟩
  rw [h1] at h
  have all0 : (∀ p ∈ ps, crossI d p = 0) → ∀ p ∈ ps, 0 ≤ crossI f p := fun z p hp' => by
    have n := nrm_pos hd
    have e := crs_dir d f p
    unfold crs at e
    rw [z p hp', z f mf, Int.zero_mul, Int.mul_zero] at e
    have := (mul_sg n (x := crossI f p)).2.2.2.mp (by omega)
    omega
  have first : HO d g ∨ ∀ p ∈ ps, crossI d p = 0 := by
    have key : ∀ {l : List P3} {g : P3}, (∀ p ∈ l, 0 ≤ crossI d p) → l.foldl rstep none = some g → HO d g ∨ ∀ p ∈ l, crossI d p = 0 := by
      intro l
      induction l with
      | nil => intro g _ h; cases h
      | cons p l ih =>
        intro g hl h
        have hl' : ∀ q ∈ l, 0 ≤ crossI d q := fun q hq => hl q (List.mem_cons_of_mem _ hq)
        have h' : l.foldl rstep (if nzP p then some p else none) = some g := h
        split at h'
        · rename_i z
          rcases pass0 hd z (hl p (by simp)) hl' h' with w | ⟨w1, w2⟩
          · exact .inl w
          · refine .inr fun q hq => ?_
            rcases List.mem_cons.mp hq with e | e
            · rw [e]; exact w1
            · exact w2 q e
        · rename_i z
          rcases ih hl' h' with w | w
          · exact .inl w
          · refine .inr fun q hq => ?_
            rcases List.mem_cons.mp hq with e | e
            · rw [e]
              unfold nzP at z
              have z1 : p.1 = 0 := by omega
              have z2 : p.2.1 = 0 := by omega
              unfold crossI
              rw [z1, z2]
              simp
            · exact w q e
    exact key hp h1
  rcases first with w | w
  · exact (pass hd w hp h).2.2
  · exact all0 w
theorem sided_iff (ps : List P3) : Sided ps ↔ match rightm ps with
    | none => True
    | some f => ∀ p ∈ ps, 0 ≤ crossI f p := by
  constructor
  · intro h
    cases e : rightm ps with
    | none => trivial
    | some f => exact rightm_side e h
  · intro h
    cases e : rightm ps with
    | none =>
      refine ⟨(0, 1, 1), .inr (by decide), fun p hp => ?_⟩
      have := rightm_none.mp e p hp
      unfold nzP at this
      have z1 : p.1 = 0 := by omega
      have z2 : p.2.1 = 0 := by omega
      unfold crossI
      rw [z1, z2]
      simp
    | some f =>
      rw [e] at h
      exact ⟨f, (rightm_mem e).2, h⟩
/-- whether the hull of the points touches (0, 0), as the program finds it -/
def Touch (ps : List P3) : Prop := match rightm ps with
  | none => True
  | some f => ∃ p ∈ ps, crossI f p < 0 ∨ crossI f p = 0 ∧ dotI f p ≤ 0
/-! ### the sides of a hull and (0, 0) -/
def zP : P3 := (0, 0, 1)
theorem turn_zero (a b : P3) (w : Int) : turnI a b (0, 0, w) = w * crossI a b := by unfold turnI crossI; grind
theorem cross_scl (k : Int) (d p : P3) : crossI d (sclP k p) = k * crossI d p := by unfold crossI sclP; grind
theorem dot_scl (k : Int) (d p : P3) : dotI d (sclP k p) = k * dotI d p := by unfold dotI sclP; grind
theorem cross_low {d p : P3} (hp : PosW p) : crossI d p = gI p * crossI d (lowI p) := by
  conv => lhs; rw [← low_scl p]
  exact cross_scl _ _ _
theorem dot_low {d p : P3} (hp : PosW p) : dotI d p = gI p * dotI d (lowI p) := by
  conv => lhs; rw [← low_scl p]
  exact dot_scl _ _ _
theorem sided_low {ps : List P3} (hw : ∀ p ∈ ps, PosW p) : Sided ps ↔ Sided (ps.map lowI) := by
  have key : ∀ d p, PosW p → (0 ≤ crossI d p ↔ 0 ≤ crossI d (lowI p)) := fun d p hp => by
    rw [cross_low hp]
    exact (mul_sg (gI_pos hp).1).2.1
  constructor
  · rintro ⟨d, hd, h⟩
    refine ⟨d, hd, fun x hx => ?_⟩
    obtain ⟨p, hp, rfl⟩ := List.mem_map.mp hx
    exact (key d p (hw p hp)).mp (h p hp)
  · rintro ⟨d, hd, h⟩
    exact ⟨d, hd, fun p hp => (key d p (hw p hp)).mpr (h _ (List.mem_map.mpr ⟨p, hp, rfl⟩))⟩
theorem sided_sub {ps qs : List P3} (h : ∀ x ∈ qs, x ∈ ps) (hs : Sided ps) : Sided qs := by
  obtain ⟨d, hd, hp⟩ := hs
  exact ⟨d, hd, fun p hq => hp p (h p hq)⟩
theorem next_ge {S : SetP} {a b : P3} (h : Next S a b) : ∀ p, S p → 0 ≤ turnI a b p := fun p hp => by
  by_cases e1 : p = a
  · rw [e1, turn_same2]; exact Int.le_refl _
  by_cases e2 : p = b
  · rw [e2, turn_same]; exact Int.le_refl _
  have := h.all p hp e1 e2
  omega
/-- a side of the hull that has (0, 0) on its line or on its right: a direction that has all points on its left -/
theorem edge_sided {ps : List P3} {a b : P3} (hw : ∀ p ∈ ps, PosW p) (wa : PosW a) (wb : PosW b) (hab : LtP a b ∨ LtP b a) (h : ∀ p ∈ ps, 0 ≤ turnI a b p) (hc : crossI a b ≤ 0) : Sided ps := by
  unfold PosW at wa wb
  refine ⟨(dx a b, dy a b, 1), ?_, fun p hp => ?_⟩
  · unfold nzP
    simp only
    rcases hab with e | e
    · unfold LtP at e; omega
    · unfold LtP at e; rw [dx_neg a b, dy_neg a b] at e; omega
  · have wp : 0 < p.2.2 := hw p hp
    have e : crossI (dx a b, dy a b, 1) p = turnI a b p - p.2.2 * crossI a b := by
      unfold crossI turnI dx dy
      grind
    rw [e]
    have t1 := h p hp
    have t2 := sg_np (Int.le_of_lt wp) hc
    omega
/-- consecutive points -/
def Con (Rl : P3 → P3 → Prop) : List P3 → Prop
  | a :: b :: r => Rl a b ∧ Con Rl (b :: r)
  | _ => True
theorem con_ho {d : P3} (hd : nzP d) : ∀ {l : List P3} {a : P3}, Con (fun a b => 0 ≤ crossI a b) (a :: l) → HO d a → (∀ x ∈ l, HO d x) → ∀ x ∈ l, 0 ≤ crossI a x
  | [], _, _, _, _ => by simp
  | b :: r, a, h, ha, hl => fun x hx => by
    rcases List.mem_cons.mp hx with e | e
    · rw [e]; exact h.1
    · have hb := hl b (by simp)
      exact ho_trans hd ha hb (hl x hx) h.1 (con_ho hd (l := r) h.2 hb (fun y hy => hl y (List.mem_cons_of_mem _ hy)) x e)
theorem con_mono {P Q : P3 → P3 → Prop} : ∀ {l : List P3}, (∀ a ∈ l, ∀ b ∈ l, P a b → Q a b) → Con P l → Con Q l
  | [], _, _ => trivial
  | [a], _, _ => trivial
  | a :: b :: r, h, c => ⟨h a (by simp) b (by simp) c.1, con_mono (l := b :: r) (fun x hx y hy => h x (List.mem_cons_of_mem _ hx) y (List.mem_cons_of_mem _ hy)) c.2⟩
theorem con_at {Q : P3 → P3 → Prop} : ∀ {l : List P3}, (∀ i, i + 1 < l.length → Q (at3 l i) (at3 l (i + 1))) → Con Q l
  | [], _ => trivial
  | [a], _ => trivial
  | a :: b :: r, h => ⟨h 0 (by simp), con_at (l := b :: r) fun i hi => h (i + 1) (by simpa using hi)⟩
theorem at_con {Q : P3 → P3 → Prop} : ∀ {l : List P3} {i : Nat}, Con Q l → i + 1 < l.length → Q (at3 l i) (at3 l (i + 1))
  | [], i, _, h => by simp at h
  | [a], i, _, h => by simp at h
  | a :: b :: r, 0, p, _ => p.1
  | a :: b :: r, i + 1, p, h => at_con (l := b :: r) (i := i) p.2 (by simpa using h)
theorem con_end {Q : P3 → P3 → Prop} {v : P3} : ∀ {l : List P3}, Con Q (l ++ [v]) → ∀ x ∈ l, ∃ y ∈ l ++ [v], Q x y
  | [], _, x, hx => by cases hx
  | [a], h, x, hx => by
    obtain rfl : x = a := by simpa using hx
    exact ⟨v, by simp, h.1⟩
  | a :: b :: r, h, x, hx => by
    rcases List.mem_cons.mp hx with e | e
    · rw [e]; exact ⟨b, by simp, h.1⟩
    · obtain ⟨y, hy, q⟩ := con_end (l := b :: r) h.2 x e
      exact ⟨y, List.mem_cons_of_mem _ hy, q⟩
/-- all sides turned to the left: no direction has all corners on its left -/
theorem con_unsided {v : P3} {t : List P3} (h : Con (fun a b => 0 < crossI a b) (v :: t ++ [v])) : ¬ Sided (v :: t) := by
  rintro ⟨d, hd, hp⟩
  have ho : ∀ x ∈ v :: t, HO d x := fun x hx => by
    rcases ho_or (hp x hx) with w | ⟨w1, w2⟩
    · exact w
    · exfalso
      obtain ⟨y, hy, q⟩ := con_end h x hx
      have hy' : y ∈ v :: t := by
        rcases List.mem_append.mp hy with z | z
        · exact z
        · have : y = v := by simpa using z
          rw [this]; simp
      have n := nrm_pos hd
      have e := crs_dir d x y
      unfold crs at e
      rw [w1, Int.mul_zero] at e
      have hA := hp y hy'
      have t1 : crossI d y * dotI d x ≤ 0 := sg_np hA w2
      have := sg_P n q
      omega
  cases t with
  | nil =>
    have this : 0 < crossI v v := h.1
    rw [cross_self] at this
    omega
  | cons b r =>
    have hv := ho v (by simp)
    have hb := ho b (by simp)
    have h2 : Con (fun a b => 0 ≤ crossI a b) (b :: (r ++ [v])) := con_mono (fun a _ b _ z => Int.le_of_lt z) h.2
    have := con_ho hd h2 hb (fun x hx => by
      rcases List.mem_append.mp hx with z | z
      · exact ho x (by simp [z])
      · have : x = v := by simpa using z
        rw [this]; exact hv) v (by simp)
    have h3 : 0 < crossI v b := h.1
    rw [cross_neg] at this
    omega
end VS

namespace VS
/-! ### whether (0, 0) lies in a hull -/
def Open (ps : List P3) : Prop := ∃ d, nzP d ∧ ∀ p ∈ ps, HO d p
theorem lex_par {A B C D : Int} (h1 : Lex A B) (h2 : Lex C D) (h : A * D = B * C) : 0 < A * C + B * D := by
  rcases h1 with a | ⟨a, b⟩
  · rcases h2 with c | ⟨c, d⟩
    · have e : A * (B * D) = C * (B * B) := by grind
      have n : 0 ≤ C * (B * B) := sg_nn (Int.le_of_lt c) (by by_cases z : 0 ≤ B; exact sg_nn z z; exact Int.le_of_lt (sg_P' (by omega) (by omega)))
      have : 0 ≤ B * D := (mul_sg a).2.1.mp (by omega)
      have := sg_P a c
      omega
    · subst c
      have := sg_P a d
      omega
  · subst a
    rcases h2 with c | ⟨c, d⟩
    · have := sg_P b c
      omega
    · have := sg_P b d
      omega
theorem ho_par {d p q : P3} (hd : nzP d) (hp : HO d p) (hq : HO d q) (h : crossI p q = 0) : 0 < dotI p q := by
  have n := nrm_pos hd
  have e1 : dotI d d * dotI p q = crossI d p * crossI d q + dotI d p * dotI d q := by unfold crossI dotI; grind
  have e2 := crs_dir d p q
  unfold crs at e2
  rw [h, Int.mul_zero] at e2
  have := lex_par hp hq (by rw [Int.mul_comm (crossI d p)]; have := Int.mul_comm (crossI d q) (dotI d p); omega)
  exact (mul_sg n).1.mp (by omega)
theorem ho_nz {d p : P3} (h : HO d p) : nzP p := by
  unfold nzP
  by_cases e : p.1 = 0 ∧ p.2.1 = 0
  · exfalso
    unfold HO Lex crossI dotI at h
    rw [e.1, e.2] at h
    simp at h
  · omega
theorem ho_self {v : P3} (h : nzP v) : HO v v := .inr ⟨cross_self v, nrm_pos h⟩
theorem nz_dot {v b : P3} (h : 0 < dotI v b) : nzP v := by
  unfold nzP
  by_cases e : v.1 = 0 ∧ v.2.1 = 0
  · exfalso
    unfold dotI at h
    rw [e.1, e.2] at h
    simp at h
  · omega
theorem touch_open {ps : List P3} (hne : ps ≠ []) : Touch ps ↔ ¬ Open ps := by
  unfold Touch
  cases e : rightm ps with
  | none =>
    simp only [true_iff]
    rintro ⟨d, hd, h⟩
    obtain ⟨p, hp⟩ := List.exists_mem_of_ne_nil _ hne
    exact rightm_none.mp e p hp (ho_nz (h p hp))
  | some f =>
    have ⟨mf, nf⟩ := rightm_mem e
    constructor
    · rintro ⟨p, hp, h⟩ ⟨d, hd, ho⟩
      have c := rightm_side e ⟨d, hd, fun q hq => by have := ho q hq; unfold HO Lex at this; omega⟩ p hp
      have := ho_par hd (ho f mf) (ho p hp)
      omega
    · intro h
      refine Classical.byContradiction fun k => h ⟨f, nf, fun p hp => ?_⟩
      have : ¬ (crossI f p < 0 ∨ crossI f p = 0 ∧ dotI f p ≤ 0) := fun z => k ⟨p, hp, z⟩
      unfold HO Lex
      omega
theorem open_sub {ps qs : List P3} (h : ∀ x ∈ qs, x ∈ ps) (hs : Open ps) : Open qs := by
  obtain ⟨d, hd, hp⟩ := hs
  exact ⟨d, hd, fun p hq => hp p (h p hq)⟩
theorem open_low {ps : List P3} (hw : ∀ p ∈ ps, PosW p) : Open ps ↔ Open (ps.map lowI) := by
  have key : ∀ d p, PosW p → (HO d p ↔ HO d (lowI p)) := fun d p hp => by
    unfold HO Lex
    rw [cross_low hp, dot_low hp]
    have g := (gI_pos hp).1
    rw [(mul_sg g).1, (mul_sg g).1, (mul_sg g).2.2.2]
  constructor
  · rintro ⟨d, hd, h⟩
    refine ⟨d, hd, fun x hx => ?_⟩
    obtain ⟨p, hp, rfl⟩ := List.mem_map.mp hx
    exact (key d p (hw p hp)).mp (h p hp)
  · rintro ⟨d, hd, h⟩
    exact ⟨d, hd, fun p hp => (key d p (hw p hp)).mpr (h _ (List.mem_map.mpr ⟨p, hp, rfl⟩))⟩
theorem dir_cross (a b p : P3) : crossI (dx a b, dy a b, 1) p = turnI a b p - p.2.2 * crossI a b := by
  unfold crossI turnI dx dy
  grind
theorem dir_nz {a b : P3} (h : LtP a b ∨ LtP b a) : nzP (dx a b, dy a b, 1) := by
  unfold nzP
  simp only
  rcases h with e | e
  · unfold LtP at e; omega
  · unfold LtP at e; rw [dx_neg a b, dy_neg a b] at e; omega
theorem open_edge {ps : List P3} {a b : P3} (hw : ∀ p ∈ ps, PosW p) (hab : LtP a b ∨ LtP b a) (h : ∀ p ∈ ps, 0 ≤ turnI a b p) (hc : crossI a b < 0) : Open ps := by
  refine ⟨_, dir_nz hab, fun p hp => .inl ?_⟩
  rw [dir_cross]
  have t1 := h p hp
  have t2 := sg_N (hw p hp) hc
  omega
theorem con_suffix {Q : P3 → P3 → Prop} {B : List P3} : ∀ {A : List P3}, Con Q (A ++ B) → Con Q B
  | [], h => h
  | [a], h => by
    cases B with
    | nil => trivial
    | cons b r => exact h.2
  | a :: b :: r, h => con_suffix (A := b :: r) h.2
theorem cyc_flat {d : P3} (hd : nzP d) {v : P3} {t : List P3} (ho : ∀ x ∈ v :: t, HO d x) (c : Con (fun a b => 0 ≤ crossI a b) (v :: t ++ [v])) : ∀ x ∈ t, crossI v x = 0 := by
  intro x hx
  have hov := ho v (by simp)
  have h1 : 0 ≤ crossI v x := con_ho hd (l := t ++ [v]) c hov (fun y hy => by
    rcases List.mem_append.mp hy with z | z
    · exact ho y (List.mem_cons_of_mem _ z)
    · obtain rfl : y = v := by simpa using z
      exact hov) x (List.mem_append_left _ hx)
  obtain ⟨s, r, e⟩ := List.append_of_mem hx
  have h2 : 0 ≤ crossI x v := by
    have c2 : Con (fun a b => 0 ≤ crossI a b) (x :: (r ++ [v])) := by
      refine con_suffix (A := v :: s) ?_
      rw [e] at c
      simpa using c
    refine con_ho hd (l := r ++ [v]) c2 (ho x (List.mem_cons_of_mem _ hx)) (fun y hy => ?_) v (by simp)
    rcases List.mem_append.mp hy with z | z
    · exact ho y (by rw [e]; simp [z])
    · obtain rfl : y = v := by simpa using z
      exact hov
  rw [cross_neg] at h2
  omega
theorem flat_all {v a b : P3} (hv : nzP v) (h1 : crossI v a = 0) (h2 : crossI v b = 0) : crossI a b = 0 := by
  have n := nrm_pos hv
  have e := crs_dir v a b
  unfold crs at e
  rw [h1, h2, Int.zero_mul, Int.mul_zero] at e
  exact (mul_sg n).2.2.2.mp (by omega)
theorem turn_cross (a b c : P3) : turnI a b c = a.2.2 * crossI b c - b.2.2 * crossI a c + c.2.2 * crossI a b := by unfold turnI crossI; grind
theorem turn_back (a b c : P3) : turnI b a c = - turnI a b c := by unfold turnI; grind
/-- three corners in a row do not lie on a line -/
theorem no_flat {S : SetP} {v b c : P3} (hw : ∀ x, S x → LowP x) (least : ∀ q, S q → q = v ∨ LtP v q) (sv : S v) (h1 : Next S v b) (h2 : Next S b c) (cv : c ≠ v) (z : turnI v b c = 0) : False := by
  have wv := hw v sv
  have wb := hw b h1.mem
  have wc := hw c h2.mem
  have vb : LtP v b := (least b h1.mem).resolve_left h1.ne
  have vc : LtP v c := (least c h2.mem).resolve_left cv
  have f1 := h1.all c h2.mem cv h2.ne
  have f2 := h2.all v sv (Ne.symm h1.ne) (Ne.symm cv)
  have cb : LtP c b := by
    rcases low_tot wc wb with w | w | w
    · exact absurd w h2.ne
    · exact w
    · have := far_add wv.w wb.w wc.w vb w (by rw [turn_swap]; omega)
      omega
  have zr := turn_rot v b c
  have := far_add (a := ngP b) (p := ngP c) (b := ngP v) wb.w wc.w wv.w ((lt_ng _ _).mpr cb) ((lt_ng _ _).mpr vc) (by rw [turn_ng, turn_swap]; omega)
  rw [far_ng, far_ng] at this
  have e1 : (ngP v).2.2 = v.2.2 := rfl
  have e2 : (ngP c).2.2 = c.2.2 := rfl
  rw [e1, e2] at this
  omega
/-- a point between two others -/
theorem comb {v b p : P3} (wv : PosW v) (wb : PosW b) (wp : PosW p) (h1 : LtP v p) (h2 : LtP p b) (z : turnI v b p = 0) : ∃ K α β : Int, 0 < K ∧ 0 ≤ α ∧ 0 ≤ β ∧ 0 < α + β ∧ K * p.1 = α * v.1 + β * b.1 ∧ K * p.2.1 = α * v.2.1 + β * b.2.1 := by
  have ex := dx_add v p b
  have ey := dy_add v p b
  unfold PosW at wv wb wp
  unfold LtP at h1 h2
  have a0 : 0 ≤ b.2.2 * dx v p := sg_nn (by omega) (by omega)
  have a1 : 0 ≤ v.2.2 * dx p b := sg_nn (by omega) (by omega)
  by_cases c : 0 < dx v b
  · refine ⟨dx v b, dx p b, dx v p, c, by omega, by omega, ?_, ?_, ?_⟩
    · have : 0 < p.2.2 * dx v b := sg_P wp c
      rcases h1 with w | w
      · omega
      · rcases h2 with u | u
        · omega
        · rw [w.1, u.1] at ex
          omega
    · unfold dx; grind
    · have e : dx v b * p.2.1 = dx p b * v.2.1 + dx v p * b.2.1 + turnI v b p ∨ dx v b * p.2.1 = dx p b * v.2.1 + dx v p * b.2.1 - turnI v b p := by
        first
          | (left; unfold dx turnI; grind)
          | (right; unfold dx turnI; grind)
      omega
  · have c0 : p.2.2 * dx v b ≤ 0 := sg_np (by omega) (by omega)
    have x1 : dx v p = 0 := (mul_sg wb).2.2.2.mp (by omega)
    have x2 : dx p b = 0 := (mul_sg wv).2.2.2.mp (by omega)
    have y1 : 0 < dy v p := by omega
    have y2 : 0 < dy p b := by omega
    have := sg_P wb y1
    have := sg_P wv y2
    have c2 : 0 < dy v b := (mul_sg wp).1.mp (by omega)
    refine ⟨dy v b, dy p b, dy v p, c2, by omega, by omega, by omega, ?_, ?_⟩
    · have e : dy v b * p.1 = dy p b * v.1 + dy v p * b.1 + turnI v b p ∨ dy v b * p.1 = dy p b * v.1 + dy v p * b.1 - turnI v b p := by
        first
          | (left; unfold dy turnI; grind)
          | (right; unfold dy turnI; grind)
      omega
    · unfold dy; grind
def MetL (L : List P3) : Prop := if L.length < 3 then crossI (at3 L 0) (at3 L (L.length - 1)) = 0 ∧ dotI (at3 L 0) (at3 L (L.length - 1)) ≤ 0 else Con (fun a b => 0 ≤ crossI a b) (L ++ [at3 L 0])
theorem path_con {S : SetP} {Q : P3 → P3 → Prop} (h : ∀ a b, S a → Next S a b → Q a b) : ∀ {l : List P3}, (∀ x ∈ l, S x) → Path S l → Con Q l
  | [], _, _ => trivial
  | [a], _, _ => trivial
  | a :: b :: r, hs, p => ⟨h a b (hs a (by simp)) p.1, path_con h (l := b :: r) (fun x hx => hs x (List.mem_cons_of_mem _ hx)) p.2⟩
theorem met_open {rs L : List P3} {v : P3} {t : List P3} (hw : ∀ x ∈ rs, LowP x) (h : IsHull (fun x => x ∈ rs) L v t) : MetL L ↔ ¬ Open rs := by
  have eL := h.eq
  have sv : v ∈ rs := h.mem v (by rw [eL]; simp)
  have hW : ∀ p ∈ rs, PosW p := fun p hp => (hw p hp).w
  have lt2 : ∀ {a b}, a ∈ rs → Next (fun x => x ∈ rs) a b → LtP a b ∨ LtP b a := fun {a b} ha n => (low_tot (hw a ha) (hw b n.mem)).resolve_left (Ne.symm n.ne)
  constructor
  · rintro hm ⟨d, hd, ho⟩
    have hoL : ∀ x ∈ L, HO d x := fun x hx => ho x (h.mem x hx)
    rw [eL] at hoL hm
    have hv := hoL v (by simp)
    rcases h.cyc with ⟨et, _⟩ | ⟨_, path, nv⟩
    · subst et
      have := ho_par hd hv hv (cross_self v)
      have hm' : crossI v v = 0 ∧ dotI v v ≤ 0 := hm
      omega
    · rw [eL] at path
      match t, path, nv, hoL, hm with
      | [], path, _, _, _ => exact path.1.ne rfl
      | [b], path, _, hoL, hm =>
        have hm' : crossI v b = 0 ∧ dotI v b ≤ 0 := hm
        have := ho_par hd hv (hoL b (by simp)) hm'.1
        omega
      | b :: c :: r, path, nv, hoL, hm =>
        have hm' : Con (fun a b => 0 ≤ crossI a b) (v :: (b :: c :: r) ++ [v]) := by
          unfold MetL at hm
          rw [if_neg (by simp)] at hm
          exact hm
        have fl := cyc_flat hd hoL hm'
        have vz := ho_nz hv
        have z : turnI v b c = 0 := by
          have f1 := fl b (by simp)
          have f2 := fl c (by simp)
          have f3 := flat_all vz f1 f2
          rw [turn_cross, f1, f2, f3]
          simp
        exact no_flat hw h.least sv path.1 path.2.1 (fun e => nv (by rw [← e]; simp)) z
  · intro no
    rcases h.cyc with ⟨et, all⟩ | ⟨_, path, nv⟩
    · rw [eL, et]
      show crossI v v = 0 ∧ dotI v v ≤ 0
      refine ⟨cross_self v, ?_⟩
      rcases Int.lt_or_le 0 (dotI v v) with q | q
      · have nz := nz_dot q
        exact absurd ⟨v, nz, fun p hp => by rw [all p hp]; exact ho_self nz⟩ no
      · exact q
    · have hS : ∀ x ∈ L ++ [v], x ∈ rs := fun x hx => by
        rcases List.mem_append.mp hx with z | z
        · exact h.mem x z
        · obtain rfl : x = v := by simpa using z
          exact sv
      have cn : Con (fun a b => 0 ≤ crossI a b) (L ++ [v]) := path_con (fun a b ha n => by
        rcases Int.lt_or_le (crossI a b) 0 with q | q
        · exact absurd (open_edge hW (lt2 ha n) (next_ge n) q) no
        · exact q) hS path
      rw [eL] at path cn ⊢
      match t, path, nv, cn with
      | [], path, _, _ => exact (path.1.ne rfl).elim
      | [b], path, nv, cn =>
        show crossI v b = 0 ∧ dotI v b ≤ 0
        have c1 : 0 ≤ crossI v b := cn.1
        have c2 : 0 ≤ crossI b v := cn.2.1
        rw [cross_neg] at c2
        have c0 : crossI v b = 0 := by omega
        refine ⟨c0, ?_⟩
        rcases Int.lt_or_le 0 (dotI v b) with q | q
        · exfalso
          have nz := nz_dot q
          refine no ⟨v, nz, fun p hp => ?_⟩
          by_cases e1 : p = v
          · rw [e1]; exact ho_self nz
          by_cases e2 : p = b
          · rw [e2]; exact .inr ⟨c0, q⟩
          have n1 : Next (fun x => x ∈ rs) v b := path.1
          have n2 : Next (fun x => x ∈ rs) b v := path.2.1
          have z1 := next_ge n1 p hp
          have z2 := next_ge n2 p hp
          rw [turn_back] at z2
          have z : turnI v b p = 0 := by omega
          have vp := (h.least p hp).resolve_left e1
          have vb := (h.least b n1.mem).resolve_left n1.ne
          have f := n1.all p hp e1 e2
          have pb : LtP p b := by
            rcases low_tot (hw p hp) (hw b n1.mem) with w | w | w
            · exact absurd w e2
            · exact w
            · have := far_add (hw v sv).w (hw b n1.mem).w (hw p hp).w vb w (by rw [turn_swap]; omega)
              omega
          obtain ⟨K, α, β, k0, a0, b0, ab, q1, q2⟩ := comb (hw v sv).w (hw b n1.mem).w (hw p hp).w vp pb z
          have m1 : K * crossI v p = β * crossI v b := by
            have : K * crossI v p = v.1 * (K * p.2.1) - v.2.1 * (K * p.1) := by unfold crossI; grind
            rw [this, q1, q2]
            unfold crossI
            grind
          have m2 : K * dotI v p = α * dotI v v + β * dotI v b := by
            have : K * dotI v p = v.1 * (K * p.1) + v.2.1 * (K * p.2.1) := by unfold dotI; grind
            rw [this, q1, q2]
            unfold dotI
            grind
          rw [c0, Int.mul_zero] at m1
          have vv := nrm_pos nz
          have g1 := sg_nn a0 (Int.le_of_lt vv)
          have g2 := sg_nn b0 (Int.le_of_lt q)
          have g3 : 0 < α * dotI v v + β * dotI v b := by
            by_cases z0 : 0 < α
            · have := sg_P z0 vv; omega
            · have := sg_P (show 0 < β by omega) q; omega
          exact .inr ⟨(mul_sg k0).2.2.2.mp m1, (mul_sg k0).1.mp (by omega)⟩
        · exact q
      | b :: c :: r, path, nv, cn =>
        unfold MetL
        rw [if_neg (by simp)]
        exact cn
theorem con_map {Q : P3 → P3 → Prop} (e : P3 → P3) : ∀ {l : List P3}, Con (fun a b => Q (e a) (e b)) l → Con Q (l.map e)
  | [], _ => trivial
  | [a], _ => trivial
  | a :: b :: r, h => ⟨h.1, con_map e (l := b :: r) h.2⟩
/-- what has the corners on its left has all points on its left -/
theorem side_in {rs L : List P3} {v : P3} {t : List P3} (hw : ∀ x ∈ rs, LowP x) (h : IsHull (fun x => x ∈ rs) L v t) {f : P3} (hf : nzP f) (hs : ∀ x ∈ L, 0 ≤ crossI f x) : ∀ p ∈ rs, 0 ≤ crossI f p := by
  intro p hp
  rcases Int.lt_or_le (crossI f p) 0 with q | q
  · exfalso
    have eL := h.eq
    have sv : v ∈ rs := h.mem v (by rw [eL]; simp)
    have wp := (hw p hp).w
    rcases h.cyc with ⟨et, all⟩ | ⟨tne, path, nv⟩
    · have := hs p (by rw [eL, all p hp]; simp)
      omega
    · have npL : ∀ x ∈ L, x ≠ p := fun x hx e => by
        have := hs x hx
        rw [e] at this
        omega
      have hS : ∀ x ∈ L ++ [v], x ∈ rs := fun x hx => by
        rcases List.mem_append.mp hx with z | z
        · exact h.mem x z
        · obtain rfl : x = v := by simpa using z
          exact sv
      have ho : ∀ x ∈ L, HO f (dx p x, dy p x, 1) := fun x hx => by
        refine .inl ?_
        have e : crossI f (dx p x, dy p x, 1) = p.2.2 * crossI f x - x.2.2 * crossI f p := by unfold crossI dx dy; grind
        rw [e]
        have u1 := sg_nn (Int.le_of_lt wp) (hs x hx)
        have u2 := sg_N (hw x (h.mem x hx)).w q
        omega
      have cr : ∀ a b, crossI (dx p a, dy p a, 1) (dx p b, dy p b, 1) = p.2.2 * turnI a b p := fun a b => by unfold crossI turnI dx dy; grind
      have cn : Con (fun a b => 0 ≤ crossI (dx p a, dy p a, 1) (dx p b, dy p b, 1)) (L ++ [v]) := path_con (fun a b ha n => by
        rw [cr]
        exact sg_nn (Int.le_of_lt wp) (next_ge n p hp)) hS path
      have cm := con_map (Q := fun a b => 0 ≤ crossI a b) (fun x => (dx p x, dy p x, 1)) cn
      rw [eL] at cm path ho
      match t, tne, path, nv, cm, ho, npL, eL with
      | b :: r, _, path, nv, cm, ho, npL, eL =>
        have n1 : Next (fun x => x ∈ rs) v b := path.1
        have fl := cyc_flat hf (v := (dx p v, dy p v, 1)) (t := (b :: r).map fun x => (dx p x, dy p x, 1)) (fun x hx => by
          rw [← List.map_cons (f := fun x => ((dx p x, dy p x, 1) : P3))] at hx
          obtain ⟨y, hy, rfl⟩ := List.mem_map.mp hx
          exact ho y hy) (by simpa using cm) (dx p b, dy p b, 1) (by simp)
        have hd := ho_par hf (ho v (by simp)) (ho b (by simp)) fl
        have z : turnI v b p = 0 := by
          rw [cr] at fl
          exact (mul_sg wp).2.2.2.mp fl
        have vp := (h.least p hp).resolve_left (Ne.symm (npL v (by rw [eL]; simp)))
        have vb := (h.least b n1.mem).resolve_left n1.ne
        have bp : LtP b p := by
          rcases low_tot (hw b n1.mem) (hw p hp) with w | w | w
          · exact absurd w (npL b (by rw [eL]; simp))
          · exact w
          · exfalso
            have fl' : dx p v * dy p b - dy p v * dx p b = 0 := fl
            have hd' : 0 < dx p v * dx p b + dy p v * dy p b := hd
            rw [dx_neg v p, dy_neg v p] at fl' hd'
            have := lex_par vp.lex w.lex (by grind)
            have e1 := Int.neg_mul (dx v p) (dx p b)
            have e2 := Int.neg_mul (dy v p) (dy p b)
            omega
        have f1 := far_add (hw v sv).w (hw b n1.mem).w wp vb bp (by rw [turn_swap]; omega)
        have f2 := n1.all p hp (Ne.symm (npL v (by rw [eL]; simp))) (Ne.symm (npL b (by rw [eL]; simp)))
        omega
  · exact q
theorem sided_hull {rs L : List P3} {v : P3} {t : List P3} (hw : ∀ x ∈ rs, LowP x) (h : IsHull (fun x => x ∈ rs) L v t) : Sided rs ↔ Sided L :=
  ⟨sided_sub h.mem, fun ⟨d, hd, hp⟩ => ⟨d, hd, side_in hw h hd hp⟩⟩
/-- the tries of the law -/
theorem sided_try (ps : List P3) : Sided ps ↔ (∀ p ∈ ps, 0 ≤ p.1) ∨ ∃ q ∈ ps, nzP q ∧ ((∀ p ∈ ps, 0 ≤ crossI q p) ∨ ∀ p ∈ ps, crossI q p ≤ 0) := by
  constructor
  · intro h
    have := (sided_iff ps).mp h
    cases e : rightm ps with
    | none =>
      refine .inl fun p hp => ?_
      have := rightm_none.mp e p hp
      unfold nzP at this
      omega
    | some f =>
      rw [e] at this
      exact .inr ⟨f, (rightm_mem e).1, (rightm_mem e).2, .inl this⟩
  · rintro (h | ⟨q, hq, nz, h | h⟩)
    · refine ⟨(0, -1, 1), .inr (by decide), fun p hp => ?_⟩
      have : crossI (0, -1, 1) p = p.1 := by unfold crossI; simp
      rw [this]
      exact h p hp
    · exact ⟨q, nz, h⟩
    · refine ⟨(-q.1, -q.2.1, 1), by unfold nzP at nz ⊢; simp only; omega, fun p hp => ?_⟩
      have : crossI (-q.1, -q.2.1, 1) p = - crossI q p := by unfold crossI; grind
      have := h p hp
      omega
theorem sided_one (p : P3) : Sided [p] := by
  refine (sided_iff _).mpr ?_
  split
  · trivial
  · rename_i f e
    intro q hq
    have := (rightm_mem e).1
    simp only [List.mem_cons, List.not_mem_nil, or_false] at this hq
    rw [this, hq, cross_self]
    exact Int.le_refl _
end VS

namespace VS
/-! ### a hull and what is linear -/
def fnI (α β γ : Int) (p : P3) : Int := α * p.1 + β * p.2.1 + γ * p.2.2
theorem fn_low {α β γ : Int} {p : P3} (hp : PosW p) : fnI α β γ p = gI p * fnI α β γ (lowI p) := by
  have : fnI α β γ (sclP (gI p) (lowI p)) = gI p * fnI α β γ (lowI p) := by unfold fnI sclP; grind
  rw [← this, low_scl]
theorem fn_low_nn {α β γ : Int} {p : P3} (hp : PosW p) : 0 ≤ fnI α β γ p ↔ 0 ≤ fnI α β γ (lowI p) := by
  rw [fn_low hp]
  exact (mul_sg (gI_pos hp).1).2.1
theorem fn_dx {α β γ : Int} (p x : P3) : α * dx p x + β * dy p x = p.2.2 * fnI α β γ x - x.2.2 * fnI α β γ p := by unfold fnI dx dy; grind
theorem fn_turn (a b x : P3) : turnI a b x = fnI (-dy a b) (dx a b) (crossI a b) x := by unfold turnI fnI dx dy crossI; grind
/-- what is nowhere negative at the corners is nowhere negative -/
theorem dom_in {rs L : List P3} {v : P3} {t : List P3} (hw : ∀ x ∈ rs, LowP x) (h : IsHull (fun x => x ∈ rs) L v t) {α β γ : Int} (hs : ∀ x ∈ L, 0 ≤ fnI α β γ x) : ∀ p ∈ rs, 0 ≤ fnI α β γ p := by
  intro p hp
  rcases Int.lt_or_le (fnI α β γ p) 0 with q | q
  · exfalso
    have eL := h.eq
    have sv : v ∈ rs := h.mem v (by rw [eL]; simp)
    have wp := (hw p hp).w
    have gv := hs v (by rw [eL]; simp)
    rcases h.cyc with ⟨et, all⟩ | ⟨tne, path, nv⟩
    · rw [all p hp] at q
      omega
    · have npL : ∀ x ∈ L, x ≠ p := fun x hx e => by
        have := hs x hx
        rw [e] at this
        omega
      have hS : ∀ x ∈ L ++ [v], x ∈ rs := fun x hx => by
        rcases List.mem_append.mp hx with z | z
        · exact h.mem x z
        · obtain rfl : x = v := by simpa using z
          exact sv
      have hf : nzP (β, -α, 1) := by
        unfold nzP
        simp only
        by_cases e : β = 0 ∧ α = 0
        · exfalso
          obtain ⟨rfl, rfl⟩ := e
          have e1 : fnI 0 0 γ p = p.2.2 * γ := by unfold fnI; grind
          have e2 : fnI 0 0 γ v = v.2.2 * γ := by unfold fnI; grind
          rw [e1] at q
          rw [e2] at gv
          have a1 := (mul_sg wp).2.2.1.mp q
          have a2 := (mul_sg (hw v sv).w).2.1.mp gv
          omega
        · omega
      have ho : ∀ x ∈ L, HO (β, -α, 1) (dx p x, dy p x, 1) := fun x hx => by
        refine .inl ?_
        have e : crossI (β, -α, 1) (dx p x, dy p x, 1) = α * dx p x + β * dy p x := by unfold crossI; grind
        rw [e, fn_dx (γ := γ)]
        have u1 := sg_nn (Int.le_of_lt wp) (hs x hx)
        have u2 := sg_N (hw x (h.mem x hx)).w q
        omega
      have cr : ∀ a b, crossI (dx p a, dy p a, 1) (dx p b, dy p b, 1) = p.2.2 * turnI a b p := fun a b => by unfold crossI turnI dx dy; grind
      have cn : Con (fun a b => 0 ≤ crossI (dx p a, dy p a, 1) (dx p b, dy p b, 1)) (L ++ [v]) := path_con (fun a b ha n => by
        rw [cr]
        exact sg_nn (Int.le_of_lt wp) (next_ge n p hp)) hS path
      have cm := con_map (Q := fun a b => 0 ≤ crossI a b) (fun x => (dx p x, dy p x, 1)) cn
      rw [eL] at cm path ho
      match t, tne, path, nv, cm, ho, npL, eL with
      | b :: r, _, path, nv, cm, ho, npL, eL =>
        have n1 : Next (fun x => x ∈ rs) v b := path.1
        have fl := cyc_flat hf (v := (dx p v, dy p v, 1)) (t := (b :: r).map fun x => (dx p x, dy p x, 1)) (fun x hx => by
          rw [← List.map_cons (f := fun x => ((dx p x, dy p x, 1) : P3))] at hx
          obtain ⟨y, hy, rfl⟩ := List.mem_map.mp hx
          exact ho y hy) (by simpa using cm) (dx p b, dy p b, 1) (by simp)
        have hd := ho_par hf (ho v (by simp)) (ho b (by simp)) fl
        have z : turnI v b p = 0 := by
          rw [cr] at fl
          exact (mul_sg wp).2.2.2.mp fl
        have vp := (h.least p hp).resolve_left (Ne.symm (npL v (by rw [eL]; simp)))
        have vb := (h.least b n1.mem).resolve_left n1.ne
        have bp : LtP b p := by
          rcases low_tot (hw b n1.mem) (hw p hp) with w | w | w
          · exact absurd w (npL b (by rw [eL]; simp))
          · exact w
          · exfalso
            have fl' : dx p v * dy p b - dy p v * dx p b = 0 := fl
            have hd' : 0 < dx p v * dx p b + dy p v * dy p b := hd
            rw [dx_neg v p, dy_neg v p] at fl' hd'
            have := lex_par vp.lex w.lex (by grind)
            have e1 := Int.neg_mul (dx v p) (dx p b)
            have e2 := Int.neg_mul (dy v p) (dy p b)
            omega
        have f1 := far_add (hw v sv).w (hw b n1.mem).w wp vb bp (by rw [turn_swap]; omega)
        have f2 := n1.all p hp (Ne.symm (npL v (by rw [eL]; simp))) (Ne.symm (npL b (by rw [eL]; simp)))
        omega
  · exact q
/-! ### the sides of a hull -/
def Edge (l : List P3) (c q : P3) : Prop := ∃ A B, l = A ++ c :: q :: B
theorem edge_con {Q : P3 → P3 → Prop} : ∀ {l : List P3}, (∀ c q, Edge l c q → Q c q) → Con Q l
  | [], _ => trivial
  | [a], _ => trivial
  | a :: b :: r, h => ⟨h a b ⟨[], r, rfl⟩, edge_con (l := b :: r) fun c q ⟨A, B, e⟩ => h c q ⟨a :: A, B, by rw [e]; rfl⟩⟩
theorem con_edge {Q : P3 → P3 → Prop} {l : List P3} {c q : P3} (h : Con Q l) (e : Edge l c q) : Q c q := by
  obtain ⟨A, B, rfl⟩ := e
  exact (con_suffix (A := A) h).1
theorem path_edge {S : SetP} {l : List P3} {c q : P3} (h : Path S l) (e : Edge l c q) : Next S c q := by
  obtain ⟨A, B, rfl⟩ := e
  exact (path_suffix (A := A) h).1
theorem edge_next {v : P3} {L : List P3} {x : P3} (h : x ∈ L) : ∃ y, Edge (L ++ [v]) x y := by
  obtain ⟨A, B, rfl⟩ := List.append_of_mem h
  cases B with
  | nil => exact ⟨v, A, [], by simp⟩
  | cons y r => exact ⟨y, A, r ++ [v], by simp⟩
theorem edge_prev {v : P3} {t : List P3} {x : P3} (h : x ∈ v :: t) : ∃ y, Edge (v :: t ++ [v]) y x := by
  have : x ∈ t ++ [v] := by
    rcases List.mem_cons.mp h with e | e
    · rw [e]; simp
    · exact List.mem_append_left _ e
  obtain ⟨A, B, e⟩ := List.append_of_mem this
  rcases List.eq_nil_or_concat A with rfl | ⟨A', y, rfl⟩
  · exact ⟨v, [], B, by
      show v :: (t ++ [v]) = _
      rw [e]
      rfl⟩
  · exact ⟨y, v :: A', B, by
      show v :: (t ++ [v]) = _
      rw [e]
      simp⟩
theorem edge_fst {v : P3} {L : List P3} {c q : P3} (e : Edge (L ++ [v]) c q) : c ∈ L := by
  obtain ⟨A, B, e⟩ := e
  have l := congrArg List.dropLast e
  rw [List.dropLast_concat] at l
  rw [l, List.dropLast_append_of_ne_nil (by simp)]
  simp
theorem edge_snd {v : P3} {t : List P3} {c q : P3} (e : Edge (v :: t ++ [v]) c q) : q ∈ v :: t := by
  obtain ⟨A, B, e⟩ := e
  have : q ∈ v :: t ++ [v] := by rw [e]; simp
  rcases List.mem_append.mp this with z | z
  · exact z
  · have z' : q = v := by simpa using z
    rw [z']
    simp
theorem max_w : ∀ L : List P3, ∃ M : Int, 0 < M ∧ ∀ x ∈ L, x.2.2 ≤ M
  | [] => ⟨1, by decide, by simp⟩
  | a :: r => by
    obtain ⟨M, h1, h2⟩ := max_w r
    refine ⟨M + a.2.2.natAbs, by omega, fun x hx => ?_⟩
    rcases List.mem_cons.mp hx with e | e
    · rw [e]; omega
    · have := h2 x e; omega
/-- a corner at each least value -/
theorem face_one {rs L : List P3} {v : P3} {t : List P3} (hw : ∀ x ∈ rs, LowP x) (h : IsHull (fun x => x ∈ rs) L v t) {α β γ : Int} (nn : ∀ p ∈ rs, 0 ≤ fnI α β γ p) {p : P3} (hp : p ∈ rs) (z : fnI α β γ p = 0) : ∃ c ∈ L, fnI α β γ c = 0 := by
  refine Classical.byContradiction fun k => ?_
  have pos : ∀ x ∈ L, 0 < fnI α β γ x := fun x hx => by
    have := nn x (h.mem x hx)
    rcases Int.lt_or_le 0 (fnI α β γ x) with q | q
    · exact q
    · exact absurd ⟨x, hx, by omega⟩ k
  obtain ⟨M, m0, mw⟩ := max_w L
  have e : ∀ x : P3, fnI (M * α) (M * β) (M * γ - 1) x = M * fnI α β γ x - x.2.2 := fun x => by unfold fnI; grind
  have := dom_in hw h (α := M * α) (β := M * β) (γ := M * γ - 1) (fun x hx => by
    rw [e]
    have a1 := pos x hx
    have a2 := mw x hx
    have : M * 1 ≤ M * fnI α β γ x := Int.mul_le_mul_of_nonneg_left (by omega) (by omega)
    omega) p hp
  rw [e, z] at this
  have w := (hw p hp).w
  unfold PosW at w
  omega
theorem low_eq {p q : P3} (hp : LowP p) (hq : LowP q) (h1 : dx p q = 0) (h2 : dy p q = 0) : p = q := by
  rcases low_tot hp hq with e | e | e
  · exact e
  · unfold LtP at e; omega
  · unfold LtP at e
    rw [dx_neg p q, dy_neg p q] at e
    omega
theorem perp_zero {α β X Y : Int} (nz : α ≠ 0 ∨ β ≠ 0) (h1 : α * X + β * Y = 0) (h2 : α * Y - β * X = 0) : X = 0 ∧ Y = 0 := by
  have n : 0 < α * α + β * β := sq_pos (by omega)
  have e1 : (α * α + β * β) * X = α * (α * X + β * Y) - β * (α * Y - β * X) := by grind
  have e2 : (α * α + β * β) * Y = β * (α * X + β * Y) + α * (α * Y - β * X) := by grind
  rw [h1, h2] at e1 e2
  exact ⟨(mul_sg n).2.2.2.mp (by omega), (mul_sg n).2.2.2.mp (by omega)⟩
/-- the direction of a side whose left is where α, β point -/
def Along (α β : Int) (c q : P3) : Prop := α * dx c q + β * dy c q = 0 ∧ 0 < β * dx c q - α * dy c q
/-- two points at the least value: a side of the hull lies there -/
theorem face_edge {rs L : List P3} {v : P3} {t : List P3} (hw : ∀ x ∈ rs, LowP x) (h : IsHull (fun x => x ∈ rs) L v t) {α β γ : Int} (nz : α ≠ 0 ∨ β ≠ 0) (nn : ∀ p ∈ rs, 0 ≤ fnI α β γ p) {p1 p2 : P3} (m1 : p1 ∈ rs) (m2 : p2 ∈ rs) (ne : p1 ≠ p2) (z1 : fnI α β γ p1 = 0) (z2 : fnI α β γ p2 = 0) :
    ∃ c q, Edge (L ++ [v]) c q ∧ Along α β c q := by
  have eL := h.eq
  have sv : v ∈ rs := h.mem v (by rw [eL]; simp)
  rcases h.cyc with ⟨et, all⟩ | ⟨tne, path, nv⟩
  · exact absurd ((all p1 m1).trans (all p2 m2).symm) ne
  -- a side at whose both ends the value is 0
  have flat : ∀ c q, Edge (L ++ [v]) c q → fnI α β γ c = 0 → fnI α β γ q = 0 → ∃ c q, Edge (L ++ [v]) c q ∧ Along α β c q := fun c q e gc gq => by
    have n := path_edge path e
    have mc : c ∈ rs := h.mem c (edge_fst e)
    have e1 : α * dx c q + β * dy c q = 0 := by
      rw [fn_dx (γ := γ), gc, gq]
      simp
    rcases Int.lt_or_le 0 (β * dx c q - α * dy c q) with s | s
    · exact ⟨c, q, e, e1, s⟩
    · have s0 : β * dx c q - α * dy c q < 0 := by
        rcases Int.lt_or_le (β * dx c q - α * dy c q) 0 with w | w
        · exact w
        · exfalso
          obtain ⟨a, b⟩ := perp_zero nz e1 (by omega)
          exact n.ne (low_eq (hw c mc) (hw q n.mem) a b).symm
      have sqn : 0 ≤ dx c q * dx c q + dy c q * dy c q := by
        by_cases z : dx c q = 0 ∧ dy c q = 0
        · rw [z.1, z.2]; decide
        · exact Int.le_of_lt (sq_pos z)
      -- all points lie on the line
      have onl : ∀ p ∈ rs, turnI c q p = 0 := fun p hp => by
        have g1 := next_ge n p hp
        have g2 := nn p hp
        have wc := (hw c mc).w
        have id1 : (β * dx c q - α * dy c q) * (c.2.2 * turnI c q p) = (dx c q * dx c q + dy c q * dy c q) * (c.2.2 * fnI α β γ p) := by
          have t1 := turn_crs c q p
          have t2 := fn_dx (α := α) (β := β) (γ := γ) c p
          rw [gc, Int.mul_zero, Int.sub_zero] at t2
          rw [← t1, ← t2]
          unfold crs
          generalize dx c q = x at *
          generalize dy c q = y at *
          generalize dx c p = X at *
          generalize dy c p = Y at *
          have k1 : (β * x - α * y) * (x * Y - y * X) - (x * x + y * y) * (α * X + β * Y) = -(α * x + β * y) * (x * X + y * Y) := by grind
          rw [e1] at k1
          simp at k1
          omega
        have r0 : 0 ≤ (dx c q * dx c q + dy c q * dy c q) * (c.2.2 * fnI α β γ p) := sg_nn sqn (sg_nn (Int.le_of_lt wc) g2)
        rcases Int.lt_or_le 0 (turnI c q p) with w | w
        · have := sg_N' s0 (sg_P wc w)
          omega
        · omega
      match t, tne, eL, path, nv with
      | [b], _, eL, path, nv =>
        rw [eL] at path e ⊢
        have cases2 : (c = v ∧ q = b) ∨ (c = b ∧ q = v) := by
          obtain ⟨A, B, e⟩ := e
          match A, e with
          | [], e => injection e with a1 a2; injection a2 with a2 a3; exact .inl ⟨a1.symm, a2.symm⟩
          | [_], e => injection e with a0 e; injection e with a1 a2; injection a2 with a2 a3; exact .inr ⟨a1.symm, a2.symm⟩
          | [_, _], e => injection e with a0 e; injection e with a0 e; injection e with a1 a2; cases a2
          | _ :: _ :: _ :: A, e =>
            exfalso
            have l := congrArg List.length e
            simp at l
        rcases cases2 with ⟨rfl, rfl⟩ | ⟨rfl, rfl⟩
        · refine ⟨q, c, ⟨[c], [], rfl⟩, ?_, ?_⟩
          · rw [dx_neg c q, dy_neg c q, Int.mul_neg, Int.mul_neg]; omega
          · rw [dx_neg c q, dy_neg c q, Int.mul_neg, Int.mul_neg]; omega
        · refine ⟨q, c, ⟨[], [q], rfl⟩, ?_, ?_⟩
          · rw [dx_neg c q, dy_neg c q, Int.mul_neg, Int.mul_neg]; omega
          · rw [dx_neg c q, dy_neg c q, Int.mul_neg, Int.mul_neg]; omega
      | b :: b2 :: r, _, eL, path, nv =>
        exfalso
        rw [eL] at path
        have n1 : Next (fun x => x ∈ rs) v b := path.1
        have n2 : Next (fun x => x ∈ rs) b b2 := path.2.1
        refine no_flat hw h.least sv n1 n2 (fun e => nv (by rw [← e]; simp)) ?_
        -- three points on one line
        have d := dir_nz (a := c) (b := q) ((low_tot (hw c mc) (hw q n.mem)).resolve_left (Ne.symm n.ne))
        have k : ∀ p ∈ rs, fnI (-dy c q) (dx c q) (crossI c q) p = 0 := fun p hp => by rw [← fn_turn]; exact onl p hp
        have kv := k v sv
        have kb := k b n1.mem
        have kc := k b2 n2.mem
        have u1 := fn_dx (α := -dy c q) (β := dx c q) (γ := crossI c q) v b
        have u2 := fn_dx (α := -dy c q) (β := dx c q) (γ := crossI c q) v b2
        rw [kv, kb] at u1
        rw [kv, kc] at u2
        have wv := (hw v sv).w
        have t1 := turn_crs v b b2
        have hz : crs (dx v b) (dy v b) (dx v b2) (dy v b2) = 0 := by
          have f := flat_all (v := (dx c q, dy c q, 1)) (a := (dx v b, dy v b, 1)) (b := (dx v b2, dy v b2, 1)) d (by show dx c q * dy v b - dy c q * dx v b = 0; rw [Int.mul_zero, Int.mul_zero, Int.neg_mul] at u1; omega) (by show dx c q * dy v b2 - dy c q * dx v b2 = 0; rw [Int.mul_zero, Int.mul_zero, Int.neg_mul] at u2; omega)
          exact f
        rw [hz] at t1
        exact (mul_sg wv).2.2.2.mp t1.symm
  obtain ⟨c, mcL, gc⟩ := face_one hw h nn m1 z1
  have mc := h.mem c mcL
  obtain ⟨q, eq⟩ := edge_next (v := v) mcL
  rw [eL] at mcL
  obtain ⟨o, eo⟩ := edge_prev mcL
  rw [← eL] at mcL eo
  have nq := path_edge path eq
  have no := path_edge path eo
  have mo : o ∈ rs := h.mem o (edge_fst eo)
  by_cases gq : fnI α β γ q = 0
  · exact flat c q eq gc gq
  by_cases go : fnI α β γ o = 0
  · exact flat o c eo go gc
  exfalso
  have one : ∀ x ∈ rs, fnI α β γ x = 0 → x = c := fun x hx gx => by
    have wc := (hw c mc).w
    have pq : 0 < α * dx c q + β * dy c q := by
      rw [fn_dx (γ := γ), gc, Int.mul_zero, Int.sub_zero]
      have := nn q nq.mem
      exact sg_P wc (by omega)
    have po : 0 < α * dx c o + β * dy c o := by
      rw [fn_dx (γ := γ), gc, Int.mul_zero, Int.sub_zero]
      have := nn o mo
      exact sg_P wc (by omega)
    have px : α * dx c x + β * dy c x = 0 := by
      rw [fn_dx (γ := γ), gc, gx]
      simp
    have c1 : 0 ≤ crs (dx c q) (dy c q) (dx c x) (dy c x) := by
      rw [turn_crs]
      exact sg_nn (Int.le_of_lt wc) (next_ge nq x hx)
    have c2 : 0 ≤ crs (dx c x) (dy c x) (dx c o) (dy c o) := by
      rw [turn_crs, turn_rot]
      exact sg_nn (Int.le_of_lt wc) (next_ge no x hx)
    have N : 0 < α * α + β * β := sq_pos (by omega)
    have i1 : (α * α + β * β) * crs (dx c q) (dy c q) (dx c x) (dy c x) = (α * dx c q + β * dy c q) * (α * dy c x - β * dx c x) - (α * dy c q - β * dx c q) * (α * dx c x + β * dy c x) := by unfold crs; grind
    have i2 : (α * α + β * β) * crs (dx c x) (dy c x) (dx c o) (dy c o) = -((α * dx c o + β * dy c o) * (α * dy c x - β * dx c x)) + (α * dy c o - β * dx c o) * (α * dx c x + β * dy c x) := by unfold crs; grind
    rw [px, Int.mul_zero, Int.sub_zero] at i1
    rw [px, Int.mul_zero, Int.add_zero] at i2
    have j1 := sg_nn (Int.le_of_lt N) c1
    have j2 := sg_nn (Int.le_of_lt N) c2
    have k1 := (mul_sg pq).2.1.mp (by omega : 0 ≤ (α * dx c q + β * dy c q) * (α * dy c x - β * dx c x))
    have k2 : (α * dx c o + β * dy c o) * (α * dy c x - β * dx c x) ≤ 0 := by omega
    have k3 : α * dy c x - β * dx c x = 0 := by
      rcases Int.lt_or_le 0 (α * dy c x - β * dx c x) with w | w
      · have := sg_P po w
        omega
      · omega
    obtain ⟨a, b⟩ := perp_zero nz px k3
    exact (low_eq (hw c mc) (hw x hx) a b).symm
  exact ne ((one p1 m1 z1).trans (one p2 m2 z2).symm)
end VS

namespace VS
/-! ### points and a grown shape -/
def valI (α β : Int) (p : P3) : Int := α * p.1 + β * p.2.1
def gP (n d : Int) (p q : P3) : P3 := (p.1 * d * q.2.2 + n * q.1 * p.2.2, p.2.1 * d * q.2.2 + n * q.2.1 * p.2.2, p.2.2 * d * q.2.2)
def growL (ps qs : List P3) (n d : Int) : List P3 := ps.flatMap fun p => qs.map fun q => gP n d p q
theorem mem_grow {ps qs : List P3} {n d : Int} {x : P3} : x ∈ growL ps qs n d ↔ ∃ p ∈ ps, ∃ q ∈ qs, x = gP n d p q := by
  unfold growL
  rw [List.mem_flatMap]
  constructor
  · rintro ⟨p, hp, h⟩
    obtain ⟨q, hq, rfl⟩ := List.mem_map.mp h
    exact ⟨p, hp, q, hq, rfl⟩
  · rintro ⟨p, hp, q, hq, rfl⟩
    exact ⟨p, hp, List.mem_map.mpr ⟨q, hq, rfl⟩⟩
theorem fn_gP (α β γ n d : Int) (p q : P3) : fnI α β γ (gP n d p q) = d * q.2.2 * valI α β p + n * p.2.2 * valI α β q + γ * (p.2.2 * d * q.2.2) := by unfold fnI gP valI; grind
theorem cross_val (α β : Int) (p : P3) : crossI (β, -α, 1) p = valI α β p := by unfold crossI valI; grind
theorem val_neg (α β : Int) (p : P3) : valI (-α) (-β) p = - valI α β p := by unfold valI; grind
theorem nz_dir {α β : Int} (h : α ≠ 0 ∨ β ≠ 0) : nzP (β, -α, 1) := by unfold nzP; simp only; omega
theorem sided_val {ps : List P3} : Sided ps ↔ ∃ α β : Int, (α ≠ 0 ∨ β ≠ 0) ∧ ∀ p ∈ ps, 0 ≤ valI α β p := by
  constructor
  · rintro ⟨f, nf, h⟩
    refine ⟨-f.2.1, f.1, by unfold nzP at nf; omega, fun p hp => ?_⟩
    have := h p hp
    have e : valI (-f.2.1) f.1 p = crossI f p := by unfold valI crossI; grind
    rw [e]
    exact this
  · rintro ⟨α, β, nz, h⟩
    exact ⟨_, nz_dir nz, fun p hp => by rw [cross_val]; exact h p hp⟩
theorem unsided_neg {qs : List P3} (un : ¬ Sided qs) {α β : Int} (nz : α ≠ 0 ∨ β ≠ 0) : ∃ q ∈ qs, valI α β q < 0 := by
  refine Classical.byContradiction fun k => un (sided_val.mpr ⟨α, β, nz, fun p hp => ?_⟩)
  rcases Int.lt_or_le (valI α β p) 0 with w | w
  · exact absurd ⟨p, hp, w⟩ k
  · exact w
theorem sided_grow {ps qs : List P3} {n d : Int} : Sided (growL ps qs n d) ↔ ∃ α β : Int, (α ≠ 0 ∨ β ≠ 0) ∧ ∀ p ∈ ps, ∀ q ∈ qs, 0 ≤ d * q.2.2 * valI α β p + n * p.2.2 * valI α β q := by
  have e : ∀ α β p q, valI α β (gP n d p q) = d * q.2.2 * valI α β p + n * p.2.2 * valI α β q := fun α β p q => by unfold valI gP; grind
  rw [sided_val]
  constructor
  · rintro ⟨α, β, nz, h⟩
    exact ⟨α, β, nz, fun p hp q hq => by rw [← e]; exact h _ (mem_grow.mpr ⟨p, hp, q, hq, rfl⟩)⟩
  · rintro ⟨α, β, nz, h⟩
    refine ⟨α, β, nz, fun x hx => ?_⟩
    obtain ⟨p, hp, q, hq, rfl⟩ := mem_grow.mp hx
    rw [e]
    exact h p hp q hq
theorem open_grow {ps qs : List P3} {n d α β : Int} (nz : α ≠ 0 ∨ β ≠ 0) (h : ∀ p ∈ ps, ∀ q ∈ qs, 0 < d * q.2.2 * valI α β p + n * p.2.2 * valI α β q) : Open (growL ps qs n d) := by
  have e : ∀ α β p q, valI α β (gP n d p q) = d * q.2.2 * valI α β p + n * p.2.2 * valI α β q := fun α β p q => by unfold valI gP; grind
  refine ⟨_, nz_dir nz, fun x hx => .inl ?_⟩
  obtain ⟨p, hp, q, hq, rfl⟩ := mem_grow.mp hx
  rw [cross_val, e]
  exact h p hp q hq
theorem grow_w {ps qs : List P3} {n d : Int} (wp : ∀ p ∈ ps, PosW p) (wq : ∀ q ∈ qs, PosW q) (d0 : 0 < d) : ∀ x ∈ growL ps qs n d, PosW x := fun x hx => by
  obtain ⟨p, hp, q, hq, rfl⟩ := mem_grow.mp hx
  exact sg_P (sg_P (wp p hp) d0) (wq q hq)
theorem gP_scl (n d k l : Int) (p q : P3) : gP n d (sclP k p) (sclP l q) = sclP (k * l) (gP n d p q) := by
  unfold gP sclP
  simp only [Prod.mk.injEq]
  refine ⟨by grind, by grind, by grind⟩
theorem gP_low {n d : Int} {p q p' q' : P3} (wp : PosW p) (wq : PosW q) (wp' : PosW p') (wq' : PosW q') (h1 : lowI p = lowI p') (h2 : lowI q = lowI q') : lowI (gP n d p q) = lowI (gP n d p' q') := by
  have k : ∀ {p q : P3}, PosW p → PosW q → lowI (gP n d p q) = lowI (gP n d (lowI p) (lowI q)) := fun {p q} wp wq => by
    conv => lhs; rw [← low_scl p, ← low_scl q, gP_scl]
    exact low_mul (sg_P (gI_pos wp).1 (gI_pos wq).1) _
  rw [k wp wq, k wp' wq', h1, h2]
theorem along_scl {k α β : Int} (hk : 0 < k) {c q : P3} (h : Along (k * α) (k * β) c q) : Along α β c q := by
  obtain ⟨h1, h2⟩ := h
  have e1 : k * α * dx c q + k * β * dy c q = k * (α * dx c q + β * dy c q) := by grind
  have e2 : k * β * dx c q - k * α * dy c q = k * (β * dx c q - α * dy c q) := by grind
  rw [e1] at h1
  rw [e2] at h2
  exact ⟨(mul_sg hk).2.2.2.mp h1, (mul_sg hk).1.mp h2⟩
theorem along_val {α β : Int} {c q : P3} (h : Along α β c q) (p : P3) : (α * α + β * β) * valI (-dy c q) (dx c q) p = (β * dx c q - α * dy c q) * valI α β p := by
  have h1 := h.1
  unfold valI
  generalize dx c q = x at *
  generalize dy c q = y at *
  have k : (α * α + β * β) * (-y * p.1 + x * p.2.1) - (β * x - α * y) * (α * p.1 + β * p.2.1) = (α * x + β * y) * (α * p.2.1 - β * p.1) := by grind
  rw [h1, Int.zero_mul] at k
  omega
/-- one line holds all of them: not, where the shape has sides all round -/
theorem grow_flat {ps qs : List P3} (wp : ∀ p ∈ ps, PosW p) (wq : ∀ p ∈ qs, PosW p) (nep : ps ≠ []) (un : ¬ Sided qs) {n d : Int} (n0 : 0 < n) (d0 : 0 < d) {α β γ : Int} (nz : α ≠ 0 ∨ β ≠ 0) (z : ∀ x ∈ growL ps qs n d, fnI α β γ x = 0) : False := by
  obtain ⟨p, hp⟩ := List.exists_mem_of_ne_nil _ nep
  have w := wp p hp
  have e : ∀ q ∈ qs, n * p.2.2 * valI α β q = -(q.2.2 * (d * (valI α β p + γ * p.2.2))) := fun q hq => by
    have := z _ (mem_grow.mpr ⟨p, hp, q, hq, rfl⟩)
    rw [fn_gP] at this
    have k : q.2.2 * (d * (valI α β p + γ * p.2.2)) = d * q.2.2 * valI α β p + γ * (p.2.2 * d * q.2.2) := by grind
    omega
  have np := sg_P n0 w
  rcases Int.lt_or_le 0 (d * (valI α β p + γ * p.2.2)) with s | s
  · obtain ⟨q, hq, k⟩ := unsided_neg un (α := -α) (β := -β) (by omega)
    rw [val_neg] at k
    have e := e q hq
    have a1 := sg_P np (show 0 < valI α β q by omega)
    have a2 := sg_P (wq q hq) s
    omega
  · obtain ⟨q, hq, k⟩ := unsided_neg un nz
    have e := e q hq
    have a1 := sg_N np k
    have a2 := sg_np (Int.le_of_lt (wq q hq)) s
    omega
/-- where no side of the points' hull and of the shape's hull parts them from (0, 0), nothing does -/
theorem grow_not_open {ps qs Lp Lq : List P3} {v w : P3} {tp tq : List P3} (wp : ∀ p ∈ ps, PosW p) (wq : ∀ p ∈ qs, PosW p) (nep : ps ≠ []) (hp : IsHull (fun x => x ∈ ps.map lowI) Lp v tp) (hq : IsHull (fun x => x ∈ qs.map lowI) Lq w tq)
    (un : ¬ Sided qs) {n d : Int} (n0 : 0 < n) (d0 : 0 < d) (cand : ∀ c q, Edge (Lp ++ [v]) c q ∨ Edge (Lq ++ [w]) c q → ∃ p ∈ ps, ∃ q' ∈ qs, d * q'.2.2 * valI (-dy c q) (dx c q) p + n * p.2.2 * valI (-dy c q) (dx c q) q' ≤ 0) : ¬ Open (growL ps qs n d) := by
  intro op
  have neq : qs ≠ [] := fun e => un (by rw [e]; exact ⟨(1, 0, 1), .inl (by decide), by simp⟩)
  have gw := grow_w (n := n) wp wq d0
  have gne : growL ps qs n d ≠ [] := fun e => by
    obtain ⟨p, hp⟩ := List.exists_mem_of_ne_nil _ nep
    obtain ⟨q, hq⟩ := List.exists_mem_of_ne_nil _ neq
    have : gP n d p q ∈ growL ps qs n d := mem_grow.mpr ⟨p, hp, q, hq, rfl⟩
    rw [e] at this
    cases this
  have low : ∀ {xs : List P3}, (∀ p ∈ xs, PosW p) → ∀ x ∈ xs.map lowI, LowP x := fun {xs} hb x hx => by
    obtain ⟨p, hp, rfl⟩ := List.mem_map.mp hx
    exact low_low (hb p hp)
  have lw := low gw
  obtain ⟨X, x0, tx, hX⟩ := hull_ex lw (fun e => gne (List.map_eq_nil_iff.mp e))
  have nm : ¬ MetL X := fun m => (met_open lw hX).mp m ((open_low gw).mp op)
  have up : ∀ {α β γ : Int}, (∀ x ∈ (growL ps qs n d).map lowI, fnI α β γ x = 0) → ∀ x ∈ growL ps qs n d, fnI α β γ x = 0 := fun h x hx => by
    rw [fn_low (gw x hx), h _ (List.mem_map.mpr ⟨x, hx, rfl⟩), Int.mul_zero]
  have eX := hX.eq
  have s0 : x0 ∈ (growL ps qs n d).map lowI := hX.mem x0 (by rw [eX]; simp)
  rcases hX.cyc with ⟨et, all⟩ | ⟨tne, path, nv⟩
  · refine grow_flat wp wq nep un n0 d0 (α := x0.2.2) (β := 0) (γ := -x0.1) (.inl ?_) (up fun x hx => ?_)
    · have := (lw x0 s0).w
      unfold PosW at this
      omega
    · rw [all x hx]
      unfold fnI
      grind
  have hXS : ∀ x ∈ X ++ [x0], x ∈ (growL ps qs n d).map lowI := fun x hx => by
    rcases List.mem_append.mp hx with z | z
    · exact hX.mem x z
    · obtain rfl : x = x0 := by simpa using z
      exact s0
  have two : ∀ {a b}, a ∈ (growL ps qs n d).map lowI → Next (fun x => x ∈ (growL ps qs n d).map lowI) a b → -dy a b ≠ 0 ∨ dx a b ≠ 0 := fun {a b} ha nx => by
    have := dir_nz ((low_tot (lw a ha) (lw b nx.mem)).resolve_left (Ne.symm nx.ne))
    unfold nzP at this
    simp only at this
    omega
  obtain ⟨a, b, e, hc⟩ : ∃ a b, Edge (X ++ [x0]) a b ∧ crossI a b < 0 := by
    by_cases h3 : X.length < 3
    · exfalso
      rw [eX] at h3 path
      match tx, tne, h3, path with
      | [b], _, _, path =>
        have n1 : Next (fun x => x ∈ (growL ps qs n d).map lowI) x0 b := path.1
        have n2 : Next (fun x => x ∈ (growL ps qs n d).map lowI) b x0 := path.2.1
        refine grow_flat wp wq nep un n0 d0 (α := -dy x0 b) (β := dx x0 b) (γ := crossI x0 b) (two s0 n1) (up fun x hx => ?_)
        rw [← fn_turn]
        have a1 := next_ge n1 x hx
        have a2 := next_ge n2 x hx
        rw [turn_back] at a2
        omega
      | _ :: _ :: _, _, h3, _ => simp at h3; omega
    · refine Classical.byContradiction fun k => nm ?_
      unfold MetL
      rw [if_neg h3]
      have ea : at3 X 0 = x0 := by rw [eX]; rfl
      rw [ea]
      refine edge_con fun c q e => ?_
      rcases Int.lt_or_le (crossI c q) 0 with w | w
      · exact absurd ⟨c, q, e, w⟩ k
      · exact w
  have nx := path_edge path e
  have ma := hX.mem a (edge_fst e)
  have mb := nx.mem
  have nz := two ma nx
  obtain ⟨y1, hy1, ea⟩ := List.mem_map.mp ma
  obtain ⟨y2, hy2, eb⟩ := List.mem_map.mp mb
  obtain ⟨p1, hp1, q1, hq1, rfl⟩ := mem_grow.mp hy1
  obtain ⟨p2, hp2, q2, hq2, rfl⟩ := mem_grow.mp hy2
  have nn : ∀ p ∈ ps, ∀ q ∈ qs, 0 ≤ fnI (-dy a b) (dx a b) (crossI a b) (gP n d p q) := fun p hp q hq => by
    have m : gP n d p q ∈ growL ps qs n d := mem_grow.mpr ⟨p, hp, q, hq, rfl⟩
    rw [fn_low_nn (gw _ m), ← fn_turn]
    exact next_ge nx _ (List.mem_map.mpr ⟨_, m, rfl⟩)
  have z11 : fnI (-dy a b) (dx a b) (crossI a b) (gP n d p1 q1) = 0 := by
    rw [fn_low (gw _ hy1), ea, ← fn_turn, turn_same2, Int.mul_zero]
  have z22 : fnI (-dy a b) (dx a b) (crossI a b) (gP n d p2 q2) = 0 := by
    rw [fn_low (gw _ hy2), eb, ← fn_turn, turn_same, Int.mul_zero]
  generalize -dy a b = α at *
  generalize dx a b = β at *
  generalize crossI a b = γ at *
  have sw : fnI α β γ (gP n d p2 q1) * (p1.2.2 * q2.2.2) + fnI α β γ (gP n d p1 q2) * (p2.2.2 * q1.2.2) = fnI α β γ (gP n d p1 q1) * (p2.2.2 * q2.2.2) + fnI α β γ (gP n d p2 q2) * (p1.2.2 * q1.2.2) := by
    simp only [fn_gP]
    grind
  rw [z11, z22, Int.zero_mul, Int.zero_mul] at sw
  have w12 := sg_P (wp p1 hp1) (wq q2 hq2)
  have w21 := sg_P (wp p2 hp2) (wq q1 hq1)
  have k1 := sg_nn (nn p2 hp2 q1 hq1) (Int.le_of_lt w12)
  have k2 := sg_nn (nn p1 hp1 q2 hq2) (Int.le_of_lt w21)
  have z21 : fnI α β γ (gP n d p2 q1) = 0 := by
    have : fnI α β γ (gP n d p2 q1) * (p1.2.2 * q2.2.2) = 0 := by omega
    rw [Int.mul_comm] at this
    exact (mul_sg w12).2.2.2.mp this
  have z12 : fnI α β γ (gP n d p1 q2) = 0 := by
    have : fnI α β γ (gP n d p1 q2) * (p2.2.2 * q1.2.2) = 0 := by omega
    rw [Int.mul_comm] at this
    exact (mul_sg w21).2.2.2.mp this
  have fin : ∀ c q, Edge (Lp ++ [v]) c q ∨ Edge (Lq ++ [w]) c q → Along α β c q → False := fun c q hE al => by
    obtain ⟨p, hp, q', hq', le⟩ := cand c q hE
    have f := nn p hp q' hq'
    rw [fn_gP] at f
    have g1 : γ * (p.2.2 * d * q'.2.2) < 0 := sg_N' hc (sg_P (sg_P (wp p hp) d0) (wq q' hq'))
    have s := al.2
    have N : 0 < α * α + β * β := sq_pos (by omega)
    have v1 := along_val al p
    have v2 := along_val al q'
    have l : (α * α + β * β) * (d * q'.2.2 * valI (-dy c q) (dx c q) p + n * p.2.2 * valI (-dy c q) (dx c q) q') = (β * dx c q - α * dy c q) * (d * q'.2.2 * valI α β p + n * p.2.2 * valI α β q') := by
      rw [Int.mul_add, Int.mul_add, Int.mul_left_comm, v1, Int.mul_left_comm (α * α + β * β), v2]
      grind
    have a1 := sg_np (Int.le_of_lt N) le
    have a2 := sg_P s (show 0 < d * q'.2.2 * valI α β p + n * p.2.2 * valI α β q' by omega)
    omega
  by_cases e1 : lowI p1 = lowI p2
  · by_cases e2 : lowI q1 = lowI q2
    · refine nx.ne ?_
      rw [← ea, ← eb]
      exact (gP_low (wp p1 hp1) (wq q1 hq1) (wp p2 hp2) (wq q2 hq2) e1 e2).symm
    · have ef : ∀ q, fnI (n * p1.2.2 * α) (n * p1.2.2 * β) (d * valI α β p1 + γ * (p1.2.2 * d)) q = fnI α β γ (gP n d p1 q) := fun q => by
        rw [fn_gP]
        unfold fnI valI
        grind
      have np := sg_P n0 (wp p1 hp1)
      have lz : ∀ q ∈ qs, fnI α β γ (gP n d p1 q) = 0 → fnI (n * p1.2.2 * α) (n * p1.2.2 * β) (d * valI α β p1 + γ * (p1.2.2 * d)) (lowI q) = 0 := fun q hq h => by
        rw [← ef, fn_low (wq q hq)] at h
        exact (mul_sg (gI_pos (wq q hq)).1).2.2.2.mp h
      obtain ⟨c, q, E, al⟩ := face_edge (low wq) hq (α := n * p1.2.2 * α) (β := n * p1.2.2 * β) (γ := d * valI α β p1 + γ * (p1.2.2 * d)) (by
        rcases nz with z | z
        · exact .inl fun k => z ((mul_sg np).2.2.2.mp k)
        · exact .inr fun k => z ((mul_sg np).2.2.2.mp k)) (fun y hy => by
        obtain ⟨q, hq', rfl⟩ := List.mem_map.mp hy
        rw [← fn_low_nn (wq q hq'), ef]
        exact nn p1 hp1 q hq') (List.mem_map.mpr ⟨q1, hq1, rfl⟩) (List.mem_map.mpr ⟨q2, hq2, rfl⟩) e2 (lz q1 hq1 z11) (lz q2 hq2 z12)
      exact fin c q (.inr E) (along_scl np al)
  · have ef : ∀ p, fnI (d * q1.2.2 * α) (d * q1.2.2 * β) (n * valI α β q1 + γ * (d * q1.2.2)) p = fnI α β γ (gP n d p q1) := fun p => by
      rw [fn_gP]
      unfold fnI valI
      grind
    have np := sg_P d0 (wq q1 hq1)
    have lz : ∀ p ∈ ps, fnI α β γ (gP n d p q1) = 0 → fnI (d * q1.2.2 * α) (d * q1.2.2 * β) (n * valI α β q1 + γ * (d * q1.2.2)) (lowI p) = 0 := fun p hp h => by
      rw [← ef, fn_low (wp p hp)] at h
      exact (mul_sg (gI_pos (wp p hp)).1).2.2.2.mp h
    obtain ⟨c, q, E, al⟩ := face_edge (low wp) hp (α := d * q1.2.2 * α) (β := d * q1.2.2 * β) (γ := n * valI α β q1 + γ * (d * q1.2.2)) (by
      rcases nz with z | z
      · exact .inl fun k => z ((mul_sg np).2.2.2.mp k)
      · exact .inr fun k => z ((mul_sg np).2.2.2.mp k)) (fun y hy => by
      obtain ⟨p, hp', rfl⟩ := List.mem_map.mp hy
      rw [← fn_low_nn (wp p hp'), ef]
      exact nn p hp' q1 hq1) (List.mem_map.mpr ⟨p1, hp1, rfl⟩) (List.mem_map.mpr ⟨p2, hp2, rfl⟩) e1 (lz p1 hp1 z11) (lz p2 hp2 z21)
    exact fin c q (.inl E) (along_scl np al)
theorem big_dot (d : P3) : ∀ ps : List P3, ∃ N : Int, 0 < N ∧ ∀ p ∈ ps, -N < dotI d p
  | [] => ⟨1, by decide, by simp⟩
  | p :: r => by
    obtain ⟨N, h1, h2⟩ := big_dot d r
    refine ⟨N + (dotI d p).natAbs, by omega, fun x hx => ?_⟩
    rcases List.mem_cons.mp hx with e | e
    · rw [e]; omega
    · have := h2 x e; omega
theorem open_strict {ps : List P3} (hne : ps ≠ []) (h : Open ps) : ∃ α β : Int, (α ≠ 0 ∨ β ≠ 0) ∧ ∀ p ∈ ps, 0 < valI α β p := by
  obtain ⟨d, hd, ho⟩ := h
  obtain ⟨N, n0, hN⟩ := big_dot d ps
  have pos : ∀ p ∈ ps, 0 < valI (d.1 - N * d.2.1) (N * d.1 + d.2.1) p := fun p hp => by
    have e : valI (d.1 - N * d.2.1) (N * d.1 + d.2.1) p = N * crossI d p + dotI d p := by unfold valI crossI dotI; grind
    rw [e]
    rcases ho p hp with w | ⟨w1, w2⟩
    · have : N * 1 ≤ N * crossI d p := Int.mul_le_mul_of_nonneg_left (by omega) (by omega)
      have := hN p hp
      omega
    · rw [w1]
      omega
  obtain ⟨p, hp⟩ := List.exists_mem_of_ne_nil _ hne
  refine ⟨_, _, ?_, pos⟩
  by_cases z : d.1 - N * d.2.1 = 0 ∧ N * d.1 + d.2.1 = 0
  · have := pos p hp
    rw [z.1, z.2] at this
    unfold valI at this
    simp at this
  · omega
/-- the number that the program ends with -/
theorem gauge_good {ps qs Lp Lq : List P3} {v w : P3} {tp tq : List P3} (wp : ∀ p ∈ ps, PosW p) (wq : ∀ p ∈ qs, PosW p) (nep : ps ≠ []) (hp : IsHull (fun x => x ∈ ps.map lowI) Lp v tp) (hq : IsHull (fun x => x ∈ qs.map lowI) Lq w tq)
    (un : ¬ Sided qs) (op : Open ps) {n d : Int} (n0 : 0 ≤ n) (d0 : 0 < d)
    (cand : ∀ c q, Edge (Lp ++ [v]) c q ∨ Edge (Lq ++ [w]) c q → ∃ p ∈ ps, ∃ q' ∈ qs, d * q'.2.2 * valI (-dy c q) (dx c q) p + n * p.2.2 * valI (-dy c q) (dx c q) q' ≤ 0)
    (att : n = 0 ∨ ∃ α β : Int, (α ≠ 0 ∨ β ≠ 0) ∧ ∀ p ∈ ps, ∀ q ∈ qs, 0 ≤ d * q.2.2 * valI α β p + n * p.2.2 * valI α β q) : 0 < n ∧ Sided (growL ps qs n d) ∧ ¬ Open (growL ps qs n d) := by
  have np : 0 < n := by
    rcases Int.lt_or_le 0 n with z | z
    · exact z
    · exfalso
      have z0 : n = 0 := by omega
      subst z0
      obtain ⟨α, β, nz, pos⟩ := open_strict nep op
      -- a very small shape
      have bigN : ∃ N : Int, 0 < N ∧ ∀ p ∈ ps, ∀ q ∈ qs, 0 < N * q.2.2 * valI α β p + 1 * p.2.2 * valI α β q := by
        obtain ⟨W, W0, hW⟩ := max_w ps
        have bq : ∀ l : List P3, ∃ N : Int, 0 < N ∧ ∀ q ∈ l, -N < valI α β q := by
          intro l
          induction l with
          | nil => exact ⟨1, by decide, by simp⟩
          | cons a r ih =>
            obtain ⟨N, h1, h2⟩ := ih
            refine ⟨N + (valI α β a).natAbs, by omega, fun x hx => ?_⟩
            rcases List.mem_cons.mp hx with e | e
            · rw [e]; omega
            · have := h2 x e; omega
        obtain ⟨B, B0, hB⟩ := bq qs
        refine ⟨W * B, sg_P W0 B0, fun p hp q hq => ?_⟩
        have a1 := pos p hp
        have a2 := wq q hq
        unfold PosW at a2
        have a3 : 1 ≤ q.2.2 * valI α β p := sg_P a2 a1
        have a4 := sg_P W0 B0
        have a5 : W * B * 1 ≤ W * B * (q.2.2 * valI α β p) := Int.mul_le_mul_of_nonneg_left a3 (by omega)
        have a6 := wp p hp
        have a7 := hW p hp
        have a8 := hB q hq
        have a9 : -(W * B) < p.2.2 * valI α β q := by
          rcases Int.lt_or_le (valI α β q) 0 with s | s
          · have b1 : p.2.2 * (-valI α β q) ≤ W * (-valI α β q) := Int.mul_le_mul_of_nonneg_right a7 (by omega)
            have b2 : W * (-valI α β q) < W * B := Int.mul_lt_mul_of_pos_left (by omega) W0
            simp only [Int.mul_neg] at b1 b2
            omega
          · have := sg_nn (Int.le_of_lt a6) s
            omega
        rw [Int.one_mul, Int.mul_assoc]
        omega
      obtain ⟨N, N0, hN⟩ := bigN
      refine grow_not_open wp wq nep hp hq un (n := 1) (d := N) (by decide) N0 (fun c q E => ?_) (open_grow nz hN)
      obtain ⟨p, hp', q', hq', le⟩ := cand c q E
      by_cases deg : -dy c q ≠ 0 ∨ dx c q ≠ 0
      case neg =>
        have z1 : -dy c q = 0 := by omega
        have z2 : dx c q = 0 := by omega
        refine ⟨p, hp', q', hq', ?_⟩
        rw [z1, z2]
        unfold valI
        simp
      obtain ⟨q2, hq2, ng⟩ := unsided_neg un deg
      refine ⟨p, hp', q2, hq2, ?_⟩
      rw [Int.zero_mul, Int.zero_mul, Int.add_zero] at le
      have l2 := (mul_sg (sg_P d0 (wq q' hq')) (x := valI (-dy c q) (dx c q) p))
      have l3 : valI (-dy c q) (dx c q) p ≤ 0 := by
        rcases Int.lt_or_le 0 (valI (-dy c q) (dx c q) p) with s | s
        · have := l2.1.mpr s; omega
        · exact s
      have b1 := sg_np (Int.le_of_lt (sg_P N0 (wq q2 hq2))) l3
      have b2 := sg_N (wp p hp') ng
      rw [Int.one_mul]
      omega
  refine ⟨np, ?_, grow_not_open wp wq nep hp hq un np d0 cand⟩
  rcases att with z | z
  · omega
  · exact sided_grow.mpr z
/-- there is one such number at most -/
theorem gauge_lt {ps qs : List P3} (wp : ∀ p ∈ ps, PosW p) (wq : ∀ p ∈ qs, PosW p) (un : ¬ Sided qs) {n d n' d' : Int} (n0 : 0 < n) (d0 : 0 < d) (n0' : 0 < n') (d0' : 0 < d') (hs : Sided (growL ps qs n' d')) (ho : ¬ Open (growL ps qs n d)) : n' * d ≤ n * d' := by
  rcases Int.lt_or_le (n * d') (n' * d) with lt | le
  · exfalso
    obtain ⟨α, β, nz, h⟩ := sided_grow.mp hs
    refine ho (open_grow nz fun p hp q hq => ?_)
    -- the point of the shape that lies farthest back
    have least : ∀ l : List P3, l ≠ [] → (∀ x ∈ l, PosW x) → ∃ m ∈ l, ∀ x ∈ l, valI α β m * x.2.2 ≤ valI α β x * m.2.2 := by
      intro l
      induction l with
      | nil => intro h; exact absurd rfl h
      | cons a r ih =>
        intro _ hw
        by_cases e : r = []
        · subst e
          exact ⟨a, by simp, fun x hx => by
            obtain rfl : x = a := by simpa using hx
            exact Int.le_refl _⟩
        · obtain ⟨m, hm, hl⟩ := ih e fun x hx => hw x (List.mem_cons_of_mem _ hx)
          have wa := hw a (by simp)
          have wm := hw m (List.mem_cons_of_mem _ hm)
          rcases Int.lt_or_le (valI α β a * m.2.2) (valI α β m * a.2.2) with s | s
          · refine ⟨a, by simp, fun x hx => ?_⟩
            rcases List.mem_cons.mp hx with e | e
            · rw [e]; exact Int.le_refl _
            · have k := hl x e
              have wx := hw x hx
              -- a/wa < m/wm ≤ x/wx
              have u1 : valI α β a * m.2.2 * x.2.2 ≤ valI α β m * a.2.2 * x.2.2 := Int.mul_le_mul_of_nonneg_right (by omega) (Int.le_of_lt wx)
              have u2 : valI α β m * x.2.2 * a.2.2 ≤ valI α β x * m.2.2 * a.2.2 := Int.mul_le_mul_of_nonneg_right k (Int.le_of_lt wa)
              have u3 : m.2.2 * (valI α β a * x.2.2) ≤ m.2.2 * (valI α β x * a.2.2) := by
                have e1 : m.2.2 * (valI α β a * x.2.2) = valI α β a * m.2.2 * x.2.2 := by grind
                have e2 : m.2.2 * (valI α β x * a.2.2) = valI α β x * m.2.2 * a.2.2 := by grind
                have e3 : valI α β m * a.2.2 * x.2.2 = valI α β m * x.2.2 * a.2.2 := by grind
                omega
              exact Int.le_of_mul_le_mul_left u3 wm
          · refine ⟨m, List.mem_cons_of_mem _ hm, fun x hx => ?_⟩
            rcases List.mem_cons.mp hx with e | e
            · rw [e]; exact s
            · exact hl x e
    obtain ⟨m, hm, hl⟩ := least qs (fun e => by rw [e] at hq; cases hq) wq
    obtain ⟨q2, hq2, ng⟩ := unsided_neg un nz
    have wm := wq m hm
    have vm : valI α β m < 0 := by
      have k := hl q2 hq2
      have a := sg_N' ng wm
      rcases Int.lt_or_le (valI α β m) 0 with s | s
      · exact s
      · have := sg_nn s (Int.le_of_lt (wq q2 hq2))
        omega
    have wpp := wp p hp
    have wqq := wq q hq
    have h1 := h p hp m hm
    have h2 := hl q hq
    -- all over d' * m.w
    have i1 : d' * m.2.2 * (d * q.2.2 * valI α β p + n * p.2.2 * valI α β q) = d * q.2.2 * (d' * m.2.2 * valI α β p + n' * p.2.2 * valI α β m) + n * p.2.2 * d' * (valI α β q * m.2.2 - valI α β m * q.2.2) + p.2.2 * q.2.2 * (-valI α β m) * (n' * d - n * d') := by grind
    have a1 := sg_nn (Int.le_of_lt (sg_P d0 wqq)) h1
    have a2 := sg_nn (Int.le_of_lt (sg_P (sg_P n0 wpp) d0')) (show 0 ≤ valI α β q * m.2.2 - valI α β m * q.2.2 by omega)
    have a3 := sg_P (sg_P (sg_P wpp wqq) (show 0 < -valI α β m by omega)) (show 0 < n' * d - n * d' by omega)
    exact (mul_sg (sg_P d0' wm)).1.mp (by omega)
  · exact le
theorem gauge_one {ps qs : List P3} (wp : ∀ p ∈ ps, PosW p) (wq : ∀ p ∈ qs, PosW p) (un : ¬ Sided qs) {n d n' d' : Int} (n0 : 0 < n) (d0 : 0 < d) (n0' : 0 < n') (d0' : 0 < d') (hs : Sided (growL ps qs n d)) (ho : ¬ Open (growL ps qs n d)) (hs' : Sided (growL ps qs n' d')) (ho' : ¬ Open (growL ps qs n' d')) : n' * d = n * d' :=
  Int.le_antisymm (gauge_lt wp wq un n0 d0 n0' d0' hs' ho) (gauge_lt wp wq un n0' d0' n0 d0 hs ho')
/-! ### points times a number -/
def timesL (ps : List P3) (a b : Int) : List P3 := ps.map fun p => (p.1 * a, p.2.1 * a, p.2.2 * b)
theorem open_xy {A B : List P3} (h : ∀ x ∈ A, ∃ y ∈ B, y.1 = x.1 ∧ y.2.1 = x.2.1) (o : Open B) : Open A := by
  obtain ⟨d, hd, ho⟩ := o
  refine ⟨d, hd, fun x hx => ?_⟩
  obtain ⟨y, hy, e1, e2⟩ := h x hx
  have := ho y hy
  unfold HO crossI dotI at this ⊢
  rw [e1, e2] at this
  exact this
theorem sided_xy {A B : List P3} (h : ∀ x ∈ A, ∃ y ∈ B, y.1 = x.1 ∧ y.2.1 = x.2.1) (o : Sided B) : Sided A := by
  obtain ⟨d, hd, ho⟩ := o
  refine ⟨d, hd, fun x hx => ?_⟩
  obtain ⟨y, hy, e1, e2⟩ := h x hx
  have := ho y hy
  unfold crossI at this ⊢
  rw [e1, e2] at this
  exact this
theorem grow_times1 {ps qs : List P3} {n d a b : Int} : (∀ x ∈ growL (timesL ps a b) qs n d, ∃ y ∈ growL ps qs (n * b) (d * a), y.1 = x.1 ∧ y.2.1 = x.2.1) ∧ ∀ x ∈ growL ps qs (n * b) (d * a), ∃ y ∈ growL (timesL ps a b) qs n d, y.1 = x.1 ∧ y.2.1 = x.2.1 := by
  constructor
  · intro x hx
    obtain ⟨p', hp', q, hq, rfl⟩ := mem_grow.mp hx
    obtain ⟨p, hp, rfl⟩ := List.mem_map.mp hp'
    exact ⟨_, mem_grow.mpr ⟨p, hp, q, hq, rfl⟩, by unfold gP; grind, by unfold gP; grind⟩
  · intro x hx
    obtain ⟨p, hp, q, hq, rfl⟩ := mem_grow.mp hx
    exact ⟨_, mem_grow.mpr ⟨_, List.mem_map.mpr ⟨p, hp, rfl⟩, q, hq, rfl⟩, by unfold gP; grind, by unfold gP; grind⟩
theorem grow_times2 {ps qs : List P3} {n d a b : Int} : (∀ x ∈ growL ps (timesL qs a b) n d, ∃ y ∈ growL ps qs (n * a) (d * b), y.1 = x.1 ∧ y.2.1 = x.2.1) ∧ ∀ x ∈ growL ps qs (n * a) (d * b), ∃ y ∈ growL ps (timesL qs a b) n d, y.1 = x.1 ∧ y.2.1 = x.2.1 := by
  constructor
  · intro x hx
    obtain ⟨p, hp, q', hq', rfl⟩ := mem_grow.mp hx
    obtain ⟨q, hq, rfl⟩ := List.mem_map.mp hq'
    exact ⟨_, mem_grow.mpr ⟨p, hp, q, hq, rfl⟩, by unfold gP; grind, by unfold gP; grind⟩
  · intro x hx
    obtain ⟨p, hp, q, hq, rfl⟩ := mem_grow.mp hx
    exact ⟨_, mem_grow.mpr ⟨p, hp, _, List.mem_map.mpr ⟨q, hq, rfl⟩, rfl⟩, by unfold gP; grind, by unfold gP; grind⟩
theorem sided_times {ps : List P3} {a b : Int} (ha : 0 < a) : Sided (timesL ps a b) ↔ Sided ps := by
  have e : ∀ (d p : P3), crossI d (p.1 * a, p.2.1 * a, p.2.2 * b) = a * crossI d p := fun d p => by unfold crossI; grind
  constructor
  · rintro ⟨d, hd, h⟩
    refine ⟨d, hd, fun p hp => ?_⟩
    have := h _ (List.mem_map.mpr ⟨p, hp, rfl⟩)
    rw [e] at this
    exact (mul_sg ha).2.1.mp this
  · rintro ⟨d, hd, h⟩
    refine ⟨d, hd, fun x hx => ?_⟩
    obtain ⟨p, hp, rfl⟩ := List.mem_map.mp hx
    rw [e]
    exact (mul_sg ha).2.1.mpr (h p hp)
theorem open_times {ps : List P3} {a b : Int} (ha : 0 < a) : Open (timesL ps a b) ↔ Open ps := by
  have e : ∀ (d p : P3), HO d (p.1 * a, p.2.1 * a, p.2.2 * b) ↔ HO d p := fun d p => by
    have e1 : crossI d (p.1 * a, p.2.1 * a, p.2.2 * b) = a * crossI d p := by unfold crossI; grind
    have e2 : dotI d (p.1 * a, p.2.1 * a, p.2.2 * b) = a * dotI d p := by unfold dotI; grind
    unfold HO Lex
    rw [e1, e2, (mul_sg ha).1, (mul_sg ha).1, (mul_sg ha).2.2.2]
  constructor
  · rintro ⟨d, hd, h⟩
    exact ⟨d, hd, fun p hp => (e d p).mp (h _ (List.mem_map.mpr ⟨p, hp, rfl⟩))⟩
  · rintro ⟨d, hd, h⟩
    refine ⟨d, hd, fun x hx => ?_⟩
    obtain ⟨p, hp, rfl⟩ := List.mem_map.mp hx
    exact (e d p).mpr (h p hp)
end VS

namespace VS
open PySem L2 PySem.Spec PyProof.Rows
local macro_rules | `(tactic| walk_at "vs") => `(tactic| simp (maxSteps := 400000) only [tSeqD, tEitD, tEitS, tRevD, tRepD, tNewT, tPutT, gListT, gGcd3, gLt2, tFgtD, tIfSD, tRetD, retD, tSetD, tSetV, tVarD, tConD, tOpD, tUnD, tCaD, tCallD, tConsD, tNilD, tTupD, tLstD, tValD, tAndD, tOrD, tNotD, tIfD, tAndDV, tOrDV, tNotDV, tAsgD, tParD, tPar3D, tNamG, tTupG, tNilG, tConsG, tUnlG, tDropD, tNextD, tBrkD, tCntD, tNeverD, tStoD, tMetD, tSlLD, tNoPartD, tPartD, tChD, tIsiD, tIsiTD, tIsi3D, tFrzD, q0, tYesD, wipeD,
  gI0, gII, gIB, gAdd, gU, gEq, gIx, gIsN, gLen, gInt, gAbs, gBool, gList, gTupC, mAppend, mPop, mPopAt, mInsert, mReverse, rd, rds, vl, vls, slR, nob, mkArgs, bors, putOwns, edOf, outsP, noR, shD, eqD,
  List.getElem?_cons_zero, List.getElem?_cons_succ, List.getElem?_nil, List.set_cons_zero, List.set_cons_succ, List.cons_append, List.nil_append, List.length_cons, List.length_nil, List.replicate, Nat.add_sub_cancel, Nat.sub_self, Nat.reduceAdd, Nat.reduceSub, Int.reduceToNat, Int.reducePow, Int.reduceNeg, Int.reduceAdd, Int.reduceSub, Int.reduceMul, id_eq, true_and, and_true, List.nodup_nil, if_true, if_false, List.nodup_cons, List.not_mem_nil, not_false_eq_true, Bool.not_true, Bool.not_false, Bool.true_or, Bool.or_false, Bool.false_or, decide_eq_true_eq, Bool.false_eq_true, XF,
  Bool.or_true, bne_self_eq_false, isT_dict_non, isT_dict_bl, isT_dict_int, isT_dict_str, isT_dict_tup, isT_dict_lst, isT_list_non, isT_list_bl, isT_list_int, isT_list_str, isT_list_tup, isT_list_lst, isT_tuple_non, isT_tuple_bl, isT_tuple_int, isT_tuple_str, isT_tuple_tup, isT_tuple_lst, isT_bool_non, isT_bool_bl, isT_bool_int, isT_bool_str, isT_bool_tup, isT_bool_lst, isT_str_non, isT_str_bl, isT_str_int, isT_str_str, isT_str_tup, isT_str_lst, isT_int_non, isT_int_bl, isT_int_int, isT_int_str, isT_int_tup, isT_int_lst,
  atI0, atI1, atI2, atI3, atI4, ixN51, ixN52, ixN53, ixN54])
local macro_rules | `(tactic| walk_at "vh") => `(tactic| simp (maxSteps := 400000) only [tSeqD, tEitD, tEitS, tRevD, tRepD, tNewT, tPutT, gListT, gGcd3, gLt2, tFgtD, tIfSD, tRetD, retD, tSetD, tSetV, tVarD, tConD, tOpD, tUnD, tCaD, tCallD, tConsD, tNilD, tTupD, tLstD, tValD, tAndD, tOrD, tNotD, tIfD, tAndDV, tOrDV, tNotDV, tAsgD, tParD, tPar3D, tNamG, tTupG, tNilG, tConsG, tUnlG, tDropD, tNextD, tBrkD, tCntD, tNeverD, tStoD, tMetD, tSlLD, tNoPartD, tPartD, tChD, tIsiD, tIsiTD, tIsi3D, tFrzD, q0, tYesD, wipeD,
  gI0, gII, gIB, gAdd, gU, gEq, gIx, gIsN, gLen, gInt, gAbs, gBool, gList, gTupC, mAppend, mPop, mPopAt, mInsert, mReverse, rd, rds, vl, vls, slR, nob, mkArgs, bors, putOwns, edOf, outsP, noR, shD, eqD,
  List.getElem?_cons_zero, List.getElem?_cons_succ, List.getElem?_nil, List.set_cons_zero, List.set_cons_succ, List.cons_append, List.nil_append, List.length_cons, List.length_nil, List.replicate, Nat.add_sub_cancel, Nat.sub_self, Nat.reduceAdd, Nat.reduceSub, Int.reduceToNat, Int.reducePow, Int.reduceNeg, Int.reduceAdd, Int.reduceSub, Int.reduceMul, id_eq, true_and, and_true, List.nodup_nil, if_true, if_false, List.nodup_cons, List.not_mem_nil, not_false_eq_true, Bool.not_true, Bool.not_false, Bool.true_or, Bool.or_false, Bool.false_or, decide_eq_true_eq, Bool.false_eq_true, XF,
  Bool.or_true, bne_self_eq_false, isT_dict_non, isT_dict_bl, isT_dict_int, isT_dict_str, isT_dict_tup, isT_dict_lst, isT_list_non, isT_list_bl, isT_list_int, isT_list_str, isT_list_tup, isT_list_lst, isT_tuple_non, isT_tuple_bl, isT_tuple_int, isT_tuple_str, isT_tuple_tup, isT_tuple_lst, isT_bool_non, isT_bool_bl, isT_bool_int, isT_bool_str, isT_bool_tup, isT_bool_lst, isT_str_non, isT_str_bl, isT_str_int, isT_str_str, isT_str_tup, isT_str_lst, isT_int_non, isT_int_bl, isT_int_int, isT_int_str, isT_int_tup, isT_int_lst,
  atI0, atI1, atI2, atI3, atI4, ixN51, ixN52, ixN53, ixN54, *])
local macro_rules | `(tactic| walk_at "lf") => `(tactic| ((repeat' (with_reducible apply And.intro)) <;> first | exact mulR (by decide) (by decide) | exact pow1018 | exact pow3 (by omega) | exact divB (by omega) (by omega) | exact Int.emod_nonneg _ (by omega) | exact Int.emod_lt_of_pos _ (by omega) | exact Int.ediv_nonneg (by omega) (by omega) | omega | decide | assumption | skip))
local macro_rules | `(tactic| walk_at "vn") => `(tactic| simp (maxSteps := 400000) only [tSeqD, tEitD, tEitS, tRevD, tRepD, tNewT, tPutT, gListT, gGcd3, gLt2, tFgtD, tIfSD, tRetD, retD, tSetD, tSetV, tVarD, tConD, tOpD, tUnD, tCaD, tCallD, tConsD, tNilD, tTupD, tLstD, tValD, tAndD, tOrD, tNotD, tIfD, tAndDV, tOrDV, tNotDV, tAsgD, tParD, tPar3D, tNamG, tTupG, tNilG, tConsG, tUnlG, tDropD, tNextD, tBrkD, tCntD, tNeverD, tStoD, tMetD, tSlLD, tNoPartD, tPartD, tChD, tIsiD, tIsiTD, tIsi3D, tFrzD, q0, tYesD, wipeD,
  gI0, gII, gIB, gAdd, gU, gEq, gIx, gIsN, gLen, gInt, gAbs, gBool, gList, gTupC, mAppend, mPop, mPopAt, mInsert, mReverse, rd, rds, vl, vls, slR, nob, mkArgs, bors, putOwns, edOf, outsP, noR,
  List.getElem?_cons_zero, List.getElem?_cons_succ, List.getElem?_nil, List.set_cons_zero, List.set_cons_succ, List.cons_append, List.nil_append, List.length_cons, List.length_nil, List.replicate, Nat.add_sub_cancel, Nat.sub_self, Nat.reduceAdd, Nat.reduceSub, Int.reduceToNat, Int.reducePow, Int.reduceNeg, Int.reduceAdd, Int.reduceSub, Int.reduceMul, id_eq, true_and, and_true, List.nodup_nil, if_true, if_false, List.nodup_cons, List.not_mem_nil, not_false_eq_true, Bool.not_true, Bool.not_false, Bool.true_or, Bool.or_false, Bool.false_or, decide_eq_true_eq, Bool.false_eq_true, XF,
  Bool.or_true, bne_self_eq_false, isT_dict_non, isT_dict_bl, isT_dict_int, isT_dict_str, isT_dict_tup, isT_dict_lst, isT_list_non, isT_list_bl, isT_list_int, isT_list_str, isT_list_tup, isT_list_lst, isT_tuple_non, isT_tuple_bl, isT_tuple_int, isT_tuple_str, isT_tuple_tup, isT_tuple_lst, isT_bool_non, isT_bool_bl, isT_bool_int, isT_bool_str, isT_bool_tup, isT_bool_lst, isT_str_non, isT_str_bl, isT_str_int, isT_str_str, isT_str_tup, isT_str_lst, isT_int_non, isT_int_bl, isT_int_int, isT_int_str, isT_int_tup, isT_int_lst,
  atI0, atI1, atI2, atI3, atI4, ixN51, ixN52, ixN53, ixN54])

/-- slots: 0 script, 1 seed, 2 item -/
def T__law_bag : TDs :=
  (tSeqD (tSetV 1 (tConD (.int 16180)))
  (tCutD (tForLD (tSlLD (tVarD 0) tNoPartD (tPartD (tConD (.int 63)))) (tNamG 2) (tSetV 1 (tOpD (gII (fun _ j => 0 < j) (· % ·)) (tCaD gInt (tConsD (tOpD gAdd (tOpD gAdd (tOpD (gII CMulA (· * ·)) (tVarD 1) (tConD (.int 40014))) (tOpD (gII (fun _ j => 0 < j) (· % ·)) (tCaD gInt (tConsD (tVarD 2) tNilD)) (tConD (.int 2147483563)))) (tConD (.int 211))) tNilD)) (tConD (.int 2147483399)))))
  (tRetD (tLstD (tConsD (tCaD gList (tConsD (tSlLD (tVarD 0) tNoPartD (tPartD (tConD (.int 63)))) tNilD)) (tConsD (tConD (.int 0)) (tConsD (tConD (.int 0)) (tConsD (tVarD 1) (tConsD (tConD (.int 0)) tNilD)))))))))
theorem rd__law_bag {args : En} {Φ : Res → List D → Prop} {Ψ : Xc → List D → Prop} (h : sp__law_bag args Φ Ψ) : T__law_bag (edOf args Φ XN) (noR ["script", "seed", "item"] args) := by
  obtain ⟨ns, rfl, h⟩ := h
  unfold T__law_bag
  walk_at "vs"
  refine ⟨fun en => ∃ m v, en = [.val (.lst (ns.map D.int)), .val (.int m), v] ∧ 0 ≤ m ∧ m < 2147483648, forLo_i (fun _ en => ∃ m v, en = [.val (.lst (ns.map D.int)), .val (.int m), v] ∧ 0 ≤ m ∧ m < 2147483648) (en1 := [.val (.lst (ns.map D.int)), .val (.int 16180), .no]) (ds := (cutG ns none (some 63)).map D.int) (fun Φ z => ?_) ⟨_, _, rfl, by omega, by omega⟩ ?_ fun en z => z, ?_⟩
  · walk_at "vs"
    simp only [cut_map]
    exact z
  · rintro i d en hd ⟨m, v, rfl, h0, h1⟩
    obtain ⟨z, _, rfl⟩ := get_map hd
    walk_at "vs"
    exact ⟨mulR (by decide) (by decide), by decide, by decide, _, _, rfl, by omega, by omega⟩
  · rintro en ⟨m, v, rfl, h0, h1⟩
    walk_at "vs"
    simp only [cut_map]
    intro p1 p2
    exact ⟨sz1000 (by decide), fun p3 => h p3 _ ⟨_, _, _, _, _, rfl, by omega, by omega, h0, h1⟩⟩
/-- slots: 0 bag, 1 limit, 2 item, 3 digit -/
def T__law_draw : TDs :=
  (tSeqD (tStoD 0 (tOpD gAdd (tOpD gIx (tVarD 0) (tConD (.int 4))) (tConD (.int 1))) (tConD (.int 4)))
  (tSeqD (tIfSD (tAndD (tValD (tOpD (gEq id) (tOpD gIx (tVarD 0) (tConD (.int 2))) (tConD (.int 0)))) (tValD (tOpD (gIB fun i j => decide (i < j)) (tOpD gIx (tVarD 0) (tConD (.int 1))) (tCaD gLen (tConsD (tOpD gIx (tVarD 0) (tConD (.int 0))) tNilD))))) (tSeqD (tSetV 2 (tOpD gIx (tOpD gIx (tVarD 0) (tConD (.int 0))) (tOpD gIx (tVarD 0) (tConD (.int 1)))))
  (tSeqD (tStoD 0 (tOpD gAdd (tOpD gIx (tVarD 0) (tConD (.int 1))) (tConD (.int 1))) (tConD (.int 1)))
  (tIfSD (tValD (tOpD (gIB fun i j => decide (j ≤ i)) (tVarD 2) (tOpD (gII CPow fun i j => i ^ j.toNat) (tConD (.int 10)) (tConD (.int 18))))) (tStoD 0 (tVarD 2) (tConD (.int 2))) (tStoD 0 (tOpD (gII (fun _ j => 0 < j) (· % ·)) (tCaD gInt (tConsD (tOpD gAdd (tOpD gAdd (tOpD (gII CMulA (· * ·)) (tOpD gIx (tVarD 0) (tConD (.int 3))) (tConD (.int 69621))) (tOpD (gII CMulA (· * ·)) (tOpD (gII (fun _ j => 0 < j) (· % ·)) (tCaD gInt (tConsD (tVarD 2) tNilD)) (tConD (.int 2147483549))) (tConD (.int 30103)))) (tConD (.int 89))) tNilD)) (tConD (.int 2147483399))) (tConD (.int 3)))))) tNextD)
  (tSeqD (tIfSD (tValD (tOpD (gIB fun i j => decide (j < i)) (tOpD gIx (tVarD 0) (tConD (.int 2))) (tConD (.int 0)))) (tSeqD (tSetV 3 (tOpD (gII (fun _ j => 0 < j) (· % ·)) (tCaD gInt (tConsD (tOpD gIx (tVarD 0) (tConD (.int 2))) tNilD)) (tVarD 1)))
  (tSeqD (tStoD 0 (tOpD (gII CDivW (· / ·)) (tOpD gIx (tVarD 0) (tConD (.int 2))) (tVarD 1)) (tConD (.int 2)))
  (tRetD (tVarD 3)))) tNextD)
  (tSeqD (tStoD 0 (tOpD (gII (fun _ j => 0 < j) (· % ·)) (tCaD gInt (tConsD (tOpD gAdd (tOpD gAdd (tOpD (gII CPow fun i j => i ^ j.toNat) (tOpD gIx (tVarD 0) (tConD (.int 3))) (tConD (.int 3))) (tOpD (gII CMulA (· * ·)) (tOpD gIx (tVarD 0) (tConD (.int 4))) (tConD (.int 1299709)))) (tConD (.int 60013))) tNilD)) (tConD (.int 2147483399))) (tConD (.int 3)))
  (tRetD (tOpD (gII (fun _ j => 0 < j) (· % ·)) (tCaD gInt (tConsD (tOpD gAdd (tOpD (gII CDivW (· / ·)) (tOpD gIx (tVarD 0) (tConD (.int 3))) (tConD (.int 97))) (tOpD (gII CMulA (· * ·)) (tOpD (gII (fun _ j => 0 < j) (· % ·)) (tCaD gInt (tConsD (tOpD gIx (tVarD 0) (tConD (.int 3))) tNilD)) (tConD (.int 7901))) (tConD (.int 67)))) tNilD)) (tVarD 1)))))))
theorem rd__law_draw {args : En} {Φ : Res → List D → Prop} {Ψ : Xc → List D → Prop} (h : sp__law_draw args Φ Ψ) : T__law_draw (edOf args Φ XN) (noR ["bag", "limit", "item", "digit"] args) := by
  obtain ⟨a, d, size, rfl, ⟨ns, i, b, m, c, rfl, hi, hb, hm, hm2⟩, hs, hs2, h⟩ := h
  unfold T__law_draw bagD
  walk_at "vs"
  have tail : ∀ (i' b' m' : Int) (z : Sl), 0 ≤ i' → 0 ≤ b' → 0 ≤ m' → m' < 2147483648 → True := fun _ _ _ _ _ _ _ _ => trivial
  by_cases hb0 : b = 0
  · rw [if_pos hb0]
    by_cases hi2 : i < ((ns.map D.int).length : Int)
    · rw [if_pos hi2]
      rw [List.length_map] at hi2
      obtain ⟨z, hz⟩ : ∃ z, ns[i.toNat]? = some z := ⟨_, List.getElem?_eq_getElem (by omega)⟩
      rw [atI_int hi (v := D.int z) (by rw [List.getElem?_map, hz]; rfl)]
      walk_at "vs"
      refine ⟨pow1018, ?_⟩
      split
      · split
        · walk_at "lf"
          all_goals exact h _ _ (Int.emod_nonneg _ (by omega)) (Int.emod_lt_of_pos _ hs) ⟨_, _, _, _, _, rfl, by omega, Int.ediv_nonneg (by omega) (by omega), hm, hm2⟩
        · walk_at "lf"
          all_goals exact h _ _ (Int.emod_nonneg _ (by omega)) (Int.emod_lt_of_pos _ hs) ⟨_, _, _, _, _, rfl, by omega, by omega, by omega, by omega⟩
      · refine ⟨mulR (by decide) (by decide), by decide, mulR (by decide) (by decide), by decide, ?_⟩
        split
        · omega
        · walk_at "lf"
          all_goals exact h _ _ (Int.emod_nonneg _ (by omega)) (Int.emod_lt_of_pos _ hs) ⟨_, _, _, _, _, rfl, by omega, by omega, by omega, by omega⟩
    · rw [if_neg hi2]
      split
      · exfalso; omega
      · walk_at "lf"
        all_goals exact h _ _ (Int.emod_nonneg _ (by omega)) (Int.emod_lt_of_pos _ hs) ⟨_, _, _, _, _, rfl, by omega, by omega, by omega, by omega⟩
  · rw [if_neg hb0]
    split
    · walk_at "lf"
      all_goals exact h _ _ (Int.emod_nonneg _ (by omega)) (Int.emod_lt_of_pos _ hs) ⟨_, _, _, _, _, rfl, by omega, Int.ediv_nonneg (by omega) (by omega), hm, hm2⟩
    · walk_at "lf"
      all_goals exact h _ _ (Int.emod_nonneg _ (by omega)) (Int.emod_lt_of_pos _ hs) ⟨_, _, _, _, _, rfl, by omega, by omega, by omega, by omega⟩
/-- slots: 0 bag, 1 things -/
def T__law_of : TDs :=
  (tRetD (tOpD gIx (tVarD 1) (tCallD 2 (q0 sp__law_draw) (tConsD (tVarD 0) (tConsD (tCaD gLen (tConsD (tVarD 1) tNilD)) tNilD)))))
theorem rd__law_of {args : En} {Φ : Res → List D → Prop} {Ψ : Xc → List D → Prop} (h : sp__law_of args Φ Ψ) : T__law_of (edOf args Φ XN) (noR ["bag", "things"] args) := by
  obtain ⟨a, d, ds, rfl, hb, hne, hl, h⟩ := h
  unfold T__law_of sp__law_draw
  walk_at "vs"
  have hp : 0 < ds.length := List.length_pos_iff.mpr hne
  refine ⟨a, d, _, rfl, hb, by omega, by omega, fun k d' h0 h1 hb' => ?_⟩
  obtain ⟨x, hx⟩ : ∃ x, ds[k.toNat]? = some x := ⟨_, List.getElem?_eq_getElem (by omega)⟩
  rw [atI_int h0 hx]
  exact h x d' (List.mem_of_getElem? hx) hb'
theorem perm_erase {α : Type} : ∀ (l : List α) (i : Nat) (h : i < l.length), (l[i] :: l.eraseIdx i).Perm l
  | [], _, h => by simp at h
  | a :: l, 0, _ => by simp
  | a :: l, i + 1, h => by
    have hi : i < l.length := by simpa using h
    have ih := perm_erase l i hi
    simp only [List.getElem_cons_succ, List.eraseIdx_cons_succ]
    exact (List.Perm.swap a l[i] (l.eraseIdx i)).trans (ih.cons a)
/-- slots: 0 bag, 1 things, 2 left, 3 out, 4 k -/
def T__law_shuffled : TDs :=
  (tCutD (tParD 2 3 (tConsD (tCaD gList (tConsD (tVarD 1) tNilD)) (tConsD (tLstD tNilD) tNilD)))
  (tCutD (tForR1 (tConsD (tCaD gLen (tConsD (tVarD 1) tNilD)) tNilD) (tNamG 4) (tDropD (tMetD 3 mAppend (tConsD (tMetD 2 mPopAt (tConsD (tCallD 2 (q0 sp__law_draw) (tConsD (tVarD 0) (tConsD (tCaD gLen (tConsD (tVarD 2) tNilD)) tNilD))) tNilD)) tNilD))))
  (tRetD (tVarD 3))))
def sp__law_shuffled : Spc := fun args Φ _ => ∃ q d0 ds, args = [.own q d0, .val (.lst ds)] ∧ BagOk d0 ∧ ds.length ≤ 1000 ∧ ∀ (a : Addr) (es : List D) (d1 : D), es.Perm ds → BagOk d1 → Φ (.own a (.lst es)) [d1]
theorem rd__law_shuffled {args : En} {Φ : Res → List D → Prop} {Ψ : Xc → List D → Prop} (h : sp__law_shuffled args Φ Ψ) : T__law_shuffled (edOf args Φ XN) (noR ["bag", "things", "left", "out", "k"] args) := by
  obtain ⟨q, d0, ds, rfl, hk, hl, h⟩ := h
  unfold T__law_shuffled
  refine ⟨fun en => ∃ a b, en = [.own q d0, .val (.lst ds), .own a (.lst ds), .own b (.lst []), .no], ?_, ?_⟩
  · walk_at "vs"
    exact fun a => ⟨sz1000 (by decide), fun b => ⟨a, b, rfl⟩⟩
  rintro _ ⟨a, b, rfl⟩
  refine ⟨fun en => ∃ d1 ls os e, en = [.own q d1, .val (.lst ds), .own a (.lst ls), .own b (.lst os), e] ∧ BagOk d1 ∧ os.Perm ds, ?_, ?_⟩
  · refine forR1_i (fun i en => ∃ d1 ls os e, en = [.own q d1, .val (.lst ds), .own a (.lst ls), .own b (.lst os), e] ∧ BagOk d1 ∧ (os ++ ls).Perm ds ∧ os.length = i) (en1 := [.own q d0, .val (.lst ds), .own a (.lst ds), .own b (.lst []), .no]) (n := ds.length) (fun Φ z => ?_) (by omega) (by omega) ⟨d0, ds, [], .no, rfl, hk, List.Perm.refl _, rfl⟩ ?_ ?_
    · walk_at "vs"
      exact z
    · rintro i _ hi ⟨d1, ls, os, e, rfl, hk1, hp, hn⟩
      have hlen := hp.length_eq
      rw [List.length_append] at hlen
      unfold sp__law_draw
      walk_at "vs"
      refine ⟨q, d1, _, rfl, hk1, by omega, by omega, fun k d2 k0 k1 hk2 => ⟨k0, by omega, ?_⟩⟩
      have hk' : k.toNat < ls.length := by omega
      rw [List.getElem?_eq_getElem hk']
      walk_at "vs"
      refine ⟨sz1001 (by omega), d2, ls.eraseIdx k.toNat, os ++ [ls[k.toNat]], .val (.int i), rfl, hk2, ?_, by simp [hn]⟩
      refine List.Perm.trans ?_ hp
      rw [List.append_assoc]
      exact List.Perm.append_left os (perm_erase ls k.toNat hk')
    · rintro _ ⟨d1, ls, os, e, rfl, hk1, hp, hn⟩
      have hlen := hp.length_eq
      rw [List.length_append] at hlen
      have e0 : ls = [] := List.length_eq_zero_iff.mp (by omega)
      subst e0
      rw [List.append_nil] at hp
      exact ⟨d1, [], os, e, rfl, hk1, hp⟩
  rintro _ ⟨d1, ls, os, e, rfl, hk1, hp⟩
  walk_at "vs"
  exact h b os d1 hp hk1
end VS

namespace VS
open PySem L2 PySem.Spec PyProof.Rows
local macro_rules | `(tactic| walk_at "vs") => `(tactic| simp (maxSteps := 400000) only [tSeqD, tEitD, tEitS, tRevD, tRepD, tNewT, tPutT, gListT, gGcd3, gLt2, tFgtD, tIfSD, tRetD, retD, tSetD, tSetV, tVarD, tConD, tOpD, tUnD, tCaD, tCallD, tConsD, tNilD, tTupD, tLstD, tValD, tAndD, tOrD, tNotD, tIfD, tAndDV, tOrDV, tNotDV, tAsgD, tParD, tPar3D, tNamG, tTupG, tNilG, tConsG, tUnlG, tDropD, tNextD, tBrkD, tCntD, tNeverD, tStoD, tMetD, tSlLD, tNoPartD, tPartD, tChD, tIsiD, tIsiTD, tIsi3D, tFrzD, q0, tYesD, wipeD,
  gI0, gII, gIB, gAdd, gU, gEq, gIx, gIsN, gLen, gInt, gAbs, gBool, gList, gTupC, mAppend, mPop, mPopAt, mInsert, mReverse, rd, rds, vl, vls, slR, nob, mkArgs, bors, putOwns, edOf, outsP, noR, shD, eqD,
  List.getElem?_cons_zero, List.getElem?_cons_succ, List.getElem?_nil, List.set_cons_zero, List.set_cons_succ, List.cons_append, List.nil_append, List.length_cons, List.length_nil, List.replicate, Nat.add_sub_cancel, Nat.sub_self, Nat.reduceAdd, Nat.reduceSub, Int.reduceToNat, Int.reducePow, Int.reduceNeg, Int.reduceAdd, Int.reduceSub, Int.reduceMul, id_eq, true_and, and_true, List.nodup_nil, if_true, if_false, List.nodup_cons, List.not_mem_nil, not_false_eq_true, Bool.not_true, Bool.not_false, Bool.true_or, Bool.or_false, Bool.false_or, decide_eq_true_eq, Bool.false_eq_true, XF,
  Bool.or_true, bne_self_eq_false, isT_dict_non, isT_dict_bl, isT_dict_int, isT_dict_str, isT_dict_tup, isT_dict_lst, isT_list_non, isT_list_bl, isT_list_int, isT_list_str, isT_list_tup, isT_list_lst, isT_tuple_non, isT_tuple_bl, isT_tuple_int, isT_tuple_str, isT_tuple_tup, isT_tuple_lst, isT_bool_non, isT_bool_bl, isT_bool_int, isT_bool_str, isT_bool_tup, isT_bool_lst, isT_str_non, isT_str_bl, isT_str_int, isT_str_str, isT_str_tup, isT_str_lst, isT_int_non, isT_int_bl, isT_int_int, isT_int_str, isT_int_tup, isT_int_lst,
  atI0, atI1, atI2, atI3, atI4, ixN51, ixN52, ixN53, ixN54])
local macro_rules | `(tactic| walk_at "vh") => `(tactic| simp (maxSteps := 400000) only [tSeqD, tEitD, tEitS, tRevD, tRepD, tNewT, tPutT, gListT, gGcd3, gLt2, tFgtD, tIfSD, tRetD, retD, tSetD, tSetV, tVarD, tConD, tOpD, tUnD, tCaD, tCallD, tConsD, tNilD, tTupD, tLstD, tValD, tAndD, tOrD, tNotD, tIfD, tAndDV, tOrDV, tNotDV, tAsgD, tParD, tPar3D, tNamG, tTupG, tNilG, tConsG, tUnlG, tDropD, tNextD, tBrkD, tCntD, tNeverD, tStoD, tMetD, tSlLD, tNoPartD, tPartD, tChD, tIsiD, tIsiTD, tIsi3D, tFrzD, q0, tYesD, wipeD,
  gI0, gII, gIB, gAdd, gU, gEq, gIx, gIsN, gLen, gInt, gAbs, gBool, gList, gTupC, mAppend, mPop, mPopAt, mInsert, mReverse, rd, rds, vl, vls, slR, nob, mkArgs, bors, putOwns, edOf, outsP, noR, shD, eqD,
  List.getElem?_cons_zero, List.getElem?_cons_succ, List.getElem?_nil, List.set_cons_zero, List.set_cons_succ, List.cons_append, List.nil_append, List.length_cons, List.length_nil, List.replicate, Nat.add_sub_cancel, Nat.sub_self, Nat.reduceAdd, Nat.reduceSub, Int.reduceToNat, Int.reducePow, Int.reduceNeg, Int.reduceAdd, Int.reduceSub, Int.reduceMul, id_eq, true_and, and_true, List.nodup_nil, if_true, if_false, List.nodup_cons, List.not_mem_nil, not_false_eq_true, Bool.not_true, Bool.not_false, Bool.true_or, Bool.or_false, Bool.false_or, decide_eq_true_eq, Bool.false_eq_true, XF,
  Bool.or_true, bne_self_eq_false, isT_dict_non, isT_dict_bl, isT_dict_int, isT_dict_str, isT_dict_tup, isT_dict_lst, isT_list_non, isT_list_bl, isT_list_int, isT_list_str, isT_list_tup, isT_list_lst, isT_tuple_non, isT_tuple_bl, isT_tuple_int, isT_tuple_str, isT_tuple_tup, isT_tuple_lst, isT_bool_non, isT_bool_bl, isT_bool_int, isT_bool_str, isT_bool_tup, isT_bool_lst, isT_str_non, isT_str_bl, isT_str_int, isT_str_str, isT_str_tup, isT_str_lst, isT_int_non, isT_int_bl, isT_int_int, isT_int_str, isT_int_tup, isT_int_lst,
  atI0, atI1, atI2, atI3, atI4, ixN51, ixN52, ixN53, ixN54, *])
local macro_rules | `(tactic| walk_at "lf") => `(tactic| ((repeat' (with_reducible apply And.intro)) <;> first | exact mulR (by decide) (by decide) | exact pow1018 | exact pow3 (by omega) | exact divB (by omega) (by omega) | exact Int.emod_nonneg _ (by omega) | exact Int.emod_lt_of_pos _ (by omega) | exact Int.ediv_nonneg (by omega) (by omega) | omega | decide | assumption | skip))
local macro_rules | `(tactic| walk_at "vn") => `(tactic| simp (maxSteps := 400000) only [tSeqD, tEitD, tEitS, tRevD, tRepD, tNewT, tPutT, gListT, gGcd3, gLt2, tFgtD, tIfSD, tRetD, retD, tSetD, tSetV, tVarD, tConD, tOpD, tUnD, tCaD, tCallD, tConsD, tNilD, tTupD, tLstD, tValD, tAndD, tOrD, tNotD, tIfD, tAndDV, tOrDV, tNotDV, tAsgD, tParD, tPar3D, tNamG, tTupG, tNilG, tConsG, tUnlG, tDropD, tNextD, tBrkD, tCntD, tNeverD, tStoD, tMetD, tSlLD, tNoPartD, tPartD, tChD, tIsiD, tIsiTD, tIsi3D, tFrzD, q0, tYesD, wipeD,
  gI0, gII, gIB, gAdd, gU, gEq, gIx, gIsN, gLen, gInt, gAbs, gBool, gList, gTupC, mAppend, mPop, mPopAt, mInsert, mReverse, rd, rds, vl, vls, slR, nob, mkArgs, bors, putOwns, edOf, outsP, noR,
  List.getElem?_cons_zero, List.getElem?_cons_succ, List.getElem?_nil, List.set_cons_zero, List.set_cons_succ, List.cons_append, List.nil_append, List.length_cons, List.length_nil, List.replicate, Nat.add_sub_cancel, Nat.sub_self, Nat.reduceAdd, Nat.reduceSub, Int.reduceToNat, Int.reducePow, Int.reduceNeg, Int.reduceAdd, Int.reduceSub, Int.reduceMul, id_eq, true_and, and_true, List.nodup_nil, if_true, if_false, List.nodup_cons, List.not_mem_nil, not_false_eq_true, Bool.not_true, Bool.not_false, Bool.true_or, Bool.or_false, Bool.false_or, decide_eq_true_eq, Bool.false_eq_true, XF,
  Bool.or_true, bne_self_eq_false, isT_dict_non, isT_dict_bl, isT_dict_int, isT_dict_str, isT_dict_tup, isT_dict_lst, isT_list_non, isT_list_bl, isT_list_int, isT_list_str, isT_list_tup, isT_list_lst, isT_tuple_non, isT_tuple_bl, isT_tuple_int, isT_tuple_str, isT_tuple_tup, isT_tuple_lst, isT_bool_non, isT_bool_bl, isT_bool_int, isT_bool_str, isT_bool_tup, isT_bool_lst, isT_str_non, isT_str_bl, isT_str_int, isT_str_str, isT_str_tup, isT_str_lst, isT_int_non, isT_int_bl, isT_int_int, isT_int_str, isT_int_tup, isT_int_lst,
  atI0, atI1, atI2, atI3, atI4, ixN51, ixN52, ixN53, ixN54])

/-- slots: 0 told, 1 due, 2 a, 3 b -/
def T__law_like (sp0 : Spc) : TDs :=
  (tCutD (tIfSD (tOrD (tValD (tIsiD "dict" (tVarD 0))) (tValD (tIsiD "dict" (tVarD 1)))) (tSeqD tNeverD
  tNeverD) tNextD)
  (tSeqD (tIfSD (tValD (tIsiTD "list" "tuple" (tVarD 1))) (tSeqD (tIfSD (tOrD (tValD (tOpD (gEq not) (tIsiD "list" (tVarD 0)) (tIsiD "list" (tVarD 1)))) (tValD (tOpD (gEq not) (tIsiD "tuple" (tVarD 0)) (tIsiD "tuple" (tVarD 1))))) (tRetD (tConD (.bl false))) tNextD)
  (tRetD (tAndDV (tOpD (gEq id) (tCaD gLen (tConsD (tVarD 0) tNilD)) (tCaD gLen (tConsD (tVarD 1) tNilD))) (tCaD gAll (tConsD (tLcZ (tConsD (tVarD 0) (tConsD (tVarD 1) tNilD)) (tTupG 2 (tConsG (tNamG 2) (tConsG (tNamG 3) tNilG))) tYesD (tCallD 2 (q0 sp0) (tConsD (tVarD 2) (tConsD (tVarD 3) tNilD))) [2, 3]) tNilD))))) tNextD)
  (tSeqD (tIfSD (tValD (tIsiTD "list" "tuple" (tVarD 0))) (tRetD (tConD (.bl false))) tNextD)
  (tSeqD (tIfSD (tOrD (tValD (tOpD (gIsN id) (tVarD 1) (tConD .non))) (tValD (tOpD (gIsN id) (tVarD 0) (tConD .non)))) (tRetD (tAndDV (tOpD (gIsN id) (tVarD 1) (tConD .non)) (tOpD (gIsN id) (tVarD 0) (tConD .non)))) tNextD)
  (tSeqD (tIfSD (tOrD (tValD (tOpD (gEq not) (tIsiD "bool" (tVarD 0)) (tIsiD "bool" (tVarD 1)))) (tValD (tOpD (gEq not) (tIsiD "str" (tVarD 0)) (tIsiD "str" (tVarD 1))))) (tRetD (tConD (.bl false))) tNextD)
  (tRetD (tAndDV (tIsiTD "int" "str" (tVarD 0)) (tCaD gBool (tConsD (tOpD (gEq id) (tVarD 0) (tVarD 1)) tNilD)))))))))
theorem all_true : ∀ n : Nat, (List.replicate n true).all id = true
  | 0 => rfl
  | n + 1 => by rw [List.replicate_succ, List.all_cons, all_true n]; rfl
theorem rep_bl (n : Nat) : List.replicate n (D.bl true) = (List.replicate n true).map D.bl := by rw [List.map_replicate]
theorem rep_snoc {α : Type} (n : Nat) (x : α) : List.replicate n x ++ [x] = List.replicate (n + 1) x := (List.replicate_succ' ..).symm
theorem rd__law_like (n : Nat) {args : En} {Φ : Res → List D → Prop} {Ψ : Xc → List D → Prop} (h : sp__law_like n args Φ Ψ) : T__law_like (spL__law_like n) (edOf args Φ XN) (noR ["told", "due", "a", "b"] args) := by
  obtain ⟨d, rfl, hk, hd, h⟩ := h
  cases d with
  | non =>
    unfold T__law_like
    refine ⟨fun en => en = [.val (D.non), .val (D.non), .no, .no], by walk_at "vs", ?_⟩
    rintro _ rfl
    walk_at "vs"
    exact h
  | bl b =>
    unfold T__law_like
    refine ⟨fun en => en = [.val (D.bl b), .val (D.bl b), .no, .no], by walk_at "vs", ?_⟩
    rintro _ rfl
    walk_at "vs"
    simp
    exact h
  | int b =>
    unfold T__law_like
    refine ⟨fun en => en = [.val (D.int b), .val (D.int b), .no, .no], by walk_at "vs", ?_⟩
    rintro _ rfl
    walk_at "vs"
    exact h
  | str b =>
    unfold T__law_like
    refine ⟨fun en => en = [.val (D.str b), .val (D.str b), .no, .no], by walk_at "vs", ?_⟩
    rintro _ rfl
    walk_at "vs"
    simp only [okD] at hk
    have e : PyData.eqv (py (.str b)) (py (.str b)) = true := by simp [py, PyData.eqv]
    exact ⟨hk, hk, by rw [e]; exact h⟩
  | lst ds =>
    simp only [okD, Bool.and_eq_true, decide_eq_true_eq] at hk
    simp only [depD] at hd
    obtain ⟨m, rfl⟩ : ∃ m, n = m + 1 := ⟨n - 1, by omega⟩
    unfold T__law_like
    refine ⟨fun en => en = [.val (D.lst ds), .val (D.lst ds), .no, .no], by walk_at "vs", ?_⟩
    rintro _ rfl
    walk_at "vs"
    unfold tLcZ lcStep
    walk_at "vs"
    refine ⟨ds, ds, .inl ⟨rfl, rfl⟩, fun i acc en => acc = List.replicate i (.bl true) ∧ en = [.val (.lst ds), .val (.lst ds), .no, .no], ⟨rfl, rfl⟩, ?_, ?_⟩
    · rintro i d e acc en h1 h2 ⟨rfl, rfl⟩
      obtain rfl : d = e := by rw [h1] at h2; exact Option.some.inj h2
      walk_at "vs"
      have hi := (List.getElem?_eq_some_iff.mp h1).1
      refine ⟨d, rfl, okDs_get hk.1 h1, by have := depDs_get h1; omega, ?_⟩
      simp only [List.length_replicate]
      exact ⟨sz1001 (by omega), rep_snoc _ _⟩
    · rintro acc en p ⟨rfl, rfl⟩
      walk_at "vs"
      refine ⟨_, rep_bl _, ?_⟩
      rw [all_true]
      exact h
  | tup ds =>
    simp only [okD, Bool.and_eq_true, decide_eq_true_eq] at hk
    simp only [depD] at hd
    obtain ⟨m, rfl⟩ : ∃ m, n = m + 1 := ⟨n - 1, by omega⟩
    unfold T__law_like
    refine ⟨fun en => en = [.val (D.tup ds), .val (D.tup ds), .no, .no], by walk_at "vs", ?_⟩
    rintro _ rfl
    walk_at "vs"
    unfold tLcZ lcStep
    walk_at "vs"
    refine ⟨ds, ds, .inr ⟨rfl, rfl⟩, fun i acc en => acc = List.replicate i (.bl true) ∧ en = [.val (.tup ds), .val (.tup ds), .no, .no], ⟨rfl, rfl⟩, ?_, ?_⟩
    · rintro i d e acc en h1 h2 ⟨rfl, rfl⟩
      obtain rfl : d = e := by rw [h1] at h2; exact Option.some.inj h2
      walk_at "vs"
      have hi := (List.getElem?_eq_some_iff.mp h1).1
      refine ⟨d, rfl, okDs_get hk.1 h1, by have := depDs_get h1; omega, ?_⟩
      simp only [List.length_replicate]
      exact ⟨sz1001 (by omega), rep_snoc _ _⟩
    · rintro acc en p ⟨rfl, rfl⟩
      walk_at "vs"
      refine ⟨_, rep_bl _, ?_⟩
      rw [all_true]
      exact h
  | dct t ks ds => simp [okD] at hk
/-- slots: 0 a, 1 b, 2 one, 3 two -/
def T__law_gcd : TDs :=
  (tCutD (tParD 2 3 (tConsD (tCaD gAbs (tConsD (tVarD 0) tNilD)) (tConsD (tCaD gAbs (tConsD (tVarD 1) tNilD)) tNilD)))
  (tCutD (tWhileD (tValD (tOpD (gIB fun i j => decide (j < i)) (tVarD 3) (tConD (.int 0)))) (tParD 2 3 (tConsD (tVarD 3) (tConsD (tOpD (gII (fun _ j => 0 < j) (· % ·)) (tCaD gInt (tConsD (tVarD 2) tNilD)) (tVarD 3)) tNilD))))
  (tRetD (tVarD 2))))
def sp__law_gcd : Spc := fun args Φ _ => ∃ a b : Int, args = [.val (.int a), .val (.int b)] ∧ Φ (.val (.int (Int.gcd a b : Nat))) []
theorem abs_nat (a : Int) : (if a < 0 then -a else a) = (a.natAbs : Int) := by
  split <;> omega
theorem rd__law_gcd {args : En} {Φ : Res → List D → Prop} {Ψ : Xc → List D → Prop} (h : sp__law_gcd args Φ Ψ) : T__law_gcd (edOf args Φ XN) (noR ["a", "b", "one", "two"] args) := by
  obtain ⟨a, b, rfl, h⟩ := h
  unfold T__law_gcd
  refine ⟨fun en => en = [.val (.int a), .val (.int b), .val (.int (a.natAbs : Int)), .val (.int (b.natAbs : Int))], ?_, ?_⟩
  · walk_at "vs"
    first
      | rfl
      | (rw [abs_nat, abs_nat])
  rintro _ rfl
  refine ⟨fun en => en = [.val (.int a), .val (.int b), .val (.int (Int.gcd a b : Nat)), .val (.int 0)], ?_, ?_⟩
  · refine ⟨fun m en => ∃ x y : Nat, en = [.val (.int a), .val (.int b), .val (.int x), .val (.int y)] ∧ y = m ∧ Nat.gcd x y = Int.gcd a b, ⟨_, _, _, rfl, rfl, rfl⟩, ?_⟩
    rintro m _ ⟨x, y, rfl, rfl, hg⟩
    walk_at "vs"
    split
    · rename_i z
      refine ⟨z, x % y, Nat.mod_lt _ (by omega), y, x % y, by simp, rfl, ?_⟩
      rw [← hg, Nat.gcd_comm x y, Nat.gcd_rec y x, Nat.gcd_comm]
    · rename_i z
      obtain rfl : y = 0 := by omega
      rw [Nat.gcd_zero_right] at hg
      rw [hg]
      rfl
  · rintro _ rfl
    walk_at "vs"
    exact h
/-- how large the numbers of a point are -/
def dP (p : P3) : D := .tup [.int p.1, .int p.2.1, .int p.2.2]
def BB : Nat := 2 ^ 4000
def Bh (p : P3) : Prop := p.1.natAbs < BB ∧ p.2.1.natAbs < BB ∧ 0 < p.2.2 ∧ p.2.2 < (BB : Int)
theorem Bh.w {p : P3} (h : Bh p) : PosW p := h.2.2.1
theorem Bh.low {p : P3} (h : Bh p) : Bh (lowI p) := by
  obtain ⟨h1, h2, h3⟩ := low_le p h.w
  have := (low_low h.w).w
  obtain ⟨b1, b2, b3, b4⟩ := h
  exact ⟨by omega, by omega, this, by omega⟩
theorem up {n m k : Nat} (h : n < 2 ^ m) (hm : m ≤ k) : n < 2 ^ k := Nat.lt_of_lt_of_le h (Nat.pow_le_pow_right (by decide) hm)
theorem sm {n : Nat} (h : n < BB) : n < 2 ^ 40000 := up (m := 4000) h (by decide)
theorem upB {n m : Nat} (h : n < 2 ^ m) (hm : m ≤ 4000 := by decide) : n < BB := up (k := 4000) h hm
theorem big {i j : Int} (hi : i.natAbs < 2 ^ 40000) (hj : j.natAbs < 2 ^ 40000) : CMulA i j := mulB 40000 40000 hi hj
theorem wn {w : Int} (h1 : 0 < w) (h2 : w < (BB : Int)) : w.natAbs < BB := by omega
theorem mulW {i j : Int} (hi : i.natAbs < 2 ^ 40000) (h1 : 0 < j) (h2 : j < (BB : Int)) : CMulA i j := big hi (sm (wn h1 h2))
theorem divW {i j : Int} (h1 : 0 < j) (h2 : j < (BB : Int)) : CDivW i j := wide_div (b := 4000) h1 (show j.natAbs < BB from wn h1 h2) (by decide) (by decide)
theorem mul_bd2 {x y : Int} {m n : Nat} (hx : x.natAbs < 2 ^ m) (hy : y.natAbs < 2 ^ n) : (x * y).natAbs < 2 ^ (m + n) := by
  rw [Int.natAbs_mul, Nat.pow_add]
  exact Nat.mul_lt_mul'' hx hy
theorem sub_bd {x y : Int} {m : Nat} (hx : x.natAbs < 2 ^ m) (hy : y.natAbs < 2 ^ m) : (x - y).natAbs < 2 ^ (m + 1) := by
  rw [Nat.pow_succ]
  omega
theorem add_bd {x y : Int} {m : Nat} (hx : x.natAbs < 2 ^ m) (hy : y.natAbs < 2 ^ m) : (x + y).natAbs < 2 ^ (m + 1) := by
  rw [Nat.pow_succ]
  omega
theorem dif0 {a b c d : Int} (ha : a.natAbs < BB) (hb : b.natAbs < BB) (hc : c.natAbs < BB) (hd : d.natAbs < BB) : (a * b - c * d).natAbs < 2 ^ 8001 :=
  sub_bd (mul_bd2 (m := 4000) (n := 4000) ha hb) (mul_bd2 (m := 4000) (n := 4000) hc hd)
theorem dif_bd {a b c d : Int} (ha : a.natAbs < BB) (hb : b.natAbs < BB) (hc : c.natAbs < BB) (hd : d.natAbs < BB) : (a * b - c * d).natAbs < 2 ^ 40000 := up (dif0 ha hb hc hd) (by decide)
theorem far_bd {c p : P3} (hc : Bh c) (hp : Bh p) : (farI c p).natAbs < 2 ^ 40000 := by
  obtain ⟨c1, c2, c3, c4⟩ := hc
  obtain ⟨p1, p2, p3, p4⟩ := hp
  have a1 := dif0 p1 (wn c3 c4) c1 (wn p3 p4)
  have a2 := dif0 p2 (wn c3 c4) c2 (wn p3 p4)
  refine up (m := 8002) ?_ (by decide)
  have e : (farI c p).natAbs = (dx c p).natAbs + (dy c p).natAbs := by unfold farI; omega
  rw [e, Nat.pow_succ]
  unfold dx dy
  omega
/-- slots: 0 x, 1 y, 2 w, 3 g -/
def T__law_lowest : TDs :=
  (tCutD (tSetV 3 (tCallD 2 (q0 sp__law_gcd) (tConsD (tCallD 2 (q0 sp__law_gcd) (tConsD (tVarD 0) (tConsD (tVarD 1) tNilD))) (tConsD (tVarD 2) tNilD))))
  (tRetD (tTupD (tConsD (tOpD (gII CDivW (· / ·)) (tVarD 0) (tVarD 3)) (tConsD (tOpD (gII CDivW (· / ·)) (tVarD 1) (tVarD 3)) (tConsD (tOpD (gII CDivW (· / ·)) (tVarD 2) (tVarD 3)) tNilD))))))
def sp__law_lowest : Spc := fun args Φ _ => ∃ p : P3, args = [.val (.int p.1), .val (.int p.2.1), .val (.int p.2.2)] ∧ Bh p ∧ Φ (.val (dP (lowI p))) []
theorem rd__law_lowest {args : En} {Φ : Res → List D → Prop} {Ψ : Xc → List D → Prop} (h : sp__law_lowest args Φ Ψ) : T__law_lowest (edOf args Φ XN) (noR ["x", "y", "w", "g"] args) := by
  obtain ⟨p, rfl, hp, h⟩ := h
  obtain ⟨g1, g2⟩ := gI_pos hp.w
  obtain ⟨_, _, _, w4⟩ := hp
  unfold T__law_lowest
  refine ⟨fun en => en = [.val (.int p.1), .val (.int p.2.1), .val (.int p.2.2), .val (.int (gI p))], ?_, ?_⟩
  · unfold sp__law_gcd
    walk_at "vs"
    exact ⟨_, _, rfl, _, _, rfl, rfl⟩
  rintro _ rfl
  walk_at "vs"
  exact ⟨divW g1 (by omega), divW g1 (by omega), divW g1 (by omega), sz1000 (by decide), h⟩
/-- slots: 0 x, 1 y, 2 w, 3 common -/
def T_point_of : TDs :=
  (tCutD (tSetV 3 (tCaD gGcd3 (tConsD (tVarD 0) (tConsD (tVarD 1) (tConsD (tVarD 2) tNilD)))))
  (tRetD (tTupD (tConsD (tOpD (gII CDivW (· / ·)) (tVarD 0) (tVarD 3)) (tConsD (tOpD (gII CDivW (· / ·)) (tVarD 1) (tVarD 3)) (tConsD (tOpD (gII CDivW (· / ·)) (tVarD 2) (tVarD 3)) tNilD))))))
def sp_point_of : Spc := sp__law_lowest
theorem rd_point_of {args : En} {Φ : Res → List D → Prop} {Ψ : Xc → List D → Prop} (h : sp_point_of args Φ Ψ) : T_point_of (edOf args Φ XN) (noR ["x", "y", "w", "common"] args) := by
  obtain ⟨p, rfl, hp, h⟩ := h
  obtain ⟨g1, g2⟩ := gI_pos hp.w
  obtain ⟨_, _, _, w4⟩ := hp
  unfold T_point_of
  refine ⟨fun en => en = [.val (.int p.1), .val (.int p.2.1), .val (.int p.2.2), .val (.int (gI p))], ?_, ?_⟩
  · walk_at "vs"
    rfl
  rintro _ rfl
  walk_at "vs"
  exact ⟨divW g1 (by omega), divW g1 (by omega), divW g1 (by omega), sz1000 (by decide), h⟩
def sp__law_turn : Spc := fun args Φ _ => ∃ p q r : P3, args = [.val (dP p), .val (dP q), .val (dP r)] ∧ Bh p ∧ Bh q ∧ Bh r ∧ Φ (.val (.int (turnI p q r))) []
/-- slots: 0 p, 1 q, 2 r -/
def T__law_turn : TDs :=
  (tRetD (tOpD gAdd (tOpD (gI0 (· - ·)) (tOpD (gII CMulA (· * ·)) (tOpD gIx (tVarD 0) (tConD (.int 0))) (tOpD (gI0 (· - ·)) (tOpD (gII CMulA (· * ·)) (tOpD gIx (tVarD 1) (tConD (.int 1))) (tOpD gIx (tVarD 2) (tConD (.int 2)))) (tOpD (gII CMulA (· * ·)) (tOpD gIx (tVarD 2) (tConD (.int 1))) (tOpD gIx (tVarD 1) (tConD (.int 2)))))) (tOpD (gII CMulA (· * ·)) (tOpD gIx (tVarD 0) (tConD (.int 1))) (tOpD (gI0 (· - ·)) (tOpD (gII CMulA (· * ·)) (tOpD gIx (tVarD 1) (tConD (.int 0))) (tOpD gIx (tVarD 2) (tConD (.int 2)))) (tOpD (gII CMulA (· * ·)) (tOpD gIx (tVarD 2) (tConD (.int 0))) (tOpD gIx (tVarD 1) (tConD (.int 2))))))) (tOpD (gII CMulA (· * ·)) (tOpD gIx (tVarD 0) (tConD (.int 2))) (tOpD (gI0 (· - ·)) (tOpD (gII CMulA (· * ·)) (tOpD gIx (tVarD 1) (tConD (.int 0))) (tOpD gIx (tVarD 2) (tConD (.int 1)))) (tOpD (gII CMulA (· * ·)) (tOpD gIx (tVarD 2) (tConD (.int 0))) (tOpD gIx (tVarD 1) (tConD (.int 1))))))))
theorem rd__law_turn {args : En} {Φ : Res → List D → Prop} {Ψ : Xc → List D → Prop} (h : sp__law_turn args Φ Ψ) : T__law_turn (edOf args Φ XN) (noR ["p", "q", "r"] args) := by
  obtain ⟨p, q, r, rfl, ⟨p1, p2, p3, p4⟩, ⟨q1, q2, q3, q4⟩, ⟨r1, r2, r3, r4⟩, h⟩ := h
  unfold T__law_turn dP
  walk_at "vs"
  exact ⟨mulW (sm q2) r3 r4, mulW (sm r2) q3 q4, big (sm p1) (dif_bd q2 (wn r3 r4) r2 (wn q3 q4)), mulW (sm q1) r3 r4, mulW (sm r1) q3 q4, big (sm p2) (dif_bd q1 (wn r3 r4) r1 (wn q3 q4)),
    big (sm q1) (sm r2), big (sm r1) (sm q2), big (sm (wn p3 p4)) (dif_bd q1 r2 r1 q2), h⟩
/-- slots: 0 p, 1 q, 2 r -/
def T_left_turn : TDs :=
  (tRetD (tOpD gAdd (tOpD (gI0 (· - ·)) (tOpD (gII CMulA (· * ·)) (tOpD gIx (tVarD 0) (tConD (.int 0))) (tOpD (gI0 (· - ·)) (tOpD (gII CMulA (· * ·)) (tOpD gIx (tVarD 1) (tConD (.int 1))) (tOpD gIx (tVarD 2) (tConD (.int 2)))) (tOpD (gII CMulA (· * ·)) (tOpD gIx (tVarD 2) (tConD (.int 1))) (tOpD gIx (tVarD 1) (tConD (.int 2)))))) (tOpD (gII CMulA (· * ·)) (tOpD gIx (tVarD 0) (tConD (.int 1))) (tOpD (gI0 (· - ·)) (tOpD (gII CMulA (· * ·)) (tOpD gIx (tVarD 1) (tConD (.int 0))) (tOpD gIx (tVarD 2) (tConD (.int 2)))) (tOpD (gII CMulA (· * ·)) (tOpD gIx (tVarD 2) (tConD (.int 0))) (tOpD gIx (tVarD 1) (tConD (.int 2))))))) (tOpD (gII CMulA (· * ·)) (tOpD gIx (tVarD 0) (tConD (.int 2))) (tOpD (gI0 (· - ·)) (tOpD (gII CMulA (· * ·)) (tOpD gIx (tVarD 1) (tConD (.int 0))) (tOpD gIx (tVarD 2) (tConD (.int 1)))) (tOpD (gII CMulA (· * ·)) (tOpD gIx (tVarD 2) (tConD (.int 0))) (tOpD gIx (tVarD 1) (tConD (.int 1))))))))
def sp_left_turn : Spc := sp__law_turn
theorem rd_left_turn {args : En} {Φ : Res → List D → Prop} {Ψ : Xc → List D → Prop} (h : sp_left_turn args Φ Ψ) : T_left_turn (edOf args Φ XN) (noR ["p", "q", "r"] args) := by
  obtain ⟨p, q, r, rfl, ⟨p1, p2, p3, p4⟩, ⟨q1, q2, q3, q4⟩, ⟨r1, r2, r3, r4⟩, h⟩ := h
  unfold T_left_turn dP
  walk_at "vs"
  exact ⟨mulW (sm q2) r3 r4, mulW (sm r2) q3 q4, big (sm p1) (dif_bd q2 (wn r3 r4) r2 (wn q3 q4)), mulW (sm q1) r3 r4, mulW (sm r1) q3 q4, big (sm p2) (dif_bd q1 (wn r3 r4) r1 (wn q3 q4)),
    big (sm q1) (sm r2), big (sm r1) (sm q2), big (sm (wn p3 p4)) (dif_bd q1 r2 r1 q2), h⟩
/-- slots: 0 c, 1 p -/
def T__law_far : TDs :=
  (tRetD (tOpD gAdd (tCaD gAbs (tConsD (tOpD (gI0 (· - ·)) (tOpD (gII CMulA (· * ·)) (tOpD gIx (tVarD 1) (tConD (.int 0))) (tOpD gIx (tVarD 0) (tConD (.int 2)))) (tOpD (gII CMulA (· * ·)) (tOpD gIx (tVarD 0) (tConD (.int 0))) (tOpD gIx (tVarD 1) (tConD (.int 2))))) tNilD)) (tCaD gAbs (tConsD (tOpD (gI0 (· - ·)) (tOpD (gII CMulA (· * ·)) (tOpD gIx (tVarD 1) (tConD (.int 1))) (tOpD gIx (tVarD 0) (tConD (.int 2)))) (tOpD (gII CMulA (· * ·)) (tOpD gIx (tVarD 0) (tConD (.int 1))) (tOpD gIx (tVarD 1) (tConD (.int 2))))) tNilD))))
def sp__law_far : Spc := fun args Φ _ => ∃ c p : P3, args = [.val (dP c), .val (dP p)] ∧ Bh c ∧ Bh p ∧ Φ (.val (.int (farI c p))) []
theorem rd__law_far {args : En} {Φ : Res → List D → Prop} {Ψ : Xc → List D → Prop} (h : sp__law_far args Φ Ψ) : T__law_far (edOf args Φ XN) (noR ["c", "p"] args) := by
  obtain ⟨c, p, rfl, ⟨c1, c2, c3, c4⟩, ⟨p1, p2, p3, p4⟩, h⟩ := h
  unfold farI dx dy at h
  unfold T__law_far dP
  walk_at "vs"
  rw [abs_nat, abs_nat]
  exact ⟨mulW (sm p1) c3 c4, mulW (sm c1) p3 p4, mulW (sm p2) c3 c4, mulW (sm c2) p3 p4, h⟩
/-- slots: 0 p, 1 q, 2 across -/
def T_is_before : TDs :=
  (tCutD (tSetV 2 (tOpD (gI0 (· - ·)) (tOpD (gII CMulA (· * ·)) (tOpD gIx (tVarD 0) (tConD (.int 0))) (tOpD gIx (tVarD 1) (tConD (.int 2)))) (tOpD (gII CMulA (· * ·)) (tOpD gIx (tVarD 1) (tConD (.int 0))) (tOpD gIx (tVarD 0) (tConD (.int 2))))))
  (tSeqD (tIfSD (tValD (tOpD (gEq not) (tVarD 2) (tConD (.int 0)))) (tRetD (tOpD (gIB fun i j => decide (i < j)) (tVarD 2) (tConD (.int 0)))) tNextD)
  (tRetD (tOpD (gIB fun i j => decide (i < j)) (tOpD (gII CMulA (· * ·)) (tOpD gIx (tVarD 0) (tConD (.int 1))) (tOpD gIx (tVarD 1) (tConD (.int 2)))) (tOpD (gII CMulA (· * ·)) (tOpD gIx (tVarD 1) (tConD (.int 1))) (tOpD gIx (tVarD 0) (tConD (.int 2))))))))
def sp_is_before : Spc := fun args Φ _ => ∃ p q : P3, args = [.val (dP p), .val (dP q)] ∧ Bh p ∧ Bh q ∧ Φ (.val (.bl (decide (LtP p q)))) []
theorem rd_is_before {args : En} {Φ : Res → List D → Prop} {Ψ : Xc → List D → Prop} (h : sp_is_before args Φ Ψ) : T_is_before (edOf args Φ XN) (noR ["p", "q", "across"] args) := by
  obtain ⟨p, q, rfl, ⟨p1, p2, p3, p4⟩, ⟨q1, q2, q3, q4⟩, h⟩ := h
  have key : ∀ b, (b = true ↔ LtP p q) → Φ (.val (.bl b)) [] := fun b e => by
    have : b = decide (LtP p q) := by
      by_cases z : LtP p q
      · rw [decide_eq_true z]; exact e.mpr z
      · rw [decide_eq_false z]
        cases b with
        | true => exact absurd (e.mp rfl) z
        | false => rfl
    rw [this]
    exact h
  unfold LtP dx dy at key
  unfold T_is_before
  refine ⟨fun en => en = [.val (dP p), .val (dP q), .val (.int (p.1 * q.2.2 - q.1 * p.2.2))], ?_, ?_⟩
  · unfold dP
    walk_at "vs"
    exact ⟨mulW (sm p1) q3 q4, mulW (sm q1) p3 p4⟩
  rintro _ rfl
  unfold dP
  walk_at "vs"
  split
  · rename_i z
    refine key _ ?_
    have : ¬ (p.1 * q.2.2 - q.1 * p.2.2 = 0) := by simpa using z
    rw [decide_eq_true_eq]
    omega
  · rename_i z
    have : p.1 * q.2.2 - q.1 * p.2.2 = 0 := by simpa using z
    refine ⟨mulW (sm p2) q3 q4, mulW (sm q2) p3 p4, key _ ?_⟩
    rw [decide_eq_true_eq]
    omega
end VS

namespace VS
open PySem L2 PySem.Spec PyProof.Rows
local macro_rules | `(tactic| walk_at "vs") => `(tactic| simp (maxSteps := 400000) only [tSeqD, tEitD, tEitS, tRevD, tRepD, tNewT, tPutT, gListT, gGcd3, gLt2, tFgtD, tIfSD, tRetD, retD, tSetD, tSetV, tVarD, tConD, tOpD, tUnD, tCaD, tCallD, tConsD, tNilD, tTupD, tLstD, tValD, tAndD, tOrD, tNotD, tIfD, tAndDV, tOrDV, tNotDV, tAsgD, tParD, tPar3D, tNamG, tTupG, tNilG, tConsG, tUnlG, tDropD, tNextD, tBrkD, tCntD, tNeverD, tStoD, tMetD, tSlLD, tNoPartD, tPartD, tChD, tIsiD, tIsiTD, tIsi3D, tFrzD, q0, tYesD, wipeD,
  gI0, gII, gIB, gAdd, gU, gEq, gIx, gIsN, gLen, gInt, gAbs, gBool, gList, gTupC, mAppend, mPop, mPopAt, mInsert, mReverse, rd, rds, vl, vls, slR, nob, mkArgs, bors, putOwns, edOf, outsP, noR, shD, eqD,
  List.getElem?_cons_zero, List.getElem?_cons_succ, List.getElem?_nil, List.set_cons_zero, List.set_cons_succ, List.cons_append, List.nil_append, List.length_cons, List.length_nil, List.replicate, Nat.add_sub_cancel, Nat.sub_self, Nat.reduceAdd, Nat.reduceSub, Int.reduceToNat, Int.reducePow, Int.reduceNeg, Int.reduceAdd, Int.reduceSub, Int.reduceMul, id_eq, true_and, and_true, List.nodup_nil, if_true, if_false, List.nodup_cons, List.not_mem_nil, not_false_eq_true, Bool.not_true, Bool.not_false, Bool.true_or, Bool.or_false, Bool.false_or, decide_eq_true_eq, Bool.false_eq_true, XF,
  Bool.or_true, bne_self_eq_false, isT_dict_non, isT_dict_bl, isT_dict_int, isT_dict_str, isT_dict_tup, isT_dict_lst, isT_list_non, isT_list_bl, isT_list_int, isT_list_str, isT_list_tup, isT_list_lst, isT_tuple_non, isT_tuple_bl, isT_tuple_int, isT_tuple_str, isT_tuple_tup, isT_tuple_lst, isT_bool_non, isT_bool_bl, isT_bool_int, isT_bool_str, isT_bool_tup, isT_bool_lst, isT_str_non, isT_str_bl, isT_str_int, isT_str_str, isT_str_tup, isT_str_lst, isT_int_non, isT_int_bl, isT_int_int, isT_int_str, isT_int_tup, isT_int_lst,
  atI0, atI1, atI2, atI3, atI4, ixN51, ixN52, ixN53, ixN54])
local macro_rules | `(tactic| walk_at "vh") => `(tactic| simp (maxSteps := 400000) only [tSeqD, tEitD, tEitS, tRevD, tRepD, tNewT, tPutT, gListT, gGcd3, gLt2, tFgtD, tIfSD, tRetD, retD, tSetD, tSetV, tVarD, tConD, tOpD, tUnD, tCaD, tCallD, tConsD, tNilD, tTupD, tLstD, tValD, tAndD, tOrD, tNotD, tIfD, tAndDV, tOrDV, tNotDV, tAsgD, tParD, tPar3D, tNamG, tTupG, tNilG, tConsG, tUnlG, tDropD, tNextD, tBrkD, tCntD, tNeverD, tStoD, tMetD, tSlLD, tNoPartD, tPartD, tChD, tIsiD, tIsiTD, tIsi3D, tFrzD, q0, tYesD, wipeD,
  gI0, gII, gIB, gAdd, gU, gEq, gIx, gIsN, gLen, gInt, gAbs, gBool, gList, gTupC, mAppend, mPop, mPopAt, mInsert, mReverse, rd, rds, vl, vls, slR, nob, mkArgs, bors, putOwns, edOf, outsP, noR, shD, eqD,
  List.getElem?_cons_zero, List.getElem?_cons_succ, List.getElem?_nil, List.set_cons_zero, List.set_cons_succ, List.cons_append, List.nil_append, List.length_cons, List.length_nil, List.replicate, Nat.add_sub_cancel, Nat.sub_self, Nat.reduceAdd, Nat.reduceSub, Int.reduceToNat, Int.reducePow, Int.reduceNeg, Int.reduceAdd, Int.reduceSub, Int.reduceMul, id_eq, true_and, and_true, List.nodup_nil, if_true, if_false, List.nodup_cons, List.not_mem_nil, not_false_eq_true, Bool.not_true, Bool.not_false, Bool.true_or, Bool.or_false, Bool.false_or, decide_eq_true_eq, Bool.false_eq_true, XF,
  Bool.or_true, bne_self_eq_false, isT_dict_non, isT_dict_bl, isT_dict_int, isT_dict_str, isT_dict_tup, isT_dict_lst, isT_list_non, isT_list_bl, isT_list_int, isT_list_str, isT_list_tup, isT_list_lst, isT_tuple_non, isT_tuple_bl, isT_tuple_int, isT_tuple_str, isT_tuple_tup, isT_tuple_lst, isT_bool_non, isT_bool_bl, isT_bool_int, isT_bool_str, isT_bool_tup, isT_bool_lst, isT_str_non, isT_str_bl, isT_str_int, isT_str_str, isT_str_tup, isT_str_lst, isT_int_non, isT_int_bl, isT_int_int, isT_int_str, isT_int_tup, isT_int_lst,
  atI0, atI1, atI2, atI3, atI4, ixN51, ixN52, ixN53, ixN54, *])
local macro_rules | `(tactic| walk_at "lf") => `(tactic| ((repeat' (with_reducible apply And.intro)) <;> first | exact mulR (by decide) (by decide) | exact pow1018 | exact pow3 (by omega) | exact divB (by omega) (by omega) | exact Int.emod_nonneg _ (by omega) | exact Int.emod_lt_of_pos _ (by omega) | exact Int.ediv_nonneg (by omega) (by omega) | omega | decide | assumption | skip))
local macro_rules | `(tactic| walk_at "vn") => `(tactic| simp (maxSteps := 400000) only [tSeqD, tEitD, tEitS, tRevD, tRepD, tNewT, tPutT, gListT, gGcd3, gLt2, tFgtD, tIfSD, tRetD, retD, tSetD, tSetV, tVarD, tConD, tOpD, tUnD, tCaD, tCallD, tConsD, tNilD, tTupD, tLstD, tValD, tAndD, tOrD, tNotD, tIfD, tAndDV, tOrDV, tNotDV, tAsgD, tParD, tPar3D, tNamG, tTupG, tNilG, tConsG, tUnlG, tDropD, tNextD, tBrkD, tCntD, tNeverD, tStoD, tMetD, tSlLD, tNoPartD, tPartD, tChD, tIsiD, tIsiTD, tIsi3D, tFrzD, q0, tYesD, wipeD,
  gI0, gII, gIB, gAdd, gU, gEq, gIx, gIsN, gLen, gInt, gAbs, gBool, gList, gTupC, mAppend, mPop, mPopAt, mInsert, mReverse, rd, rds, vl, vls, slR, nob, mkArgs, bors, putOwns, edOf, outsP, noR,
  List.getElem?_cons_zero, List.getElem?_cons_succ, List.getElem?_nil, List.set_cons_zero, List.set_cons_succ, List.cons_append, List.nil_append, List.length_cons, List.length_nil, List.replicate, Nat.add_sub_cancel, Nat.sub_self, Nat.reduceAdd, Nat.reduceSub, Int.reduceToNat, Int.reducePow, Int.reduceNeg, Int.reduceAdd, Int.reduceSub, Int.reduceMul, id_eq, true_and, and_true, List.nodup_nil, if_true, if_false, List.nodup_cons, List.not_mem_nil, not_false_eq_true, Bool.not_true, Bool.not_false, Bool.true_or, Bool.or_false, Bool.false_or, decide_eq_true_eq, Bool.false_eq_true, XF,
  Bool.or_true, bne_self_eq_false, isT_dict_non, isT_dict_bl, isT_dict_int, isT_dict_str, isT_dict_tup, isT_dict_lst, isT_list_non, isT_list_bl, isT_list_int, isT_list_str, isT_list_tup, isT_list_lst, isT_tuple_non, isT_tuple_bl, isT_tuple_int, isT_tuple_str, isT_tuple_tup, isT_tuple_lst, isT_bool_non, isT_bool_bl, isT_bool_int, isT_bool_str, isT_bool_tup, isT_bool_lst, isT_str_non, isT_str_bl, isT_str_int, isT_str_str, isT_str_tup, isT_str_lst, isT_int_non, isT_int_bl, isT_int_int, isT_int_str, isT_int_tup, isT_int_lst,
  atI0, atI1, atI2, atI3, atI4, ixN51, ixN52, ixN53, ixN54])

theorem at3_mem {ps : List P3} {i : Nat} (h : i < ps.length) : at3 ps i ∈ ps := by
  unfold at3
  simp [List.getD, h]
theorem map_get {ps : List P3} {i : Nat} (h : i < ps.length) : (ps.map dP)[i]? = some (dP (at3 ps i)) := by
  unfold at3
  simp [List.getD, h]
theorem atI_map {ps : List P3} {i : Int} (h0 : 0 ≤ i) (h : i.toNat < ps.length) : atI (ps.map dP) i = some (dP (at3 ps i.toNat)) := atI_int h0 (map_get h)
theorem sh_pt (p : P3) : SeqAt.shaped (py (dP p)) = true := by
  simp [SeqAt.shaped, py, pys, dP, PyData.canLay0, PyData.canLayAll0, PyData.depth, PyData.depthAll]
theorem eq_pt (p q : P3) : PyData.eqv (py (dP p)) (py (dP q)) = decide (p = q) := by
  obtain ⟨a, b, c⟩ := p
  obtain ⟨d, e, f⟩ := q
  simp only [py, pys, dP, PyData.eqv, PyData.eqvAll, Prod.mk.injEq, Bool.and_true]
  by_cases h1 : a = d <;> by_cases h2 : b = e <;> by_cases h3 : c = f <;> simp [h1, h2, h3]
theorem eqD_pt (p q : P3) : eqD (dP p) (dP q) = decide (p = q) := by rw [eqD_is, eq_pt]
theorem shD_pt (p : P3) : shD (dP p) := sh_pt p
/-- a list of points in lowest terms -/
def sp_in_order : Spc := fun args Φ _ => ∃ ps : List P3, args = [.val (.lst (ps.map dP))] ∧ ps.length ≤ 1000 ∧ (∀ p ∈ ps, LowP p ∧ Bh p) ∧ ∀ (a : Addr) (rs : List P3), Srt rs → (∀ x, x ∈ rs ↔ x ∈ ps) → rs.length ≤ ps.length → Φ (.own a (.lst (rs.map dP))) []
/-- slots: 0 points, 1 row, 2 p, 3 low, 4 high, 5 half -/
def T_in_order : TDs :=
  (tSeqD (tSetD 1 (tLstD tNilD))
  (tCutD (tForLD (tVarD 0) (tNamG 2) (tCutD (tSetV 3 (tConD (.int 0)))
  (tCutD (tSetV 4 (tCaD gLen (tConsD (tVarD 1) tNilD)))
  (tCutD (tWhileD (tValD (tOpD (gIB fun i j => decide (i < j)) (tVarD 3) (tVarD 4))) (tCutD (tSetV 5 (tOpD (gII CDivW (· / ·)) (tOpD gAdd (tVarD 3) (tVarD 4)) (tConD (.int 2))))
  (tIfSD (tValD (tCallD 2 (q0 sp_is_before) (tConsD (tOpD gIx (tVarD 1) (tVarD 5)) (tConsD (tVarD 2) tNilD)))) (tSetV 3 (tOpD gAdd (tVarD 5) (tConD (.int 1)))) (tSetV 4 (tVarD 5)))))
  (tIfSD (tOrD (tValD (tOpD (gEq id) (tVarD 3) (tCaD gLen (tConsD (tVarD 1) tNilD)))) (tValD (tOpD (gEq not) (tOpD gIx (tVarD 1) (tVarD 3)) (tVarD 2)))) (tDropD (tMetD 1 mInsert (tConsD (tVarD 3) (tConsD (tVarD 2) tNilD)))) tNextD)))))
  (tRetD (tVarD 1))))
theorem rd_in_order {args : En} {Φ : Res → List D → Prop} {Ψ : Xc → List D → Prop} (h : sp_in_order args Φ Ψ) : T_in_order (edOf args Φ XN) (noR ["points", "row", "p", "low", "high", "half"] args) := by
  obtain ⟨ps, rfl, hl, hb, h⟩ := h
  unfold T_in_order
  generalize hS : Sl.val (D.lst (ps.map dP)) = S
  walk_at "vs"
  refine ⟨sz1000 (by decide), fun a => ?_⟩
  refine ⟨fun en => ∃ (rs : List P3) (e2 e3 e4 e5 : Sl), en = [S, .own a (.lst (rs.map dP)), e2, e3, e4, e5] ∧ Srt rs ∧ (∀ x, x ∈ rs ↔ x ∈ ps) ∧ rs.length ≤ ps.length, ?_, ?_⟩
  · refine forL_i (fun i en => ∃ (rs : List P3) (e2 e3 e4 e5 : Sl), en = [S, .own a (.lst (rs.map dP)), e2, e3, e4, e5] ∧ Srt rs ∧ (∀ x, x ∈ rs ↔ x ∈ ps.take i) ∧ rs.length ≤ i) (en1 := [S, .own a (.lst []), .no, .no, .no, .no]) (ds := ps.map dP) (fun Φ z => ?_) ⟨[], _, _, _, _, rfl, List.Pairwise.nil, by simp, by simp⟩ ?_ ?_
    · subst hS
      walk_at "vs"
      exact z
    · rintro i d _ hd ⟨rs, e2, e3, e4, e5, rfl, srt, hm, hn⟩
      obtain ⟨p, hp, rfl⟩ := get_map hd
      have hi := (List.getElem?_eq_some_iff.mp hp).1
      obtain ⟨lp, bp⟩ := hb p (List.mem_of_getElem? hp)
      have mrs : ∀ x ∈ rs, LowP x ∧ Bh x := fun x hx => hb x (List.mem_of_mem_take ((hm x).mp hx))
      have hR : ∀ j, j < rs.length → LowP (at3 rs j) ∧ Bh (at3 rs j) := fun j hj => mrs _ (at3_mem hj)
      show tCutD _ _ _ _
      refine ⟨fun en => en = [S, .own a (.lst (rs.map dP)), .val (dP p), .val (.int 0), e4, e5], by walk_at "vs", ?_⟩
      rintro _ rfl
      refine ⟨fun en => en = [S, .own a (.lst (rs.map dP)), .val (dP p), .val (.int 0), .val (.int rs.length), e5], ?_, ?_⟩
      · walk_at "vs"
        rw [List.length_map]
      rintro _ rfl
      refine ⟨fun en => ∃ (k : Nat) (e5 : Sl), en = [S, .own a (.lst (rs.map dP)), .val (dP p), .val (.int k), .val (.int k), e5] ∧ k ≤ rs.length ∧ (∀ j, j < k → LtP (at3 rs j) p) ∧ (∀ j, k ≤ j → j < rs.length → ¬ LtP (at3 rs j) p), ?_, ?_⟩
      · refine ⟨fun m en => ∃ (lo hi : Nat) (e5 : Sl), en = [S, .own a (.lst (rs.map dP)), .val (dP p), .val (.int lo), .val (.int hi), e5] ∧ m = hi - lo ∧ lo ≤ hi ∧ hi ≤ rs.length ∧ (∀ j, j < lo → LtP (at3 rs j) p) ∧ (∀ j, hi ≤ j → j < rs.length → ¬ LtP (at3 rs j) p), ⟨_, 0, rs.length, e5, rfl, rfl, by omega, by omega, fun j hj => by omega, fun j h1 h2 => by omega⟩, ?_⟩
        rintro m _ ⟨lo, hi, e5, rfl, hm', l1, l2, c1, c2⟩
        walk_at "vs"
        split
        · rename_i z
          have z' : lo < hi := by omega
          show tCutD _ _ _ _
          refine ⟨fun en => en = [S, .own a (.lst (rs.map dP)), .val (dP p), .val (.int lo), .val (.int hi), .val (.int ((lo + hi) / 2 : Nat))], ?_, ?_⟩
          · walk_at "vs"
            refine ⟨divB (by decide) (by decide), ?_⟩
            simp
          rintro _ rfl
          have hh : (lo + hi) / 2 < rs.length := by omega
          have A : atI (rs.map dP) (((lo + hi) / 2 : Nat) : Int) = some (dP (at3 rs ((lo + hi) / 2))) := by
            rw [atI_map (Int.natCast_nonneg _) hh]
            rfl
          obtain ⟨lh, bh⟩ := hR _ hh
          unfold sp_is_before
          walk_at "vh"
          refine ⟨_, _, rfl, bh, bp, ?_⟩
          generalize hH : (lo + hi) / 2 = H at *
          split
          · rename_i q
            refine ⟨hi - (H + 1), by omega, H + 1, hi, .val (.int H), by simp, rfl, by omega, l2, fun j hj => ?_, c2⟩
            by_cases e : j = H
            · rw [e]; exact q
            · exact LtP.trans (hR j (by omega)).1.w lh.w lp.w (srt_get srt (by omega) hh) q
          · rename_i q
            refine ⟨H - lo, by omega, lo, H, .val (.int H), by simp, rfl, by omega, by omega, c1, fun j h1 h2 w => ?_⟩
            by_cases e : j = H
            · rw [e] at w; exact q w
            · exact q (LtP.trans lh.w (hR j h2).1.w lp.w (srt_get srt (by omega) h2) w)
        · rename_i z
          have e : lo = hi := by omega
          subst e
          exact ⟨lo, e5, rfl, l2, c1, c2⟩
      rintro _ ⟨k, e5, rfl, l2, c1, c2⟩
      have keep : p ∈ rs → ∃ (rs' : List P3) (e2 e3 e4 e5' : Sl), ([S, .own a (.lst (rs.map dP)), .val (dP p), .val (.int k), .val (.int k), e5] : En) = [S, .own a (.lst (rs'.map dP)), e2, e3, e4, e5'] ∧ Srt rs' ∧ (∀ x, x ∈ rs' ↔ x ∈ ps.take (i + 1)) ∧ rs'.length ≤ i + 1 := fun hp' => by
        refine ⟨rs, _, _, _, _, rfl, srt, fun x => ?_, by omega⟩
        rw [List.take_succ, hp]
        simp only [Option.toList_some, List.mem_append, List.mem_cons, List.not_mem_nil, or_false]
        constructor
        · exact fun z => .inl ((hm x).mp z)
        · rintro (z | z)
          · exact (hm x).mpr z
          · rw [z]; exact hp'
      have more : (∀ j, k ≤ j → j < rs.length → LtP p (at3 rs j)) → ∃ (rs' : List P3) (e2 e3 e4 e5' : Sl), ([S, .own a (.lst ((rs.map dP).take k ++ [dP p] ++ (rs.map dP).drop k)), .val (dP p), .val (.int k), .val (.int k), e5] : En) = [S, .own a (.lst (rs'.map dP)), e2, e3, e4, e5'] ∧ Srt rs' ∧ (∀ x, x ∈ rs' ↔ x ∈ ps.take (i + 1)) ∧ rs'.length ≤ i + 1 := fun hgt => by
        refine ⟨rs.take k ++ p :: rs.drop k, .val (dP p), .val (.int k), .val (.int k), e5, ?_, srt_insert srt l2 c1 hgt, fun x => ?_, ?_⟩
        · rw [List.map_append, List.map_cons, List.map_take, List.map_drop]
          simp
        · rw [mem_insert, List.take_succ, hp]
          simp only [Option.toList_some, List.mem_append, List.mem_cons, List.not_mem_nil, or_false]
          rw [hm x]
          exact Or.comm
        · have : (rs.take k ++ p :: rs.drop k).length = rs.length + 1 := by
            rw [List.length_append, List.length_cons, List.length_take, List.length_drop]
            omega
          omega
      have hs : (rs.map dP).length < sizeLine := by rw [List.length_map]; exact sz1001 (by omega)
      walk_at "vn"
      refine ⟨trivial, trivial, ?_⟩
      split
      · rename_i z
        have z : (k : Int) = rs.length := by simpa [eqD] using z
        refine ⟨hs, by omega, by omega, ?_⟩
        rw [show ((k : Int)).toNat = k from rfl]
        have := more fun j h1 h2 => by omega
        simpa using this
      · rename_i z
        have z : ¬ (k : Int) = rs.length := by simpa [eqD] using z
        have hk : k < rs.length := by omega
        have A : atI (rs.map dP) (k : Int) = some (dP (at3 rs k)) := by
          rw [atI_map (by omega) (by simpa using hk)]
          rfl
        rw [A]
        walk_at "vn"
        refine ⟨shD_pt _, shD_pt _, ?_⟩
        rw [eqD_pt]
        split
        · rename_i w
          have ne : at3 rs k ≠ p := by simpa using w
          refine ⟨hs, by omega, by omega, ?_⟩
          rw [show ((k : Int)).toNat = k from rfl]
          have gt : ∀ j, k ≤ j → j < rs.length → LtP p (at3 rs j) := fun j h1 h2 => by
            have gk : LtP p (at3 rs k) := by
              rcases low_tot (hR k hk).1 lp with e | e | e
              · exact absurd e ne
              · exact absurd e (c2 k (Nat.le_refl _) hk)
              · exact e
            by_cases e : j = k
            · rw [e]; exact gk
            · exact LtP.trans lp.w (hR k hk).1.w (hR j h2).1.w gk (srt_get srt (by omega) h2)
          simpa using more gt
        · rename_i w
          have eq : at3 rs k = p := by simpa using w
          exact keep (by rw [← eq]; exact at3_mem hk)
    · rintro _ ⟨rs, e2, e3, e4, e5, rfl, srt, hm, hn⟩
      rw [List.length_map] at hm hn
      rw [List.take_length] at hm
      exact ⟨rs, _, _, _, _, rfl, srt, hm, hn⟩
  rintro _ ⟨rs, e2, e3, e4, e5, rfl, srt, hm, hn⟩
  subst hS
  walk_at "vs"
  exact h a rs srt hm hn
end VS

namespace VS
open PySem L2 PySem.Spec PyProof.Rows
local macro_rules | `(tactic| walk_at "vs") => `(tactic| simp (maxSteps := 400000) only [tSeqD, tEitD, tEitS, tRevD, tRepD, tNewT, tPutT, gListT, gGcd3, gLt2, tFgtD, tIfSD, tRetD, retD, tSetD, tSetV, tVarD, tConD, tOpD, tUnD, tCaD, tCallD, tConsD, tNilD, tTupD, tLstD, tValD, tAndD, tOrD, tNotD, tIfD, tAndDV, tOrDV, tNotDV, tAsgD, tParD, tPar3D, tNamG, tTupG, tNilG, tConsG, tUnlG, tDropD, tNextD, tBrkD, tCntD, tNeverD, tStoD, tMetD, tSlLD, tNoPartD, tPartD, tChD, tIsiD, tIsiTD, tIsi3D, tFrzD, q0, tYesD, wipeD,
  gI0, gII, gIB, gAdd, gU, gEq, gIx, gIsN, gLen, gInt, gAbs, gBool, gList, gTupC, mAppend, mPop, mPopAt, mInsert, mReverse, rd, rds, vl, vls, slR, nob, mkArgs, bors, putOwns, edOf, outsP, noR, shD, eqD,
  List.getElem?_cons_zero, List.getElem?_cons_succ, List.getElem?_nil, List.set_cons_zero, List.set_cons_succ, List.cons_append, List.nil_append, List.length_cons, List.length_nil, List.replicate, Nat.add_sub_cancel, Nat.sub_self, Nat.reduceAdd, Nat.reduceSub, Int.reduceToNat, Int.reducePow, Int.reduceNeg, Int.reduceAdd, Int.reduceSub, Int.reduceMul, id_eq, true_and, and_true, List.nodup_nil, if_true, if_false, List.nodup_cons, List.not_mem_nil, not_false_eq_true, Bool.not_true, Bool.not_false, Bool.true_or, Bool.or_false, Bool.false_or, decide_eq_true_eq, Bool.false_eq_true, XF,
  Bool.or_true, bne_self_eq_false, isT_dict_non, isT_dict_bl, isT_dict_int, isT_dict_str, isT_dict_tup, isT_dict_lst, isT_list_non, isT_list_bl, isT_list_int, isT_list_str, isT_list_tup, isT_list_lst, isT_tuple_non, isT_tuple_bl, isT_tuple_int, isT_tuple_str, isT_tuple_tup, isT_tuple_lst, isT_bool_non, isT_bool_bl, isT_bool_int, isT_bool_str, isT_bool_tup, isT_bool_lst, isT_str_non, isT_str_bl, isT_str_int, isT_str_str, isT_str_tup, isT_str_lst, isT_int_non, isT_int_bl, isT_int_int, isT_int_str, isT_int_tup, isT_int_lst,
  atI0, atI1, atI2, atI3, atI4, ixN51, ixN52, ixN53, ixN54])
local macro_rules | `(tactic| walk_at "vh") => `(tactic| simp (maxSteps := 400000) only [tSeqD, tEitD, tEitS, tRevD, tRepD, tNewT, tPutT, gListT, gGcd3, gLt2, tFgtD, tIfSD, tRetD, retD, tSetD, tSetV, tVarD, tConD, tOpD, tUnD, tCaD, tCallD, tConsD, tNilD, tTupD, tLstD, tValD, tAndD, tOrD, tNotD, tIfD, tAndDV, tOrDV, tNotDV, tAsgD, tParD, tPar3D, tNamG, tTupG, tNilG, tConsG, tUnlG, tDropD, tNextD, tBrkD, tCntD, tNeverD, tStoD, tMetD, tSlLD, tNoPartD, tPartD, tChD, tIsiD, tIsiTD, tIsi3D, tFrzD, q0, tYesD, wipeD,
  gI0, gII, gIB, gAdd, gU, gEq, gIx, gIsN, gLen, gInt, gAbs, gBool, gList, gTupC, mAppend, mPop, mPopAt, mInsert, mReverse, rd, rds, vl, vls, slR, nob, mkArgs, bors, putOwns, edOf, outsP, noR, shD, eqD,
  List.getElem?_cons_zero, List.getElem?_cons_succ, List.getElem?_nil, List.set_cons_zero, List.set_cons_succ, List.cons_append, List.nil_append, List.length_cons, List.length_nil, List.replicate, Nat.add_sub_cancel, Nat.sub_self, Nat.reduceAdd, Nat.reduceSub, Int.reduceToNat, Int.reducePow, Int.reduceNeg, Int.reduceAdd, Int.reduceSub, Int.reduceMul, id_eq, true_and, and_true, List.nodup_nil, if_true, if_false, List.nodup_cons, List.not_mem_nil, not_false_eq_true, Bool.not_true, Bool.not_false, Bool.true_or, Bool.or_false, Bool.false_or, decide_eq_true_eq, Bool.false_eq_true, XF,
  Bool.or_true, bne_self_eq_false, isT_dict_non, isT_dict_bl, isT_dict_int, isT_dict_str, isT_dict_tup, isT_dict_lst, isT_list_non, isT_list_bl, isT_list_int, isT_list_str, isT_list_tup, isT_list_lst, isT_tuple_non, isT_tuple_bl, isT_tuple_int, isT_tuple_str, isT_tuple_tup, isT_tuple_lst, isT_bool_non, isT_bool_bl, isT_bool_int, isT_bool_str, isT_bool_tup, isT_bool_lst, isT_str_non, isT_str_bl, isT_str_int, isT_str_str, isT_str_tup, isT_str_lst, isT_int_non, isT_int_bl, isT_int_int, isT_int_str, isT_int_tup, isT_int_lst,
  atI0, atI1, atI2, atI3, atI4, ixN51, ixN52, ixN53, ixN54, *])
local macro_rules | `(tactic| walk_at "lf") => `(tactic| ((repeat' (with_reducible apply And.intro)) <;> first | exact mulR (by decide) (by decide) | exact pow1018 | exact pow3 (by omega) | exact divB (by omega) (by omega) | exact Int.emod_nonneg _ (by omega) | exact Int.emod_lt_of_pos _ (by omega) | exact Int.ediv_nonneg (by omega) (by omega) | omega | decide | assumption | skip))
local macro_rules | `(tactic| walk_at "vn") => `(tactic| simp (maxSteps := 400000) only [tSeqD, tEitD, tEitS, tRevD, tRepD, tNewT, tPutT, gListT, gGcd3, gLt2, tFgtD, tIfSD, tRetD, retD, tSetD, tSetV, tVarD, tConD, tOpD, tUnD, tCaD, tCallD, tConsD, tNilD, tTupD, tLstD, tValD, tAndD, tOrD, tNotD, tIfD, tAndDV, tOrDV, tNotDV, tAsgD, tParD, tPar3D, tNamG, tTupG, tNilG, tConsG, tUnlG, tDropD, tNextD, tBrkD, tCntD, tNeverD, tStoD, tMetD, tSlLD, tNoPartD, tPartD, tChD, tIsiD, tIsiTD, tIsi3D, tFrzD, q0, tYesD, wipeD,
  gI0, gII, gIB, gAdd, gU, gEq, gIx, gIsN, gLen, gInt, gAbs, gBool, gList, gTupC, mAppend, mPop, mPopAt, mInsert, mReverse, rd, rds, vl, vls, slR, nob, mkArgs, bors, putOwns, edOf, outsP, noR,
  List.getElem?_cons_zero, List.getElem?_cons_succ, List.getElem?_nil, List.set_cons_zero, List.set_cons_succ, List.cons_append, List.nil_append, List.length_cons, List.length_nil, List.replicate, Nat.add_sub_cancel, Nat.sub_self, Nat.reduceAdd, Nat.reduceSub, Int.reduceToNat, Int.reducePow, Int.reduceNeg, Int.reduceAdd, Int.reduceSub, Int.reduceMul, id_eq, true_and, and_true, List.nodup_nil, if_true, if_false, List.nodup_cons, List.not_mem_nil, not_false_eq_true, Bool.not_true, Bool.not_false, Bool.true_or, Bool.or_false, Bool.false_or, decide_eq_true_eq, Bool.false_eq_true, XF,
  Bool.or_true, bne_self_eq_false, isT_dict_non, isT_dict_bl, isT_dict_int, isT_dict_str, isT_dict_tup, isT_dict_lst, isT_list_non, isT_list_bl, isT_list_int, isT_list_str, isT_list_tup, isT_list_lst, isT_tuple_non, isT_tuple_bl, isT_tuple_int, isT_tuple_str, isT_tuple_tup, isT_tuple_lst, isT_bool_non, isT_bool_bl, isT_bool_int, isT_bool_str, isT_bool_tup, isT_bool_lst, isT_str_non, isT_str_bl, isT_str_int, isT_str_str, isT_str_tup, isT_str_lst, isT_int_non, isT_int_bl, isT_int_int, isT_int_str, isT_int_tup, isT_int_lst,
  atI0, atI1, atI2, atI3, atI4, ixN51, ixN52, ixN53, ixN54])

theorem atI_end {α : Type} (xs : List α) (x y : α) : atI (xs ++ [x, y]) (-2) = some x ∧ atI (xs ++ [x, y]) (-1) = some y := by
  constructor
  · unfold atI ixN
    rw [if_neg (by omega), if_pos (by simp; omega)]
    have : (-2 + ((xs ++ [x, y]).length : Int)).toNat = xs.length := by simp; omega
    simp only [Option.bind_some, this]
    simp
  · unfold atI ixN
    rw [if_neg (by omega), if_pos (by simp; omega)]
    have : (-1 + ((xs ++ [x, y]).length : Int)).toNat = xs.length + 1 := by simp; omega
    simp only [Option.bind_some, this]
    simp
theorem rim_snoc (p : P3) : ∀ (l st : List P3), rimT st (l ++ [p]) = p :: popT p (rimT st l)
  | [], _ => rfl
  | q :: l, st => rim_snoc p l (q :: popT q st)
theorem pop_sub (p : P3) : ∀ st : List P3, ∀ x ∈ popT p st, x ∈ st
  | [], _, h => h
  | [a], _, h => h
  | b :: a :: r, x, h => by
    rw [popT] at h
    split at h
    · exact List.mem_cons_of_mem _ (pop_sub p (a :: r) x h)
    · exact h
theorem rim_sub : ∀ (l st : List P3), ∀ x ∈ rimT st l, x ∈ st ∨ x ∈ l
  | [], _, x, h => .inl h
  | p :: l, st, x, h => by
    rcases rim_sub l (p :: popT p st) x h with h | h
    · rcases List.mem_cons.mp h with h | h
      · exact .inr (by simp [h])
      · exact .inl (pop_sub p st x h)
    · exact .inr (List.mem_cons_of_mem _ h)
theorem pop_len (p : P3) : ∀ st : List P3, (popT p st).length ≤ st.length
  | [] => Nat.le_refl _
  | [a] => Nat.le_refl _
  | b :: a :: r => by
    rw [popT]
    split
    · have := pop_len p (a :: r)
      simp only [List.length_cons] at this ⊢
      omega
    · exact Nat.le_refl _
theorem rim_len : ∀ (l st : List P3), (rimT st l).length ≤ st.length + l.length
  | [], _ => Nat.le_refl _
  | p :: l, st => by
    have h1 := rim_len l (p :: popT p st)
    have h2 := pop_len p st
    show (rimT (p :: popT p st) l).length ≤ _
    simp only [List.length_cons] at h1 ⊢
    omega
def sp_rim_along : Spc := fun args Φ _ => ∃ ps : List P3, args = [.val (.lst (ps.map dP))] ∧ ps.length ≤ 1000 ∧ (∀ p ∈ ps, Bh p) ∧ ∀ a, Φ (.own a (.lst ((lowerL ps).map dP))) []
/-- slots: 0 row, 1 kept, 2 p -/
def T_rim_along : TDs :=
  (tSeqD (tSetD 1 (tLstD tNilD))
  (tCutD (tForLD (tVarD 0) (tNamG 2) (tCutD (tWhileD (tAndD (tValD (tOpD (gIB fun i j => decide (j < i)) (tCaD gLen (tConsD (tVarD 1) tNilD)) (tConD (.int 1)))) (tValD (tOpD (gIB fun i j => decide (i ≤ j)) (tCallD 3 (q0 sp_left_turn) (tConsD (tOpD gIx (tVarD 1) (tUnD (gU fun i => -i) (tConD (.int 2)))) (tConsD (tOpD gIx (tVarD 1) (tUnD (gU fun i => -i) (tConD (.int 1)))) (tConsD (tVarD 2) tNilD)))) (tConD (.int 0))))) (tDropD (tMetD 1 mPop tNilD)))
  (tDropD (tMetD 1 mAppend (tConsD (tVarD 2) tNilD)))))
  (tRetD (tVarD 1))))
theorem rd_rim_along {args : En} {Φ : Res → List D → Prop} {Ψ : Xc → List D → Prop} (h : sp_rim_along args Φ Ψ) : T_rim_along (edOf args Φ XN) (noR ["row", "kept", "p"] args) := by
  obtain ⟨ps, rfl, hl, hb, h⟩ := h
  unfold T_rim_along
  generalize hS : Sl.val (D.lst (ps.map dP)) = S
  walk_at "vs"
  refine ⟨sz1000 (by decide), fun a => ?_⟩
  refine ⟨fun en => ∃ e2, en = [S, .own a (.lst ((lowerL ps).map dP)), e2], ?_, ?_⟩
  · refine forL_i (fun i en => ∃ e2, en = [S, .own a (.lst ((lowerL (ps.take i)).map dP)), e2]) (en1 := [S, .own a (.lst []), .no]) (ds := ps.map dP) (fun Φ z => ?_) ⟨_, rfl⟩ ?_ ?_
    · subst hS
      walk_at "vs"
      exact z
    · rintro i d _ hd ⟨e2, rfl⟩
      obtain ⟨p, hp, rfl⟩ := get_map hd
      have bp := hb p (List.mem_of_getElem? hp)
      have e1 : ps.take (i + 1) = ps.take i ++ [p] := by rw [List.take_succ, hp]; rfl
      have hsub : ∀ x ∈ rimT [] (ps.take i), Bh x := fun x hx => by
        rcases rim_sub _ _ x hx with h | h
        · cases h
        · exact hb x (List.mem_of_mem_take h)
      have hlen : (rimT [] (ps.take i)).length ≤ 1000 := by
        have := rim_len (ps.take i) []
        rw [List.length_take] at this
        simp at this
        omega
      have ge : lowerL (ps.take (i + 1)) = (p :: popT p (rimT [] (ps.take i))).reverse := by
        unfold lowerL
        rw [e1, rim_snoc]
      rw [ge]
      unfold lowerL
      generalize rimT [] (ps.take i) = st0 at *
      show tCutD _ _ _ _
      refine ⟨fun en => en = [S, .own a (.lst ((popT p st0).reverse.map dP)), .val (dP p)], ?_, ?_⟩
      · refine ⟨fun m en => ∃ st, en = [S, .own a (.lst (st.reverse.map dP)), .val (dP p)] ∧ m = st.length ∧ popT p st = popT p st0 ∧ (∀ x ∈ st, Bh x) ∧ st.length ≤ 1000, ⟨_, st0, rfl, rfl, rfl, hsub, hlen⟩, ?_⟩
        rintro m _ ⟨st, rfl, rfl, hpop, hst, hsl⟩
        match st, hpop, hst, hsl with
        | [], hpop, _, _ =>
          walk_at "vs"
          rw [if_neg (by simp)]
          try walk_at "vs"
          rw [← hpop]
          rfl
        | [b], hpop, _, _ =>
          walk_at "vs"
          rw [if_neg (by simp)]
          try walk_at "vs"
          rw [← hpop]
          rfl
        | b :: x :: r, hpop, hst, hsl =>
          have er : (b :: x :: r).reverse.map dP = r.reverse.map dP ++ [dP x, dP b] := by simp
          obtain ⟨A1, A2⟩ := atI_end (r.reverse.map dP) (dP x) (dP b)
          rw [er]
          unfold sp_left_turn sp__law_turn
          walk_at "vh"
          rw [if_pos (by simp; omega)]
          refine ⟨x, b, p, rfl, hst x (by simp), hst b (by simp), bp, ?_⟩
          rw [popT] at hpop
          by_cases t : turnI x b p ≤ 0
          · rw [if_pos t] at hpop ⊢
            have g : (r.reverse.map dP ++ [dP x, dP b])[(r.reverse.map dP ++ [dP x, dP b]).length - 1]? = some (dP b) := by simp
            rw [g]
            try walk_at "vs"
            refine ⟨(x :: r).length, by simp, x :: r, ?_, rfl, hpop, fun y hy => hst y (List.mem_cons_of_mem _ hy), by simp at hsl ⊢; omega⟩
            simp
          · rw [if_neg t] at hpop ⊢
            try walk_at "vs"
            rw [← hpop]
            simp
      rintro _ rfl
      walk_at "vs"
      refine ⟨sz1001 (by have := pop_len p st0; rw [List.length_map, List.length_reverse]; omega), ?_⟩
      simp
    · rintro _ ⟨e2, rfl⟩
      rw [List.length_map, List.take_length]
      exact ⟨e2, rfl⟩
  rintro _ ⟨e2, rfl⟩
  subst hS
  walk_at "vs"
  exact h a
section
variable {ti : TDe} {tG : TDg} {tt : TDt} {te : TDe} {vs : List Nat} {Ψ : Px} {en en1 : En} {Φ : Res → En → Prop} {ds : List D}
theorem lcT_map {f : D → D} (hl : ds.length ≤ 1000000) (hti : ∀ Φ : Res → En → Prop, Φ (.val (.tup ds)) en → ti Ψ en Φ) (hw : wipeD en vs = en)
    (step : ∀ d acc (J : List D → En → Prop), d ∈ ds → acc.length < sizeLine → J (acc ++ [f d]) en → lcStep tG tt te vs J d acc en) (fin : ∀ p, Φ (.own p (.lst (ds.map f))) en) : tLcT ti tG tt te vs Ψ en Φ :=
  lcT_i (fun i acc e => e = en ∧ acc = (ds.take i).map f) hti hw ⟨rfl, rfl⟩ (fun i d acc e hd ⟨h1, h2⟩ => by
    subst h1 h2
    have hi := (List.getElem?_eq_some_iff.mp hd).1
    refine step d _ _ (List.mem_of_getElem? hd) (sz1001 (by rw [List.length_map, List.length_take]; omega)) ⟨rfl, ?_⟩
    rw [List.take_succ, hd]
    simp) (fun acc e p ⟨h1, h2⟩ => by subst h1 h2; rw [List.take_length]; exact fin p)
end
theorem cut_last (xs : List P3) : cutD (xs.map dP) none (some (-1)) = xs.dropLast.map dP := by
  rw [cut_map]
  unfold cutG
  rw [HT.sIx_none]
  have e : HT.sIx xs.length xs.length (some (-1)) = xs.length - 1 := by
    unfold HT.sIx
    simp
    omega
  rw [e, List.drop_zero, Nat.sub_zero, List.dropLast_eq_take]
def lowF : D → D
  | .tup [.int x, .int y, .int w] => dP (lowI (x, y, w))
  | _ => .non
def HullOf (ps : List P3) (L : List P3) : Prop := ∃ v t, IsHull (fun x => x ∈ ps.map lowI) L v t
def sp_hull_corners : Spc := fun args Φ _ => ∃ (ps : List P3) (s : D), args = [.val s] ∧ (s = .lst (ps.map dP) ∨ s = .tup (ps.map dP)) ∧ ps ≠ [] ∧ ps.length ≤ 500 ∧ (∀ p ∈ ps, Bh p) ∧ ∀ (a : Addr) (L : List P3), HullOf ps L → L.length ≤ 2 * ps.length → Φ (.own a (.lst (L.map dP))) []
/-- slots: 0 points, 1 row, 2 lower, 3 upper, 4 x, 5 y, 6 w -/
def T_hull_corners : TDs :=
  (tCutD (tSetD 1 (tCallD 1 (q0 sp_in_order) (tConsD (tEitD (tLcL (tVarD 0) (tTupG 3 (tConsG (tNamG 4) (tConsG (tNamG 5) (tConsG (tNamG 6) tNilG)))) tYesD (tCallD 3 (q0 sp_point_of) (tConsD (tVarD 4) (tConsD (tVarD 5) (tConsD (tVarD 6) tNilD)))) [4, 5, 6]) (tLcT (tVarD 0) (tTupG 3 (tConsG (tNamG 4) (tConsG (tNamG 5) (tConsG (tNamG 6) tNilG)))) tYesD (tCallD 3 (q0 sp_point_of) (tConsD (tVarD 4) (tConsD (tVarD 5) (tConsD (tVarD 6) tNilD)))) [4, 5, 6])) tNilD)))
  (tCutD (tIfSD (tValD (tOpD (gIB fun i j => decide (i < j)) (tCaD gLen (tConsD (tVarD 1) tNilD)) (tConD (.int 3)))) (tRetD (tVarD 1)) tNextD)
  (tFrzD 1 (tCutD (tSetV 2 (tCallD 1 (q0 sp_rim_along) (tConsD (tVarD 1) tNilD)))
  (tCutD (tSetV 3 (tCallD 1 (q0 sp_rim_along) (tConsD (tRevD (tVarD 1)) tNilD)))
  (tRetD (tOpD gAdd (tSlLD (tVarD 2) tNoPartD (tPartD (tUnD (gU fun i => -i) (tConD (.int 1))))) (tSlLD (tVarD 3) tNoPartD (tPartD (tUnD (gU fun i => -i) (tConD (.int 1))))))))))))
theorem rd_hull_corners {args : En} {Φ : Res → List D → Prop} {Ψ : Xc → List D → Prop} (h : sp_hull_corners args Φ Ψ) : T_hull_corners (edOf args Φ XN) (noR ["points", "row", "lower", "upper", "x", "y", "w"] args) := by
  obtain ⟨ps, s, rfl, hs, hne, hl, hb, h⟩ := h
  unfold T_hull_corners
  refine ⟨fun en => ∃ (a : Addr) (rs : List P3), en = [.val s, .own a (.lst (rs.map dP)), .no, .no, .no, .no, .no] ∧ Srt rs ∧ (∀ x, x ∈ rs ↔ x ∈ ps.map lowI) ∧ rs.length ≤ ps.length, ?_, ?_⟩
  · have step : ∀ d acc (J : List D → En → Prop), d ∈ ps.map dP → acc.length < sizeLine → J (acc ++ [lowF d]) [.val s, .no, .no, .no, .no, .no, .no] →
        lcStep (tTupG 3 (tConsG (tNamG 4) (tConsG (tNamG 5) (tConsG (tNamG 6) tNilG)))) tYesD (tCallD 3 (q0 sp_point_of) (tConsD (tVarD 4) (tConsD (tVarD 5) (tConsD (tVarD 6) tNilD)))) [4, 5, 6] J d acc [.val s, .no, .no, .no, .no, .no, .no] := fun d acc J hd hacc hJ => by
      obtain ⟨p, hp, rfl⟩ := List.mem_map.mp hd
      have e : lowF (dP p) = dP (lowI p) := rfl
      rw [e] at hJ
      unfold lcStep sp_point_of sp__law_lowest
      have ed : dP p = .tup [.int p.1, .int p.2.1, .int p.2.2] := rfl
      rw [ed]
      walk_at "vs"
      exact ⟨p, rfl, hb p hp, hacc, hJ⟩
    have em : (ps.map dP).map lowF = (ps.map lowI).map dP := by
      rw [List.map_map, List.map_map]
      rfl
    have fin : ∀ q : Addr, ∃ ps_1 : List P3, ([.val (.lst ((ps.map dP).map lowF))] : En) = [.val (.lst (ps_1.map dP))] ∧ ps_1.length ≤ 1000 ∧ (∀ p ∈ ps_1, LowP p ∧ Bh p) ∧ ∀ (a : Addr) (rs : List P3), Srt rs → (∀ x, x ∈ rs ↔ x ∈ ps_1) → rs.length ≤ ps_1.length →
        ∃ (a_1 : Addr) (rs_1 : List P3), ([.val s, .own a (.lst (rs.map dP)), .no, .no, .no, .no, .no] : En) = [.val s, .own a_1 (.lst (rs_1.map dP)), .no, .no, .no, .no, .no] ∧ Srt rs_1 ∧ (∀ x, x ∈ rs_1 ↔ x ∈ ps.map lowI) ∧ rs_1.length ≤ ps.length := fun q =>
      ⟨ps.map lowI, by rw [em], by rw [List.length_map]; omega, fun x hx => by
        obtain ⟨p, hp, rfl⟩ := List.mem_map.mp hx
        exact ⟨low_low (hb p hp).w, (hb p hp).low⟩, fun a rs h1 h2 h3 => ⟨a, rs, rfl, h1, h2, by rw [List.length_map] at h3; exact h3⟩⟩
    unfold sp_in_order
    walk_at "vs"
    rcases hs with rfl | rfl
    · refine .inl (lcL_map (f := lowF) (ds := ps.map dP) (by rw [List.length_map]; omega) (fun Φ z => by walk_at "vs"; exact z) rfl step fun q => ?_)
      walk_at "vs"
      exact fin q
    · refine .inr (lcT_map (f := lowF) (ds := ps.map dP) (by rw [List.length_map]; omega) (fun Φ z => by walk_at "vs"; exact z) rfl step fun q => ?_)
      walk_at "vs"
      exact fin q
  rintro _ ⟨a, rs, rfl, srt, hm, hn⟩
  have hset : (fun x => x ∈ rs) = fun x => x ∈ ps.map lowI := by
    funext x
    exact propext (hm x)
  have hrb : ∀ x ∈ rs, LowP x ∧ Bh x := fun x hx => by
    obtain ⟨p, hp, rfl⟩ := List.mem_map.mp ((hm x).mp hx)
    exact ⟨low_low (hb p hp).w, (hb p hp).low⟩
  have rne : rs ≠ [] := fun e => by
    obtain ⟨p, hp⟩ := List.exists_mem_of_ne_nil _ hne
    have := (hm (lowI p)).mpr (List.mem_map.mpr ⟨p, hp, rfl⟩)
    rw [e] at this
    cases this
  obtain ⟨v, t, hh⟩ := hull_ok srt (fun p hp => (hrb p hp).1.w) rne
  rw [hset] at hh
  have hlen1 : (lowerL rs).length ≤ rs.length := by
    unfold lowerL
    rw [List.length_reverse]
    simpa using rim_len rs []
  have hlen2 : (lowerL rs.reverse).length ≤ rs.length := by
    unfold lowerL
    rw [List.length_reverse]
    simpa using rim_len rs.reverse []
  refine ⟨fun en => en = [.val s, .own a (.lst (rs.map dP)), .no, .no, .no, .no, .no] ∧ ¬ rs.length < 3, ?_, ?_⟩
  · walk_at "vs"
    rw [List.length_map]
    split
    · rename_i z
      have e : hullL rs = rs := by
        unfold hullL
        rw [if_pos (by omega)]
      rw [e] at hh
      exact h a rs ⟨v, t, hh⟩ (by omega)
    · rename_i z
      omega
  rintro _ ⟨rfl, h3⟩
  have e : hullL rs = (lowerL rs).dropLast ++ (lowerL rs.reverse).dropLast := by
    unfold hullL
    rw [if_neg h3]
  rw [e] at hh
  show tFrzD _ _ _ _
  walk_at "vs"
  refine ⟨fun en => en = [.val s, .val (.lst (rs.map dP)), .val (.lst ((lowerL rs).map dP)), .no, .no, .no, .no], ?_, ?_⟩
  · unfold sp_rim_along
    walk_at "vs"
    exact ⟨rs, rfl, by omega, fun p hp => (hrb p hp).2, fun _ => rfl⟩
  rintro _ rfl
  refine ⟨fun en => en = [.val s, .val (.lst (rs.map dP)), .val (.lst ((lowerL rs).map dP)), .val (.lst ((lowerL rs.reverse).map dP)), .no, .no, .no], ?_, ?_⟩
  · unfold sp_rim_along
    walk_at "vs"
    exact fun _ => ⟨rs.reverse, by rw [List.map_reverse], by rw [List.length_reverse]; omega, fun p hp => (hrb p (by simpa using hp)).2, fun _ => rfl⟩
  rintro _ rfl
  walk_at "vs"
  rw [cut_last, cut_last]
  intro p1 p2
  refine ⟨sz1000 (by rw [List.length_map, List.length_map, List.length_dropLast, List.length_dropLast]; omega), fun p3 => ?_⟩
  rw [← List.map_append]
  exact h p3 _ ⟨v, t, hh⟩ (by rw [List.length_append, List.length_dropLast, List.length_dropLast]; omega)
end VS

namespace VS
open PySem L2 PySem.Spec PyProof.Rows
local macro_rules | `(tactic| walk_at "vs") => `(tactic| simp (maxSteps := 400000) only [tSeqD, tEitD, tEitS, tRevD, tRepD, tNewT, tPutT, gListT, gGcd3, gLt2, tFgtD, tIfSD, tRetD, retD, tSetD, tSetV, tVarD, tConD, tOpD, tUnD, tCaD, tCallD, tConsD, tNilD, tTupD, tLstD, tValD, tAndD, tOrD, tNotD, tIfD, tAndDV, tOrDV, tNotDV, tAsgD, tParD, tPar3D, tNamG, tTupG, tNilG, tConsG, tUnlG, tDropD, tNextD, tBrkD, tCntD, tNeverD, tStoD, tMetD, tSlLD, tNoPartD, tPartD, tChD, tIsiD, tIsiTD, tIsi3D, tFrzD, q0, tYesD, wipeD,
  gI0, gII, gIB, gAdd, gU, gEq, gIx, gIsN, gLen, gInt, gAbs, gBool, gList, gTupC, mAppend, mPop, mPopAt, mInsert, mReverse, rd, rds, vl, vls, slR, nob, mkArgs, bors, putOwns, edOf, outsP, noR, shD, eqD,
  List.getElem?_cons_zero, List.getElem?_cons_succ, List.getElem?_nil, List.set_cons_zero, List.set_cons_succ, List.cons_append, List.nil_append, List.length_cons, List.length_nil, List.replicate, Nat.add_sub_cancel, Nat.sub_self, Nat.reduceAdd, Nat.reduceSub, Int.reduceToNat, Int.reducePow, Int.reduceNeg, Int.reduceAdd, Int.reduceSub, Int.reduceMul, id_eq, true_and, and_true, List.nodup_nil, if_true, if_false, List.nodup_cons, List.not_mem_nil, not_false_eq_true, Bool.not_true, Bool.not_false, Bool.true_or, Bool.or_false, Bool.false_or, decide_eq_true_eq, Bool.false_eq_true, XF,
  Bool.or_true, bne_self_eq_false, isT_dict_non, isT_dict_bl, isT_dict_int, isT_dict_str, isT_dict_tup, isT_dict_lst, isT_list_non, isT_list_bl, isT_list_int, isT_list_str, isT_list_tup, isT_list_lst, isT_tuple_non, isT_tuple_bl, isT_tuple_int, isT_tuple_str, isT_tuple_tup, isT_tuple_lst, isT_bool_non, isT_bool_bl, isT_bool_int, isT_bool_str, isT_bool_tup, isT_bool_lst, isT_str_non, isT_str_bl, isT_str_int, isT_str_str, isT_str_tup, isT_str_lst, isT_int_non, isT_int_bl, isT_int_int, isT_int_str, isT_int_tup, isT_int_lst,
  atI0, atI1, atI2, atI3, atI4, ixN51, ixN52, ixN53, ixN54])
local macro_rules | `(tactic| walk_at "vh") => `(tactic| simp (maxSteps := 400000) only [tSeqD, tEitD, tEitS, tRevD, tRepD, tNewT, tPutT, gListT, gGcd3, gLt2, tFgtD, tIfSD, tRetD, retD, tSetD, tSetV, tVarD, tConD, tOpD, tUnD, tCaD, tCallD, tConsD, tNilD, tTupD, tLstD, tValD, tAndD, tOrD, tNotD, tIfD, tAndDV, tOrDV, tNotDV, tAsgD, tParD, tPar3D, tNamG, tTupG, tNilG, tConsG, tUnlG, tDropD, tNextD, tBrkD, tCntD, tNeverD, tStoD, tMetD, tSlLD, tNoPartD, tPartD, tChD, tIsiD, tIsiTD, tIsi3D, tFrzD, q0, tYesD, wipeD,
  gI0, gII, gIB, gAdd, gU, gEq, gIx, gIsN, gLen, gInt, gAbs, gBool, gList, gTupC, mAppend, mPop, mPopAt, mInsert, mReverse, rd, rds, vl, vls, slR, nob, mkArgs, bors, putOwns, edOf, outsP, noR, shD, eqD,
  List.getElem?_cons_zero, List.getElem?_cons_succ, List.getElem?_nil, List.set_cons_zero, List.set_cons_succ, List.cons_append, List.nil_append, List.length_cons, List.length_nil, List.replicate, Nat.add_sub_cancel, Nat.sub_self, Nat.reduceAdd, Nat.reduceSub, Int.reduceToNat, Int.reducePow, Int.reduceNeg, Int.reduceAdd, Int.reduceSub, Int.reduceMul, id_eq, true_and, and_true, List.nodup_nil, if_true, if_false, List.nodup_cons, List.not_mem_nil, not_false_eq_true, Bool.not_true, Bool.not_false, Bool.true_or, Bool.or_false, Bool.false_or, decide_eq_true_eq, Bool.false_eq_true, XF,
  Bool.or_true, bne_self_eq_false, isT_dict_non, isT_dict_bl, isT_dict_int, isT_dict_str, isT_dict_tup, isT_dict_lst, isT_list_non, isT_list_bl, isT_list_int, isT_list_str, isT_list_tup, isT_list_lst, isT_tuple_non, isT_tuple_bl, isT_tuple_int, isT_tuple_str, isT_tuple_tup, isT_tuple_lst, isT_bool_non, isT_bool_bl, isT_bool_int, isT_bool_str, isT_bool_tup, isT_bool_lst, isT_str_non, isT_str_bl, isT_str_int, isT_str_str, isT_str_tup, isT_str_lst, isT_int_non, isT_int_bl, isT_int_int, isT_int_str, isT_int_tup, isT_int_lst,
  atI0, atI1, atI2, atI3, atI4, ixN51, ixN52, ixN53, ixN54, *])
local macro_rules | `(tactic| walk_at "lf") => `(tactic| ((repeat' (with_reducible apply And.intro)) <;> first | exact mulR (by decide) (by decide) | exact pow1018 | exact pow3 (by omega) | exact divB (by omega) (by omega) | exact Int.emod_nonneg _ (by omega) | exact Int.emod_lt_of_pos _ (by omega) | exact Int.ediv_nonneg (by omega) (by omega) | omega | decide | assumption | skip))
local macro_rules | `(tactic| walk_at "vn") => `(tactic| simp (maxSteps := 400000) only [tSeqD, tEitD, tEitS, tRevD, tRepD, tNewT, tPutT, gListT, gGcd3, gLt2, tFgtD, tIfSD, tRetD, retD, tSetD, tSetV, tVarD, tConD, tOpD, tUnD, tCaD, tCallD, tConsD, tNilD, tTupD, tLstD, tValD, tAndD, tOrD, tNotD, tIfD, tAndDV, tOrDV, tNotDV, tAsgD, tParD, tPar3D, tNamG, tTupG, tNilG, tConsG, tUnlG, tDropD, tNextD, tBrkD, tCntD, tNeverD, tStoD, tMetD, tSlLD, tNoPartD, tPartD, tChD, tIsiD, tIsiTD, tIsi3D, tFrzD, q0, tYesD, wipeD,
  gI0, gII, gIB, gAdd, gU, gEq, gIx, gIsN, gLen, gInt, gAbs, gBool, gList, gTupC, mAppend, mPop, mPopAt, mInsert, mReverse, rd, rds, vl, vls, slR, nob, mkArgs, bors, putOwns, edOf, outsP, noR,
  List.getElem?_cons_zero, List.getElem?_cons_succ, List.getElem?_nil, List.set_cons_zero, List.set_cons_succ, List.cons_append, List.nil_append, List.length_cons, List.length_nil, List.replicate, Nat.add_sub_cancel, Nat.sub_self, Nat.reduceAdd, Nat.reduceSub, Int.reduceToNat, Int.reducePow, Int.reduceNeg, Int.reduceAdd, Int.reduceSub, Int.reduceMul, id_eq, true_and, and_true, List.nodup_nil, if_true, if_false, List.nodup_cons, List.not_mem_nil, not_false_eq_true, Bool.not_true, Bool.not_false, Bool.true_or, Bool.or_false, Bool.false_or, decide_eq_true_eq, Bool.false_eq_true, XF,
  Bool.or_true, bne_self_eq_false, isT_dict_non, isT_dict_bl, isT_dict_int, isT_dict_str, isT_dict_tup, isT_dict_lst, isT_list_non, isT_list_bl, isT_list_int, isT_list_str, isT_list_tup, isT_list_lst, isT_tuple_non, isT_tuple_bl, isT_tuple_int, isT_tuple_str, isT_tuple_tup, isT_tuple_lst, isT_bool_non, isT_bool_bl, isT_bool_int, isT_bool_str, isT_bool_tup, isT_bool_lst, isT_str_non, isT_str_bl, isT_str_int, isT_str_str, isT_str_tup, isT_str_lst, isT_int_non, isT_int_bl, isT_int_int, isT_int_str, isT_int_tup, isT_int_lst,
  atI0, atI1, atI2, atI3, atI4, ixN51, ixN52, ixN53, ixN54])

def keyP (p : P3) : List Key := [.inl p.1, .inl p.2.1, .inl p.2.2]
theorem keyT_dP (p : P3) : keyT (dP p) = some (keyP p) := rfl
theorem keyP_inj {p q : P3} (h : keyP p = keyP q) : p = q := by
  obtain ⟨a, b, c⟩ := p
  obtain ⟨d, e, f⟩ := q
  simp only [keyP, List.cons.injEq, Sum.inl.injEq, and_true] at h
  simp [h]
def seenD (qs : List P3) : D := .dct true (qs.map dP) (qs.map fun _ => .bl true)
theorem dHas_pts (qs : List P3) (p : P3) : dHas (qs.map dP) (keyP p) = decide (p ∈ qs) := by
  induction qs with
  | nil => simp [dHas]
  | cons q r ih =>
    unfold dHas at ih ⊢
    rw [List.map_cons, List.any_cons, ih, keyT_dP]
    by_cases e : q = p
    · subst e
      simp
    · have : ¬ keyP q = keyP p := fun z => e (keyP_inj z)
      simp [this, Ne.symm e]
theorem zip_true (k : List Key) : ∀ qs : List P3, List.zipWith (fun d x => if keyT d = some k then D.bl true else x) (qs.map dP) (qs.map fun _ => .bl true) = qs.map fun _ => .bl true
  | [] => rfl
  | q :: r => by
    simp only [List.map_cons, List.zipWith_cons_cons, zip_true k r]
    split <;> rfl
theorem dPut_pts (qs : List P3) (p : P3) : dPut (qs.map dP) (qs.map fun _ => .bl true) (keyP p) (dP p) (.bl true) = seenD (if p ∈ qs then qs else qs ++ [p]) := by
  unfold dPut seenD
  rw [dHas_pts]
  by_cases e : p ∈ qs
  · rw [if_pos (by simp [e]), if_pos e, zip_true]
  · rw [if_neg (by simp [e]), if_neg e]
    simp
theorem dPut_pts' (qs : List P3) (p : P3) : dPut (qs.map dP) (qs.map fun _ => .bl true) [.inl p.1, .inl p.2.1, .inl p.2.2] (.tup [.int p.1, .int p.2.1, .int p.2.2]) (.bl true) = seenD (if p ∈ qs then qs else qs ++ [p]) := dPut_pts qs p
def sp__law_hull : Spc := fun args Φ _ => ∃ ps : List P3, args = [.val (.lst (ps.map dP))] ∧ ps ≠ [] ∧ ps.length ≤ 900 ∧ (∀ p ∈ ps, Bh p) ∧ ∀ (a : Addr) (L : List P3), HullOf ps L → L.length ≤ ps.length → Φ (.own a (.lst (L.map dP))) []
/-- slots: 0 some, 1 seen, 2 p, 3 rows, 4 first, 5 out, 6 k, 7 best, 8 c, 9 s -/
def T__law_hull : TDs :=
  (tSeqD (tSetD 1 tNewT)
  (tCutD (tForLD (tVarD 0) (tNamG 2) (tPutT 1 (tConD (.bl true)) (tCallD 3 (q0 sp__law_lowest) (tConsD (tOpD gIx (tVarD 2) (tConD (.int 0))) (tConsD (tOpD gIx (tVarD 2) (tConD (.int 1))) (tConsD (tOpD gIx (tVarD 2) (tConD (.int 2))) tNilD))))))
  (tCutD (tSetV 3 (tCaD gListT (tConsD (tVarD 1) tNilD)))
  (tCutD (tSetV 4 (tOpD gIx (tVarD 3) (tConD (.int 0))))
  (tCutD (tForLD (tVarD 3) (tNamG 2) (tIfSD (tValD (tOpD gLt2 (tTupD (tConsD (tOpD (gII CMulA (· * ·)) (tOpD gIx (tVarD 2) (tConD (.int 0))) (tOpD gIx (tVarD 4) (tConD (.int 2)))) (tConsD (tOpD (gII CMulA (· * ·)) (tOpD gIx (tVarD 2) (tConD (.int 1))) (tOpD gIx (tVarD 4) (tConD (.int 2)))) tNilD))) (tTupD (tConsD (tOpD (gII CMulA (· * ·)) (tOpD gIx (tVarD 4) (tConD (.int 0))) (tOpD gIx (tVarD 2) (tConD (.int 2)))) (tConsD (tOpD (gII CMulA (· * ·)) (tOpD gIx (tVarD 4) (tConD (.int 1))) (tOpD gIx (tVarD 2) (tConD (.int 2)))) tNilD))))) (tSetV 4 (tVarD 2)) tNextD))
  (tCutD (tSetD 5 (tLstD (tConsD (tVarD 4) tNilD)))
  (tCutD (tForR1 (tConsD (tCaD gLen (tConsD (tVarD 3) tNilD)) tNilD) (tNamG 6) (tCutD (tParD 7 8 (tConsD (tConD .non) (tConsD (tOpD gIx (tVarD 5) (tUnD (gU fun i => -i) (tConD (.int 1)))) tNilD)))
  (tCutD (tForLD (tVarD 3) (tNamG 2) (tIfSD (tValD (tOpD (gEq not) (tVarD 2) (tVarD 8))) (tCutD (tSetV 9 (tIfD (tValD (tOpD (gIsN id) (tVarD 7) (tConD .non))) (tConD (.int 0)) (tCallD 3 (q0 sp__law_turn) (tConsD (tVarD 8) (tConsD (tVarD 7) (tConsD (tVarD 2) tNilD))))))
  (tIfSD (tOrD (tValD (tOpD (gIsN id) (tVarD 7) (tConD .non))) (tOrD (tValD (tOpD (gIB fun i j => decide (i < j)) (tVarD 9) (tConD (.int 0)))) (tAndD (tValD (tOpD (gEq id) (tVarD 9) (tConD (.int 0)))) (tValD (tOpD (gIB fun i j => decide (j < i)) (tOpD (gII CMulA (· * ·)) (tCallD 2 (q0 sp__law_far) (tConsD (tVarD 8) (tConsD (tVarD 2) tNilD))) (tOpD gIx (tVarD 7) (tConD (.int 2)))) (tOpD (gII CMulA (· * ·)) (tCallD 2 (q0 sp__law_far) (tConsD (tVarD 8) (tConsD (tVarD 7) tNilD))) (tOpD gIx (tVarD 2) (tConD (.int 2))))))))) (tSetV 7 (tVarD 2)) tNextD)) tNextD))
  (tCutD (tIfSD (tOrD (tValD (tOpD (gIsN id) (tVarD 7) (tConD .non))) (tValD (tOpD (gEq id) (tVarD 7) (tVarD 4)))) (tRetD (tVarD 5)) tNextD)
  (tDropD (tMetD 5 mAppend (tConsD (tVarD 7) tNilD)))))))
  (tRetD (tVarD 5)))))))))
theorem rd__law_hull {args : En} {Φ : Res → List D → Prop} {Ψ : Xc → List D → Prop} (h : sp__law_hull args Φ Ψ) : T__law_hull (edOf args Φ XN) (noR ["some", "seen", "p", "rows", "first", "out", "k", "best", "c", "s"] args) := by
  obtain ⟨ps, rfl, hne, hl, hb, h⟩ := h
  unfold T__law_hull
  generalize hS : Sl.val (D.lst (ps.map dP)) = S
  walk_at "vs"
  intro a
  -- the different ones, in lowest terms
  refine ⟨fun en => ∃ (qs : List P3) (e2 : Sl), en = [S, .own a (seenD qs), e2, .no, .no, .no, .no, .no, .no, .no] ∧ (∀ x, x ∈ qs ↔ x ∈ ps.map lowI) ∧ qs.length ≤ ps.length, ?_, ?_⟩
  · refine forL_i (fun i en => ∃ (qs : List P3) (e2 : Sl), en = [S, .own a (seenD qs), e2, .no, .no, .no, .no, .no, .no, .no] ∧ (∀ x, x ∈ qs ↔ x ∈ (ps.take i).map lowI) ∧ qs.length ≤ i) (en1 := [S, .own a (seenD []), .no, .no, .no, .no, .no, .no, .no, .no]) (ds := ps.map dP) (fun Φ z => ?_) ⟨[], _, rfl, by simp, by simp⟩ ?_ ?_
    · subst hS
      walk_at "vs"
      exact z
    · rintro i d _ hd ⟨qs, e2, rfl, hm, hn⟩
      obtain ⟨p, hp, rfl⟩ := get_map hd
      have hi := (List.getElem?_eq_some_iff.mp hp).1
      have bp := hb p (List.mem_of_getElem? hp)
      unfold sp__law_lowest seenD
      have ed : dP p = .tup [.int p.1, .int p.2.1, .int p.2.2] := rfl
      rw [ed]
      walk_at "vs"
      refine ⟨p, rfl, bp, ?_⟩
      rw [keyT_dP]
      simp only
      rw [dPut_pts]
      refine ⟨by rw [List.length_map]; exact sz1001 (by omega), if lowI p ∈ qs then qs else qs ++ [lowI p], _, rfl, fun x => ?_, ?_⟩
      · rw [List.take_succ, hp]
        simp only [Option.toList_some, List.map_append, List.map_cons, List.map_nil, List.mem_append, List.mem_cons, List.not_mem_nil, or_false]
        split
        · rename_i w
          constructor
          · exact fun z => .inl ((hm x).mp z)
          · rintro (z | z)
            · exact (hm x).mpr z
            · rw [z]; exact w
        · rw [List.mem_append, hm x]
          simp
      · split
        · omega
        · rw [List.length_append]
          simp
          omega
    · rintro _ ⟨qs, e2, rfl, hm, hn⟩
      rw [List.length_map] at hm hn
      rw [List.take_length] at hm
      exact ⟨qs, e2, rfl, hm, hn⟩
  rintro _ ⟨qs, e2, rfl, hm, hn⟩
  have qb : ∀ x ∈ qs, LowP x ∧ Bh x := fun x hx => by
    obtain ⟨p, hp, rfl⟩ := List.mem_map.mp ((hm x).mp hx)
    exact ⟨low_low (hb p hp).w, (hb p hp).low⟩
  have qne : qs ≠ [] := fun e => by
    obtain ⟨p, hp⟩ := List.exists_mem_of_ne_nil _ hne
    have := (hm (lowI p)).mpr (List.mem_map.mpr ⟨p, hp, rfl⟩)
    rw [e] at this
    cases this
  have qp : 0 < qs.length := List.length_pos_iff.mpr qne
  obtain ⟨L, v, t, hh⟩ := hull_ex (fun p hp => (qb p hp).1) qne
  have hL := hull_len hh
  have hset : (fun x => x ∈ qs) = fun x => x ∈ ps.map lowI := by
    funext x
    exact propext (hm x)
  have hof : HullOf ps L := ⟨v, t, hset ▸ hh⟩
  have sv : v ∈ qs := hh.mem v (by rw [hh.eq]; simp)
  have Lb : ∀ x ∈ L, LowP x ∧ Bh x := fun x hx => qb x (hh.mem x hx)
  have Lp : 0 < L.length := by rw [hh.eq]; simp
  generalize hDd : Sl.own a (seenD qs) = Dd
  generalize hRw : Sl.val (D.lst (qs.map dP)) = Rw
  refine ⟨fun en => en = [S, Dd, e2, Rw, .no, .no, .no, .no, .no, .no], ?_, ?_⟩
  · subst hDd hRw
    unfold seenD
    walk_at "vs"
    exact fun _ => trivial
  rintro _ rfl
  refine ⟨fun en => en = [S, Dd, e2, Rw, .val (dP (at3 qs 0)), .no, .no, .no, .no, .no], ?_, ?_⟩
  · subst hRw
    have A : atI (qs.map dP) 0 = some (dP (at3 qs 0)) := atI_map (i := 0) (by omega) (by simpa using qp)
    walk_at "vh"
  rintro _ rfl
  -- the least one
  refine ⟨fun en => ∃ e2, en = [S, Dd, e2, Rw, .val (dP v), .no, .no, .no, .no, .no], ?_, ?_⟩
  · refine forL_i (fun i en => ∃ (f : P3) (e2 : Sl), en = [S, Dd, e2, Rw, .val (dP f), .no, .no, .no, .no, .no] ∧ f ∈ qs ∧ ∀ x ∈ qs.take i, x = f ∨ LtP f x) (en1 := [S, Dd, e2, Rw, .val (dP (at3 qs 0)), .no, .no, .no, .no, .no]) (ds := qs.map dP) (fun Φ z => ?_) ⟨_, _, rfl, at3_mem qp, by simp⟩ ?_ ?_
    · subst hRw
      walk_at "vs"
      exact z
    · rintro i d _ hd ⟨f, e2, rfl, hf, hx⟩
      obtain ⟨p, hp, rfl⟩ := get_map hd
      have mp : p ∈ qs := List.mem_of_getElem? hp
      obtain ⟨lp, bp⟩ := qb p mp
      obtain ⟨lf, bf⟩ := qb f hf
      have key : ∀ (B : Bool), (B = true ↔ LtP p f) → ∀ X Y : Prop, (LtP p f → X) → (¬ LtP p f → Y) → if B = true then X else Y := fun B hB X Y h1 h2 => by
        by_cases z : LtP p f
        · rw [if_pos (hB.mpr z)]; exact h1 z
        · rw [if_neg (fun w => z (hB.mp w))]; exact h2 z
      have e0 : dP p = .tup [.int p.1, .int p.2.1, .int p.2.2] := rfl
      have e1 : dP f = .tup [.int f.1, .int f.2.1, .int f.2.2] := rfl
      have tk : ∀ y : P3, (∀ x ∈ qs.take i, x = y ∨ LtP y x) → (p = y ∨ LtP y p) → ∀ x ∈ qs.take (i + 1), x = y ∨ LtP y x := fun y h1 h2 x hx' => by
        rw [List.take_succ, hp] at hx'
        simp only [Option.toList_some, List.mem_append, List.mem_cons, List.not_mem_nil, or_false] at hx'
        rcases hx' with z | z
        · exact h1 x z
        · rw [z]; exact h2
      have fin1 : LtP p f → ∃ (f' : P3) (e2 : Sl), ([S, Dd, .val (dP p), Rw, .val (dP p), .no, .no, .no, .no, .no] : En) = [S, Dd, e2, Rw, .val (dP f'), .no, .no, .no, .no, .no] ∧ f' ∈ qs ∧ ∀ x ∈ qs.take (i + 1), x = f' ∨ LtP f' x := fun w =>
        ⟨p, _, rfl, mp, tk p (fun x hx' => by
          rcases hx x hx' with z | z
          · rw [z]; exact .inr w
          · exact .inr (LtP.trans lp.w lf.w (qb x (List.mem_of_mem_take hx')).1.w w z)) (.inl rfl)⟩
      have fin2 : ¬ LtP p f → ∃ (f' : P3) (e2 : Sl), ([S, Dd, .val (dP p), Rw, .val (dP f), .no, .no, .no, .no, .no] : En) = [S, Dd, e2, Rw, .val (dP f'), .no, .no, .no, .no, .no] ∧ f' ∈ qs ∧ ∀ x ∈ qs.take (i + 1), x = f' ∨ LtP f' x := fun w =>
        ⟨f, _, rfl, hf, tk f hx (by
          rcases low_tot lp lf with z | z | z
          · exact .inl z
          · exact absurd z w
          · exact .inr z)⟩
      rw [e0] at fin1
      rw [e0, e1] at fin2
      rw [e0, e1]
      walk_at "vs"
      obtain ⟨p1, p2, w1, w2⟩ := bp
      obtain ⟨f1, f2, w3, w4⟩ := bf
      refine ⟨mulW (sm p1) w3 w4, mulW (sm p2) w3 w4, sz1000 (by decide), mulW (sm f1) w1 w2, mulW (sm f2) w1 w2, sz1000 (by decide), key _ ?_ _ _ fin1 fin2⟩
      unfold LtP dx dy
      split
      · rw [decide_eq_true_eq]
        omega
      · rw [decide_eq_true_eq]
        omega
    · rintro _ ⟨f, e2, rfl, hf, hx⟩
      rw [List.length_map, List.take_length] at hx
      have : v = f := by
        rcases hx v sv with z | z
        · exact z
        · rcases hh.least f hf with w | w
          · exact w.symm
          · exact absurd w z.asym
      rw [this]
      exact ⟨e2, rfl⟩
  rintro _ ⟨e2, rfl⟩
  generalize hFv : Sl.val (dP v) = Fv
  have L1 : L.take 1 = [v] := by rw [hh.eq]; rfl
  refine ⟨fun en => ∃ o, en = [S, Dd, e2, Rw, Fv, .own o (.lst ((L.take 1).map dP)), .no, .no, .no, .no], ?_, ?_⟩
  · subst hFv
    walk_at "vs"
    rw [L1]
    exact ⟨sz1000 (by decide), fun p => ⟨p, rfl⟩⟩
  rintro _ ⟨o, rfl⟩
  refine ⟨fun en => False, ?_, fun _ z => z.elim⟩
  refine forR1_i (fun k en => k < L.length ∧ ∃ e2 e6 e7 e8 e9 : Sl, en = [S, Dd, e2, Rw, Fv, .own o (.lst ((L.take (k + 1)).map dP)), e6, e7, e8, e9]) (en1 := [S, Dd, e2, Rw, Fv, .own o (.lst ((L.take 1).map dP)), .no, .no, .no, .no]) (n := qs.length) (fun Φ z => ?_) (by omega) (by omega) ⟨Lp, _, _, _, _, _, rfl⟩ ?_ ?_
  · subst hRw
    walk_at "vs"
    rw [List.length_map]
    exact z
  · rintro k _ hk ⟨hkL, e2, e6, e7, e8, e9, rfl⟩
    have mc : at3 L k ∈ L := at3_mem hkL
    have mcq : at3 L k ∈ qs := hh.mem _ mc
    obtain ⟨lc, bc⟩ := Lb _ mc
    have lastc : atI ((L.take (k + 1)).map dP) (-1) = some (dP (at3 L k)) := by
      refine atI_neg1 ?_
      rw [List.length_map, List.length_take, Nat.min_eq_left (by omega), Nat.add_sub_cancel, List.getElem?_map, List.getElem?_take, if_pos (by omega), ← List.getElem?_map]
      exact map_get hkL
    show tCutD _ _ _ _
    refine ⟨fun en => en = [S, Dd, e2, Rw, Fv, .own o (.lst ((L.take (k + 1)).map dP)), .val (.int k), .val .non, .val (dP (at3 L k)), e9], ?_, ?_⟩
    · walk_at "vh"
    rintro _ rfl
    generalize hO : Sl.own o (D.lst ((L.take (k + 1)).map dP)) = O
    -- what the search finds
    have found : (∃ e2 e9 : Sl, ∃ b : D, (b = .non ∧ (∀ q, q ∈ qs → q = v) ∧ L = [v] ∨ ∃ q, b = dP q ∧ Next (fun x => x ∈ qs) (at3 L k) q ∧ q = at3 (L ++ [v]) (k + 1)) ∧ True) → True := fun _ => trivial
    refine ⟨fun en => ∃ (e2 e9 : Sl) (b : D), en = [S, Dd, e2, Rw, Fv, O, .val (.int k), .val b, .val (dP (at3 L k)), e9] ∧ (b = .non ∧ L = [v] ∨ ∃ q, b = dP q ∧ Next (fun x => x ∈ qs) (at3 L k) q ∧ q = at3 (L ++ [v]) (k + 1)), ?_, ?_⟩
    · rcases hh.cyc with ⟨ht, hv⟩ | ⟨ht, hpath, hnv⟩
      · -- one point alone
        have eL : L = [v] := by rw [hh.eq, ht]
        have ec : at3 L k = v := by
          rw [eL] at hkL ⊢
          obtain rfl : k = 0 := by simpa using hkL
          rfl
        rw [ec]
        refine forL_i (fun i en => ∃ e2, en = [S, Dd, e2, Rw, Fv, O, .val (.int k), .val .non, .val (dP v), e9]) (en1 := [S, Dd, e2, Rw, Fv, O, .val (.int k), .val .non, .val (dP v), e9]) (ds := qs.map dP) (fun Φ z => ?_) ⟨_, rfl⟩ ?_ ?_
        · subst hRw
          walk_at "vs"
          exact z
        · rintro i d _ hd ⟨e2, rfl⟩
          obtain ⟨p, hp, rfl⟩ := get_map hd
          have ep : p = v := hv p (List.mem_of_getElem? hp)
          subst ep
          walk_at "vn"
          refine ⟨shD_pt _, shD_pt _, ?_⟩
          rw [eqD_pt]
          simp
        · rintro _ ⟨e2, rfl⟩
          exact ⟨e2, e9, _, rfl, .inl ⟨rfl, eL⟩⟩
      · have hnx : Next (fun x => x ∈ qs) (at3 L k) (at3 (L ++ [v]) (k + 1)) := by
          have := path_at (i := k) hpath (by simp; omega)
          rw [show at3 (L ++ [v]) k = at3 L k by unfold at3; simp [List.getD, List.getElem?_append, hkL]] at this
          exact this
        generalize hC : at3 L k = c at *
        generalize hQ : at3 (L ++ [v]) (k + 1) = q at *
        refine forL_i (fun i en => ∃ (e2 e9 : Sl) (b : D), en = [S, Dd, e2, Rw, Fv, O, .val (.int k), .val b, .val (dP c), e9] ∧ (b = .non ∧ (∀ x ∈ qs.take i, x = c) ∨ ∃ p, b = dP p ∧ p ∈ qs ∧ p ≠ c ∧ (q ∈ qs.take i → p = q))) (en1 := [S, Dd, e2, Rw, Fv, O, .val (.int k), .val .non, .val (dP c), e9]) (ds := qs.map dP) (fun Φ z => ?_) ⟨_, _, _, rfl, .inl ⟨rfl, by simp⟩⟩ ?_ ?_
        · subst hRw
          walk_at "vs"
          exact z
        · rintro i d _ hd ⟨e2, e9, b, rfl, hb'⟩
          obtain ⟨p, hp, rfl⟩ := get_map hd
          have mp : p ∈ qs := List.mem_of_getElem? hp
          obtain ⟨lp, bp⟩ := qb p mp
          have tk : ∀ x, x ∈ qs.take (i + 1) ↔ x ∈ qs.take i ∨ x = p := fun x => by
            rw [List.take_succ, hp]
            simp
          walk_at "vn"
          refine ⟨shD_pt _, shD_pt _, ?_⟩
          rw [eqD_pt]
          by_cases pc : p = c
          · rw [if_neg (by simp [pc])]
            refine ⟨_, _, b, rfl, ?_⟩
            rcases hb' with ⟨e, hx⟩ | ⟨y, e, hy, yc, hx⟩
            · refine .inl ⟨e, fun x hx' => ?_⟩
              rcases (tk x).mp hx' with z | z
              · exact hx x z
              · rw [z]; exact pc
            · refine .inr ⟨y, e, hy, yc, fun hq => ?_⟩
              rcases (tk q).mp hq with z | z
              · exact hx z
              · exact absurd (z.trans pc) hnx.ne
          · rw [if_pos (by simp [pc])]
            have take_p : ∀ e9 : Sl, (q ∈ qs.take (i + 1) → p = q) → ∃ (e2 e9_1 : Sl) (b : D), ([S, Dd, .val (dP p), Rw, Fv, O, .val (.int k), .val (dP p), .val (dP c), e9] : En) = [S, Dd, e2, Rw, Fv, O, .val (.int k), .val b, .val (dP c), e9_1] ∧ (b = .non ∧ (∀ x ∈ qs.take (i + 1), x = c) ∨ ∃ p, b = dP p ∧ p ∈ qs ∧ p ≠ c ∧ (q ∈ qs.take (i + 1) → p = q)) := fun e9 hx =>
              ⟨_, _, _, rfl, .inr ⟨p, rfl, mp, pc, hx⟩⟩
            rcases hb' with ⟨rfl, hx⟩ | ⟨y, rfl, hy, yc, hx⟩
            · refine ⟨fun en => en = [S, Dd, .val (dP p), Rw, Fv, O, .val (.int k), .val .non, .val (dP c), .val (.int 0)], by walk_at "vs", ?_⟩
              rintro _ rfl
              walk_at "vs"
              refine take_p _ fun hq => ?_
              rcases (tk q).mp hq with z | z
              · exact absurd (hx q z) hnx.ne
              · exact z.symm
            · obtain ⟨ly, byy⟩ := qb y hy
              refine ⟨fun en => en = [S, Dd, .val (dP p), Rw, Fv, O, .val (.int k), .val (dP y), .val (dP c), .val (.int (turnI c y p))], ?_, ?_⟩
              · unfold sp__law_turn
                have e : ∀ X Y : Prop, (match dP y with | .non => X | _ => Y) = Y := fun _ _ => rfl
                walk_at "vs"
                exact ⟨c, y, p, rfl, bc, byy, bp, rfl⟩
              rintro _ rfl
              have st := next_step hnx mp pc hy yc
              have keep_y : ¬ (turnI c y p < 0 ∨ turnI c y p = 0 ∧ farI c y * p.2.2 < farI c p * y.2.2) → ∃ (e2 e9_1 : Sl) (b : D), ([S, Dd, .val (dP p), Rw, Fv, O, .val (.int k), .val (dP y), .val (dP c), .val (.int (turnI c y p))] : En) = [S, Dd, e2, Rw, Fv, O, .val (.int k), .val b, .val (dP c), e9_1] ∧ (b = .non ∧ (∀ x ∈ qs.take (i + 1), x = c) ∨ ∃ p, b = dP p ∧ p ∈ qs ∧ p ≠ c ∧ (q ∈ qs.take (i + 1) → p = q)) := fun nT =>
                ⟨_, _, _, rfl, .inr ⟨y, rfl, hy, yc, fun hq => by
                  rcases (tk q).mp hq with z | z
                  · exact hx z
                  · by_cases e : y = q
                    · exact e
                    · exact absurd ((st _ Iff.rfl).2 z.symm e) nT⟩⟩
              have take_y : (turnI c y p < 0 ∨ turnI c y p = 0 ∧ farI c y * p.2.2 < farI c p * y.2.2) → ∃ (e2 e9_1 : Sl) (b : D), ([S, Dd, .val (dP p), Rw, Fv, O, .val (.int k), .val (dP p), .val (dP c), .val (.int (turnI c y p))] : En) = [S, Dd, e2, Rw, Fv, O, .val (.int k), .val b, .val (dP c), e9_1] ∧ (b = .non ∧ (∀ x ∈ qs.take (i + 1), x = c) ∨ ∃ p, b = dP p ∧ p ∈ qs ∧ p ≠ c ∧ (q ∈ qs.take (i + 1) → p = q)) := fun T =>
                take_p _ fun hq => by
                  rcases (tk q).mp hq with z | z
                  · exact absurd T ((st _ Iff.rfl).1 (hx z))
                  · exact z.symm
              have ey : dP y = .tup [.int y.1, .int y.2.1, .int y.2.2] := rfl
              have ep : dP p = .tup [.int p.1, .int p.2.1, .int p.2.2] := rfl
              unfold sp__law_far
              rw [ep] at take_y
              rw [ey, ep] at keep_y ⊢
              walk_at "vs"
              have bp0 := bp
              have by0 := byy
              obtain ⟨_, _, w1, w2⟩ := bp
              obtain ⟨_, _, w3, w4⟩ := byy
              split
              · rename_i z
                exact take_y (.inl z)
              · rename_i z
                split
                · rename_i z2
                  refine ⟨c, p, rfl, bc, bp0, mulW (far_bd bc bp0) w3 w4, c, y, rfl, bc, by0, mulW (far_bd bc by0) w1 w2, ?_⟩
                  split
                  · rename_i z3
                    exact take_y (.inr ⟨z2, z3⟩)
                  · rename_i z3
                    exact keep_y fun w => w.elim z fun w => z3 w.2
                · rename_i z2
                  exact keep_y fun w => w.elim z fun w => z2 w.1
        · rintro _ ⟨e2, e9, b, rfl, hb'⟩
          rw [List.length_map, List.take_length] at hb'
          refine ⟨e2, e9, b, rfl, .inr ?_⟩
          rcases hb' with ⟨e, hx⟩ | ⟨y, e, hy, yc, hx⟩
          · exact absurd (hx q hnx.mem) hnx.ne
          · rw [hx hnx.mem] at e
            exact ⟨q, e, hnx, rfl⟩
    rintro _ ⟨e2, e9, b, rfl, hb'⟩
    subst hO hFv hS
    have done : L.length = k + 1 → Φ (.own o (.lst ((L.take (k + 1)).map dP))) [] := fun e => by
      rw [← e, List.take_length]
      exact h o L hof (by omega)
    rcases hb' with ⟨rfl, eL⟩ | ⟨q, rfl, hnx, hq⟩
    · refine ⟨fun en => False, ?_, fun _ z => z.elim⟩
      walk_at "vs"
      refine done ?_
      rw [eL] at hkL ⊢
      simp at hkL ⊢
      omega
    · have iff : q = v ↔ L.length = k + 1 := by
        constructor
        · intro e
          by_cases z : k + 1 < L.length
          · exfalso
            have e2 : at3 (L ++ [v]) (k + 1) = at3 L (k + 1) := by unfold at3; simp [List.getD, List.getElem?_append, z]
            rcases hh.cyc with ⟨ht, _⟩ | ⟨_, _, hnv⟩
            · rw [hh.eq, ht] at z
              simp at z
            · refine hnv ?_
              rw [← e, hq, e2, hh.eq]
              rw [hh.eq] at z
              exact at3_mem (ps := t) (i := k) (by simpa using z)
          · omega
        · intro e
          rw [hq, ← e]
          unfold at3
          simp [List.getD]
      have eq : dP q = .tup [.int q.1, .int q.2.1, .int q.2.2] := rfl
      have q1 := shD_pt q
      have q2 := eqD_pt q v
      rw [eq] at q1 q2 ⊢
      refine ⟨fun en => en = [.val (.lst (ps.map dP)), Dd, e2, Rw, .val (dP v), .own o (.lst ((L.take (k + 1)).map dP)), .val (.int k), .val (.tup [.int q.1, .int q.2.1, .int q.2.2]), .val (dP (at3 L k)), e9] ∧ ¬ L.length = k + 1, ?_, ?_⟩
      · walk_at "vn"
        refine ⟨q1, shD_pt v, ?_⟩
        rw [q2]
        split
        · rename_i z
          exact done (iff.mp (by simpa using z))
        · rename_i z
          exact fun w => z (by simpa using iff.mpr w)
      rintro _ ⟨rfl, ne⟩
      walk_at "vs"
      refine ⟨by rw [List.length_map, List.length_take]; exact sz1001 (by omega), by omega, e2, .val (.int k), .val (.tup [.int q.1, .int q.2.1, .int q.2.2]), .val (dP (at3 L k)), e9, ?_⟩
      have : L.take (k + 1 + 1) = L.take (k + 1) ++ [q] := by
        have z : k + 1 < L.length := by omega
        have e2 : at3 (L ++ [v]) (k + 1) = at3 L (k + 1) := by unfold at3; simp [List.getD, List.getElem?_append, z]
        rw [List.take_succ (i := k + 1)]
        rw [hq, e2]
        unfold at3
        simp [List.getD, z]
      rw [this, List.map_append]
      rfl
  · rintro _ ⟨hkL, _⟩
    have : ((qs.length : Int)).toNat = qs.length := rfl
    omega
end VS

namespace VS
open PySem L2 PySem.Spec PyProof.Rows
local macro_rules | `(tactic| walk_at "vs") => `(tactic| simp (maxSteps := 400000) only [tSeqD, tEitD, tEitS, tRevD, tRepD, tNewT, tPutT, gListT, gGcd3, gLt2, tFgtD, tIfSD, tRetD, retD, tSetD, tSetV, tVarD, tConD, tOpD, tUnD, tCaD, tCallD, tConsD, tNilD, tTupD, tLstD, tValD, tAndD, tOrD, tNotD, tIfD, tAndDV, tOrDV, tNotDV, tAsgD, tParD, tPar3D, tNamG, tTupG, tNilG, tConsG, tUnlG, tDropD, tNextD, tBrkD, tCntD, tNeverD, tStoD, tMetD, tSlLD, tNoPartD, tPartD, tChD, tIsiD, tIsiTD, tIsi3D, tFrzD, q0, tYesD, wipeD,
  gI0, gII, gIB, gAdd, gU, gEq, gIx, gIsN, gLen, gInt, gAbs, gBool, gList, gTupC, mAppend, mPop, mPopAt, mInsert, mReverse, rd, rds, vl, vls, slR, nob, mkArgs, bors, putOwns, edOf, outsP, noR, shD, eqD,
  List.getElem?_cons_zero, List.getElem?_cons_succ, List.getElem?_nil, List.set_cons_zero, List.set_cons_succ, List.cons_append, List.nil_append, List.length_cons, List.length_nil, List.replicate, Nat.add_sub_cancel, Nat.sub_self, Nat.reduceAdd, Nat.reduceSub, Int.reduceToNat, Int.reducePow, Int.reduceNeg, Int.reduceAdd, Int.reduceSub, Int.reduceMul, id_eq, true_and, and_true, List.nodup_nil, if_true, if_false, List.nodup_cons, List.not_mem_nil, not_false_eq_true, Bool.not_true, Bool.not_false, Bool.true_or, Bool.or_false, Bool.false_or, decide_eq_true_eq, Bool.false_eq_true, XF,
  Bool.or_true, bne_self_eq_false, isT_dict_non, isT_dict_bl, isT_dict_int, isT_dict_str, isT_dict_tup, isT_dict_lst, isT_list_non, isT_list_bl, isT_list_int, isT_list_str, isT_list_tup, isT_list_lst, isT_tuple_non, isT_tuple_bl, isT_tuple_int, isT_tuple_str, isT_tuple_tup, isT_tuple_lst, isT_bool_non, isT_bool_bl, isT_bool_int, isT_bool_str, isT_bool_tup, isT_bool_lst, isT_str_non, isT_str_bl, isT_str_int, isT_str_str, isT_str_tup, isT_str_lst, isT_int_non, isT_int_bl, isT_int_int, isT_int_str, isT_int_tup, isT_int_lst,
  atI0, atI1, atI2, atI3, atI4, ixN51, ixN52, ixN53, ixN54])
local macro_rules | `(tactic| walk_at "vh") => `(tactic| simp (maxSteps := 400000) only [tSeqD, tEitD, tEitS, tRevD, tRepD, tNewT, tPutT, gListT, gGcd3, gLt2, tFgtD, tIfSD, tRetD, retD, tSetD, tSetV, tVarD, tConD, tOpD, tUnD, tCaD, tCallD, tConsD, tNilD, tTupD, tLstD, tValD, tAndD, tOrD, tNotD, tIfD, tAndDV, tOrDV, tNotDV, tAsgD, tParD, tPar3D, tNamG, tTupG, tNilG, tConsG, tUnlG, tDropD, tNextD, tBrkD, tCntD, tNeverD, tStoD, tMetD, tSlLD, tNoPartD, tPartD, tChD, tIsiD, tIsiTD, tIsi3D, tFrzD, q0, tYesD, wipeD,
  gI0, gII, gIB, gAdd, gU, gEq, gIx, gIsN, gLen, gInt, gAbs, gBool, gList, gTupC, mAppend, mPop, mPopAt, mInsert, mReverse, rd, rds, vl, vls, slR, nob, mkArgs, bors, putOwns, edOf, outsP, noR, shD, eqD,
  List.getElem?_cons_zero, List.getElem?_cons_succ, List.getElem?_nil, List.set_cons_zero, List.set_cons_succ, List.cons_append, List.nil_append, List.length_cons, List.length_nil, List.replicate, Nat.add_sub_cancel, Nat.sub_self, Nat.reduceAdd, Nat.reduceSub, Int.reduceToNat, Int.reducePow, Int.reduceNeg, Int.reduceAdd, Int.reduceSub, Int.reduceMul, id_eq, true_and, and_true, List.nodup_nil, if_true, if_false, List.nodup_cons, List.not_mem_nil, not_false_eq_true, Bool.not_true, Bool.not_false, Bool.true_or, Bool.or_false, Bool.false_or, decide_eq_true_eq, Bool.false_eq_true, XF,
  Bool.or_true, bne_self_eq_false, isT_dict_non, isT_dict_bl, isT_dict_int, isT_dict_str, isT_dict_tup, isT_dict_lst, isT_list_non, isT_list_bl, isT_list_int, isT_list_str, isT_list_tup, isT_list_lst, isT_tuple_non, isT_tuple_bl, isT_tuple_int, isT_tuple_str, isT_tuple_tup, isT_tuple_lst, isT_bool_non, isT_bool_bl, isT_bool_int, isT_bool_str, isT_bool_tup, isT_bool_lst, isT_str_non, isT_str_bl, isT_str_int, isT_str_str, isT_str_tup, isT_str_lst, isT_int_non, isT_int_bl, isT_int_int, isT_int_str, isT_int_tup, isT_int_lst,
  atI0, atI1, atI2, atI3, atI4, ixN51, ixN52, ixN53, ixN54, *])
local macro_rules | `(tactic| walk_at "lf") => `(tactic| ((repeat' (with_reducible apply And.intro)) <;> first | exact mulR (by decide) (by decide) | exact pow1018 | exact pow3 (by omega) | exact divB (by omega) (by omega) | exact Int.emod_nonneg _ (by omega) | exact Int.emod_lt_of_pos _ (by omega) | exact Int.ediv_nonneg (by omega) (by omega) | omega | decide | assumption | skip))
local macro_rules | `(tactic| walk_at "vn") => `(tactic| simp (maxSteps := 400000) only [tSeqD, tEitD, tEitS, tRevD, tRepD, tNewT, tPutT, gListT, gGcd3, gLt2, tFgtD, tIfSD, tRetD, retD, tSetD, tSetV, tVarD, tConD, tOpD, tUnD, tCaD, tCallD, tConsD, tNilD, tTupD, tLstD, tValD, tAndD, tOrD, tNotD, tIfD, tAndDV, tOrDV, tNotDV, tAsgD, tParD, tPar3D, tNamG, tTupG, tNilG, tConsG, tUnlG, tDropD, tNextD, tBrkD, tCntD, tNeverD, tStoD, tMetD, tSlLD, tNoPartD, tPartD, tChD, tIsiD, tIsiTD, tIsi3D, tFrzD, q0, tYesD, wipeD,
  gI0, gII, gIB, gAdd, gU, gEq, gIx, gIsN, gLen, gInt, gAbs, gBool, gList, gTupC, mAppend, mPop, mPopAt, mInsert, mReverse, rd, rds, vl, vls, slR, nob, mkArgs, bors, putOwns, edOf, outsP, noR,
  List.getElem?_cons_zero, List.getElem?_cons_succ, List.getElem?_nil, List.set_cons_zero, List.set_cons_succ, List.cons_append, List.nil_append, List.length_cons, List.length_nil, List.replicate, Nat.add_sub_cancel, Nat.sub_self, Nat.reduceAdd, Nat.reduceSub, Int.reduceToNat, Int.reducePow, Int.reduceNeg, Int.reduceAdd, Int.reduceSub, Int.reduceMul, id_eq, true_and, and_true, List.nodup_nil, if_true, if_false, List.nodup_cons, List.not_mem_nil, not_false_eq_true, Bool.not_true, Bool.not_false, Bool.true_or, Bool.or_false, Bool.false_or, decide_eq_true_eq, Bool.false_eq_true, XF,
  Bool.or_true, bne_self_eq_false, isT_dict_non, isT_dict_bl, isT_dict_int, isT_dict_str, isT_dict_tup, isT_dict_lst, isT_list_non, isT_list_bl, isT_list_int, isT_list_str, isT_list_tup, isT_list_lst, isT_tuple_non, isT_tuple_bl, isT_tuple_int, isT_tuple_str, isT_tuple_tup, isT_tuple_lst, isT_bool_non, isT_bool_bl, isT_bool_int, isT_bool_str, isT_bool_tup, isT_bool_lst, isT_str_non, isT_str_bl, isT_str_int, isT_str_str, isT_str_tup, isT_str_lst, isT_int_non, isT_int_bl, isT_int_int, isT_int_str, isT_int_tup, isT_int_lst,
  atI0, atI1, atI2, atI3, atI4, ixN51, ixN52, ixN53, ixN54])

def Bz (k : Nat) (p : P3) : Prop := p.1.natAbs ≤ k ∧ p.2.1.natAbs ≤ k ∧ 0 < p.2.2 ∧ p.2.2 ≤ 60
def sp__law_point : Spc := fun args Φ _ => ∃ q d0 w, args = [.own q d0, .val (.int w)] ∧ BagOk d0 ∧ 0 ≤ w ∧ w ≤ 30 ∧ ∀ (p : P3) (d1 : D), Bz 1000 p → BagOk d1 → Φ (.val (dP p)) [d1]
/-- slots: 0 bag, 1 wide, 2 w, 3 k, 4 x, 5 y -/
def T__law_point : TDs :=
  (tCutD (tSetV 2 (tCallD 2 (q0 sp__law_of) (tConsD (tVarD 0) (tConsD (tLstD (tConsD (tConD (.int 1)) (tConsD (tConD (.int 1)) (tConsD (tConD (.int 2)) (tConsD (tConD (.int 1)) (tConsD (tConD (.int 3)) (tConsD (tConD (.int 1)) (tConsD (tConD (.int 6)) tNilD)))))))) tNilD))))
  (tCutD (tSetV 3 (tCallD 2 (q0 sp__law_of) (tConsD (tVarD 0) (tConsD (tLstD (tConsD (tConD (.int 1)) (tConsD (tConD (.int 1)) (tConsD (tConD (.int 1)) (tConsD (tConD (.int 2)) (tConsD (tConD (.int 5)) tNilD)))))) tNilD))))
  (tCutD (tParD 4 5 (tConsD (tOpD (gI0 (· - ·)) (tCallD 2 (q0 sp__law_draw) (tConsD (tVarD 0) (tConsD (tOpD gAdd (tOpD (gII CMulA (· * ·)) (tConD (.int 2)) (tVarD 1)) (tConD (.int 1))) tNilD))) (tVarD 1)) (tConsD (tOpD (gI0 (· - ·)) (tCallD 2 (q0 sp__law_draw) (tConsD (tVarD 0) (tConsD (tOpD gAdd (tOpD (gII CMulA (· * ·)) (tConD (.int 2)) (tVarD 1)) (tConD (.int 1))) tNilD))) (tVarD 1)) tNilD)))
  (tRetD (tTupD (tConsD (tOpD (gII CMulA (· * ·)) (tVarD 4) (tVarD 3)) (tConsD (tOpD (gII CMulA (· * ·)) (tVarD 5) (tVarD 3)) (tConsD (tOpD (gII CMulA (· * ·)) (tVarD 2) (tVarD 3)) tNilD))))))))
theorem rd__law_point {args : En} {Φ : Res → List D → Prop} {Ψ : Xc → List D → Prop} (h : sp__law_point args Φ Ψ) : T__law_point (edOf args Φ XN) (noR ["bag", "wide", "w", "k", "x", "y"] args) := by
  obtain ⟨q, d0, wd, rfl, hk, w0, w30, h⟩ := h
  unfold T__law_point
  refine ⟨fun en => ∃ (d1 : D) (w : Int), en = [.own q d1, .val (.int wd), .val (.int w), .no, .no, .no] ∧ BagOk d1 ∧ 1 ≤ w ∧ w ≤ 6, ?_, ?_⟩
  · unfold sp__law_of
    walk_at "vs"
    refine ⟨sz1000 (by decide), fun _ => ⟨q, d0, _, rfl, hk, by simp, by decide, ?_⟩⟩
    intro x d2 hx hk2
    simp only [List.mem_cons, List.not_mem_nil, or_false] at hx
    rcases hx with rfl | rfl | rfl | rfl | rfl | rfl | rfl <;> exact ⟨d2, _, rfl, hk2, by decide, by decide⟩
  rintro _ ⟨d1, w, rfl, hk1, w1, w6⟩
  refine ⟨fun en => ∃ (d1 : D) (k : Int), en = [.own q d1, .val (.int wd), .val (.int w), .val (.int k), .no, .no] ∧ BagOk d1 ∧ 1 ≤ k ∧ k ≤ 5, ?_, ?_⟩
  · unfold sp__law_of
    walk_at "vs"
    refine ⟨sz1000 (by decide), fun _ => ⟨q, d1, _, rfl, hk1, by simp, by decide, ?_⟩⟩
    intro x d2 hx hk2
    simp only [List.mem_cons, List.not_mem_nil, or_false] at hx
    rcases hx with rfl | rfl | rfl | rfl | rfl <;> exact ⟨d2, _, rfl, hk2, by decide, by decide⟩
  rintro _ ⟨d2, k, rfl, hk2, k1, k5⟩
  refine ⟨fun en => ∃ (d1 : D) (x y : Int), en = [.own q d1, .val (.int wd), .val (.int w), .val (.int k), .val (.int x), .val (.int y)] ∧ BagOk d1 ∧ x.natAbs ≤ 60 ∧ y.natAbs ≤ 60, ?_, ?_⟩
  · unfold sp__law_draw
    walk_at "vs"
    exact ⟨mulL (by decide) (by decide), q, d2, _, rfl, hk2, by omega, by omega, fun i d3 i0 i1 hk3 => ⟨mulL (by decide) (by decide), q, d3, _, rfl, hk3, by omega, by omega, fun j d4 j0 j1 hk4 => ⟨d4, _, _, rfl, hk4, by omega, by omega⟩⟩⟩
  rintro _ ⟨d3, x, y, rfl, hk3, hx, hy⟩
  walk_at "vs"
  have b1 : (x * k).natAbs ≤ 60 * 5 := by rw [Int.natAbs_mul]; exact Nat.mul_le_mul hx (by omega)
  have b2 : (y * k).natAbs ≤ 60 * 5 := by rw [Int.natAbs_mul]; exact Nat.mul_le_mul hy (by omega)
  have b3 : w * k ≤ 6 * 5 := Int.mul_le_mul w6 k5 (by omega) (by omega)
  have b4 : 0 < w * k := Int.mul_pos (by omega) (by omega)
  exact ⟨mulR (by omega) (by omega), mulR (by omega) (by omega), mulR (by omega) (by omega), sz1000 (by decide), h (x * k, y * k, w * k) d3 ⟨by show (x * k).natAbs ≤ 1000; omega, by show (y * k).natAbs ≤ 1000; omega, b4, by show w * k ≤ 60; omega⟩ hk3⟩
/-- [_law_point(bag, w) for k in range(size)] -/
theorem comp_points {Ψ : Px} {q : Addr} {d1 : D} {pk e4 e5 e6 e7 e8 e9 e10 e11 e12 : Sl} {size w : Int} {Φ : Res → En → Prop} (hk1 : BagOk d1) (s1 : 1 ≤ size) (s12 : size ≤ 12) (w0 : 0 ≤ w) (w30 : w ≤ 30)
    (h : ∀ (a : Addr) (ps : List P3) (d2 : D), BagOk d2 → ps ≠ [] → ps.length ≤ 12 → (∀ p ∈ ps, Bz 1000 p) → Φ (.own a (.lst (ps.map dP))) [.own q d2, pk, .val (.int size), .no, e4, e5, e6, e7, e8, e9, e10, e11, e12, .no, .no, .no]) :
    tLcR1 (tConsD (tVarD 2) tNilD) (tNamG 3) tYesD (tCallD 2 (q0 sp__law_point) (tConsD (tVarD 0) (tConsD (tConD (.int w)) tNilD))) [3] Ψ [.own q d1, pk, .val (.int size), .no, e4, e5, e6, e7, e8, e9, e10, e11, e12, .no, .no, .no] Φ := by
  refine lcR1_i (fun i acc en => ∃ (d2 : D) (ps : List P3), acc = ps.map dP ∧ ps.length = i ∧ (∀ p ∈ ps, Bz 1000 p) ∧ BagOk d2 ∧ en = [.own q d2, pk, .val (.int size), .no, e4, e5, e6, e7, e8, e9, e10, e11, e12, .no, .no, .no])
    (en1 := [.own q d1, pk, .val (.int size), .no, e4, e5, e6, e7, e8, e9, e10, e11, e12, .no, .no, .no]) (n := size) (fun Φ z => by walk_at "vs"; exact z) (by omega) (by omega) rfl ⟨d1, [], rfl, rfl, by simp, hk1, rfl⟩ ?_ ?_
  · rintro i acc en hi ⟨d2, ps, rfl, hn, hb, hk2, rfl⟩
    unfold lcStep sp__law_point
    walk_at "vs"
    refine ⟨q, d2, w, rfl, hk2, w0, w30, fun p d3 hp hk3 => ⟨by rw [List.length_map]; exact sz1001 (by omega), d3, ps ++ [p], by simp, by simp [hn], fun y hy => ?_, hk3, rfl⟩⟩
    rcases List.mem_append.mp hy with hy | hy
    · exact hb y hy
    · simp only [List.mem_cons, List.not_mem_nil, or_false] at hy
      exact hy ▸ hp
  · rintro acc en a ⟨d2, ps, rfl, hn, hb, hk2, rfl⟩
    exact h a ps d2 hk2 (fun e => by rw [e] at hn; simp at hn; omega) (by omega) hb
def sp__law_plane_points : Spc := fun args Φ _ => ∃ q d0, args = [.own q d0] ∧ BagOk d0 ∧ ∀ (a : Addr) (ps : List P3) (d1 : D), ps ≠ [] → ps.length ≤ 15 → (∀ p ∈ ps, p.1.natAbs < 2 ^ 110 ∧ p.2.1.natAbs < 2 ^ 110 ∧ 0 < p.2.2 ∧ p.2.2 < 2 ^ 12) → BagOk d1 → Φ (.own a (.lst (ps.map dP))) [d1]
theorem forLo_w {ta : TDe} {tg : TDg} {tb : TDs} {De : Ed} {en : En} (Pn : List D → En → Prop) (J : Nat → En → Prop) (hta : ∀ Φ : Res → En → Prop, (∀ ds e1 p, Pn ds e1 → Φ (.own p (.lst ds)) e1) → ta De.ex en Φ) (j0 : ∀ ds e1, Pn ds e1 → J 0 e1)
    (step : ∀ (ds : List D) (e1 : En) (i : Nat) (d : D) (en : En), Pn ds e1 → ds[i]? = some d → J i en → tg d en fun en2 => tb { De with nx := J (i + 1), ct := J (i + 1), bk := De.nx } en2) (fin : ∀ ds e1 en, Pn ds e1 → J ds.length en → De.nx en) : tForLD ta tg tb De en :=
  hta _ fun ds e1 _ hP => ⟨J, j0 ds e1 hP, fun i d en hd hj => step ds e1 i d en hP hd hj, fun en hj => fin ds e1 en hP hj⟩
theorem perm_map {α β : Type} {f : α → β} {l l' : List β} (h : l.Perm l') : ∀ rs : List α, l' = rs.map f → ∃ rs' : List α, rs'.Perm rs ∧ l = rs'.map f := by
  induction h with
  | nil => intro rs e; exact ⟨[], by rw [List.map_eq_nil_iff.mp e.symm], rfl⟩
  | cons x h ih =>
    intro rs e
    cases rs with
    | nil => cases e
    | cons r rs =>
      rw [List.map_cons] at e
      injection e with e1 e2
      obtain ⟨rs', p, e3⟩ := ih rs e2
      exact ⟨r :: rs', p.cons r, by rw [List.map_cons, e1, e3]⟩
  | swap x y l =>
    intro rs e
    cases rs with
    | nil => cases e
    | cons a rs =>
      cases rs with
      | nil => cases e
      | cons b rs =>
        simp only [List.map_cons] at e
        injection e with e1 e2
        injection e2 with e2 e3
        exact ⟨b :: a :: rs, List.Perm.swap a b rs, by simp only [List.map_cons]; rw [e1, e2, e3]⟩
  | trans h1 h2 ih1 ih2 =>
    intro rs e
    obtain ⟨r1, p1, e1⟩ := ih2 rs e
    obtain ⟨r2, p2, e2⟩ := ih1 r1 e1
    exact ⟨r2, p2.trans p1, e2⟩
/-- slots: 0 bag, 1 pick, 2 size, 3 k, 4 out, 5 x, 6 y, 7 a, 8 b, 9 steps, 10 t, 11 high, 12 s, 13 some, 14 p, 15 g -/
def T__law_plane_points : TDs :=
  (tCutD (tParD 1 2 (tConsD (tCallD 2 (q0 sp__law_draw) (tConsD (tVarD 0) (tConsD (tConD (.int 7)) tNilD))) (tConsD (tOpD gAdd (tConD (.int 1)) (tCallD 2 (q0 sp__law_draw) (tConsD (tVarD 0) (tConsD (tConD (.int 12)) tNilD)))) tNilD)))
  (tCutD (tIfSD (tValD (tOpD (gIB fun i j => decide (i < j)) (tVarD 1) (tConD (.int 2)))) (tSetD 4 (tLcR1 (tConsD (tVarD 2) tNilD) (tNamG 3) tYesD (tCallD 2 (q0 sp__law_point) (tConsD (tVarD 0) (tConsD (tConD (.int 3)) tNilD))) [3])) (tIfSD (tValD (tOpD (gEq id) (tVarD 1) (tConD (.int 2)))) (tCutD (tAsgD (tLcR1 (tConsD (tConD (.int 4)) tNilD) (tNamG 3) tYesD (tOpD (gI0 (· - ·)) (tCallD 2 (q0 sp__law_draw) (tConsD (tVarD 0) (tConsD (tConD (.int 9)) tNilD))) (tConD (.int 4))) [3]) (tUnlG 4 (tConsG (tNamG 5) (tConsG (tNamG 6) (tConsG (tNamG 7) (tConsG (tNamG 8) tNilG))))))
  (tCutD (tSetV 9 (tLcR1 (tConsD (tVarD 2) tNilD) (tNamG 3) tYesD (tOpD (gI0 (· - ·)) (tCallD 2 (q0 sp__law_draw) (tConsD (tVarD 0) (tConsD (tConD (.int 9)) tNilD))) (tConD (.int 4))) [3]))
  (tSetD 4 (tLcL (tVarD 9) (tNamG 10) tYesD (tTupD (tConsD (tOpD gAdd (tVarD 5) (tOpD (gII CMulA (· * ·)) (tVarD 7) (tVarD 10))) (tConsD (tOpD gAdd (tVarD 6) (tOpD (gII CMulA (· * ·)) (tVarD 8) (tVarD 10))) (tConsD (tOpD gAdd (tConD (.int 1)) (tOpD (gII CMulA (· * ·)) (tCallD 2 (q0 sp__law_draw) (tConsD (tVarD 0) (tConsD (tConD (.int 2)) tNilD))) (tCaD gInt (tConsD (tAndDV (tOpD (gEq id) (tVarD 5) (tConD (.int 0))) (tOpD (gEq id) (tVarD 6) (tConD (.int 0)))) tNilD)))) tNilD)))) [10])))) (tIfSD (tValD (tOpD (gEq id) (tVarD 1) (tConD (.int 3)))) (tCutD (tSetV 11 (tCallD 2 (q0 sp__law_of) (tConsD (tVarD 0) (tConsD (tLstD (tConsD (tOpD (gII CPow fun i j => i ^ j.toNat) (tConD (.int 10)) (tConD (.int 6))) (tConsD (tOpD (gII CPow fun i j => i ^ j.toNat) (tConD (.int 10)) (tConD (.int 12))) (tConsD (tOpD (gII CPow fun i j => i ^ j.toNat) (tConD (.int 10)) (tConD (.int 30))) tNilD)))) tNilD))))
  (tSeqD (tSetD 4 (tLstD tNilD))
  (tForR1 (tConsD (tVarD 2) tNilD) (tNamG 3) (tCutD (tAsgD (tTupD (tConsD (tOpD (gII CDivW (· / ·)) (tOpD (gII CMulA (· * ·)) (tCallD 2 (q0 sp__law_draw) (tConsD (tVarD 0) (tConsD (tConD (.int 4001)) tNilD))) (tVarD 11)) (tConD (.int 2000))) (tConsD (tOpD (gII CDivW (· / ·)) (tOpD (gII CMulA (· * ·)) (tCallD 2 (q0 sp__law_draw) (tConsD (tVarD 0) (tConsD (tConD (.int 4001)) tNilD))) (tVarD 11)) (tConD (.int 2000))) tNilD))) (tTupG 2 (tConsG (tNamG 5) (tConsG (tNamG 6) tNilG))))
  (tDropD (tMetD 4 mAppend (tConsD (tTupD (tConsD (tOpD gAdd (tOpD (gI0 (· - ·)) (tVarD 5) (tVarD 11)) (tCallD 2 (q0 sp__law_draw) (tConsD (tVarD 0) (tConsD (tConD (.int 3)) tNilD)))) (tConsD (tOpD (gI0 (· - ·)) (tVarD 6) (tVarD 11)) (tConsD (tOpD gAdd (tConD (.int 1)) (tCallD 2 (q0 sp__law_draw) (tConsD (tVarD 0) (tConsD (tConD (.int 5)) tNilD)))) tNilD)))) tNilD))))))) (tIfSD (tValD (tOpD (gEq id) (tVarD 1) (tConD (.int 4)))) (tCutD (tAsgD (tTupD (tConsD (tOpD gAdd (tConD (.int 1)) (tCallD 2 (q0 sp__law_draw) (tConsD (tVarD 0) (tConsD (tConD (.int 4)) tNilD)))) (tConsD (tOpD gAdd (tConD (.int 1)) (tCallD 2 (q0 sp__law_draw) (tConsD (tVarD 0) (tConsD (tConD (.int 4)) tNilD)))) tNilD))) (tTupG 2 (tConsG (tNamG 7) (tConsG (tNamG 8) tNilG))))
  (tSeqD (tSetD 4 (tLstD tNilD))
  (tForR1 (tConsD (tVarD 2) tNilD) (tNamG 3) (tCutD (tParD 12 10 (tConsD (tOpD (gI0 (· - ·)) (tCallD 2 (q0 sp__law_draw) (tConsD (tVarD 0) (tConsD (tOpD gAdd (tOpD (gII CMulA (· * ·)) (tConD (.int 2)) (tVarD 7)) (tConD (.int 1))) tNilD))) (tVarD 7)) (tConsD (tOpD (gI0 (· - ·)) (tCallD 2 (q0 sp__law_draw) (tConsD (tVarD 0) (tConsD (tOpD gAdd (tOpD (gII CMulA (· * ·)) (tConD (.int 2)) (tVarD 8)) (tConD (.int 1))) tNilD))) (tVarD 8)) tNilD)))
  (tDropD (tMetD 4 mAppend (tConsD (tCallD 2 (q0 sp__law_of) (tConsD (tVarD 0) (tConsD (tLstD (tConsD (tTupD (tConsD (tVarD 12) (tConsD (tVarD 8) (tConsD (tConD (.int 1)) tNilD)))) (tConsD (tTupD (tConsD (tVarD 12) (tConsD (tUnD (gU fun i => -i) (tVarD 8)) (tConsD (tConD (.int 1)) tNilD)))) (tConsD (tTupD (tConsD (tVarD 7) (tConsD (tVarD 10) (tConsD (tConD (.int 1)) tNilD)))) (tConsD (tTupD (tConsD (tUnD (gU fun i => -i) (tVarD 7)) (tConsD (tVarD 10) (tConsD (tConD (.int 1)) tNilD)))) (tConsD (tTupD (tConsD (tVarD 12) (tConsD (tVarD 10) (tConsD (tConD (.int 1)) tNilD)))) tNilD)))))) tNilD))) tNilD))))))) (tIfSD (tValD (tOpD (gEq id) (tVarD 1) (tConD (.int 5)))) (tSetD 4 (tRepD (tLstD (tConsD (tCallD 2 (q0 sp__law_point) (tConsD (tVarD 0) (tConsD (tConD (.int 2)) tNilD))) tNilD)) (tOpD gAdd (tConD (.int 1)) (tOpD (gII CDivW (· / ·)) (tVarD 2) (tConD (.int 4)))))) (tSetD 4 (tLcR1 (tConsD (tVarD 2) tNilD) (tNamG 3) tYesD (tCallD 2 (q0 sp__law_point) (tConsD (tVarD 0) (tConsD (tConD (.int 30)) tNilD))) [3])))))))
  (tSeqD (tSetD 13 (tLstD tNilD))
  (tCutD (tForLD (tOpD gAdd (tVarD 4) (tSlLD (tVarD 4) tNoPartD (tPartD (tCallD 2 (q0 sp__law_draw) (tConsD (tVarD 0) (tConsD (tConD (.int 4)) tNilD)))))) (tNamG 14) (tCutD (tSetV 15 (tCallD 2 (q0 sp__law_of) (tConsD (tVarD 0) (tConsD (tLstD (tConsD (tConD (.int 1)) (tConsD (tConD (.int 1)) (tConsD (tConD (.int 2)) (tConsD (tConD (.int 1)) (tConsD (tConD (.int 7)) tNilD)))))) tNilD))))
  (tDropD (tMetD 13 mAppend (tConsD (tTupD (tConsD (tOpD (gII CMulA (· * ·)) (tOpD gIx (tVarD 14) (tConD (.int 0))) (tVarD 15)) (tConsD (tOpD (gII CMulA (· * ·)) (tOpD gIx (tVarD 14) (tConD (.int 1))) (tVarD 15)) (tConsD (tOpD (gII CMulA (· * ·)) (tOpD gIx (tVarD 14) (tConD (.int 2))) (tVarD 15)) tNilD)))) tNilD)))))
  (tFrzD 13 (tRetD (tCallD 2 (q0 sp__law_shuffled) (tConsD (tVarD 0) (tConsD (tVarD 13) tNilD)))))))))
theorem rd__law_plane_points {args : En} {Φ : Res → List D → Prop} {Ψ : Xc → List D → Prop} (h : sp__law_plane_points args Φ Ψ) : T__law_plane_points (edOf args Φ XN) (noR ["bag", "pick", "size", "k", "out", "x", "y", "a", "b", "steps", "t", "high", "s", "some", "p", "g"] args) := by
  obtain ⟨q, d0, rfl, hk, h⟩ := h
  unfold T__law_plane_points
  refine ⟨fun en => ∃ (d1 : D) (pk size : Int), en = [.own q d1, .val (.int pk), .val (.int size), .no, .no, .no, .no, .no, .no, .no, .no, .no, .no, .no, .no, .no] ∧ BagOk d1 ∧ 1 ≤ size ∧ size ≤ 12, ?_, ?_⟩
  · unfold sp__law_draw
    walk_at "vs"
    exact ⟨q, d0, 7, rfl, hk, by decide, by decide, fun k d1 k0 k1 hk1 => ⟨q, d1, 12, rfl, hk1, by decide, by decide, fun j d2 j0 j1 hk2 => ⟨d2, k, 1 + j, rfl, hk2, by omega, by omega⟩⟩⟩
  rintro _ ⟨d1, pk, size, rfl, hk1, s1, s12⟩
  have big31 : ∀ p, Bz 1000 p → Bz (10 ^ 31) p := fun p ⟨h1, h2, h3, h4⟩ => ⟨by omega, by omega, h3, h4⟩
  refine ⟨fun en => ∃ (d2 : D) (a : Addr) (ps : List P3) (e3 e5 e6 e7 e8 e9 e10 e11 e12 : Sl), en = [.own q d2, .val (.int pk), .val (.int size), e3, .own a (.lst (ps.map dP)), e5, e6, e7, e8, e9, e10, e11, e12, .no, .no, .no] ∧ BagOk d2 ∧ ps ≠ [] ∧ ps.length ≤ 12 ∧ ∀ p ∈ ps, Bz (10 ^ 31) p, ?_, ?_⟩
  · walk_at "vs"
    split
    · refine comp_points hk1 s1 s12 (by decide) (by decide) fun a ps d2 hk2 h1 h2 h3 => ?_
      walk_at "vs"
      exact ⟨d2, a, ps, _, _, _, _, _, _, _, _, _, rfl, hk2, h1, h2, fun p hp => big31 p (h3 p hp)⟩
    split
    · -- on a line
      refine ⟨fun en => ∃ (d2 : D) (x y a b : Int), en = [.own q d2, .val (.int pk), .val (.int size), .no, .no, .val (.int x), .val (.int y), .val (.int a), .val (.int b), .no, .no, .no, .no, .no, .no, .no] ∧ BagOk d2 ∧ x.natAbs ≤ 4 ∧ y.natAbs ≤ 4 ∧ a.natAbs ≤ 4 ∧ b.natAbs ≤ 4, ?_, ?_⟩
      · unfold tAsgD
        refine lcR1_i (fun i acc en => ∃ (d2 : D) (ns : List Int), acc = ns.map D.int ∧ ns.length = i ∧ (∀ n ∈ ns, n.natAbs ≤ 4) ∧ BagOk d2 ∧ en = [.own q d2, .val (.int pk), .val (.int size), .no, .no, .no, .no, .no, .no, .no, .no, .no, .no, .no, .no, .no])
          (en1 := [.own q d1, .val (.int pk), .val (.int size), .no, .no, .no, .no, .no, .no, .no, .no, .no, .no, .no, .no, .no]) (n := 4) (fun Φ z => by walk_at "vs"; exact z) (by decide) (by decide) rfl ⟨d1, [], rfl, rfl, by simp, hk1, rfl⟩ ?_ ?_
        · rintro i acc en hi ⟨d2, ns, rfl, hn, hb, hk2, rfl⟩
          unfold lcStep sp__law_draw
          walk_at "vs"
          refine ⟨q, d2, 9, rfl, hk2, by decide, by decide, fun k d3 k0 k1 hk3 => ⟨by rw [List.length_map]; exact sz1001 (by omega), d3, ns ++ [k - 4], by simp, by simp [hn], fun y hy => ?_, hk3, rfl⟩⟩
          rcases List.mem_append.mp hy with hy | hy
          · exact hb y hy
          · simp only [List.mem_cons, List.not_mem_nil, or_false] at hy
            omega
        · rintro acc en a ⟨d2, ns, rfl, hn, hb, hk2, rfl⟩
          match ns, hn with
          | [x, y, a, b], _ =>
            simp only [List.map_cons, List.map_nil]
            walk_at "vs"
            exact ⟨d2, x, y, a, b, rfl, hk2, hb _ (by simp), hb _ (by simp), hb _ (by simp), hb _ (by simp)⟩
      rintro _ ⟨d2, x, y, a, b, rfl, hk2, hx, hy, ha, hb⟩
      refine ⟨fun en => ∃ (d2 : D) (ns : List Int), en = [.own q d2, .val (.int pk), .val (.int size), .no, .no, .val (.int x), .val (.int y), .val (.int a), .val (.int b), .val (.lst (ns.map D.int)), .no, .no, .no, .no, .no, .no] ∧ BagOk d2 ∧ ns ≠ [] ∧ ns.length ≤ 12 ∧ ∀ n ∈ ns, n.natAbs ≤ 4, ?_, ?_⟩
      · walk_at "vs"
        refine lcR1_i (fun i acc en => ∃ (d2 : D) (ns : List Int), acc = ns.map D.int ∧ ns.length = i ∧ (∀ n ∈ ns, n.natAbs ≤ 4) ∧ BagOk d2 ∧ en = [.own q d2, .val (.int pk), .val (.int size), .no, .no, .val (.int x), .val (.int y), .val (.int a), .val (.int b), .no, .no, .no, .no, .no, .no, .no])
          (en1 := [.own q d2, .val (.int pk), .val (.int size), .no, .no, .val (.int x), .val (.int y), .val (.int a), .val (.int b), .no, .no, .no, .no, .no, .no, .no]) (n := size) (fun Φ z => by walk_at "vs"; exact z) (by omega) (by omega) rfl ⟨d2, [], rfl, rfl, by simp, hk2, rfl⟩ ?_ ?_
        · rintro i acc en hi ⟨d2, ns, rfl, hn, hb, hk2, rfl⟩
          unfold lcStep sp__law_draw
          walk_at "vs"
          refine ⟨q, d2, 9, rfl, hk2, by decide, by decide, fun k d3 k0 k1 hk3 => ⟨by rw [List.length_map]; exact sz1001 (by omega), d3, ns ++ [k - 4], by simp, by simp [hn], fun y hy => ?_, hk3, rfl⟩⟩
          rcases List.mem_append.mp hy with hy | hy
          · exact hb y hy
          · simp only [List.mem_cons, List.not_mem_nil, or_false] at hy
            omega
        · rintro acc en a ⟨d2, ns, rfl, hn, hb, hk2, rfl⟩
          walk_at "vs"
          exact ⟨d2, ns, rfl, hk2, fun e => by rw [e] at hn; simp at hn; omega, by omega, hb⟩
      rintro _ ⟨d3, ns, rfl, hk3, nne, nl, hns⟩
      walk_at "vs"
      refine lcL_i (fun i acc en => ∃ (d2 : D) (ps : List P3), acc = ps.map dP ∧ ps.length = i ∧ (∀ p ∈ ps, Bz 1000 p) ∧ BagOk d2 ∧ en = [.own q d2, .val (.int pk), .val (.int size), .no, .no, .val (.int x), .val (.int y), .val (.int a), .val (.int b), .val (.lst (ns.map D.int)), .no, .no, .no, .no, .no, .no])
        (en1 := [.own q d3, .val (.int pk), .val (.int size), .no, .no, .val (.int x), .val (.int y), .val (.int a), .val (.int b), .val (.lst (ns.map D.int)), .no, .no, .no, .no, .no, .no]) (ds := ns.map D.int) (fun Φ z => by walk_at "vs"; exact z) rfl ⟨d3, [], rfl, rfl, by simp, hk3, rfl⟩ ?_ ?_
      · rintro i d acc en hd ⟨d2, ps, rfl, hn, hbp, hk2, rfl⟩
        obtain ⟨t, ht, rfl⟩ := get_map hd
        have ht4 := hns t (List.mem_of_getElem? ht)
        have b1 : (a * t).natAbs ≤ 4 * 4 := by rw [Int.natAbs_mul]; exact Nat.mul_le_mul ha ht4
        have b2 : (b * t).natAbs ≤ 4 * 4 := by rw [Int.natAbs_mul]; exact Nat.mul_le_mul hb ht4
        have hi := (List.getElem?_eq_some_iff.mp ht).1
        unfold lcStep sp__law_draw
        walk_at "vs"
        have fin : ∀ (j : Int) (d : D), 0 ≤ j → j < 2 → BagOk d → ∀ e : Int, 0 ≤ e → e ≤ 1 → CMulA j e ∧ 3 ≤ sizeLine ∧ (ps.map dP).length < sizeLine ∧ ∃ (d2 : D) (ps_1 : List P3), ps.map dP ++ [D.tup [.int (x + a * t), .int (y + b * t), .int (1 + j * e)]] = ps_1.map dP ∧ ps_1.length = i + 1 ∧ (∀ p ∈ ps_1, Bz 1000 p) ∧ BagOk d2 ∧ ([.own q d, .val (.int pk), .val (.int size), .no, .no, .val (.int x), .val (.int y), .val (.int a), .val (.int b), .val (.lst (ns.map D.int)), .no, .no, .no, .no, .no, .no] : En) = [.own q d2, .val (.int pk), .val (.int size), .no, .no, .val (.int x), .val (.int y), .val (.int a), .val (.int b), .val (.lst (ns.map D.int)), .no, .no, .no, .no, .no, .no] := fun j d j0 j1 hkd e e0 e1 => by
          have je : j * e = 0 ∨ j * e = 1 := by
            have h1 : j = 0 ∨ j = 1 := by omega
            have h2 : e = 0 ∨ e = 1 := by omega
            rcases h1 with rfl | rfl <;> rcases h2 with rfl | rfl <;> simp
          refine ⟨mulL (by omega) (by omega), sz1000 (by decide), by rw [List.length_map]; exact sz1001 (by omega), d, ps ++ [(x + a * t, y + b * t, 1 + j * e)], by simp [dP], by simp [hn], fun z hz => ?_, hkd, rfl⟩
          rcases List.mem_append.mp hz with hz | hz
          · exact hbp z hz
          · simp only [List.mem_cons, List.not_mem_nil, or_false] at hz
            subst hz
            exact ⟨by show (x + a * t).natAbs ≤ 1000; omega, by show (y + b * t).natAbs ≤ 1000; omega, by show 0 < 1 + j * e; omega, by show 1 + j * e ≤ 60; omega⟩
        refine ⟨mulR (by omega) (by omega), mulR (by omega) (by omega), q, d2, 2, rfl, hk2, by decide, by decide, fun k d' k0 k1 hkd => ?_⟩
        split
        · exact fin k d' k0 k1 hkd _ (by split <;> omega) (by split <;> omega)
        · exact fin k d' k0 k1 hkd 0 (by omega) (by omega)
      · rintro acc en a' ⟨d2, ps, rfl, hn, hbp, hk2, rfl⟩
        rw [List.length_map] at hn
        walk_at "vs"
        exact ⟨d2, a', ps, _, _, _, _, _, _, _, _, _, rfl, hk2, fun e => by rw [e] at hn; simp at hn; exact nne (List.length_eq_zero_iff.mp hn.symm), by omega, fun p hp => big31 p (hbp p hp)⟩
    split
    · -- great ones
      refine ⟨fun en => ∃ (d2 : D) (g : Int), en = [.own q d2, .val (.int pk), .val (.int size), .no, .no, .no, .no, .no, .no, .no, .no, .val (.int g), .no, .no, .no, .no] ∧ BagOk d2 ∧ 1 ≤ g ∧ g ≤ 10 ^ 30, ?_, ?_⟩
      · unfold sp__law_of
        walk_at "vs"
        refine ⟨⟨by decide, by decide, by decide⟩, ⟨by decide, by decide, by decide⟩, ⟨by decide, by decide, by decide⟩, sz1000 (by decide), fun _ => ⟨q, d1, _, rfl, hk1, by simp, by decide, ?_⟩⟩
        intro x d2 hx hk2
        simp only [List.mem_cons, List.not_mem_nil, or_false] at hx
        rcases hx with rfl | rfl | rfl <;> exact ⟨d2, _, rfl, hk2, by decide, by decide⟩
      rintro _ ⟨d2, g, rfl, hk2, g1, g30⟩
      walk_at "vs"
      refine ⟨sz1000 (by decide), fun a => ?_⟩
      refine forR1_i (fun i en => ∃ (d2 : D) (ps : List P3) (e3 e5 e6 : Sl), en = [.own q d2, .val (.int pk), .val (.int size), e3, .own a (.lst (ps.map dP)), e5, e6, .no, .no, .no, .no, .val (.int g), .no, .no, .no, .no] ∧ BagOk d2 ∧ ps.length = i ∧ ∀ p ∈ ps, Bz (10 ^ 31) p)
        (en1 := [.own q d2, .val (.int pk), .val (.int size), .no, .own a (.lst []), .no, .no, .no, .no, .no, .no, .val (.int g), .no, .no, .no, .no]) (n := size) (fun Φ z => by walk_at "vs"; exact z) (by omega) (by omega) ⟨d2, [], _, _, _, rfl, hk2, rfl, by simp⟩ ?_ ?_
      · rintro i _ hi ⟨d2, ps, e3, e5, e6, rfl, hk2, hn, hb⟩
        show tCutD _ _ _ _
        refine ⟨fun en => ∃ (d2 : D) (x y : Int), en = [.own q d2, .val (.int pk), .val (.int size), .val (.int i), .own a (.lst (ps.map dP)), .val (.int x), .val (.int y), .no, .no, .no, .no, .val (.int g), .no, .no, .no, .no] ∧ BagOk d2 ∧ 0 ≤ x ∧ x ≤ 2 * 10 ^ 30 ∧ 0 ≤ y ∧ y ≤ 2 * 10 ^ 30, ?_, ?_⟩
        · unfold sp__law_draw
          walk_at "vs"
          have bd : ∀ k : Int, 0 ≤ k → k < 4001 → 0 ≤ k * g / 2000 ∧ k * g / 2000 ≤ 2 * 10 ^ 30 := fun k k0 k1 => by
            have h1 : 0 ≤ k * g := sg_nn k0 (by omega)
            have h2 : k * g ≤ 4000 * 10 ^ 30 := Int.mul_le_mul (by omega) g30 (by omega) (by omega)
            omega
          refine ⟨q, d2, 4001, rfl, hk2, by decide, by decide, fun k d3 k0 k1 hk3 => ⟨mulL (by omega) (by omega), divB (by decide) (by decide), q, d3, 4001, rfl, hk3, by decide, by decide, fun j d4 j0 j1 hk4 => ⟨mulL (by omega) (by omega), divB (by decide) (by decide), sz1000 (by decide), ?_⟩⟩⟩
          have b1 := bd k k0 k1
          have b2 := bd j j0 j1
          exact ⟨d4, _, _, rfl, hk4, b1.1, b1.2, b2.1, b2.2⟩
        rintro _ ⟨d3, x, y, rfl, hk3, x0, x1, y0, y1⟩
        unfold sp__law_draw
        walk_at "vs"
        refine ⟨q, d3, 3, rfl, hk3, by decide, by decide, fun k d4 k0 k1 hk4 => ⟨q, d4, 5, rfl, hk4, by decide, by decide, fun j d5 j0 j1 hk5 => ⟨sz1000 (by decide), by rw [List.length_map]; exact sz1001 (by omega), d5, ps ++ [(x - g + k, y - g, 1 + j)], .val (.int i), .val (.int x), .val (.int y), by simp [dP], hk5, by simp [hn], fun z hz => ?_⟩⟩⟩
        rcases List.mem_append.mp hz with hz | hz
        · exact hb z hz
        · simp only [List.mem_cons, List.not_mem_nil, or_false] at hz
          subst hz
          exact ⟨by show (x - g + k).natAbs ≤ 10 ^ 31; omega, by show (y - g).natAbs ≤ 10 ^ 31; omega, by show 0 < 1 + j; omega, by show 1 + j ≤ 60; omega⟩
      · rintro _ ⟨d2, ps, e3, e5, e6, rfl, hk2, hn, hb⟩
        exact ⟨d2, a, ps, _, _, _, _, _, _, _, _, _, rfl, hk2, fun e => by rw [e] at hn; simp at hn; omega, by omega, hb⟩
    split
    · -- on the sides of a box
      refine ⟨fun en => ∃ (d2 : D) (u v : Int), en = [.own q d2, .val (.int pk), .val (.int size), .no, .no, .no, .no, .val (.int u), .val (.int v), .no, .no, .no, .no, .no, .no, .no] ∧ BagOk d2 ∧ 1 ≤ u ∧ u ≤ 4 ∧ 1 ≤ v ∧ v ≤ 4, ?_, ?_⟩
      · unfold sp__law_draw
        walk_at "vs"
        exact ⟨q, d1, 4, rfl, hk1, by decide, by decide, fun k d3 k0 k1 hk3 => ⟨q, d3, 4, rfl, hk3, by decide, by decide, fun j d4 j0 j1 hk4 => ⟨sz1000 (by decide), d4, 1 + k, 1 + j, rfl, hk4, by omega, by omega, by omega, by omega⟩⟩⟩
      rintro _ ⟨d2, u, v, rfl, hk2, u1, u4, v1, v4⟩
      walk_at "vs"
      refine ⟨sz1000 (by decide), fun a => ?_⟩
      refine forR1_i (fun i en => ∃ (d2 : D) (ps : List P3) (e3 e10 e12 : Sl), en = [.own q d2, .val (.int pk), .val (.int size), e3, .own a (.lst (ps.map dP)), .no, .no, .val (.int u), .val (.int v), .no, e10, .no, e12, .no, .no, .no] ∧ BagOk d2 ∧ ps.length = i ∧ ∀ p ∈ ps, Bz 1000 p)
        (en1 := [.own q d2, .val (.int pk), .val (.int size), .no, .own a (.lst []), .no, .no, .val (.int u), .val (.int v), .no, .no, .no, .no, .no, .no, .no]) (n := size) (fun Φ z => by walk_at "vs"; exact z) (by omega) (by omega) ⟨d2, [], _, _, _, rfl, hk2, rfl, by simp⟩ ?_ ?_
      · rintro i _ hi ⟨d2, ps, e3, e10, e12, rfl, hk2, hn, hb⟩
        show tCutD _ _ _ _
        refine ⟨fun en => ∃ (d2 : D) (s t : Int), en = [.own q d2, .val (.int pk), .val (.int size), .val (.int i), .own a (.lst (ps.map dP)), .no, .no, .val (.int u), .val (.int v), .no, .val (.int t), .no, .val (.int s), .no, .no, .no] ∧ BagOk d2 ∧ s.natAbs ≤ 4 ∧ t.natAbs ≤ 4, ?_, ?_⟩
        · unfold sp__law_draw
          walk_at "vs"
          exact ⟨mulL (by decide) (by decide), q, d2, _, rfl, hk2, by omega, by omega, fun k d3 k0 k1 hk3 => ⟨mulL (by decide) (by decide), q, d3, _, rfl, hk3, by omega, by omega, fun j d4 j0 j1 hk4 => ⟨d4, k - u, j - v, rfl, hk4, by omega, by omega⟩⟩⟩
        rintro _ ⟨d3, s, t, rfl, hk3, hs, ht⟩
        have s3 : 3 ≤ sizeLine := sz1000 (by decide)
        have fin : ∀ (d4 : D) (x y w : Int), BagOk d4 → x.natAbs ≤ 4 → y.natAbs ≤ 4 → w = 1 → (ps.map dP).length < sizeLine ∧ ∃ (d2 : D) (ps_1 : List P3) (e3 e10 e12 : Sl), ([.own q d4, .val (.int pk), .val (.int size), .val (.int i), .own a (.lst (ps.map dP ++ [.tup [.int x, .int y, .int w]])), .no, .no, .val (.int u), .val (.int v), .no, .val (.int t), .no, .val (.int s), .no, .no, .no] : En) = [.own q d2, .val (.int pk), .val (.int size), e3, .own a (.lst (ps_1.map dP)), .no, .no, .val (.int u), .val (.int v), .no, e10, .no, e12, .no, .no, .no] ∧ BagOk d2 ∧ ps_1.length = i + 1 ∧ ∀ p ∈ ps_1, Bz 1000 p := fun d4 x y w hk4 hx hy hw =>
          ⟨by rw [List.length_map]; exact sz1001 (by omega), d4, ps ++ [(x, y, w)], .val (.int i), .val (.int t), .val (.int s), by simp [dP], hk4, by simp [hn], fun z hz => by
            rcases List.mem_append.mp hz with hz | hz
            · exact hb z hz
            · simp only [List.mem_cons, List.not_mem_nil, or_false] at hz
              subst hz
              exact ⟨by show x.natAbs ≤ 1000; omega, by show y.natAbs ≤ 1000; omega, by show 0 < w; omega, by show w ≤ 60; omega⟩⟩
        unfold sp__law_of
        walk_at "vs"
        refine ⟨s3, s3, s3, s3, s3, sz1000 (by decide), fun _ => ⟨q, d3, _, rfl, hk3, by simp, by show (5 : Nat) < 2 ^ 62; decide, ?_⟩⟩
        intro x d4 hx hk4
        simp only [List.mem_cons, List.not_mem_nil, or_false] at hx
        rcases hx with rfl | rfl | rfl | rfl | rfl
        all_goals exact fin d4 _ _ _ hk4 (by omega) (by omega) rfl
      · rintro _ ⟨d2, ps, e3, e10, e12, rfl, hk2, hn, hb⟩
        exact ⟨d2, a, ps, _, _, _, _, _, _, _, _, _, rfl, hk2, fun e => by rw [e] at hn; simp at hn; omega, by omega, fun p hp => big31 p (hb p hp)⟩
    split
    · -- all alike
      unfold sp__law_point
      walk_at "vs"
      refine ⟨q, d1, 2, rfl, hk1, by decide, by decide, fun p d2 hp hk2 => ⟨sz1000 (by decide), fun _ => ⟨divB (by decide) (by decide), by omega, by omega, ?_, fun a => ?_⟩⟩⟩
      · exact sz1000 (by omega)
      · obtain ⟨n, hn⟩ : ∃ n : Nat, (1 + size / 4).toNat = n := ⟨_, rfl⟩
        rw [hn]
        have e : (List.replicate n [dP p]).flatten = (List.replicate n p).map dP := by
          rw [List.map_replicate]
          clear hn
          induction n with
          | zero => rfl
          | succ n ih => rw [List.replicate_succ, List.flatten_cons, ih, List.replicate_succ]; rfl
        rw [e]
        refine ⟨d2, a, List.replicate n p, _, _, _, _, _, _, _, _, _, rfl, hk2, fun e => ?_, by rw [List.length_replicate]; omega, fun y hy => big31 y ?_⟩
        · have := congrArg List.length e
          rw [List.length_replicate] at this
          simp at this
          omega
        · rw [(List.mem_replicate.mp hy).2]
          exact hp
    · refine comp_points hk1 s1 s12 (by decide) (by decide) fun a ps d2 hk2 h1 h2 h3 => ?_
      walk_at "vs"
      exact ⟨d2, a, ps, _, _, _, _, _, _, _, _, _, rfl, hk2, h1, h2, fun p hp => big31 p (h3 p hp)⟩
  rintro _ ⟨d2, a, ps, e3, e5, e6, e7, e8, e9, e10, e11, e12, rfl, hk2, hne, hl, hb⟩
  walk_at "vs"
  refine ⟨sz1000 (by decide), fun a' => ?_⟩
  refine ⟨fun en => ∃ (d3 : D) (rs : List P3) (e14 e15 : Sl), en = [.own q d3, .val (.int pk), .val (.int size), e3, .own a (.lst (ps.map dP)), e5, e6, e7, e8, e9, e10, e11, e12, .own a' (.lst (rs.map dP)), e14, e15] ∧ BagOk d3 ∧ rs ≠ [] ∧ rs.length ≤ 15 ∧ ∀ p ∈ rs, p.1.natAbs < 2 ^ 110 ∧ p.2.1.natAbs < 2 ^ 110 ∧ 0 < p.2.2 ∧ p.2.2 < 2 ^ 12, ?_, ?_⟩
  · refine forLo_w (fun ds en => ∃ ps2 : List P3, ds = ps2.map dP ∧ ps2 ≠ [] ∧ ps2.length ≤ 15 ∧ (∀ p ∈ ps2, Bz (10 ^ 31) p) ∧ ∃ d3, en = [.own q d3, .val (.int pk), .val (.int size), e3, .own a (.lst (ps.map dP)), e5, e6, e7, e8, e9, e10, e11, e12, .own a' (.lst []), .no, .no] ∧ BagOk d3)
      (fun i en => ∃ (d3 : D) (rs : List P3) (e14 e15 : Sl), en = [.own q d3, .val (.int pk), .val (.int size), e3, .own a (.lst (ps.map dP)), e5, e6, e7, e8, e9, e10, e11, e12, .own a' (.lst (rs.map dP)), e14, e15] ∧ BagOk d3 ∧ rs.length = i ∧ ∀ p ∈ rs, p.1.natAbs < 2 ^ 110 ∧ p.2.1.natAbs < 2 ^ 110 ∧ 0 < p.2.2 ∧ p.2.2 < 2 ^ 12) ?_ ?_ ?_ ?_
    · intro Φ z
      unfold sp__law_draw
      walk_at "vs"
      refine ⟨q, d2, 4, rfl, hk2, by decide, by decide, fun k d3 k0 k1 hk3 => fun p1 => ?_⟩
      rw [cut_map]
      have lc : (cutG ps none (some k)).length ≤ 3 := by
        unfold cutG
        rw [HT.sIx_none, List.drop_zero, List.length_take]
        have : HT.sIx ps.length ps.length (some k) ≤ 3 := by
          obtain ⟨n, rfl⟩ : ∃ n : Nat, k = n := ⟨k.toNat, by omega⟩
          rw [HT.sIx_nat]
          omega
        omega
      refine ⟨sz1000 (by rw [List.length_map, List.length_map]; omega), fun p2 => z _ _ p2 ⟨ps ++ cutG ps none (some k), by rw [List.map_append], by simp [hne], by rw [List.length_append]; omega, fun p hp => ?_, d3, rfl, hk3⟩⟩
      rcases List.mem_append.mp hp with hp | hp
      · exact hb p hp
      · exact hb p (List.mem_of_mem_drop (List.mem_of_mem_take hp))
    · rintro ds _ ⟨ps2, rfl, _, _, _, d3, rfl, hk3⟩
      exact ⟨d3, [], _, _, rfl, hk3, rfl, by simp⟩
    · rintro ds _ i d _ ⟨ps2, rfl, _, hl2, hb2, _⟩ hd ⟨d3, rs, e14, e15, rfl, hk3, hn, hrs⟩
      obtain ⟨p, hp, rfl⟩ := get_map hd
      have hi := (List.getElem?_eq_some_iff.mp hp).1
      obtain ⟨p1, p2, p3, p4⟩ := hb2 p (List.mem_of_getElem? hp)
      show tCutD _ _ _ _
      refine ⟨fun en => ∃ (d4 : D) (g : Int), en = [.own q d4, .val (.int pk), .val (.int size), e3, .own a (.lst (ps.map dP)), e5, e6, e7, e8, e9, e10, e11, e12, .own a' (.lst (rs.map dP)), .val (dP p), .val (.int g)] ∧ BagOk d4 ∧ 1 ≤ g ∧ g ≤ 7, ?_, ?_⟩
      · unfold sp__law_of
        walk_at "vs"
        refine ⟨sz1000 (by decide), fun _ => ⟨q, d3, _, rfl, hk3, by simp, by decide, ?_⟩⟩
        intro x d4 hx hk4
        simp only [List.mem_cons, List.not_mem_nil, or_false] at hx
        rcases hx with rfl | rfl | rfl | rfl | rfl <;> exact ⟨d4, _, rfl, hk4, by decide, by decide⟩
      rintro _ ⟨d4, g, rfl, hk4, g1, g7⟩
      have m1 : (p.1 * g).natAbs ≤ 10 ^ 31 * 7 := by rw [Int.natAbs_mul]; exact Nat.mul_le_mul p1 (by omega)
      have m2 : (p.2.1 * g).natAbs ≤ 10 ^ 31 * 7 := by rw [Int.natAbs_mul]; exact Nat.mul_le_mul p2 (by omega)
      have m3 : p.2.2 * g ≤ 60 * 7 := Int.mul_le_mul p4 g7 (by omega) (by omega)
      have m4 : 0 < p.2.2 * g := Int.mul_pos p3 (by omega)
      have ed : dP p = .tup [.int p.1, .int p.2.1, .int p.2.2] := rfl
      rw [ed]
      walk_at "vs"
      refine ⟨mulR (by omega) (by omega), mulR (by omega) (by omega), mulR (by omega) (by omega), sz1000 (by decide), by rw [List.length_map]; exact sz1001 (by omega), d4, rs ++ [(p.1 * g, p.2.1 * g, p.2.2 * g)], .val (.tup [.int p.1, .int p.2.1, .int p.2.2]), .val (.int g), by simp [dP], hk4, by simp [hn], fun z hz => ?_⟩
      rcases List.mem_append.mp hz with hz | hz
      · exact hrs z hz
      · simp only [List.mem_cons, List.not_mem_nil, or_false] at hz
        subst hz
        exact ⟨by show (p.1 * g).natAbs < 2 ^ 110; omega, by show (p.2.1 * g).natAbs < 2 ^ 110; omega, m4, by show p.2.2 * g < 2 ^ 12; omega⟩
    · rintro ds _ _ ⟨ps2, rfl, hne2, hl2, _⟩ ⟨d3, rs, e14, e15, rfl, hk3, hn, hrs⟩
      rw [List.length_map] at hn
      exact ⟨d3, rs, e14, e15, rfl, hk3, fun e => by rw [e] at hn; exact hne2 (List.length_eq_zero_iff.mp hn.symm), by omega, hrs⟩
  rintro _ ⟨d3, rs, e14, e15, rfl, hk3, rne, rl, hrs⟩
  show tFrzD _ _ _ _
  unfold sp__law_shuffled
  walk_at "vs"
  refine ⟨q, d3, _, rfl, hk3, by rw [List.length_map]; omega, fun b es d4 hp hk4 => ?_⟩
  obtain ⟨rs', hp', rfl⟩ := perm_map hp rs rfl
  exact h b rs' d4 (fun e => by rw [e] at hp'; exact rne (List.Perm.nil_eq hp').symm) (by rw [hp'.length_eq]; exact rl) (fun p hp => hrs p (hp'.mem_iff.mp hp)) hk4
end VS

namespace VS
open PySem L2 PySem.Spec PyProof.Rows
local macro_rules | `(tactic| walk_at "vs") => `(tactic| simp (maxSteps := 400000) only [tSeqD, tEitD, tEitS, tRevD, tRepD, tNewT, tPutT, gListT, gGcd3, gLt2, tFgtD, tIfSD, tRetD, retD, tSetD, tSetV, tVarD, tConD, tOpD, tUnD, tCaD, tCallD, tConsD, tNilD, tTupD, tLstD, tValD, tAndD, tOrD, tNotD, tIfD, tAndDV, tOrDV, tNotDV, tAsgD, tParD, tPar3D, tNamG, tTupG, tNilG, tConsG, tUnlG, tDropD, tNextD, tBrkD, tCntD, tNeverD, tStoD, tMetD, tSlLD, tNoPartD, tPartD, tChD, tIsiD, tIsiTD, tIsi3D, tFrzD, q0, tYesD, wipeD,
  gI0, gII, gIB, gAdd, gU, gEq, gIx, gIsN, gLen, gInt, gAbs, gBool, gList, gTupC, mAppend, mPop, mPopAt, mInsert, mReverse, rd, rds, vl, vls, slR, nob, mkArgs, bors, putOwns, edOf, outsP, noR, shD, eqD,
  List.getElem?_cons_zero, List.getElem?_cons_succ, List.getElem?_nil, List.set_cons_zero, List.set_cons_succ, List.cons_append, List.nil_append, List.length_cons, List.length_nil, List.replicate, Nat.add_sub_cancel, Nat.sub_self, Nat.reduceAdd, Nat.reduceSub, Int.reduceToNat, Int.reducePow, Int.reduceNeg, Int.reduceAdd, Int.reduceSub, Int.reduceMul, id_eq, true_and, and_true, List.nodup_nil, if_true, if_false, List.nodup_cons, List.not_mem_nil, not_false_eq_true, Bool.not_true, Bool.not_false, Bool.true_or, Bool.or_false, Bool.false_or, decide_eq_true_eq, Bool.false_eq_true, XF,
  Bool.or_true, bne_self_eq_false, isT_dict_non, isT_dict_bl, isT_dict_int, isT_dict_str, isT_dict_tup, isT_dict_lst, isT_list_non, isT_list_bl, isT_list_int, isT_list_str, isT_list_tup, isT_list_lst, isT_tuple_non, isT_tuple_bl, isT_tuple_int, isT_tuple_str, isT_tuple_tup, isT_tuple_lst, isT_bool_non, isT_bool_bl, isT_bool_int, isT_bool_str, isT_bool_tup, isT_bool_lst, isT_str_non, isT_str_bl, isT_str_int, isT_str_str, isT_str_tup, isT_str_lst, isT_int_non, isT_int_bl, isT_int_int, isT_int_str, isT_int_tup, isT_int_lst,
  atI0, atI1, atI2, atI3, atI4, ixN51, ixN52, ixN53, ixN54])
local macro_rules | `(tactic| walk_at "vh") => `(tactic| simp (maxSteps := 400000) only [tSeqD, tEitD, tEitS, tRevD, tRepD, tNewT, tPutT, gListT, gGcd3, gLt2, tFgtD, tIfSD, tRetD, retD, tSetD, tSetV, tVarD, tConD, tOpD, tUnD, tCaD, tCallD, tConsD, tNilD, tTupD, tLstD, tValD, tAndD, tOrD, tNotD, tIfD, tAndDV, tOrDV, tNotDV, tAsgD, tParD, tPar3D, tNamG, tTupG, tNilG, tConsG, tUnlG, tDropD, tNextD, tBrkD, tCntD, tNeverD, tStoD, tMetD, tSlLD, tNoPartD, tPartD, tChD, tIsiD, tIsiTD, tIsi3D, tFrzD, q0, tYesD, wipeD,
  gI0, gII, gIB, gAdd, gU, gEq, gIx, gIsN, gLen, gInt, gAbs, gBool, gList, gTupC, mAppend, mPop, mPopAt, mInsert, mReverse, rd, rds, vl, vls, slR, nob, mkArgs, bors, putOwns, edOf, outsP, noR, shD, eqD,
  List.getElem?_cons_zero, List.getElem?_cons_succ, List.getElem?_nil, List.set_cons_zero, List.set_cons_succ, List.cons_append, List.nil_append, List.length_cons, List.length_nil, List.replicate, Nat.add_sub_cancel, Nat.sub_self, Nat.reduceAdd, Nat.reduceSub, Int.reduceToNat, Int.reducePow, Int.reduceNeg, Int.reduceAdd, Int.reduceSub, Int.reduceMul, id_eq, true_and, and_true, List.nodup_nil, if_true, if_false, List.nodup_cons, List.not_mem_nil, not_false_eq_true, Bool.not_true, Bool.not_false, Bool.true_or, Bool.or_false, Bool.false_or, decide_eq_true_eq, Bool.false_eq_true, XF,
  Bool.or_true, bne_self_eq_false, isT_dict_non, isT_dict_bl, isT_dict_int, isT_dict_str, isT_dict_tup, isT_dict_lst, isT_list_non, isT_list_bl, isT_list_int, isT_list_str, isT_list_tup, isT_list_lst, isT_tuple_non, isT_tuple_bl, isT_tuple_int, isT_tuple_str, isT_tuple_tup, isT_tuple_lst, isT_bool_non, isT_bool_bl, isT_bool_int, isT_bool_str, isT_bool_tup, isT_bool_lst, isT_str_non, isT_str_bl, isT_str_int, isT_str_str, isT_str_tup, isT_str_lst, isT_int_non, isT_int_bl, isT_int_int, isT_int_str, isT_int_tup, isT_int_lst,
  atI0, atI1, atI2, atI3, atI4, ixN51, ixN52, ixN53, ixN54, *])
local macro_rules | `(tactic| walk_at "lf") => `(tactic| ((repeat' (with_reducible apply And.intro)) <;> first | exact mulR (by decide) (by decide) | exact pow1018 | exact pow3 (by omega) | exact divB (by omega) (by omega) | exact Int.emod_nonneg _ (by omega) | exact Int.emod_lt_of_pos _ (by omega) | exact Int.ediv_nonneg (by omega) (by omega) | omega | decide | assumption | skip))
local macro_rules | `(tactic| walk_at "vn") => `(tactic| simp (maxSteps := 400000) only [tSeqD, tEitD, tEitS, tRevD, tRepD, tNewT, tPutT, gListT, gGcd3, gLt2, tFgtD, tIfSD, tRetD, retD, tSetD, tSetV, tVarD, tConD, tOpD, tUnD, tCaD, tCallD, tConsD, tNilD, tTupD, tLstD, tValD, tAndD, tOrD, tNotD, tIfD, tAndDV, tOrDV, tNotDV, tAsgD, tParD, tPar3D, tNamG, tTupG, tNilG, tConsG, tUnlG, tDropD, tNextD, tBrkD, tCntD, tNeverD, tStoD, tMetD, tSlLD, tNoPartD, tPartD, tChD, tIsiD, tIsiTD, tIsi3D, tFrzD, q0, tYesD, wipeD,
  gI0, gII, gIB, gAdd, gU, gEq, gIx, gIsN, gLen, gInt, gAbs, gBool, gList, gTupC, mAppend, mPop, mPopAt, mInsert, mReverse, rd, rds, vl, vls, slR, nob, mkArgs, bors, putOwns, edOf, outsP, noR,
  List.getElem?_cons_zero, List.getElem?_cons_succ, List.getElem?_nil, List.set_cons_zero, List.set_cons_succ, List.cons_append, List.nil_append, List.length_cons, List.length_nil, List.replicate, Nat.add_sub_cancel, Nat.sub_self, Nat.reduceAdd, Nat.reduceSub, Int.reduceToNat, Int.reducePow, Int.reduceNeg, Int.reduceAdd, Int.reduceSub, Int.reduceMul, id_eq, true_and, and_true, List.nodup_nil, if_true, if_false, List.nodup_cons, List.not_mem_nil, not_false_eq_true, Bool.not_true, Bool.not_false, Bool.true_or, Bool.or_false, Bool.false_or, decide_eq_true_eq, Bool.false_eq_true, XF,
  Bool.or_true, bne_self_eq_false, isT_dict_non, isT_dict_bl, isT_dict_int, isT_dict_str, isT_dict_tup, isT_dict_lst, isT_list_non, isT_list_bl, isT_list_int, isT_list_str, isT_list_tup, isT_list_lst, isT_tuple_non, isT_tuple_bl, isT_tuple_int, isT_tuple_str, isT_tuple_tup, isT_tuple_lst, isT_bool_non, isT_bool_bl, isT_bool_int, isT_bool_str, isT_bool_tup, isT_bool_lst, isT_str_non, isT_str_bl, isT_str_int, isT_str_str, isT_str_tup, isT_str_lst, isT_int_non, isT_int_bl, isT_int_int, isT_int_str, isT_int_tup, isT_int_lst,
  atI0, atI1, atI2, atI3, atI4, ixN51, ixN52, ixN53, ixN54])

def sp_cross : Spc := fun args Φ _ => ∃ p q : P3, args = [.val (dP p), .val (dP q)] ∧ Bh p ∧ Bh q ∧ Φ (.val (.int (crossI p q))) []
/-- slots: 0 p, 1 q -/
def T_cross : TDs :=
  (tRetD (tOpD (gI0 (· - ·)) (tOpD (gII CMulA (· * ·)) (tOpD gIx (tVarD 0) (tConD (.int 0))) (tOpD gIx (tVarD 1) (tConD (.int 1)))) (tOpD (gII CMulA (· * ·)) (tOpD gIx (tVarD 0) (tConD (.int 1))) (tOpD gIx (tVarD 1) (tConD (.int 0))))))
theorem rd_cross {args : En} {Φ : Res → List D → Prop} {Ψ : Xc → List D → Prop} (h : sp_cross args Φ Ψ) : T_cross (edOf args Φ XN) (noR ["p", "q"] args) := by
  obtain ⟨p, q, rfl, ⟨p1, p2, p3, p4⟩, ⟨q1, q2, q3, q4⟩, h⟩ := h
  unfold T_cross dP
  walk_at "vs"
  exact ⟨big (sm p1) (sm q2), big (sm p2) (sm q1), h⟩
def optP : Option P3 → D
  | none => .non
  | some f => dP f
theorem fold_from : ∀ {l : List P3} {acc : Option P3} {f : P3}, l.foldl rstep acc = some f → acc = some f ∨ f ∈ l
  | [], _, _, h => .inl h
  | p :: l, acc, f, h => by
    rcases fold_from (l := l) (acc := rstep acc p) h with z | z
    · cases acc with
      | none =>
        unfold rstep at z
        simp only at z
        split at z
        · cases z; exact .inr (by simp)
        · cases z
      | some g =>
        unfold rstep at z
        simp only at z
        split at z
        · cases z; exact .inr (by simp)
        · exact .inl z
    · exact .inr (List.mem_cons_of_mem _ z)
def SeqP (ps : List P3) (s : D) : Prop := s = .lst (ps.map dP) ∨ s = .tup (ps.map dP)
def sp_rightmost : Spc := fun args Φ _ => ∃ (ps : List P3) (s : D), args = [.val s] ∧ SeqP ps s ∧ ps.length ≤ 400 ∧ (∀ p ∈ ps, Bh p) ∧ Φ (.val (optP (rightm ps))) []
/-- slots: 0 points, 1 first, 2 p -/
def T_rightmost : TDs :=
  (tSeqD (tSetV 1 (tConD .non))
  (tCutD (tForLD (tOpD gAdd (tCaD gList (tConsD (tVarD 0) tNilD)) (tCaD gList (tConsD (tVarD 0) tNilD))) (tNamG 2) (tIfSD (tValD (tOpD (gIsN id) (tVarD 1) (tConD .non))) (tIfSD (tOrD (tValD (tOpD (gEq not) (tOpD gIx (tVarD 2) (tConD (.int 0))) (tConD (.int 0)))) (tValD (tOpD (gEq not) (tOpD gIx (tVarD 2) (tConD (.int 1))) (tConD (.int 0))))) (tSetV 1 (tVarD 2)) tNextD) (tIfSD (tValD (tOpD (gIB fun i j => decide (i < j)) (tCallD 2 (q0 sp_cross) (tConsD (tVarD 1) (tConsD (tVarD 2) tNilD))) (tConD (.int 0)))) (tSetV 1 (tVarD 2)) tNextD)))
  (tRetD (tVarD 1))))
theorem rd_rightmost {args : En} {Φ : Res → List D → Prop} {Ψ : Xc → List D → Prop} (h : sp_rightmost args Φ Ψ) : T_rightmost (edOf args Φ XN) (noR ["points", "first", "p"] args) := by
  obtain ⟨ps, s, rfl, hs, hl, hb, h⟩ := h
  unfold T_rightmost
  walk_at "vs"
  refine ⟨fun en => ∃ e2, en = [.val s, .val (optP (rightm ps)), e2], ?_, ?_⟩
  · refine forLo_i (fun i en => ∃ e2, en = [.val s, .val (optP (((ps ++ ps).take i).foldl rstep none)), e2]) (en1 := [.val s, .val .non, .no]) (ds := (ps ++ ps).map dP) (fun Φ z => ?_) ⟨_, rfl⟩ ?_ ?_
    · rw [List.map_append] at z
      rcases hs with rfl | rfl
      · walk_at "vs"
        intro p1 p2
        exact ⟨sz1000 (by rw [List.length_map]; omega), z⟩
      · walk_at "vs"
        intro p1 p2
        exact ⟨sz1000 (by rw [List.length_map]; omega), z⟩
    · rintro i d _ hd ⟨e2, rfl⟩
      obtain ⟨p, hp, rfl⟩ := get_map hd
      have mp : p ∈ ps := (List.mem_append.mp (List.mem_of_getElem? hp)).elim id id
      have bp := hb p mp
      have es : ((ps ++ ps).take (i + 1)).foldl rstep none = rstep (((ps ++ ps).take i).foldl rstep none) p := by
        rw [List.take_succ, hp, List.foldl_append]
        rfl
      have hg : ∀ f, ((ps ++ ps).take i).foldl rstep none = some f → f ∈ ps := fun f hf => by
        rcases fold_from hf with z | z
        · cases z
        · exact (List.mem_append.mp (List.mem_of_mem_take z)).elim id id
      rw [es]
      generalize hA : ((ps ++ ps).take i).foldl rstep none = A at *
      have ed : dP p = .tup [.int p.1, .int p.2.1, .int p.2.2] := rfl
      cases A with
      | none =>
        have e : optP (rstep none p) = if nzP p then dP p else .non := by
          unfold rstep
          simp only
          split <;> rfl
        rw [e]
        show _
        have e0 : optP none = .non := rfl
        rw [e0, ed]
        walk_at "vs"
        unfold nzP
        by_cases z1 : p.1 = 0
        · by_cases z2 : p.2.1 = 0
          · simp [z1, z2]
          · simp [z1, z2]
        · simp [z1]
      | some f =>
        have e : optP (rstep (some f) p) = if crossI f p < 0 then dP p else dP f := by
          unfold rstep
          simp only
          split <;> rfl
        rw [e]
        have e0 : optP (some f) = .tup [.int f.1, .int f.2.1, .int f.2.2] := rfl
        have e1 : dP f = .tup [.int f.1, .int f.2.1, .int f.2.2] := rfl
        rw [e0]
        unfold sp_cross
        walk_at "vs"
        refine ⟨f, p, by rw [e1], hb f (hg f rfl), bp, ?_⟩
        rw [e1]
        split
        · exact ⟨_, rfl⟩
        · exact ⟨_, rfl⟩
    · rintro _ ⟨e2, rfl⟩
      rw [List.length_map, List.take_length]
      exact ⟨e2, rfl⟩
  rintro _ ⟨e2, rfl⟩
  walk_at "vs"
  exact h
def sideD (ps : List P3) : D := match rightm ps with
  | none => .tup [.int 1, .int 0]
  | some f => if ∀ p ∈ ps, 0 ≤ crossI f p then .tup [.int (-f.2.1), .int f.1] else .non
def sp_side_found : Spc := fun args Φ _ => ∃ (ps : List P3) (s : D), args = [.val s] ∧ SeqP ps s ∧ ps.length ≤ 400 ∧ (∀ p ∈ ps, Bh p) ∧ Φ (.val (sideD ps)) []
/-- slots: 0 points, 1 first, 2 p -/
def T_side_found : TDs :=
  (tCutD (tSetV 1 (tCallD 1 (q0 sp_rightmost) (tConsD (tVarD 0) tNilD)))
  (tCutD (tIfSD (tValD (tOpD (gIsN id) (tVarD 1) (tConD .non))) (tRetD (tTupD (tConsD (tConD (.int 1)) (tConsD (tConD (.int 0)) tNilD)))) tNextD)
  (tCutD (tEitS (tForLD (tVarD 0) (tNamG 2) (tIfSD (tValD (tOpD (gIB fun i j => decide (i < j)) (tCallD 2 (q0 sp_cross) (tConsD (tVarD 1) (tConsD (tVarD 2) tNilD))) (tConD (.int 0)))) (tRetD (tConD .non)) tNextD)) (tForTD (tVarD 0) (tNamG 2) (tIfSD (tValD (tOpD (gIB fun i j => decide (i < j)) (tCallD 2 (q0 sp_cross) (tConsD (tVarD 1) (tConsD (tVarD 2) tNilD))) (tConD (.int 0)))) (tRetD (tConD .non)) tNextD)))
  (tRetD (tTupD (tConsD (tUnD (gU fun i => -i) (tOpD gIx (tVarD 1) (tConD (.int 1)))) (tConsD (tOpD gIx (tVarD 1) (tConD (.int 0))) tNilD)))))))
theorem rd_side_found {args : En} {Φ : Res → List D → Prop} {Ψ : Xc → List D → Prop} (h : sp_side_found args Φ Ψ) : T_side_found (edOf args Φ XN) (noR ["points", "first", "p"] args) := by
  obtain ⟨ps, s, rfl, hs, hl, hb, h⟩ := h
  unfold T_side_found
  refine ⟨fun en => en = [.val s, .val (optP (rightm ps)), .no], ?_, ?_⟩
  · unfold sp_rightmost
    walk_at "vs"
    exact ⟨ps, s, rfl, hs, hl, hb, rfl⟩
  rintro _ rfl
  unfold sideD at h
  cases hA : rightm ps with
  | none =>
    rw [hA] at h
    have e0 : optP none = .non := rfl
    rw [e0]
    refine ⟨fun _ => False, ?_, fun _ z => z.elim⟩
    walk_at "vs"
    exact ⟨sz1000 (by decide), h⟩
  | some f =>
    rw [hA] at h
    simp only at h
    have mf := (rightm_mem hA).1
    have bf := hb f mf
    have e0 : optP (some f) = dP f := rfl
    have e1 : dP f = .tup [.int f.1, .int f.2.1, .int f.2.2] := rfl
    rw [e0]
    refine ⟨fun en => en = [.val s, .val (dP f), .no], ?_, ?_⟩
    · rw [e1]
      walk_at "vs"
    rintro _ rfl
    refine ⟨fun en => (∃ e2, en = [.val s, .val (dP f), e2]) ∧ ∀ p ∈ ps, 0 ≤ crossI f p, ?_, ?_⟩
    · have no : ∀ p ∈ ps, crossI f p < 0 → Φ (.val .non) [] := fun p hp z => by
        rw [if_neg (fun k => by have := k p hp; omega)] at h
        exact h
      have tk : ∀ {i : Nat} {p : P3}, ps[i]? = some p → (∀ x ∈ ps.take i, 0 ≤ crossI f x) → 0 ≤ crossI f p → ∀ x ∈ ps.take (i + 1), 0 ≤ crossI f x := fun {i p} hp h1 h2 x hx => by
        rw [List.take_succ, hp] at hx
        simp only [Option.toList_some, List.mem_append, List.mem_cons, List.not_mem_nil, or_false] at hx
        rcases hx with z | z
        · exact h1 x z
        · rw [z]; exact h2
      rcases hs with rfl | rfl
      · generalize hS : Sl.val (D.lst (ps.map dP)) = S at *
        refine .inl (forL_i (fun i en => (∃ e2, en = [S, .val (dP f), e2]) ∧ ∀ x ∈ ps.take i, 0 ≤ crossI f x) (en1 := [S, .val (dP f), .no]) (ds := ps.map dP) (fun Φ z => ?_) ⟨⟨_, rfl⟩, by simp⟩ ?_ ?_)
        · subst hS
          walk_at "vs"
          exact z
        · rintro i d _ hd ⟨⟨e2, rfl⟩, hx⟩
          obtain ⟨p, hp, rfl⟩ := get_map hd
          have mp := List.mem_of_getElem? hp
          unfold sp_cross
          walk_at "vs"
          refine ⟨f, p, rfl, bf, hb p mp, ?_⟩
          split
          · rename_i z
            subst hS
            exact no p mp z
          · rename_i z
            exact ⟨⟨_, rfl⟩, tk hp hx (by omega)⟩
        · rintro _ ⟨⟨e2, rfl⟩, hx⟩
          rw [List.length_map, List.take_length] at hx
          exact ⟨⟨e2, rfl⟩, hx⟩
      · generalize hS : Sl.val (D.tup (ps.map dP)) = S at *
        refine .inr (forT_i (fun i en => (∃ e2, en = [S, .val (dP f), e2]) ∧ ∀ x ∈ ps.take i, 0 ≤ crossI f x) (en1 := [S, .val (dP f), .no]) (ds := ps.map dP) (fun Φ z => ?_) ⟨⟨_, rfl⟩, by simp⟩ ?_ ?_)
        · subst hS
          walk_at "vs"
          exact z
        · rintro i d _ hd ⟨⟨e2, rfl⟩, hx⟩
          obtain ⟨p, hp, rfl⟩ := get_map hd
          have mp := List.mem_of_getElem? hp
          unfold sp_cross
          walk_at "vs"
          refine ⟨f, p, rfl, bf, hb p mp, ?_⟩
          split
          · rename_i z
            subst hS
            exact no p mp z
          · rename_i z
            exact ⟨⟨_, rfl⟩, tk hp hx (by omega)⟩
        · rintro _ ⟨⟨e2, rfl⟩, hx⟩
          rw [List.length_map, List.take_length] at hx
          exact ⟨⟨e2, rfl⟩, hx⟩
    rintro _ ⟨⟨e2, rfl⟩, hx⟩
    rw [if_pos hx] at h
    rw [e1]
    walk_at "vs"
    exact ⟨sz1000 (by decide), h⟩
def sp_touches_zero : Spc := fun args Φ _ => ∃ (ps : List P3) (s : D), args = [.val s] ∧ SeqP ps s ∧ ps.length ≤ 400 ∧ (∀ p ∈ ps, Bh p) ∧ ∀ b : Bool, (b = true ↔ Touch ps) → Φ (.val (.bl b)) []
/-- slots: 0 points, 1 first, 2 p, 3 turn -/
def T_touches_zero : TDs :=
  (tCutD (tSetV 1 (tCallD 1 (q0 sp_rightmost) (tConsD (tVarD 0) tNilD)))
  (tCutD (tIfSD (tValD (tOpD (gIsN id) (tVarD 1) (tConD .non))) (tRetD (tConD (.bl true))) tNextD)
  (tCutD (tEitS (tForLD (tVarD 0) (tNamG 2) (tCutD (tSetV 3 (tCallD 2 (q0 sp_cross) (tConsD (tVarD 1) (tConsD (tVarD 2) tNilD))))
  (tCutD (tIfSD (tValD (tOpD (gIB fun i j => decide (i < j)) (tVarD 3) (tConD (.int 0)))) (tRetD (tConD (.bl true))) tNextD)
  (tIfSD (tAndD (tValD (tOpD (gEq id) (tVarD 3) (tConD (.int 0)))) (tValD (tOpD (gIB fun i j => decide (i ≤ j)) (tOpD gAdd (tOpD (gII CMulA (· * ·)) (tOpD gIx (tVarD 1) (tConD (.int 0))) (tOpD gIx (tVarD 2) (tConD (.int 0)))) (tOpD (gII CMulA (· * ·)) (tOpD gIx (tVarD 1) (tConD (.int 1))) (tOpD gIx (tVarD 2) (tConD (.int 1))))) (tConD (.int 0))))) (tRetD (tConD (.bl true))) tNextD)))) (tForTD (tVarD 0) (tNamG 2) (tCutD (tSetV 3 (tCallD 2 (q0 sp_cross) (tConsD (tVarD 1) (tConsD (tVarD 2) tNilD))))
  (tCutD (tIfSD (tValD (tOpD (gIB fun i j => decide (i < j)) (tVarD 3) (tConD (.int 0)))) (tRetD (tConD (.bl true))) tNextD)
  (tIfSD (tAndD (tValD (tOpD (gEq id) (tVarD 3) (tConD (.int 0)))) (tValD (tOpD (gIB fun i j => decide (i ≤ j)) (tOpD gAdd (tOpD (gII CMulA (· * ·)) (tOpD gIx (tVarD 1) (tConD (.int 0))) (tOpD gIx (tVarD 2) (tConD (.int 0)))) (tOpD (gII CMulA (· * ·)) (tOpD gIx (tVarD 1) (tConD (.int 1))) (tOpD gIx (tVarD 2) (tConD (.int 1))))) (tConD (.int 0))))) (tRetD (tConD (.bl true))) tNextD)))))
  (tRetD (tConD (.bl false))))))
theorem rd_touches_zero {args : En} {Φ : Res → List D → Prop} {Ψ : Xc → List D → Prop} (h : sp_touches_zero args Φ Ψ) : T_touches_zero (edOf args Φ XN) (noR ["points", "first", "p", "turn"] args) := by
  obtain ⟨ps, s, rfl, hs, hl, hb, h⟩ := h
  unfold T_touches_zero
  refine ⟨fun en => en = [.val s, .val (optP (rightm ps)), .no, .no], ?_, ?_⟩
  · unfold sp_rightmost
    walk_at "vs"
    exact ⟨ps, s, rfl, hs, hl, hb, rfl⟩
  rintro _ rfl
  unfold Touch at h
  cases hA : rightm ps with
  | none =>
    rw [hA] at h
    have e0 : optP none = .non := rfl
    rw [e0]
    refine ⟨fun _ => False, ?_, fun _ z => z.elim⟩
    walk_at "vs"
    exact h true (by simp)
  | some f =>
    rw [hA] at h
    simp only at h
    have mf := (rightm_mem hA).1
    have bf := hb f mf
    obtain ⟨f1, f2, _, _⟩ := bf
    have bf := hb f mf
    have e0 : optP (some f) = dP f := rfl
    have e1 : dP f = .tup [.int f.1, .int f.2.1, .int f.2.2] := rfl
    rw [e0]
    refine ⟨fun en => en = [.val s, .val (dP f), .no, .no], ?_, ?_⟩
    · rw [e1]
      walk_at "vs"
    rintro _ rfl
    have yes : ∀ p ∈ ps, (crossI f p < 0 ∨ crossI f p = 0 ∧ dotI f p ≤ 0) → Φ (.val (.bl true)) [] := fun p hp z => h true (by simp only [true_iff]; exact ⟨p, hp, z⟩)
    refine ⟨fun en => (∃ e2 e3, en = [.val s, .val (dP f), e2, e3]) ∧ ∀ p ∈ ps, ¬ (crossI f p < 0 ∨ crossI f p = 0 ∧ dotI f p ≤ 0), ?_, ?_⟩
    · have tk : ∀ {i : Nat} {p : P3}, ps[i]? = some p → (∀ x ∈ ps.take i, ¬ (crossI f x < 0 ∨ crossI f x = 0 ∧ dotI f x ≤ 0)) → ¬ (crossI f p < 0 ∨ crossI f p = 0 ∧ dotI f p ≤ 0) → ∀ x ∈ ps.take (i + 1), ¬ (crossI f x < 0 ∨ crossI f x = 0 ∧ dotI f x ≤ 0) := fun {i p} hp h1 h2 x hx => by
        rw [List.take_succ, hp] at hx
        simp only [Option.toList_some, List.mem_append, List.mem_cons, List.not_mem_nil, or_false] at hx
        rcases hx with z | z
        · exact h1 x z
        · rw [z]; exact h2
      rcases hs with rfl | rfl
      · generalize hS : Sl.val (D.lst (ps.map dP)) = S at *
        refine .inl (forL_i (fun i en => (∃ e2 e3, en = [S, .val (dP f), e2, e3]) ∧ ∀ x ∈ ps.take i, ¬ (crossI f x < 0 ∨ crossI f x = 0 ∧ dotI f x ≤ 0)) (en1 := [S, .val (dP f), .no, .no]) (ds := ps.map dP) (fun Φ z => ?_) ⟨⟨_, _, rfl⟩, by simp⟩ ?_ ?_)
        · subst hS
          walk_at "vs"
          exact z
        · rintro i d _ hd ⟨⟨e2, e3, rfl⟩, hx⟩
          obtain ⟨p, hp, rfl⟩ := get_map hd
          have mp := List.mem_of_getElem? hp
          obtain ⟨p1, p2, _, _⟩ := hb p mp
          have ed : dP p = .tup [.int p.1, .int p.2.1, .int p.2.2] := rfl
          show tCutD _ _ _ _
          refine ⟨fun en => en = [S, .val (dP f), .val (dP p), .val (.int (crossI f p))], ?_, ?_⟩
          · unfold sp_cross
            walk_at "vs"
            exact ⟨f, p, rfl, bf, hb p mp, rfl⟩
          rintro _ rfl
          refine ⟨fun en => en = [S, .val (dP f), .val (dP p), .val (.int (crossI f p))] ∧ ¬ crossI f p < 0, ?_, ?_⟩
          · walk_at "vs"
            split
            · rename_i z
              subst hS
              exact yes p mp (.inl z)
            · rename_i z
              exact z
          rintro _ ⟨rfl, nz⟩
          have fin : ¬ (crossI f p = 0 ∧ dotI f p ≤ 0) → (∃ e2 e3, ([S, .val (dP f), .val (dP p), .val (.int (crossI f p))] : En) = [S, .val (dP f), e2, e3]) ∧ ∀ x ∈ ps.take (i + 1), ¬ (crossI f x < 0 ∨ crossI f x = 0 ∧ dotI f x ≤ 0) := fun z =>
            ⟨⟨_, _, rfl⟩, tk hp hx (by omega)⟩
          have fin2 := yes p mp
          unfold dotI at fin fin2
          rw [e1, ed] at fin ⊢
          walk_at "vs"
          split
          · rename_i z
            refine ⟨big (sm f1) (sm p1), big (sm f2) (sm p2), ?_⟩
            split
            · rename_i w
              subst hS
              exact fin2 (.inr ⟨by simpa using z, w⟩)
            · rename_i w
              exact fin fun k => w k.2
          · rename_i z
            exact fin fun k => z (by simpa using k.1)
        · rintro _ ⟨⟨e2, e3, rfl⟩, hx⟩
          rw [List.length_map, List.take_length] at hx
          exact ⟨⟨e2, e3, rfl⟩, hx⟩
      · generalize hS : Sl.val (D.tup (ps.map dP)) = S at *
        refine .inr (forT_i (fun i en => (∃ e2 e3, en = [S, .val (dP f), e2, e3]) ∧ ∀ x ∈ ps.take i, ¬ (crossI f x < 0 ∨ crossI f x = 0 ∧ dotI f x ≤ 0)) (en1 := [S, .val (dP f), .no, .no]) (ds := ps.map dP) (fun Φ z => ?_) ⟨⟨_, _, rfl⟩, by simp⟩ ?_ ?_)
        · subst hS
          walk_at "vs"
          exact z
        · rintro i d _ hd ⟨⟨e2, e3, rfl⟩, hx⟩
          obtain ⟨p, hp, rfl⟩ := get_map hd
          have mp := List.mem_of_getElem? hp
          obtain ⟨p1, p2, _, _⟩ := hb p mp
          have ed : dP p = .tup [.int p.1, .int p.2.1, .int p.2.2] := rfl
          show tCutD _ _ _ _
          refine ⟨fun en => en = [S, .val (dP f), .val (dP p), .val (.int (crossI f p))], ?_, ?_⟩
          · unfold sp_cross
            walk_at "vs"
            exact ⟨f, p, rfl, bf, hb p mp, rfl⟩
          rintro _ rfl
          refine ⟨fun en => en = [S, .val (dP f), .val (dP p), .val (.int (crossI f p))] ∧ ¬ crossI f p < 0, ?_, ?_⟩
          · walk_at "vs"
            split
            · rename_i z
              subst hS
              exact yes p mp (.inl z)
            · rename_i z
              exact z
          rintro _ ⟨rfl, nz⟩
          have fin : ¬ (crossI f p = 0 ∧ dotI f p ≤ 0) → (∃ e2 e3, ([S, .val (dP f), .val (dP p), .val (.int (crossI f p))] : En) = [S, .val (dP f), e2, e3]) ∧ ∀ x ∈ ps.take (i + 1), ¬ (crossI f x < 0 ∨ crossI f x = 0 ∧ dotI f x ≤ 0) := fun z =>
            ⟨⟨_, _, rfl⟩, tk hp hx (by omega)⟩
          have fin2 := yes p mp
          unfold dotI at fin fin2
          rw [e1, ed] at fin ⊢
          walk_at "vs"
          split
          · rename_i z
            refine ⟨big (sm f1) (sm p1), big (sm f2) (sm p2), ?_⟩
            split
            · rename_i w
              subst hS
              exact fin2 (.inr ⟨by simpa using z, w⟩)
            · rename_i w
              exact fin fun k => w k.2
          · rename_i z
            exact fin fun k => z (by simpa using k.1)
        · rintro _ ⟨⟨e2, e3, rfl⟩, hx⟩
          rw [List.length_map, List.take_length] at hx
          exact ⟨⟨e2, e3, rfl⟩, hx⟩
    rintro _ ⟨⟨e2, e3, rfl⟩, hx⟩
    walk_at "vs"
    exact h false ⟨fun z => (by cases z), fun ⟨p, hp, z⟩ => absurd z (hx p hp)⟩
theorem sideD_none {ps : List P3} : (∃ a b, sideD ps = .tup [.int a, .int b] ∧ Sided ps) ∨ sideD ps = .non ∧ ¬ Sided ps := by
  have k := sided_iff ps
  unfold sideD
  cases e : rightm ps with
  | none =>
    rw [e] at k
    exact .inl ⟨_, _, rfl, k.mpr trivial⟩
  | some f =>
    rw [e] at k
    simp only at k ⊢
    split
    · rename_i z
      exact .inl ⟨_, _, rfl, k.mpr z⟩
    · rename_i z
      exact .inr ⟨rfl, fun w => z (k.mp w)⟩
end VS

namespace VS
open PySem L2 PySem.Spec PyProof.Rows
local macro_rules | `(tactic| walk_at "vs") => `(tactic| simp (maxSteps := 400000) only [tSeqD, tEitD, tEitS, tRevD, tRepD, tNewT, tPutT, gListT, gGcd3, gLt2, tFgtD, gAny, gMin, gGcd, tRaiseFlat, tTryD, tFldFlat, tIsX, tIfSD, tRetD, retD, tSetD, tSetV, tVarD, tConD, tOpD, tUnD, tCaD, tCallD, tConsD, tNilD, tTupD, tLstD, tValD, tAndD, tOrD, tNotD, tIfD, tAndDV, tOrDV, tNotDV, tAsgD, tParD, tPar3D, tNamG, tTupG, tNilG, tConsG, tUnlG, tDropD, tNextD, tBrkD, tCntD, tNeverD, tStoD, tMetD, tSlLD, tNoPartD, tPartD, tChD, tIsiD, tIsiTD, tIsi3D, tFrzD, q0, tYesD, wipeD,
  gI0, gII, gIB, gAdd, gU, gEq, gIx, gIsN, gLen, gInt, gAbs, gBool, gList, gTupC, mAppend, mPop, mPopAt, mInsert, mReverse, rd, rds, vl, vls, slR, nob, mkArgs, bors, putOwns, edOf, outsP, noR, shD, eqD,
  List.getElem?_cons_zero, List.getElem?_cons_succ, List.getElem?_nil, List.set_cons_zero, List.set_cons_succ, List.cons_append, List.nil_append, List.length_cons, List.length_nil, List.replicate, Nat.add_sub_cancel, Nat.sub_self, Nat.reduceAdd, Nat.reduceSub, Int.reduceToNat, Int.reducePow, Int.reduceNeg, Int.reduceAdd, Int.reduceSub, Int.reduceMul, id_eq, true_and, and_true, List.nodup_nil, if_true, if_false, List.nodup_cons, List.not_mem_nil, not_false_eq_true, Bool.not_true, Bool.not_false, Bool.true_or, Bool.or_false, Bool.false_or, decide_eq_true_eq, Bool.false_eq_true, XF,
  Bool.or_true, bne_self_eq_false, isT_dict_non, isT_dict_bl, isT_dict_int, isT_dict_str, isT_dict_tup, isT_dict_lst, isT_list_non, isT_list_bl, isT_list_int, isT_list_str, isT_list_tup, isT_list_lst, isT_tuple_non, isT_tuple_bl, isT_tuple_int, isT_tuple_str, isT_tuple_tup, isT_tuple_lst, isT_bool_non, isT_bool_bl, isT_bool_int, isT_bool_str, isT_bool_tup, isT_bool_lst, isT_str_non, isT_str_bl, isT_str_int, isT_str_str, isT_str_tup, isT_str_lst, isT_int_non, isT_int_bl, isT_int_int, isT_int_str, isT_int_tup, isT_int_lst,
  atI0, atI1, atI2, atI3, atI4, ixN51, ixN52, ixN53, ixN54])
local macro_rules | `(tactic| walk_at "vh") => `(tactic| simp (maxSteps := 400000) only [tSeqD, tEitD, tEitS, tRevD, tRepD, tNewT, tPutT, gListT, gGcd3, gLt2, tFgtD, gAny, gMin, gGcd, tRaiseFlat, tTryD, tFldFlat, tIsX, tIfSD, tRetD, retD, tSetD, tSetV, tVarD, tConD, tOpD, tUnD, tCaD, tCallD, tConsD, tNilD, tTupD, tLstD, tValD, tAndD, tOrD, tNotD, tIfD, tAndDV, tOrDV, tNotDV, tAsgD, tParD, tPar3D, tNamG, tTupG, tNilG, tConsG, tUnlG, tDropD, tNextD, tBrkD, tCntD, tNeverD, tStoD, tMetD, tSlLD, tNoPartD, tPartD, tChD, tIsiD, tIsiTD, tIsi3D, tFrzD, q0, tYesD, wipeD,
  gI0, gII, gIB, gAdd, gU, gEq, gIx, gIsN, gLen, gInt, gAbs, gBool, gList, gTupC, mAppend, mPop, mPopAt, mInsert, mReverse, rd, rds, vl, vls, slR, nob, mkArgs, bors, putOwns, edOf, outsP, noR, shD, eqD,
  List.getElem?_cons_zero, List.getElem?_cons_succ, List.getElem?_nil, List.set_cons_zero, List.set_cons_succ, List.cons_append, List.nil_append, List.length_cons, List.length_nil, List.replicate, Nat.add_sub_cancel, Nat.sub_self, Nat.reduceAdd, Nat.reduceSub, Int.reduceToNat, Int.reducePow, Int.reduceNeg, Int.reduceAdd, Int.reduceSub, Int.reduceMul, id_eq, true_and, and_true, List.nodup_nil, if_true, if_false, List.nodup_cons, List.not_mem_nil, not_false_eq_true, Bool.not_true, Bool.not_false, Bool.true_or, Bool.or_false, Bool.false_or, decide_eq_true_eq, Bool.false_eq_true, XF,
  Bool.or_true, bne_self_eq_false, isT_dict_non, isT_dict_bl, isT_dict_int, isT_dict_str, isT_dict_tup, isT_dict_lst, isT_list_non, isT_list_bl, isT_list_int, isT_list_str, isT_list_tup, isT_list_lst, isT_tuple_non, isT_tuple_bl, isT_tuple_int, isT_tuple_str, isT_tuple_tup, isT_tuple_lst, isT_bool_non, isT_bool_bl, isT_bool_int, isT_bool_str, isT_bool_tup, isT_bool_lst, isT_str_non, isT_str_bl, isT_str_int, isT_str_str, isT_str_tup, isT_str_lst, isT_int_non, isT_int_bl, isT_int_int, isT_int_str, isT_int_tup, isT_int_lst,
  atI0, atI1, atI2, atI3, atI4, ixN51, ixN52, ixN53, ixN54, *])
local macro_rules | `(tactic| walk_at "lf") => `(tactic| ((repeat' (with_reducible apply And.intro)) <;> first | exact mulR (by decide) (by decide) | exact pow1018 | exact pow3 (by omega) | exact divB (by omega) (by omega) | exact Int.emod_nonneg _ (by omega) | exact Int.emod_lt_of_pos _ (by omega) | exact Int.ediv_nonneg (by omega) (by omega) | omega | decide | assumption | skip))
local macro_rules | `(tactic| walk_at "vn") => `(tactic| simp (maxSteps := 400000) only [tSeqD, tEitD, tEitS, tRevD, tRepD, tNewT, tPutT, gListT, gGcd3, gLt2, tFgtD, gAny, gMin, gGcd, tRaiseFlat, tTryD, tFldFlat, tIsX, tIfSD, tRetD, retD, tSetD, tSetV, tVarD, tConD, tOpD, tUnD, tCaD, tCallD, tConsD, tNilD, tTupD, tLstD, tValD, tAndD, tOrD, tNotD, tIfD, tAndDV, tOrDV, tNotDV, tAsgD, tParD, tPar3D, tNamG, tTupG, tNilG, tConsG, tUnlG, tDropD, tNextD, tBrkD, tCntD, tNeverD, tStoD, tMetD, tSlLD, tNoPartD, tPartD, tChD, tIsiD, tIsiTD, tIsi3D, tFrzD, q0, tYesD, wipeD,
  gI0, gII, gIB, gAdd, gU, gEq, gIx, gIsN, gLen, gInt, gAbs, gBool, gList, gTupC, mAppend, mPop, mPopAt, mInsert, mReverse, rd, rds, vl, vls, slR, nob, mkArgs, bors, putOwns, edOf, outsP, noR,
  List.getElem?_cons_zero, List.getElem?_cons_succ, List.getElem?_nil, List.set_cons_zero, List.set_cons_succ, List.cons_append, List.nil_append, List.length_cons, List.length_nil, List.replicate, Nat.add_sub_cancel, Nat.sub_self, Nat.reduceAdd, Nat.reduceSub, Int.reduceToNat, Int.reducePow, Int.reduceNeg, Int.reduceAdd, Int.reduceSub, Int.reduceMul, id_eq, true_and, and_true, List.nodup_nil, if_true, if_false, List.nodup_cons, List.not_mem_nil, not_false_eq_true, Bool.not_true, Bool.not_false, Bool.true_or, Bool.or_false, Bool.false_or, decide_eq_true_eq, Bool.false_eq_true, XF,
  Bool.or_true, bne_self_eq_false, isT_dict_non, isT_dict_bl, isT_dict_int, isT_dict_str, isT_dict_tup, isT_dict_lst, isT_list_non, isT_list_bl, isT_list_int, isT_list_str, isT_list_tup, isT_list_lst, isT_tuple_non, isT_tuple_bl, isT_tuple_int, isT_tuple_str, isT_tuple_tup, isT_tuple_lst, isT_bool_non, isT_bool_bl, isT_bool_int, isT_bool_str, isT_bool_tup, isT_bool_lst, isT_str_non, isT_str_bl, isT_str_int, isT_str_str, isT_str_tup, isT_str_lst, isT_int_non, isT_int_bl, isT_int_int, isT_int_str, isT_int_tup, isT_int_lst,
  atI0, atI1, atI2, atI3, atI4, ixN51, ixN52, ixN53, ixN54])

def dU (u : Int × Int) : D := .tup [.int u.1, .int u.2]
def sp_lowest : Spc := fun args Φ _ => ∃ t b : Int, args = [.val (.int t), .val (.int b)] ∧ 0 < b ∧ b < (BB : Int) ∧ Φ (.val (dU (t / (Int.gcd t b : Nat), b / (Int.gcd t b : Nat)))) []
/-- slots: 0 top, 1 bottom, 2 common -/
def T_lowest : TDs :=
  (tCutD (tSetV 2 (tCaD gGcd (tConsD (tVarD 0) (tConsD (tVarD 1) tNilD))))
  (tRetD (tTupD (tConsD (tOpD (gII CDivW (· / ·)) (tVarD 0) (tVarD 2)) (tConsD (tOpD (gII CDivW (· / ·)) (tVarD 1) (tVarD 2)) tNilD)))))
theorem rd_lowest {args : En} {Φ : Res → List D → Prop} {Ψ : Xc → List D → Prop} (h : sp_lowest args Φ Ψ) : T_lowest (edOf args Φ XN) (noR ["top", "bottom", "common"] args) := by
  obtain ⟨t, b, rfl, b0, bB, h⟩ := h
  have g0 : 0 < Int.gcd t b := Int.gcd_pos_of_ne_zero_right _ (by omega)
  have g1 : (Int.gcd t b : Int) ≤ b := Int.le_of_dvd b0 (Int.gcd_dvd_right ..)
  unfold T_lowest
  refine ⟨fun en => en = [.val (.int t), .val (.int b), .val (.int (Int.gcd t b : Nat))], by walk_at "vs", ?_⟩
  rintro _ rfl
  walk_at "vs"
  exact ⟨divW (by omega) (by omega), divW (by omega) (by omega), sz1000 (by decide), h⟩
def sp_step_along : Spc := fun args Φ _ => ∃ p q : P3, args = [.val (dP p), .val (dP q)] ∧ Bh p ∧ Bh q ∧ Φ (.val (dU (dx p q, dy p q))) []
/-- slots: 0 p, 1 q -/
def T_step_along : TDs :=
  (tRetD (tTupD (tConsD (tOpD (gI0 (· - ·)) (tOpD (gII CMulA (· * ·)) (tOpD gIx (tVarD 1) (tConD (.int 0))) (tOpD gIx (tVarD 0) (tConD (.int 2)))) (tOpD (gII CMulA (· * ·)) (tOpD gIx (tVarD 0) (tConD (.int 0))) (tOpD gIx (tVarD 1) (tConD (.int 2))))) (tConsD (tOpD (gI0 (· - ·)) (tOpD (gII CMulA (· * ·)) (tOpD gIx (tVarD 1) (tConD (.int 1))) (tOpD gIx (tVarD 0) (tConD (.int 2)))) (tOpD (gII CMulA (· * ·)) (tOpD gIx (tVarD 0) (tConD (.int 1))) (tOpD gIx (tVarD 1) (tConD (.int 2))))) tNilD))))
theorem rd_step_along {args : En} {Φ : Res → List D → Prop} {Ψ : Xc → List D → Prop} (h : sp_step_along args Φ Ψ) : T_step_along (edOf args Φ XN) (noR ["p", "q"] args) := by
  obtain ⟨p, q, rfl, ⟨p1, p2, p3, p4⟩, ⟨q1, q2, q3, q4⟩, h⟩ := h
  unfold T_step_along dP
  walk_at "vs"
  exact ⟨mulW (sm q1) p3 p4, mulW (sm p1) q3 q4, mulW (sm q2) p3 p4, mulW (sm p2) q3 q4, sz1000 (by decide), h⟩
theorem cut_at1 (v : P3) (t : List P3) : cutD ((v :: t).map dP) (some 1) none = t.map dP := by
  rw [cut_map]
  unfold cutG
  rw [HT.sIx_none]
  have e : HT.sIx (v :: t).length 0 (some 1) = 1 := by
    unfold HT.sIx
    simp
  rw [e]
  simp
theorem cut_to1 (v : P3) (t : List P3) : cutD ((v :: t).map dP) none (some 1) = [dP v] := by
  rw [cut_map]
  unfold cutG
  rw [HT.sIx_none]
  have e : HT.sIx (v :: t).length (v :: t).length (some 1) = 1 := by
    unfold HT.sIx
    simp
  rw [e]
  simp
def stepU (pq : P3 × P3) : Int × Int := (dx pq.1 pq.2, dy pq.1 pq.2)
/-- the sides of a list of corners as steps -/
def dirL : List P3 → List (Int × Int)
  | [] => []
  | [_] => []
  | v :: b :: r => ((v :: b :: r).zip (b :: r ++ [v])).map stepU
theorem zip_left {α : Type} : ∀ (A B C : List α), C.length ≤ A.length → (A ++ B).zip C = A.zip C
  | [], B, [], _ => by simp
  | [], B, c :: C, h => by simp at h
  | a :: A, B, [], _ => by simp
  | a :: A, B, c :: C, h => by
    show (a, c) :: (A ++ B).zip C = (a, c) :: A.zip C
    rw [zip_left A B C (by simpa using h)]
theorem edge_zip {c q : P3} : ∀ {A B : List P3}, (c, q) ∈ (A ++ c :: q :: B).zip (A ++ c :: q :: B).tail
  | [], B => by simp
  | [a], B => by simp
  | a :: a2 :: A, B => by
    have := edge_zip (c := c) (q := q) (A := a2 :: A) (B := B)
    exact List.mem_cons_of_mem _ this
theorem edge_dir {v : P3} {t : List P3} (ht : t ≠ []) {c q : P3} (e : Edge (v :: t ++ [v]) c q) : (dx c q, dy c q) ∈ dirL (v :: t) := by
  match t, ht, e with
  | b :: r, _, ⟨A, B, e⟩ =>
    have k := edge_zip (c := c) (q := q) (A := A) (B := B)
    rw [← e] at k
    have e2 : (v :: (b :: r) ++ [v]).tail = b :: r ++ [v] := rfl
    rw [e2, zip_left _ _ _ (by simp)] at k
    exact List.mem_map.mpr ⟨(c, q), k, rfl⟩
theorem dir_edge {v : P3} {t : List P3} {u : Int × Int} (h : u ∈ dirL (v :: t)) : t ≠ [] ∧ ∃ c q, c ∈ v :: t ∧ q ∈ v :: t ∧ u = (dx c q, dy c q) := by
  match t, h with
  | b :: r, h =>
    obtain ⟨⟨c, q⟩, hm, rfl⟩ := List.mem_map.mp h
    obtain ⟨h1, h2⟩ := List.of_mem_zip hm
    refine ⟨by simp, c, q, h1, ?_, rfl⟩
    rcases List.mem_append.mp h2 with z | z
    · exact List.mem_cons_of_mem _ z
    · have z' : q = v := by simpa using z
      rw [z']
      simp
theorem dir_len (L : List P3) : (dirL L).length ≤ L.length := by
  match L with
  | [] => exact Nat.le_refl _
  | [_] => simp [dirL]
  | v :: b :: r => simp [dirL]
def sp_directions : Spc := fun args Φ _ => ∃ (v : P3) (t : List P3), args = [.val (.lst ((v :: t).map dP))] ∧ t.length < 1000 ∧ (∀ p ∈ v :: t, Bh p) ∧ ∀ a : Addr, Φ (.own a (.lst ((dirL (v :: t)).map dU))) []
/-- slots: 0 corners, 1 ahead, 2 p, 3 q -/
def T_directions : TDs :=
  (tCutD (tIfSD (tValD (tOpD (gEq id) (tCaD gLen (tConsD (tVarD 0) tNilD)) (tConD (.int 1)))) (tRetD (tLstD tNilD)) tNextD)
  (tCutD (tSetV 1 (tOpD gAdd (tSlLD (tVarD 0) (tPartD (tConD (.int 1))) tNoPartD) (tSlLD (tVarD 0) tNoPartD (tPartD (tConD (.int 1))))))
  (tRetD (tLcZ (tConsD (tVarD 0) (tConsD (tVarD 1) tNilD)) (tTupG 2 (tConsG (tNamG 2) (tConsG (tNamG 3) tNilG))) tYesD (tCallD 2 (q0 sp_step_along) (tConsD (tVarD 2) (tConsD (tVarD 3) tNilD))) [2, 3]))))
theorem rd_directions {args : En} {Φ : Res → List D → Prop} {Ψ : Xc → List D → Prop} (h : sp_directions args Φ Ψ) : T_directions (edOf args Φ XN) (noR ["corners", "ahead", "p", "q"] args) := by
  obtain ⟨v, t, rfl, hl, hb, h⟩ := h
  unfold T_directions
  cases t with
  | nil =>
    refine ⟨fun _ => False, ?_, fun _ z => z.elim⟩
    walk_at "vs"
    simp only [List.map_cons, List.map_nil, List.length_cons, List.length_nil]
    exact ⟨sz1000 (by decide), fun a => h a⟩
  | cons b r =>
    have hne : ¬ ((List.map dP (v :: b :: r)).length : Int) = 1 := by simp; omega
    refine ⟨fun en => en = [.val (.lst ((v :: b :: r).map dP)), .no, .no, .no], ?_, ?_⟩
    · generalize hQ : List.map dP (v :: b :: r) = Q at hne ⊢
      walk_at "vs"
      rw [if_neg (by simpa using hne)]
      trivial
    rintro _ rfl
    have eM : (b :: r).map dP ++ [dP v] = (b :: r ++ [v]).map dP := by simp
    refine ⟨fun en => en = [.val (.lst ((v :: b :: r).map dP)), .val (.lst ((b :: r ++ [v]).map dP)), .no, .no], ?_, ?_⟩
    · have c1 := cut_at1 v (b :: r)
      have c2 := cut_to1 v (b :: r)
      rw [← eM]
      have hlen : ((b :: r).map dP).length ≤ 1000 := by rw [List.length_map]; omega
      generalize hQ : List.map dP (v :: b :: r) = Q at *
      generalize hR : List.map dP (b :: r) = Rr at *
      walk_at "vs"
      rw [c1, c2]
      intro p1 p2
      exact ⟨sz1000 (by simp; omega), fun _ => rfl⟩
    rintro _ rfl
    unfold tLcZ
    have hz : ((v :: b :: r).zip (b :: r ++ [v])).length = (v :: b :: r).length := by simp
    have hmn : min (List.map dP (v :: b :: r)).length (List.map dP (b :: r ++ [v])).length = (v :: b :: r).length := by simp
    have h' : ∀ a, Φ (.own a (.lst (((v :: b :: r).zip (b :: r ++ [v])).map fun pq => dU (stepU pq)))) [] := fun a => by
      have := h a
      unfold dirL at this
      rw [List.map_map] at this
      exact this
    have hM : ∀ q ∈ b :: r ++ [v], Bh q := fun q hq => by
      rcases List.mem_append.mp hq with z | z
      · exact hb q (List.mem_cons_of_mem _ z)
      · have z' : q = v := by simpa using z
        rw [z']
        exact hb v (by simp)
    have hl' : (v :: b :: r).length ≤ 1000 := by simp only [List.length_cons] at hl ⊢; omega
    clear h hne eM
    generalize v :: b :: r = L at *
    generalize b :: r ++ [v] = M at *
    walk_at "vs"
    refine ⟨_, _, .inl ⟨rfl, rfl⟩, fun i acc en => acc = ((L.zip M).take i).map (fun pq => dU (stepU pq)) ∧ en = [.val (.lst (L.map dP)), .val (.lst (M.map dP)), .no, .no], ⟨rfl, rfl⟩, ?_, ?_⟩
    · rintro i d e acc en hd he ⟨rfl, rfl⟩
      obtain ⟨p, hp, rfl⟩ := get_map hd
      obtain ⟨q, hq, rfl⟩ := get_map he
      have hi := (List.getElem?_eq_some_iff.mp hp).1
      have hpq : (L.zip M)[i]? = some (p, q) := by rw [List.getElem?_zip_eq_some]; exact ⟨hp, hq⟩
      unfold lcStep sp_step_along
      walk_at "vs"
      refine ⟨p, q, rfl, hb p (List.mem_of_getElem? hp), hM q (List.mem_of_getElem? hq), sz1001 (by rw [List.length_map, List.length_take]; omega), ?_⟩
      rw [List.take_succ, hpq]
      simp [stepU]
    · rintro acc en p ⟨rfl, rfl⟩
      rw [hmn, ← hz, List.take_length]
      exact h' p
def normU (u : Int × Int) : Int × Int := (-u.2, u.1)
def nD : D → D
  | .tup [.int a, .int b] => .tup [.int (-b), .int a]
  | _ => .non
theorem nD_map (us : List (Int × Int)) : (us.map dU).map nD = (us.map normU).map dU := by
  rw [List.map_map, List.map_map]
  rfl
def sp_normals : Spc := fun args Φ _ => ∃ (v : P3) (t : List P3), args = [.val (.lst ((v :: t).map dP))] ∧ t.length < 1000 ∧ (∀ p ∈ v :: t, Bh p) ∧ ∀ a : Addr, Φ (.own a (.lst (((dirL (v :: t)).map normU).map dU))) []
section
variable {ti te : TDe} {tG : TDg} {tt : TDt} {vs : List Nat} {Ψ : Px} {en en1 : En} {Φ : Res → En → Prop} {ds : List D}
theorem lcLo_i (J : Nat → List D → En → Prop) (hti : ∀ Φ : Res → En → Prop, (∀ p, Φ (.own p (.lst ds)) en1) → ti Ψ en Φ) (hw : wipeD en1 vs = en1) (j0 : J 0 [] en1)
    (step : ∀ i d acc en, ds[i]? = some d → J i acc en → lcStep tG tt te vs (J (i + 1)) d acc en) (fin : ∀ acc en2 p, J ds.length acc en2 → Φ (.own p (.lst acc)) en2) : tLcL ti tG tt te vs Ψ en Φ :=
  hti _ fun _ => ⟨hw, J, j0, step, fin⟩
end
/-- slots: 0 corners, 1 right, 2 up -/
def T_normals : TDs :=
  (tRetD (tLcL (tCallD 1 (q0 sp_directions) (tConsD (tVarD 0) tNilD)) (tTupG 2 (tConsG (tNamG 1) (tConsG (tNamG 2) tNilG))) tYesD (tTupD (tConsD (tUnD (gU fun i => -i) (tVarD 2)) (tConsD (tVarD 1) tNilD))) [1, 2]))
theorem rd_normals {args : En} {Φ : Res → List D → Prop} {Ψ : Xc → List D → Prop} (h : sp_normals args Φ Ψ) : T_normals (edOf args Φ XN) (noR ["corners", "right", "up"] args) := by
  obtain ⟨v, t, rfl, hl, hb, h⟩ := h
  unfold T_normals
  have dl := dir_len (v :: t)
  rw [List.length_cons] at dl
  generalize hL : v :: t = L at *
  walk_at "vs"
  refine lcLo_i (fun i acc e => e = [.val (.lst (L.map dP)), .no, .no] ∧ acc = (((dirL L).map dU).take i).map nD) (en1 := [.val (.lst (L.map dP)), .no, .no]) (ds := (dirL L).map dU) (fun Φ z => ?_) rfl ⟨rfl, rfl⟩ ?_ ?_
  · unfold sp_directions
    walk_at "vs"
    subst hL
    exact ⟨v, t, rfl, hl, hb, fun a => z a⟩
  · rintro i d acc en hd ⟨rfl, rfl⟩
    have hi := (List.getElem?_eq_some_iff.mp hd).1
    rw [List.length_map] at hi
    obtain ⟨u, hu, rfl⟩ := get_map hd
    have eu : dU u = .tup [.int u.1, .int u.2] := rfl
    unfold lcStep
    have fin : ([.val (.lst (L.map dP)), .no, .no] : En) = [.val (.lst (L.map dP)), .no, .no] ∧ (((dirL L).map dU).take i).map nD ++ [.tup [.int (-u.2), .int u.1]] = (((dirL L).map dU).take (i + 1)).map nD := by
      refine ⟨rfl, ?_⟩
      rw [List.take_succ, hd]
      simp [nD, dU]
    generalize (((dirL L).map dU).take (i + 1)).map nD = R1 at fin ⊢
    have hln : ((((dirL L).map dU).take i).map nD).length < sizeLine := sz1001 (by rw [List.length_map, List.length_take]; omega)
    generalize (((dirL L).map dU).take i).map nD = R0 at fin hln ⊢
    rw [eu]
    walk_at "vs"
    exact ⟨sz1000 (by decide), hln, fin.2⟩
  · rintro acc en p ⟨rfl, rfl⟩
    rw [List.take_length, nD_map]
    walk_at "vs"
    exact h p
/-- the least value of a direction, with the weight of its point -/
def Least (u : Int × Int) (L : List P3) (m : Int × Int) : Prop := (∃ p ∈ L, m = (valI u.1 u.2 p, p.2.2)) ∧ ∀ q ∈ L, m.1 * q.2.2 ≤ valI u.1 u.2 q * m.2
theorem least_put {u m : Int × Int} {L : List P3} {p : P3} (hw : ∀ q ∈ L, PosW q) (wp : PosW p) (h : Least u L m) (lt : valI u.1 u.2 p * m.2 < m.1 * p.2.2) : Least u (L ++ [p]) (valI u.1 u.2 p, p.2.2) := by
  obtain ⟨⟨p0, hp0, rfl⟩, hl⟩ := h
  have w0 := hw p0 hp0
  refine ⟨⟨p, by simp, rfl⟩, fun q hq => ?_⟩
  rcases List.mem_append.mp hq with z | z
  · have k := hl q z
    have wq := hw q z
    simp only at k lt ⊢
    have u1 : valI u.1 u.2 p * p0.2.2 * q.2.2 ≤ valI u.1 u.2 p0 * p.2.2 * q.2.2 := Int.mul_le_mul_of_nonneg_right (by omega) (Int.le_of_lt wq)
    have u2 : valI u.1 u.2 p0 * q.2.2 * p.2.2 ≤ valI u.1 u.2 q * p0.2.2 * p.2.2 := Int.mul_le_mul_of_nonneg_right k (Int.le_of_lt wp)
    have u3 : p0.2.2 * (valI u.1 u.2 p * q.2.2) ≤ p0.2.2 * (valI u.1 u.2 q * p.2.2) := by
      have e1 : p0.2.2 * (valI u.1 u.2 p * q.2.2) = valI u.1 u.2 p * p0.2.2 * q.2.2 := by grind
      have e2 : p0.2.2 * (valI u.1 u.2 q * p.2.2) = valI u.1 u.2 q * p0.2.2 * p.2.2 := by grind
      have e3 : valI u.1 u.2 p0 * p.2.2 * q.2.2 = valI u.1 u.2 p0 * q.2.2 * p.2.2 := by grind
      omega
    exact Int.le_of_mul_le_mul_left u3 w0
  · have z' : q = p := by simpa using z
    rw [z']
    exact Int.le_refl _
theorem least_keep {u m : Int × Int} {L : List P3} {p : P3} (h : Least u L m) (nlt : ¬ valI u.1 u.2 p * m.2 < m.1 * p.2.2) : Least u (L ++ [p]) m := by
  obtain ⟨⟨p0, hp0, e⟩, hl⟩ := h
  refine ⟨⟨p0, List.mem_append_left _ hp0, e⟩, fun q hq => ?_⟩
  rcases List.mem_append.mp hq with z | z
  · exact hl q z
  · have z' : q = p := by simpa using z
    rw [z']
    omega
theorem val_bd {a b : Int} {p : P3} {k j : Nat} (ha : a.natAbs < 2 ^ k) (hb : b.natAbs < 2 ^ k) (h1 : p.1.natAbs < 2 ^ j) (h2 : p.2.1.natAbs < 2 ^ j) : (valI a b p).natAbs < 2 ^ (k + j + 1) := by
  unfold valI
  exact add_bd (mul_bd2 ha h1) (mul_bd2 hb h2)
def sp_least_value : Spc := fun args Φ _ => ∃ (u : Int × Int) (L : List P3), args = [.val (dU u), .val (.lst (L.map dP))] ∧ L ≠ [] ∧ L.length ≤ 1000 ∧ u.1.natAbs < 2 ^ 8001 ∧ u.2.natAbs < 2 ^ 8001 ∧ (∀ p ∈ L, Bh p) ∧ ∀ m : Int × Int, Least u L m → Φ (.val (dU m)) []
/-- slots: 0 normal, 1 points, 2 low, 3 x, 4 y, 5 w, 6 value -/
def T_least_value : TDs :=
  (tSeqD (tSetV 2 (tConD .non))
  (tCutD (tForLD (tVarD 1) (tTupG 3 (tConsG (tNamG 3) (tConsG (tNamG 4) (tConsG (tNamG 5) tNilG)))) (tCutD (tSetV 6 (tOpD gAdd (tOpD (gII CMulA (· * ·)) (tOpD gIx (tVarD 0) (tConD (.int 0))) (tVarD 3)) (tOpD (gII CMulA (· * ·)) (tOpD gIx (tVarD 0) (tConD (.int 1))) (tVarD 4))))
  (tIfSD (tOrD (tValD (tOpD (gIsN id) (tVarD 2) (tConD .non))) (tValD (tOpD (gIB fun i j => decide (i < j)) (tOpD (gII CMulA (· * ·)) (tVarD 6) (tOpD gIx (tVarD 2) (tConD (.int 1)))) (tOpD (gII CMulA (· * ·)) (tOpD gIx (tVarD 2) (tConD (.int 0))) (tVarD 5))))) (tSetV 2 (tTupD (tConsD (tVarD 6) (tConsD (tVarD 5) tNilD)))) tNextD)))
  (tRetD (tVarD 2))))
theorem rd_least_value {args : En} {Φ : Res → List D → Prop} {Ψ : Xc → List D → Prop} (h : sp_least_value args Φ Ψ) : T_least_value (edOf args Φ XN) (noR ["normal", "points", "low", "x", "y", "w", "value"] args) := by
  obtain ⟨u, L, rfl, hne, hl, u1, u2, hb, h⟩ := h
  unfold T_least_value
  walk_at "vs"
  refine ⟨fun en => ∃ (m : Int × Int) (e3 e4 e5 e6 : Sl), en = [.val (dU u), .val (.lst (L.map dP)), .val (dU m), e3, e4, e5, e6] ∧ Least u L m, ?_, ?_⟩
  · generalize hS : Sl.val (D.lst (L.map dP)) = S
    refine forL_i (fun i en => ∃ (lo : D) (e3 e4 e5 e6 : Sl), en = [.val (dU u), S, .val lo, e3, e4, e5, e6] ∧ (i = 0 ∧ lo = .non ∨ ∃ m, lo = dU m ∧ Least u (L.take i) m)) (en1 := [.val (dU u), S, .val .non, .no, .no, .no, .no]) (ds := L.map dP) (fun Φ z => ?_) ⟨.non, _, _, _, _, rfl, .inl ⟨rfl, rfl⟩⟩ ?_ ?_
    · subst hS
      walk_at "vs"
      exact z
    · rintro i d _ hd ⟨lo, e3, e4, e5, e6, rfl, hlo⟩
      obtain ⟨p, hp, rfl⟩ := get_map hd
      have hi := (List.getElem?_eq_some_iff.mp hp).1
      obtain ⟨p1, p2, p3, p4⟩ := hb p (List.mem_of_getElem? hp)
      have ed : dP p = .tup [.int p.1, .int p.2.1, .int p.2.2] := rfl
      have tk : L.take (i + 1) = L.take i ++ [p] := by rw [List.take_succ, hp]; rfl
      have hw : ∀ q ∈ L.take i, PosW q := fun q hq => (hb q (List.mem_of_mem_take hq)).w
      have vb := val_bd (k := 8001) (j := 4000) u1 u2 (show p.1.natAbs < 2 ^ 4000 from p1) (show p.2.1.natAbs < 2 ^ 4000 from p2)
      rw [ed]
      have ent : (tTupG 3 (tConsG (tNamG 3) (tConsG (tNamG 4) (tConsG (tNamG 5) tNilG)))) = (tTupG 3 (tConsG (tNamG 3) (tConsG (tNamG 4) (tConsG (tNamG 5) tNilG)))) := rfl
      walk_at "vs"
      refine ⟨fun en => en = [.val (dU u), S, .val lo, .val (.int p.1), .val (.int p.2.1), .val (.int p.2.2), .val (.int (valI u.1 u.2 p))], ?_, ?_⟩
      · have eu : dU u = .tup [.int u.1, .int u.2] := rfl
        rw [eu]
        walk_at "vs"
        exact ⟨big (up u1 (by decide)) (sm p1), big (up u2 (by decide)) (sm p2), rfl⟩
      rintro _ rfl
      have put : Least u (L.take (i + 1)) (valI u.1 u.2 p, p.2.2) → ∃ (lo : D) (e3 e4 e5 e6 : Sl), ([.val (dU u), S, .val (.tup [.int (valI u.1 u.2 p), .int p.2.2]), .val (.int p.1), .val (.int p.2.1), .val (.int p.2.2), .val (.int (valI u.1 u.2 p))] : En) = [.val (dU u), S, .val lo, e3, e4, e5, e6] ∧ (i + 1 = 0 ∧ lo = .non ∨ ∃ m, lo = dU m ∧ Least u (L.take (i + 1)) m) := fun k =>
        ⟨_, _, _, _, _, rfl, .inr ⟨_, rfl, k⟩⟩
      rcases hlo with ⟨rfl, rfl⟩ | ⟨m, rfl, hm⟩
      · walk_at "vs"
        refine ⟨sz1000 (by decide), put ?_⟩
        rw [tk]
        refine ⟨⟨p, by simp, rfl⟩, fun q hq => ?_⟩
        have : q = p := by simpa using hq
        rw [this]
        exact Int.le_refl _
      · have keep : Least u (L.take (i + 1)) m → ∃ (lo : D) (e3 e4 e5 e6 : Sl), ([.val (dU u), S, .val (.tup [.int m.1, .int m.2]), .val (.int p.1), .val (.int p.2.1), .val (.int p.2.2), .val (.int (valI u.1 u.2 p))] : En) = [.val (dU u), S, .val lo, e3, e4, e5, e6] ∧ (i + 1 = 0 ∧ lo = .non ∨ ∃ m, lo = dU m ∧ Least u (L.take (i + 1)) m) := fun k =>
          ⟨_, _, _, _, _, rfl, .inr ⟨m, rfl, k⟩⟩
        have em : dU m = .tup [.int m.1, .int m.2] := rfl
        obtain ⟨p0, hp0, e0⟩ := hm.1
        have b0 := hb p0 (List.mem_of_mem_take hp0)
        have mb1 : m.1.natAbs < 2 ^ 12002 := by
          rw [e0]
          exact val_bd (k := 8001) (j := 4000) u1 u2 (show p0.1.natAbs < 2 ^ 4000 from b0.1) (show p0.2.1.natAbs < 2 ^ 4000 from b0.2.1)
        have mb2 : 0 < m.2 ∧ m.2 < (BB : Int) := by
          rw [e0]
          exact ⟨b0.2.2.1, b0.2.2.2⟩
        have lt' := least_put (m := m) hw p3 hm
        have nl' := least_keep (m := m) (p := p) hm
        rw [← tk] at lt' nl'
        rw [em]
        walk_at "vs"
        refine ⟨mulW (up vb (by decide)) mb2.1 mb2.2, mulW (up mb1 (by decide)) p3 p4, ?_⟩
        split
        · rename_i z
          exact ⟨sz1000 (by decide), put (lt' z)⟩
        · rename_i z
          exact keep (nl' z)
    · rintro _ ⟨lo, e3, e4, e5, e6, rfl, hlo⟩
      rw [List.length_map, List.take_length] at hlo
      rcases hlo with ⟨z, _⟩ | ⟨m, rfl, hm⟩
      · exact absurd (List.length_eq_zero_iff.mp z) hne
      · exact ⟨m, e3, e4, e5, e6, rfl, hm⟩
  rintro _ ⟨m, e3, e4, e5, e6, rfl, hm⟩
  walk_at "vs"
  exact h m hm
end VS

namespace VS
open PySem L2 PySem.Spec PyProof.Rows
local macro_rules | `(tactic| walk_at "vs") => `(tactic| simp (maxSteps := 400000) only [tSeqD, tEitD, tEitS, tRevD, tRepD, tNewT, tPutT, gListT, gGcd3, gLt2, tFgtD, gAny, gMin, gGcd, tRaiseFlat, tTryD, tFldFlat, tIsX, tIfSD, tRetD, retD, tSetD, tSetV, tVarD, tConD, tOpD, tUnD, tCaD, tCallD, tConsD, tNilD, tTupD, tLstD, tValD, tAndD, tOrD, tNotD, tIfD, tAndDV, tOrDV, tNotDV, tAsgD, tParD, tPar3D, tNamG, tTupG, tNilG, tConsG, tUnlG, tDropD, tNextD, tBrkD, tCntD, tNeverD, tStoD, tMetD, tSlLD, tNoPartD, tPartD, tChD, tIsiD, tIsiTD, tIsi3D, tFrzD, q0, tYesD, wipeD,
  gI0, gII, gIB, gAdd, gU, gEq, gIx, gIsN, gLen, gInt, gAbs, gBool, gList, gTupC, mAppend, mPop, mPopAt, mInsert, mReverse, rd, rds, vl, vls, slR, nob, mkArgs, bors, putOwns, edOf, outsP, noR, shD, eqD,
  List.getElem?_cons_zero, List.getElem?_cons_succ, List.getElem?_nil, List.set_cons_zero, List.set_cons_succ, List.cons_append, List.nil_append, List.length_cons, List.length_nil, List.replicate, Nat.add_sub_cancel, Nat.sub_self, Nat.reduceAdd, Nat.reduceSub, Int.reduceToNat, Int.reducePow, Int.reduceNeg, Int.reduceAdd, Int.reduceSub, Int.reduceMul, id_eq, true_and, and_true, List.nodup_nil, if_true, if_false, List.nodup_cons, List.not_mem_nil, not_false_eq_true, Bool.not_true, Bool.not_false, Bool.true_or, Bool.or_false, Bool.false_or, decide_eq_true_eq, Bool.false_eq_true, XF,
  Bool.or_true, bne_self_eq_false, isT_dict_non, isT_dict_bl, isT_dict_int, isT_dict_str, isT_dict_tup, isT_dict_lst, isT_list_non, isT_list_bl, isT_list_int, isT_list_str, isT_list_tup, isT_list_lst, isT_tuple_non, isT_tuple_bl, isT_tuple_int, isT_tuple_str, isT_tuple_tup, isT_tuple_lst, isT_bool_non, isT_bool_bl, isT_bool_int, isT_bool_str, isT_bool_tup, isT_bool_lst, isT_str_non, isT_str_bl, isT_str_int, isT_str_str, isT_str_tup, isT_str_lst, isT_int_non, isT_int_bl, isT_int_int, isT_int_str, isT_int_tup, isT_int_lst,
  atI0, atI1, atI2, atI3, atI4, ixN51, ixN52, ixN53, ixN54])
local macro_rules | `(tactic| walk_at "vh") => `(tactic| simp (maxSteps := 400000) only [tSeqD, tEitD, tEitS, tRevD, tRepD, tNewT, tPutT, gListT, gGcd3, gLt2, tFgtD, gAny, gMin, gGcd, tRaiseFlat, tTryD, tFldFlat, tIsX, tIfSD, tRetD, retD, tSetD, tSetV, tVarD, tConD, tOpD, tUnD, tCaD, tCallD, tConsD, tNilD, tTupD, tLstD, tValD, tAndD, tOrD, tNotD, tIfD, tAndDV, tOrDV, tNotDV, tAsgD, tParD, tPar3D, tNamG, tTupG, tNilG, tConsG, tUnlG, tDropD, tNextD, tBrkD, tCntD, tNeverD, tStoD, tMetD, tSlLD, tNoPartD, tPartD, tChD, tIsiD, tIsiTD, tIsi3D, tFrzD, q0, tYesD, wipeD,
  gI0, gII, gIB, gAdd, gU, gEq, gIx, gIsN, gLen, gInt, gAbs, gBool, gList, gTupC, mAppend, mPop, mPopAt, mInsert, mReverse, rd, rds, vl, vls, slR, nob, mkArgs, bors, putOwns, edOf, outsP, noR, shD, eqD,
  List.getElem?_cons_zero, List.getElem?_cons_succ, List.getElem?_nil, List.set_cons_zero, List.set_cons_succ, List.cons_append, List.nil_append, List.length_cons, List.length_nil, List.replicate, Nat.add_sub_cancel, Nat.sub_self, Nat.reduceAdd, Nat.reduceSub, Int.reduceToNat, Int.reducePow, Int.reduceNeg, Int.reduceAdd, Int.reduceSub, Int.reduceMul, id_eq, true_and, and_true, List.nodup_nil, if_true, if_false, List.nodup_cons, List.not_mem_nil, not_false_eq_true, Bool.not_true, Bool.not_false, Bool.true_or, Bool.or_false, Bool.false_or, decide_eq_true_eq, Bool.false_eq_true, XF,
  Bool.or_true, bne_self_eq_false, isT_dict_non, isT_dict_bl, isT_dict_int, isT_dict_str, isT_dict_tup, isT_dict_lst, isT_list_non, isT_list_bl, isT_list_int, isT_list_str, isT_list_tup, isT_list_lst, isT_tuple_non, isT_tuple_bl, isT_tuple_int, isT_tuple_str, isT_tuple_tup, isT_tuple_lst, isT_bool_non, isT_bool_bl, isT_bool_int, isT_bool_str, isT_bool_tup, isT_bool_lst, isT_str_non, isT_str_bl, isT_str_int, isT_str_str, isT_str_tup, isT_str_lst, isT_int_non, isT_int_bl, isT_int_int, isT_int_str, isT_int_tup, isT_int_lst,
  atI0, atI1, atI2, atI3, atI4, ixN51, ixN52, ixN53, ixN54, *])
local macro_rules | `(tactic| walk_at "lf") => `(tactic| ((repeat' (with_reducible apply And.intro)) <;> first | exact mulR (by decide) (by decide) | exact pow1018 | exact pow3 (by omega) | exact divB (by omega) (by omega) | exact Int.emod_nonneg _ (by omega) | exact Int.emod_lt_of_pos _ (by omega) | exact Int.ediv_nonneg (by omega) (by omega) | omega | decide | assumption | skip))
local macro_rules | `(tactic| walk_at "vn") => `(tactic| simp (maxSteps := 400000) only [tSeqD, tEitD, tEitS, tRevD, tRepD, tNewT, tPutT, gListT, gGcd3, gLt2, tFgtD, gAny, gMin, gGcd, tRaiseFlat, tTryD, tFldFlat, tIsX, tIfSD, tRetD, retD, tSetD, tSetV, tVarD, tConD, tOpD, tUnD, tCaD, tCallD, tConsD, tNilD, tTupD, tLstD, tValD, tAndD, tOrD, tNotD, tIfD, tAndDV, tOrDV, tNotDV, tAsgD, tParD, tPar3D, tNamG, tTupG, tNilG, tConsG, tUnlG, tDropD, tNextD, tBrkD, tCntD, tNeverD, tStoD, tMetD, tSlLD, tNoPartD, tPartD, tChD, tIsiD, tIsiTD, tIsi3D, tFrzD, q0, tYesD, wipeD,
  gI0, gII, gIB, gAdd, gU, gEq, gIx, gIsN, gLen, gInt, gAbs, gBool, gList, gTupC, mAppend, mPop, mPopAt, mInsert, mReverse, rd, rds, vl, vls, slR, nob, mkArgs, bors, putOwns, edOf, outsP, noR,
  List.getElem?_cons_zero, List.getElem?_cons_succ, List.getElem?_nil, List.set_cons_zero, List.set_cons_succ, List.cons_append, List.nil_append, List.length_cons, List.length_nil, List.replicate, Nat.add_sub_cancel, Nat.sub_self, Nat.reduceAdd, Nat.reduceSub, Int.reduceToNat, Int.reducePow, Int.reduceNeg, Int.reduceAdd, Int.reduceSub, Int.reduceMul, id_eq, true_and, and_true, List.nodup_nil, if_true, if_false, List.nodup_cons, List.not_mem_nil, not_false_eq_true, Bool.not_true, Bool.not_false, Bool.true_or, Bool.or_false, Bool.false_or, decide_eq_true_eq, Bool.false_eq_true, XF,
  Bool.or_true, bne_self_eq_false, isT_dict_non, isT_dict_bl, isT_dict_int, isT_dict_str, isT_dict_tup, isT_dict_lst, isT_list_non, isT_list_bl, isT_list_int, isT_list_str, isT_list_tup, isT_list_lst, isT_tuple_non, isT_tuple_bl, isT_tuple_int, isT_tuple_str, isT_tuple_tup, isT_tuple_lst, isT_bool_non, isT_bool_bl, isT_bool_int, isT_bool_str, isT_bool_tup, isT_bool_lst, isT_str_non, isT_str_bl, isT_str_int, isT_str_str, isT_str_tup, isT_str_lst, isT_int_non, isT_int_bl, isT_int_int, isT_int_str, isT_int_tup, isT_int_lst,
  atI0, atI1, atI2, atI3, atI4, ixN51, ixN52, ixN53, ixN54])

theorem hullOf_one {ps L L' : List P3} (h : HullOf ps L) (h' : HullOf ps L') : L = L' := by
  obtain ⟨v, t, h⟩ := h
  obtain ⟨v', t', h'⟩ := h'
  exact hull_one h h'
theorem hullOf_congr {ps ps' L : List P3} (e : ∀ x, x ∈ ps.map lowI ↔ x ∈ ps'.map lowI) (h : HullOf ps L) : HullOf ps' L := by
  obtain ⟨v, t, h⟩ := h
  have : (fun x => x ∈ ps.map lowI) = fun x => x ∈ ps'.map lowI := by
    funext x
    exact propext (e x)
  rw [this] at h
  exact ⟨v, t, h⟩
theorem hullOf_perm {ps ps' L : List P3} (p : ps'.Perm ps) (h : HullOf ps L) : HullOf ps' L := hullOf_congr (fun x => (p.map lowI).mem_iff.symm) h
theorem lowmap {ps : List P3} (hb : ∀ p ∈ ps, PosW p) : ∀ x ∈ ps.map lowI, LowP x := fun x hx => by
  obtain ⟨p, hp, rfl⟩ := List.mem_map.mp hx
  exact low_low (hb p hp)
theorem hullOf_mid {ps rs L : List P3} (hb : ∀ p ∈ ps, PosW p) (hr : ∀ p ∈ rs, PosW p) (hs : ∀ x ∈ ps, x ∈ rs) (hm : ∀ m ∈ rs, m ∈ ps ∨ ∃ p ∈ ps, ∃ r ∈ ps, m = lowI (p.1 * r.2.2 + r.1 * p.2.2, p.2.1 * r.2.2 + r.2.1 * p.2.2, 2 * p.2.2 * r.2.2)) (h : HullOf ps L) : HullOf rs L := by
  obtain ⟨v, t, h⟩ := h
  refine ⟨v, t, hull_mid (fun q hq => (lowmap hr q hq).w) (fun q t hq ht => low_tot (lowmap hr q hq) (lowmap hr t ht)) (fun x hx => ?_) (fun m hm' => ?_) h⟩
  · obtain ⟨p, hp, rfl⟩ := List.mem_map.mp hx
    exact List.mem_map.mpr ⟨p, hs p hp, rfl⟩
  · obtain ⟨y, hy, rfl⟩ := List.mem_map.mp hm'
    rcases hm y hy with z | ⟨p, hp, r, hr', e⟩
    · exact .inl (List.mem_map.mpr ⟨y, z, rfl⟩)
    · refine .inr ⟨lowI p, lowI r, List.mem_map.mpr ⟨p, hp, rfl⟩, List.mem_map.mpr ⟨r, hr', rfl⟩, ?_⟩
      have wt : PosW (p.1 * r.2.2 + r.1 * p.2.2, p.2.1 * r.2.2 + r.2.1 * p.2.2, 2 * p.2.2 * r.2.2) := Int.mul_pos (Int.mul_pos (by decide) (hb p hp)) (hb r hr')
      have := mid_low (hb p hp) (hb r hr')
      rw [e, low_id (low_low wt)]
      exact this
theorem hullOf_mem {ps L : List P3} (h : HullOf ps L) : ∀ x ∈ L, x ∈ ps.map lowI := by
  obtain ⟨v, t, h⟩ := h
  exact h.mem
theorem hullOf_ne {ps L : List P3} (h : HullOf ps L) : L ≠ [] := by
  obtain ⟨v, t, h⟩ := h
  rw [h.eq]
  simp
theorem hullOf_self {ps L : List P3} (hb : ∀ p ∈ ps, PosW p) (h : HullOf ps L) : HullOf L L := by
  have hm := hullOf_mem h
  obtain ⟨v, t, h⟩ := h
  have e : L.map lowI = L := by
    have : ∀ x ∈ L, lowI x = x := fun x hx => low_id (lowmap hb x (hm x hx))
    conv => rhs; rw [← List.map_id L]
    exact List.map_congr_left this
  refine ⟨v, t, hull_sub h (fun x hx => ?_) (fun x hx => ?_)⟩
  · rw [e] at hx
    exact hm x hx
  · show x ∈ L.map lowI
    rw [e]
    exact hx
theorem ok_pts : ∀ ps : List P3, okDs (ps.map dP) = true := fun ps => okDs_map fun p _ => by simp [dP, okD, okDs]
theorem dep_pts2 : ∀ ps : List P3, depDs (ps.map dP) ≤ 1 := fun ps => depDs_map fun p _ => by simp [dP, depD, depDs]
theorem ok_lst {ps : List P3} (h : ps.length ≤ 1000) : okD (.lst (ps.map dP)) = true := by
  simp only [okD, ok_pts, Bool.true_and, decide_eq_true_eq, List.length_map]
  omega
theorem dep_lst (ps : List P3) : depD (.lst (ps.map dP)) ≤ 3 := by
  have := dep_pts2 ps
  simp only [depD]
  omega
theorem met_touch {ps L : List P3} (hb : ∀ p ∈ ps, PosW p) (hne : ps ≠ []) (h : HullOf ps L) : MetL L ↔ Touch ps := by
  obtain ⟨v, t, h⟩ := h
  rw [met_open (lowmap hb) h, touch_open hne, open_low hb]

def Bq (p : P3) : Prop := p.1.natAbs < 2 ^ 200 ∧ p.2.1.natAbs < 2 ^ 200 ∧ 0 < p.2.2 ∧ p.2.2 < 2 ^ 200
theorem Bq.bh {p : P3} (h : Bq p) : Bh p := by
  obtain ⟨h1, h2, h3, h4⟩ := h
  have h5 : p.2.2.natAbs < BB := upB (m := 200) (by omega)
  exact ⟨upB (m := 200) h1, upB (m := 200) h2, h3, by omega⟩
theorem Bq.low {p : P3} (h : Bq p) : Bq (lowI p) := by
  obtain ⟨h1, h2, h3⟩ := low_le p h.2.2.1
  have := (low_low h.bh.w).w
  obtain ⟨b1, b2, b3, b4⟩ := h
  exact ⟨by omega, by omega, this, by omega⟩
theorem zip_edge {c q : P3} : ∀ {l : List P3}, (c, q) ∈ l.zip l.tail → Edge l c q
  | [], h => by simp at h
  | [a], h => by simp at h
  | a :: b :: r, h => by
    have h' : (c, q) ∈ (a, b) :: (b :: r).zip r := h
    rcases List.mem_cons.mp h' with e | e
    · cases e
      exact ⟨[], r, rfl⟩
    · obtain ⟨A, B, k⟩ := zip_edge (l := b :: r) e
      exact ⟨a :: A, B, by rw [k]; rfl⟩
theorem dir_edge2 {v : P3} {t : List P3} {u : Int × Int} (h : u ∈ dirL (v :: t)) : t ≠ [] ∧ ∃ c q, Edge (v :: t ++ [v]) c q ∧ u = (dx c q, dy c q) := by
  match t, h with
  | b :: r, h =>
    obtain ⟨⟨c, q⟩, hm, rfl⟩ := List.mem_map.mp h
    refine ⟨by simp, c, q, zip_edge ?_, rfl⟩
    have e2 : (v :: (b :: r) ++ [v]).tail = b :: r ++ [v] := rfl
    rw [e2, zip_left _ _ _ (by simp)]
    exact hm
/-- what the program has found behind some directions -/
structure GInv (Lp Lq : List P3) (us : List (Int × Int)) (M : Int × Int) : Prop where
  nn : 0 ≤ M.1
  pos : 0 < M.2
  b1 : M.1.natAbs < 2 ^ 900
  b2 : M.2.natAbs < 2 ^ 900
  all : ∀ u ∈ us, ∃ near far, Least u Lp near ∧ Least u Lq far ∧ 0 ≤ -far.1 * near.2 ∧ near.1 * far.2 * M.2 ≤ M.1 * (-far.1 * near.2)
  att : M.1 = 0 ∨ ∃ u near far, (u.1 ≠ 0 ∨ u.2 ≠ 0) ∧ Least u Lp near ∧ Least u Lq far ∧ M = (near.1 * far.2, -far.1 * near.2)
theorem ginv_put {Lp Lq : List P3} {us : List (Int × Int)} {M u near far : Int × Int} (g : GInv Lp Lq us M) (nz : u.1 ≠ 0 ∨ u.2 ≠ 0) (h1 : Least u Lp near) (h2 : Least u Lq far) (f0 : far.1 < 0) (n2 : 0 < near.2) (lt : M.1 * (-far.1 * near.2) < near.1 * far.2 * M.2)
    (b1 : (near.1 * far.2).natAbs < 2 ^ 900) (b2 : (-far.1 * near.2).natAbs < 2 ^ 900) : GInv Lp Lq (us ++ [u]) (near.1 * far.2, -far.1 * near.2) := by
  have B0 : 0 < -far.1 * near.2 := sg_P (by omega) n2
  have k := sg_nn g.nn (Int.le_of_lt B0)
  have T0 : 0 < near.1 * far.2 := by
    have : 0 < M.2 * (near.1 * far.2) := by rw [Int.mul_comm]; omega
    exact (mul_sg g.pos).1.mp this
  refine ⟨Int.le_of_lt T0, B0, b1, b2, fun x hx => ?_, .inr ⟨u, near, far, nz, h1, h2, rfl⟩⟩
  rcases List.mem_append.mp hx with z | z
  · obtain ⟨n', f', a1, a2, a3, a4⟩ := g.all x z
    refine ⟨n', f', a1, a2, a3, ?_⟩
    simp only
    generalize near.1 * far.2 = T at *
    generalize -far.1 * near.2 = B at *
    generalize n'.1 * f'.2 = T' at *
    generalize -f'.1 * n'.2 = B' at *
    have u1 : T' * M.2 * B ≤ M.1 * B' * B := Int.mul_le_mul_of_nonneg_right a4 (Int.le_of_lt B0)
    have u2 : M.1 * B * B' ≤ T * M.2 * B' := Int.mul_le_mul_of_nonneg_right (Int.le_of_lt lt) a3
    have u3 : M.2 * (T' * B) ≤ M.2 * (T * B') := by
      have e1 : M.2 * (T' * B) = T' * M.2 * B := by grind
      have e2 : M.2 * (T * B') = T * M.2 * B' := by grind
      have e3 : M.1 * B' * B = M.1 * B * B' := by grind
      omega
    exact Int.le_of_mul_le_mul_left u3 g.pos
  · have z' : x = u := by simpa using z
    subst z'
    exact ⟨near, far, h1, h2, Int.le_of_lt B0, Int.le_refl _⟩
theorem ginv_keep {Lp Lq : List P3} {us : List (Int × Int)} {M u near far : Int × Int} (g : GInv Lp Lq us M) (h1 : Least u Lp near) (h2 : Least u Lq far) (f0 : far.1 < 0) (n2 : 0 < near.2) (nlt : ¬ M.1 * (-far.1 * near.2) < near.1 * far.2 * M.2) : GInv Lp Lq (us ++ [u]) M := by
  refine ⟨g.nn, g.pos, g.b1, g.b2, fun x hx => ?_, g.att⟩
  rcases List.mem_append.mp hx with z | z
  · exact g.all x z
  · have z' : x = u := by simpa using z
    subst z'
    exact ⟨near, far, h1, h2, Int.le_of_lt (sg_P (by omega) n2), by omega⟩
def GaugeOk (ps qs : List P3) (n d : Int) : Prop := (Touch ps ∧ n = 0 ∧ d = 1) ∨ (¬ Touch ps ∧ 0 < n ∧ 0 < d ∧ n.natAbs < 2 ^ 900 ∧ d.natAbs < 2 ^ 900 ∧ Int.gcd n d = 1 ∧ Sided (growL ps qs n d) ∧ ¬ Open (growL ps qs n d))
theorem least_far {u m : Int × Int} {L : List P3} (hw : ∀ p ∈ L, PosW p) (un : ¬ Sided L) (nz : u.1 ≠ 0 ∨ u.2 ≠ 0) (h : Least u L m) : m.1 < 0 := by
  obtain ⟨q, hq, ng⟩ := unsided_neg un nz
  obtain ⟨⟨p, hp, rfl⟩, hl⟩ := h
  have k := hl q hq
  simp only at k ⊢
  have a := sg_N' ng (hw p hp)
  rcases Int.lt_or_le (valI u.1 u.2 p) 0 with s | s
  · exact s
  · have := sg_nn s (Int.le_of_lt (hw q hq))
    omega
theorem val_low {α β : Int} {p : P3} (hp : PosW p) : valI α β p = gI p * valI α β (lowI p) := by
  have e : ∀ q, fnI α β 0 q = valI α β q := fun q => by unfold fnI valI; simp
  rw [← e, fn_low hp, e]
theorem w_low (p : P3) : p.2.2 = gI p * (lowI p).2.2 := by
  conv => lhs; rw [← low_scl p]
  rfl
/-- the least value at the corners is the least value -/
theorem least_dom {ps L : List P3} {v : P3} {t : List P3} (wp : ∀ p ∈ ps, PosW p) (h : IsHull (fun x => x ∈ ps.map lowI) L v t) {u m : Int × Int} (hm : Least u L m) : ∀ p ∈ ps, m.1 * p.2.2 ≤ valI u.1 u.2 p * m.2 := by
  intro p hp
  have e : ∀ q, fnI (m.2 * u.1) (m.2 * u.2) (-m.1) q = valI u.1 u.2 q * m.2 - m.1 * q.2.2 := fun q => by unfold fnI valI; grind
  have := dom_in (lowmap wp) h (α := m.2 * u.1) (β := m.2 * u.2) (γ := -m.1) (fun x hx => by
    rw [e]
    have := hm.2 x hx
    omega) (lowI p) (List.mem_map.mpr ⟨p, hp, rfl⟩)
  rw [← fn_low_nn (wp p hp), e] at this
  omega
theorem grow_scl {ps qs : List P3} {k n d : Int} : growL ps qs (k * n) (k * d) = (growL ps qs n d).map (sclP k) := by
  unfold growL
  rw [List.map_flatMap]
  congr 1
  funext p
  rw [List.map_map]
  congr 1
  funext q
  unfold gP sclP
  simp only [Function.comp, Prod.mk.injEq]
  refine ⟨by grind, by grind, by grind⟩
theorem sided_scl {k : Int} (hk : 0 < k) {L : List P3} : Sided (L.map (sclP k)) ↔ Sided L := by
  constructor
  · rintro ⟨d, hd, h⟩
    refine ⟨d, hd, fun p hp => ?_⟩
    have := h _ (List.mem_map.mpr ⟨p, hp, rfl⟩)
    rw [cross_scl] at this
    exact (mul_sg hk).2.1.mp this
  · rintro ⟨d, hd, h⟩
    refine ⟨d, hd, fun x hx => ?_⟩
    obtain ⟨p, hp, rfl⟩ := List.mem_map.mp hx
    rw [cross_scl]
    exact (mul_sg hk).2.1.mpr (h p hp)
theorem open_scl {k : Int} (hk : 0 < k) {L : List P3} : Open (L.map (sclP k)) ↔ Open L := by
  have e : ∀ (d p : P3), HO d (sclP k p) ↔ HO d p := fun d p => by
    unfold HO Lex
    rw [cross_scl, dot_scl, (mul_sg hk).1, (mul_sg hk).1, (mul_sg hk).2.2.2]
  constructor
  · rintro ⟨d, hd, h⟩
    exact ⟨d, hd, fun p hp => (e d p).mp (h _ (List.mem_map.mpr ⟨p, hp, rfl⟩))⟩
  · rintro ⟨d, hd, h⟩
    refine ⟨d, hd, fun x hx => ?_⟩
    obtain ⟨p, hp, rfl⟩ := List.mem_map.mp hx
    exact (e d p).mpr (h p hp)
theorem gauge_end {ps qs Lp Lq : List P3} {v w : P3} {tp tq : List P3} {M : Int × Int} (wp : ∀ p ∈ ps, PosW p) (wq : ∀ p ∈ qs, PosW p) (nep : ps ≠ []) (hp : IsHull (fun x => x ∈ ps.map lowI) Lp v tp) (hq : IsHull (fun x => x ∈ qs.map lowI) Lq w tq)
    (un : ¬ Sided qs) (nt : ¬ Touch ps) (g : GInv Lp Lq ((dirL Lp ++ dirL Lq).map normU) M) : GaugeOk ps qs (M.1 / (Int.gcd M.1 M.2 : Nat)) (M.2 / (Int.gcd M.1 M.2 : Nat)) := by
  have op : Open ps := Classical.byContradiction fun k => nt ((touch_open nep).mpr k)
  have neq : qs ≠ [] := fun e => un (by rw [e]; exact ⟨(1, 0, 1), .inl (by decide), by simp⟩)
  have cand : ∀ c q, Edge (Lp ++ [v]) c q ∨ Edge (Lq ++ [w]) c q → ∃ p ∈ ps, ∃ q' ∈ qs, M.2 * q'.2.2 * valI (-dy c q) (dx c q) p + M.1 * p.2.2 * valI (-dy c q) (dx c q) q' ≤ 0 := fun c q hE => by
    have main : (dx c q, dy c q) ∈ dirL Lp ++ dirL Lq → ∃ p ∈ ps, ∃ q' ∈ qs, M.2 * q'.2.2 * valI (-dy c q) (dx c q) p + M.1 * p.2.2 * valI (-dy c q) (dx c q) q' ≤ 0 := fun hm => by
      obtain ⟨near, far, h1, h2, _, le⟩ := g.all _ (List.mem_map.mpr ⟨_, hm, rfl⟩)
      obtain ⟨⟨a, ha, rfl⟩, _⟩ := h1
      obtain ⟨⟨b, hb, rfl⟩, _⟩ := h2
      obtain ⟨p, hpp, rfl⟩ := List.mem_map.mp (hp.mem a ha)
      obtain ⟨q', hqq, rfl⟩ := List.mem_map.mp (hq.mem b hb)
      refine ⟨p, hpp, q', hqq, ?_⟩
      simp only [normU] at le
      rw [val_low (wp p hpp), val_low (wq q' hqq)]
      have e1 := w_low p
      have e2 := w_low q'
      generalize valI (-dy c q) (dx c q) (lowI p) = A at *
      generalize valI (-dy c q) (dx c q) (lowI q') = B at *
      have k : M.2 * q'.2.2 * (gI p * A) + M.1 * p.2.2 * (gI q' * B) = gI p * gI q' * (A * (lowI q').2.2 * M.2 - M.1 * (-B * (lowI p).2.2)) := by
        rw [e1, e2]
        grind
      rw [k]
      exact sg_np (Int.le_of_lt (sg_P (gI_pos (wp p hpp)).1 (gI_pos (wq q' hqq)).1)) (by omega)
    have deg : c = q → ∃ p ∈ ps, ∃ q' ∈ qs, M.2 * q'.2.2 * valI (-dy c q) (dx c q) p + M.1 * p.2.2 * valI (-dy c q) (dx c q) q' ≤ 0 := fun e => by
      obtain ⟨p, hpp⟩ := List.exists_mem_of_ne_nil _ nep
      obtain ⟨q', hqq⟩ := List.exists_mem_of_ne_nil _ neq
      refine ⟨p, hpp, q', hqq, ?_⟩
      subst e
      have z1 : dx c c = 0 := by unfold dx; omega
      have z2 : dy c c = 0 := by unfold dy; omega
      rw [z1, z2]
      unfold valI
      simp
    have one : ∀ {L : List P3} {v : P3} {t : List P3}, L = v :: t → Edge (L ++ [v]) c q → (dx c q, dy c q) ∈ dirL L ∨ c = q := fun {L v t} eL e => by
      subst eL
      by_cases ht : t = []
      · subst ht
        obtain ⟨A, B, e⟩ := e
        match A, e with
        | [], e => injection e with a1 a2; injection a2 with a2 a3; exact .inr (a1.symm.trans a2)
        | [_], e => injection e with a0 e; injection e with a1 a2; cases a2
        | _ :: _ :: A, e =>
          have l := congrArg List.length e
          simp at l
      · exact .inl (edge_dir ht e)
    rcases hE with e | e
    · rcases one hp.eq e with k | k
      · exact main (List.mem_append_left _ k)
      · exact deg k
    · rcases one hq.eq e with k | k
      · exact main (List.mem_append_right _ k)
      · exact deg k
  have att : M.1 = 0 ∨ ∃ α β : Int, (α ≠ 0 ∨ β ≠ 0) ∧ ∀ p ∈ ps, ∀ q ∈ qs, 0 ≤ M.2 * q.2.2 * valI α β p + M.1 * p.2.2 * valI α β q := by
    rcases g.att with z | ⟨u, near, far, nz, h1, h2, e⟩
    · exact .inl z
    · refine .inr ⟨u.1, u.2, nz, fun p hpp q hqq => ?_⟩
      have l1 := least_dom wp hp h1 p hpp
      have l2 := least_dom wq hq h2 q hqq
      have n2 : 0 < near.2 := by
        obtain ⟨⟨a, ha, rfl⟩, _⟩ := h1
        exact (lowmap wp a (hp.mem a ha)).w
      have f2 : 0 < far.2 := by
        obtain ⟨⟨a, ha, rfl⟩, _⟩ := h2
        exact (lowmap wq a (hq.mem a ha)).w
      have gp := g.pos
      have gn := g.nn
      rw [e] at gp gn ⊢
      simp only at gp gn ⊢
      have f1 : 0 < -far.1 := by
        have : 0 < near.2 * (-far.1) := by rw [Int.mul_comm]; exact gp
        exact (mul_sg n2).1.mp this
      have n1 : 0 ≤ near.1 := by
        have : 0 ≤ far.2 * near.1 := by rw [Int.mul_comm]; exact gn
        exact (mul_sg f2).2.1.mp this
      have id1 : -far.1 * near.2 * q.2.2 * valI u.1 u.2 p + near.1 * far.2 * p.2.2 * valI u.1 u.2 q = -far.1 * q.2.2 * (valI u.1 u.2 p * near.2 - near.1 * p.2.2) + near.1 * p.2.2 * (valI u.1 u.2 q * far.2 - far.1 * q.2.2) := by grind
      rw [id1]
      have a1 := sg_nn (Int.le_of_lt (sg_P f1 (wq q hqq))) (show 0 ≤ valI u.1 u.2 p * near.2 - near.1 * p.2.2 by omega)
      have a2 := sg_nn (sg_nn n1 (Int.le_of_lt (wp p hpp))) (show 0 ≤ valI u.1 u.2 q * far.2 - far.1 * q.2.2 by omega)
      omega
  obtain ⟨m0, hs, ho⟩ := gauge_good wp wq nep hp hq un op g.nn g.pos cand att
  have gp := g.pos
  have G0 : 0 < Int.gcd M.1 M.2 := Int.gcd_pos_of_ne_zero_right _ (by omega)
  have d1 : (Int.gcd M.1 M.2 : Int) ∣ M.1 := Int.gcd_dvd_left ..
  have d2 : (Int.gcd M.1 M.2 : Int) ∣ M.2 := Int.gcd_dvd_right ..
  have b1 := g.b1
  have b2 := g.b2
  have cop : Int.gcd (M.1 / (Int.gcd M.1 M.2 : Nat)) (M.2 / (Int.gcd M.1 M.2 : Nat)) = 1 := Int.gcd_ediv_gcd_ediv_gcd G0
  have G0' : (0 : Int) < ((Int.gcd M.1 M.2 : Nat) : Int) := by omega
  obtain ⟨n, en⟩ := d1
  obtain ⟨d, ed⟩ := d2
  generalize ((Int.gcd M.1 M.2 : Nat) : Int) = G at *
  have q1 : M.1 / G = n := by rw [en]; exact Int.mul_ediv_cancel_left _ (by omega)
  have q2 : M.2 / G = d := by rw [ed]; exact Int.mul_ediv_cancel_left _ (by omega)
  rw [q1, q2] at cop ⊢
  rw [en, ed, grow_scl] at hs ho
  rw [sided_scl G0'] at hs
  rw [open_scl G0'] at ho
  have n0 : 0 < n := by rw [en] at m0; exact (mul_sg G0').1.mp m0
  have d0 : 0 < d := by rw [ed] at gp; exact (mul_sg G0').1.mp gp
  have nle : n ≤ M.1 := by
    rw [en]
    have : 1 * n ≤ G * n := Int.mul_le_mul_of_nonneg_right (by omega) (by omega)
    omega
  have dle : d ≤ M.2 := by
    rw [ed]
    have : 1 * d ≤ G * d := Int.mul_le_mul_of_nonneg_right (by omega) (by omega)
    omega
  exact .inr ⟨nt, n0, d0, by omega, by omega, cop, hs, ho⟩
end VS

namespace VS
open PySem L2 PySem.Spec PyProof.Rows
local macro_rules | `(tactic| walk_at "vs") => `(tactic| simp (maxSteps := 400000) only [tSeqD, tEitD, tEitS, tRevD, tRepD, tNewT, tPutT, gListT, gGcd3, gLt2, tFgtD, gAny, gMin, gGcd, tRaiseFlat, tTryD, tFldFlat, tIsX, tIfSD, tRetD, retD, tSetD, tSetV, tVarD, tConD, tOpD, tUnD, tCaD, tCallD, tConsD, tNilD, tTupD, tLstD, tValD, tAndD, tOrD, tNotD, tIfD, tAndDV, tOrDV, tNotDV, tAsgD, tParD, tPar3D, tNamG, tTupG, tNilG, tConsG, tUnlG, tDropD, tNextD, tBrkD, tCntD, tNeverD, tStoD, tMetD, tSlLD, tNoPartD, tPartD, tChD, tIsiD, tIsiTD, tIsi3D, tFrzD, q0, tYesD, wipeD,
  gI0, gII, gIB, gAdd, gU, gEq, gIx, gIsN, gLen, gInt, gAbs, gBool, gList, gTupC, mAppend, mPop, mPopAt, mInsert, mReverse, rd, rds, vl, vls, slR, nob, mkArgs, bors, putOwns, edOf, outsP, noR, shD, eqD,
  List.getElem?_cons_zero, List.getElem?_cons_succ, List.getElem?_nil, List.set_cons_zero, List.set_cons_succ, List.cons_append, List.nil_append, List.length_cons, List.length_nil, List.replicate, Nat.add_sub_cancel, Nat.sub_self, Nat.reduceAdd, Nat.reduceSub, Int.reduceToNat, Int.reducePow, Int.reduceNeg, Int.reduceAdd, Int.reduceSub, Int.reduceMul, id_eq, true_and, and_true, List.nodup_nil, if_true, if_false, List.nodup_cons, List.not_mem_nil, not_false_eq_true, Bool.not_true, Bool.not_false, Bool.true_or, Bool.or_false, Bool.false_or, decide_eq_true_eq, Bool.false_eq_true, XF,
  Bool.or_true, bne_self_eq_false, isT_dict_non, isT_dict_bl, isT_dict_int, isT_dict_str, isT_dict_tup, isT_dict_lst, isT_list_non, isT_list_bl, isT_list_int, isT_list_str, isT_list_tup, isT_list_lst, isT_tuple_non, isT_tuple_bl, isT_tuple_int, isT_tuple_str, isT_tuple_tup, isT_tuple_lst, isT_bool_non, isT_bool_bl, isT_bool_int, isT_bool_str, isT_bool_tup, isT_bool_lst, isT_str_non, isT_str_bl, isT_str_int, isT_str_str, isT_str_tup, isT_str_lst, isT_int_non, isT_int_bl, isT_int_int, isT_int_str, isT_int_tup, isT_int_lst,
  atI0, atI1, atI2, atI3, atI4, ixN51, ixN52, ixN53, ixN54])
local macro_rules | `(tactic| walk_at "vh") => `(tactic| simp (maxSteps := 400000) only [tSeqD, tEitD, tEitS, tRevD, tRepD, tNewT, tPutT, gListT, gGcd3, gLt2, tFgtD, gAny, gMin, gGcd, tRaiseFlat, tTryD, tFldFlat, tIsX, tIfSD, tRetD, retD, tSetD, tSetV, tVarD, tConD, tOpD, tUnD, tCaD, tCallD, tConsD, tNilD, tTupD, tLstD, tValD, tAndD, tOrD, tNotD, tIfD, tAndDV, tOrDV, tNotDV, tAsgD, tParD, tPar3D, tNamG, tTupG, tNilG, tConsG, tUnlG, tDropD, tNextD, tBrkD, tCntD, tNeverD, tStoD, tMetD, tSlLD, tNoPartD, tPartD, tChD, tIsiD, tIsiTD, tIsi3D, tFrzD, q0, tYesD, wipeD,
  gI0, gII, gIB, gAdd, gU, gEq, gIx, gIsN, gLen, gInt, gAbs, gBool, gList, gTupC, mAppend, mPop, mPopAt, mInsert, mReverse, rd, rds, vl, vls, slR, nob, mkArgs, bors, putOwns, edOf, outsP, noR, shD, eqD,
  List.getElem?_cons_zero, List.getElem?_cons_succ, List.getElem?_nil, List.set_cons_zero, List.set_cons_succ, List.cons_append, List.nil_append, List.length_cons, List.length_nil, List.replicate, Nat.add_sub_cancel, Nat.sub_self, Nat.reduceAdd, Nat.reduceSub, Int.reduceToNat, Int.reducePow, Int.reduceNeg, Int.reduceAdd, Int.reduceSub, Int.reduceMul, id_eq, true_and, and_true, List.nodup_nil, if_true, if_false, List.nodup_cons, List.not_mem_nil, not_false_eq_true, Bool.not_true, Bool.not_false, Bool.true_or, Bool.or_false, Bool.false_or, decide_eq_true_eq, Bool.false_eq_true, XF,
  Bool.or_true, bne_self_eq_false, isT_dict_non, isT_dict_bl, isT_dict_int, isT_dict_str, isT_dict_tup, isT_dict_lst, isT_list_non, isT_list_bl, isT_list_int, isT_list_str, isT_list_tup, isT_list_lst, isT_tuple_non, isT_tuple_bl, isT_tuple_int, isT_tuple_str, isT_tuple_tup, isT_tuple_lst, isT_bool_non, isT_bool_bl, isT_bool_int, isT_bool_str, isT_bool_tup, isT_bool_lst, isT_str_non, isT_str_bl, isT_str_int, isT_str_str, isT_str_tup, isT_str_lst, isT_int_non, isT_int_bl, isT_int_int, isT_int_str, isT_int_tup, isT_int_lst,
  atI0, atI1, atI2, atI3, atI4, ixN51, ixN52, ixN53, ixN54, *])
local macro_rules | `(tactic| walk_at "lf") => `(tactic| ((repeat' (with_reducible apply And.intro)) <;> first | exact mulR (by decide) (by decide) | exact pow1018 | exact pow3 (by omega) | exact divB (by omega) (by omega) | exact Int.emod_nonneg _ (by omega) | exact Int.emod_lt_of_pos _ (by omega) | exact Int.ediv_nonneg (by omega) (by omega) | omega | decide | assumption | skip))
local macro_rules | `(tactic| walk_at "vn") => `(tactic| simp (maxSteps := 400000) only [tSeqD, tEitD, tEitS, tRevD, tRepD, tNewT, tPutT, gListT, gGcd3, gLt2, tFgtD, gAny, gMin, gGcd, tRaiseFlat, tTryD, tFldFlat, tIsX, tIfSD, tRetD, retD, tSetD, tSetV, tVarD, tConD, tOpD, tUnD, tCaD, tCallD, tConsD, tNilD, tTupD, tLstD, tValD, tAndD, tOrD, tNotD, tIfD, tAndDV, tOrDV, tNotDV, tAsgD, tParD, tPar3D, tNamG, tTupG, tNilG, tConsG, tUnlG, tDropD, tNextD, tBrkD, tCntD, tNeverD, tStoD, tMetD, tSlLD, tNoPartD, tPartD, tChD, tIsiD, tIsiTD, tIsi3D, tFrzD, q0, tYesD, wipeD,
  gI0, gII, gIB, gAdd, gU, gEq, gIx, gIsN, gLen, gInt, gAbs, gBool, gList, gTupC, mAppend, mPop, mPopAt, mInsert, mReverse, rd, rds, vl, vls, slR, nob, mkArgs, bors, putOwns, edOf, outsP, noR,
  List.getElem?_cons_zero, List.getElem?_cons_succ, List.getElem?_nil, List.set_cons_zero, List.set_cons_succ, List.cons_append, List.nil_append, List.length_cons, List.length_nil, List.replicate, Nat.add_sub_cancel, Nat.sub_self, Nat.reduceAdd, Nat.reduceSub, Int.reduceToNat, Int.reducePow, Int.reduceNeg, Int.reduceAdd, Int.reduceSub, Int.reduceMul, id_eq, true_and, and_true, List.nodup_nil, if_true, if_false, List.nodup_cons, List.not_mem_nil, not_false_eq_true, Bool.not_true, Bool.not_false, Bool.true_or, Bool.or_false, Bool.false_or, decide_eq_true_eq, Bool.false_eq_true, XF,
  Bool.or_true, bne_self_eq_false, isT_dict_non, isT_dict_bl, isT_dict_int, isT_dict_str, isT_dict_tup, isT_dict_lst, isT_list_non, isT_list_bl, isT_list_int, isT_list_str, isT_list_tup, isT_list_lst, isT_tuple_non, isT_tuple_bl, isT_tuple_int, isT_tuple_str, isT_tuple_tup, isT_tuple_lst, isT_bool_non, isT_bool_bl, isT_bool_int, isT_bool_str, isT_bool_tup, isT_bool_lst, isT_str_non, isT_str_bl, isT_str_int, isT_str_str, isT_str_tup, isT_str_lst, isT_int_non, isT_int_bl, isT_int_int, isT_int_str, isT_int_tup, isT_int_lst,
  atI0, atI1, atI2, atI3, atI4, ixN51, ixN52, ixN53, ixN54])

theorem bh_zP : Bh zP := ⟨upB (m := 1) (by decide), upB (m := 1) (by decide), by decide, by have := upB (n := 1) (m := 1) (by decide); show (1 : Int) < (BB : Int); omega⟩
theorem con_turns {v : P3} {t : List P3} : Con (fun a b => 0 ≤ crossI a b) (v :: t ++ [v]) ↔ ∀ i, i < (v :: t).length → 0 ≤ turnI (at3 (v :: t) i) (at3 (t ++ [v]) i) zP := by
  have e : ∀ a b, turnI a b zP = crossI a b := fun a b => by
    have := turn_zero a b 1
    unfold zP
    omega
  have e1 : ∀ i, i < (v :: t).length → at3 (v :: t ++ [v]) i = at3 (v :: t) i := fun i hi => by
    unfold at3
    simp only [List.getD]
    rw [List.getElem?_append_left hi]
  have e2 : ∀ i, at3 (v :: t ++ [v]) (i + 1) = at3 (t ++ [v]) i := fun i => rfl
  constructor
  · intro h i hi
    have := at_con (i := i) h (by simp at hi ⊢; omega)
    rw [e1 i hi, e2] at this
    rw [e]
    exact this
  · intro h
    refine con_at fun i hi => ?_
    have hi' : i < (v :: t).length := by simp at hi ⊢; omega
    rw [e1 i hi', e2, ← e]
    exact h i hi'
theorem con_turns2 {v : P3} {t : List P3} : Con (fun a b => 0 < crossI a b) (v :: t ++ [v]) ↔ ∀ i, i < (v :: t).length → 0 < turnI (at3 (v :: t) i) (at3 (t ++ [v]) i) zP := by
  have e : ∀ a b, turnI a b zP = crossI a b := fun a b => by
    have := turn_zero a b 1
    unfold zP
    omega
  have e1 : ∀ i, i < (v :: t).length → at3 (v :: t ++ [v]) i = at3 (v :: t) i := fun i hi => by
    unfold at3
    simp only [List.getD]
    rw [List.getElem?_append_left hi]
  have e2 : ∀ i, at3 (v :: t ++ [v]) (i + 1) = at3 (t ++ [v]) i := fun i => rfl
  constructor
  · intro h i hi
    have := at_con (i := i) h (by simp at hi ⊢; omega)
    rw [e1 i hi, e2] at this
    rw [e]
    exact this
  · intro h
    refine con_at fun i hi => ?_
    have hi' : i < (v :: t).length := by simp at hi ⊢; omega
    rw [e1 i hi', e2, ← e]
    exact h i hi'
def InnL (L : List P3) : Prop := 3 ≤ L.length ∧ Con (fun a b => 0 < crossI a b) (L ++ [at3 L 0])
def sp__law_where : Spc := fun args Φ _ => ∃ L : List P3, args = [.val (.lst (L.map dP)), .val (.tup [.int 0, .int 0, .int 1])] ∧ L ≠ [] ∧ L.length ≤ 1000 ∧ (∀ p ∈ L, Bh p) ∧ ∀ k : Int, (0 ≤ k ↔ MetL L) → (0 < k ↔ InnL L) → Φ (.val (.int k)) []
/-- slots: 0 corners, 1 v, 2 p, 3 q, 4 dots, 5 least, 6 a, 7 b -/
def T__law_where : TDs :=
  (tCutD (tParD 2 3 (tConsD (tOpD gIx (tVarD 0) (tConD (.int 0))) (tConsD (tOpD gIx (tVarD 0) (tUnD (gU fun i => -i) (tConD (.int 1)))) tNilD)))
  (tSeqD (tIfSD (tValD (tOpD (gIB fun i j => decide (i < j)) (tCaD gLen (tConsD (tVarD 0) tNilD)) (tConD (.int 3)))) (tCutD (tSetV 4 (tOpD gAdd (tOpD (gII CMulA (· * ·)) (tOpD (gI0 (· - ·)) (tOpD (gII CMulA (· * ·)) (tOpD gIx (tVarD 2) (tConD (.int 0))) (tOpD gIx (tVarD 1) (tConD (.int 2)))) (tOpD (gII CMulA (· * ·)) (tOpD gIx (tVarD 1) (tConD (.int 0))) (tOpD gIx (tVarD 2) (tConD (.int 2))))) (tOpD (gI0 (· - ·)) (tOpD (gII CMulA (· * ·)) (tOpD gIx (tVarD 3) (tConD (.int 0))) (tOpD gIx (tVarD 1) (tConD (.int 2)))) (tOpD (gII CMulA (· * ·)) (tOpD gIx (tVarD 1) (tConD (.int 0))) (tOpD gIx (tVarD 3) (tConD (.int 2)))))) (tOpD (gII CMulA (· * ·)) (tOpD (gI0 (· - ·)) (tOpD (gII CMulA (· * ·)) (tOpD gIx (tVarD 2) (tConD (.int 1))) (tOpD gIx (tVarD 1) (tConD (.int 2)))) (tOpD (gII CMulA (· * ·)) (tOpD gIx (tVarD 1) (tConD (.int 1))) (tOpD gIx (tVarD 2) (tConD (.int 2))))) (tOpD (gI0 (· - ·)) (tOpD (gII CMulA (· * ·)) (tOpD gIx (tVarD 3) (tConD (.int 1))) (tOpD gIx (tVarD 1) (tConD (.int 2)))) (tOpD (gII CMulA (· * ·)) (tOpD gIx (tVarD 1) (tConD (.int 1))) (tOpD gIx (tVarD 3) (tConD (.int 2))))))))
  (tRetD (tIfD (tAndD (tValD (tOpD (gEq id) (tCallD 3 (q0 sp__law_turn) (tConsD (tVarD 2) (tConsD (tVarD 3) (tConsD (tVarD 1) tNilD)))) (tConD (.int 0)))) (tValD (tOpD (gIB fun i j => decide (i ≤ j)) (tVarD 4) (tConD (.int 0))))) (tConD (.int 0)) (tUnD (gU fun i => -i) (tConD (.int 1)))))) tNextD)
  (tCutD (tSetV 5 (tCaD gMin (tConsD (tLcZ (tConsD (tVarD 0) (tConsD (tOpD gAdd (tSlLD (tVarD 0) (tPartD (tConD (.int 1))) tNoPartD) (tSlLD (tVarD 0) tNoPartD (tPartD (tConD (.int 1))))) tNilD)) (tTupG 2 (tConsG (tNamG 6) (tConsG (tNamG 7) tNilG))) tYesD (tCallD 3 (q0 sp__law_turn) (tConsD (tVarD 6) (tConsD (tVarD 7) (tConsD (tVarD 1) tNilD)))) [6, 7]) tNilD)))
  (tRetD (tIfD (tValD (tOpD (gIB fun i j => decide (j < i)) (tVarD 5) (tConD (.int 0)))) (tConD (.int 1)) (tIfD (tValD (tOpD (gEq id) (tVarD 5) (tConD (.int 0)))) (tConD (.int 0)) (tUnD (gU fun i => -i) (tConD (.int 1)))))))))
theorem rd__law_where {args : En} {Φ : Res → List D → Prop} {Ψ : Xc → List D → Prop} (h : sp__law_where args Φ Ψ) : T__law_where (edOf args Φ XN) (noR ["corners", "v", "p", "q", "dots", "least", "a", "b"] args) := by
  obtain ⟨L, rfl, hne, hl, hb, h⟩ := h
  unfold T__law_where
  have ez : (D.tup [.int 0, .int 0, .int 1] : D) = dP zP := rfl
  have Lp : 0 < L.length := List.length_pos_iff.mpr hne
  have mp0 : at3 L 0 ∈ L := at3_mem Lp
  have mq0 : at3 L (L.length - 1) ∈ L := at3_mem (by omega)
  have bp := hb _ mp0
  have bq := hb _ mq0
  refine ⟨fun en => en = [.val (.lst (L.map dP)), .val (dP zP), .val (dP (at3 L 0)), .val (dP (at3 L (L.length - 1))), .no, .no, .no, .no], ?_, ?_⟩
  · have A : atI (L.map dP) 0 = some (dP (at3 L 0)) := atI_map (i := 0) (by omega) (by simpa using Lp)
    have B : atI (L.map dP) (-1) = some (dP (at3 L (L.length - 1))) := by
      refine atI_neg1 ?_
      rw [List.length_map]
      exact map_get (by omega)
    walk_at "vh"
    first
      | done
      | rfl
      | exact ez ▸ rfl
  rintro _ rfl
  generalize hC : Sl.val (D.lst (L.map dP)) = C
  by_cases h3 : L.length < 3
  · unfold MetL at h
    rw [if_pos h3] at h
    generalize hP : at3 L 0 = p at *
    generalize hQ : at3 L (L.length - 1) = q at *
    have bpp := bp
    have bqq := bq
    obtain ⟨p1, p2, p3, p4⟩ := bp
    obtain ⟨q1, q2, q3, q4⟩ := bq
    have ep : dP p = .tup [.int p.1, .int p.2.1, .int p.2.2] := rfl
    have eq : dP q = .tup [.int q.1, .int q.2.1, .int q.2.2] := rfl
    have ezz : dP zP = .tup [.int 0, .int 0, .int 1] := rfl
    have m1 : ∀ x : Int, CMulA x 1 := fun x => mulR (by decide) (by decide)
    have m0 : ∀ x : Int, CMulA 0 x := fun x => mulL (by decide) (by decide)
    have ed : ∀ x : Int, x * 1 - 0 * q.2.2 = x := fun x => by omega
    have goal2 : (tSeqD (tIfSD (tValD (tOpD (gIB fun i j => decide (i < j)) (tCaD gLen (tConsD (tVarD 0) tNilD)) (tConD (.int 3)))) tNextD tNextD) tNextD) = (tSeqD (tIfSD (tValD (tOpD (gIB fun i j => decide (i < j)) (tCaD gLen (tConsD (tVarD 0) tNilD)) (tConD (.int 3)))) tNextD tNextD) tNextD) := rfl
    subst hC
    walk_at "vs"
    rw [List.length_map, if_pos (by omega)]
    refine ⟨fun en => en = [.val (.lst (L.map dP)), .val (dP zP), .val (dP p), .val (dP q), .val (.int (dotI p q)), .no, .no, .no], ?_, ?_⟩
    · rw [ep, eq, ezz]
      have fin : ([.val (.lst (L.map dP)), .val (.tup [.int 0, .int 0, .int 1]), .val (.tup [.int p.1, .int p.2.1, .int p.2.2]), .val (.tup [.int q.1, .int q.2.1, .int q.2.2]), .val (.int ((p.1 * 1 - 0 * p.2.2) * (q.1 * 1 - 0 * q.2.2) + (p.2.1 * 1 - 0 * p.2.2) * (q.2.1 * 1 - 0 * q.2.2))), .no, .no, .no] : En) = [.val (.lst (L.map dP)), .val (.tup [.int 0, .int 0, .int 1]), .val (.tup [.int p.1, .int p.2.1, .int p.2.2]), .val (.tup [.int q.1, .int q.2.1, .int q.2.2]), .val (.int (dotI p q)), .no, .no, .no] := by
        have : (p.1 * 1 - 0 * p.2.2) * (q.1 * 1 - 0 * q.2.2) + (p.2.1 * 1 - 0 * p.2.2) * (q.2.1 * 1 - 0 * q.2.2) = dotI p q := by
          simp only [Int.mul_one, Int.zero_mul, Int.sub_zero]
          rfl
        rw [this]
      have bg : ∀ {x y : Int} (u v : Int), x.natAbs < BB → y.natAbs < BB → CMulA (x * 1 - 0 * u) (y * 1 - 0 * v) := fun {x y} u v hx hy => by
        simp only [Int.mul_one, Int.zero_mul, Int.sub_zero]
        exact big (sm hx) (sm hy)
      walk_at "vs"
      exact ⟨m1 _, m0 _, m1 _, m0 _, bg _ _ p1 q1, m1 _, m0 _, m1 _, m0 _, bg _ _ p2 q2, fin⟩
    rintro _ rfl
    unfold sp__law_turn
    walk_at "vs"
    refine ⟨p, q, zP, rfl, bpp, bqq, bh_zP, ?_⟩
    have e : turnI p q zP = crossI p q := by
      have := turn_zero p q 1
      unfold zP
      omega
    rw [e]
    by_cases z1 : crossI p q = 0
    · by_cases z2 : dotI p q ≤ 0
      · simp only [z1, z2, decide_true, if_true]
        first
          | exact h 0 ⟨fun _ => ⟨z1, z2⟩, fun _ => by decide⟩ ⟨fun k => by omega, fun k => by have := k.1; omega⟩
          | (rw [if_pos trivial]; exact h 0 ⟨fun _ => ⟨z1, z2⟩, fun _ => by decide⟩ ⟨fun k => by omega, fun k => by have := k.1; omega⟩)
      · simp only [z1, z2, decide_true, if_true, if_false]
        exact h (-1) ⟨fun k => by omega, fun k => absurd k.2 z2⟩ ⟨fun k => by omega, fun k => by have := k.1; omega⟩
    · simp only [z1, decide_false, Bool.false_eq_true, if_false]
      exact h (-1) ⟨fun k => by omega, fun k => absurd k.1 z1⟩ ⟨fun k => by omega, fun k => by have := k.1; omega⟩
  · have hM : MetL L ↔ Con (fun a b => 0 ≤ crossI a b) (L ++ [at3 L 0]) := by
      unfold MetL
      rw [if_neg h3]
    obtain ⟨v, t, rfl⟩ : ∃ v t, L = v :: t := by
      cases L with
      | nil => exact absurd rfl hne
      | cons v t => exact ⟨v, t, rfl⟩
    have e0 : at3 (v :: t) 0 = v := rfl
    have hM2 : InnL (v :: t) ↔ Con (fun a b => 0 < crossI a b) (v :: t ++ [v]) := ⟨fun k => k.2, fun k => ⟨by omega, k⟩⟩
    rw [e0, con_turns] at hM
    rw [con_turns2] at hM2
    rw [e0]
    generalize hQ : at3 (v :: t) ((v :: t).length - 1) = q at *
    have hN : (List.map dP (v :: t)).length = t.length + 1 := by simp
    subst hC
    walk_at "vs"
    rw [List.length_map, if_neg (by omega)]
    refine ⟨fun en => ∃ m : Int, en = [.val (.lst ((v :: t).map dP)), .val (dP zP), .val (dP v), .val (dP q), .no, .val (.int m), .no, .no] ∧ (0 ≤ m ↔ MetL (v :: t)) ∧ (0 < m ↔ InnL (v :: t)), ?_, ?_⟩
    · unfold tLcZ
      walk_at "vs"
      rw [cut_at1, cut_to1]
      intro p1 p2
      refine ⟨sz1000 (by simp at hl ⊢; omega), fun p3 => ?_⟩
      have eM : t.map dP ++ [dP v] = (t ++ [v]).map dP := by simp
      refine ⟨_, _, .inl ⟨rfl, rfl⟩, fun i acc en => acc = ((List.range i).map fun j => D.int (turnI (at3 (v :: t) j) (at3 (t ++ [v]) j) zP)) ∧ en = [.val (.lst ((v :: t).map dP)), .val (dP zP), .val (dP v), .val (dP q), .no, .no, .no, .no], ⟨rfl, rfl⟩, ?_, ?_⟩
      · rintro i d e acc en hd he ⟨rfl, rfl⟩
        rw [eM] at he
        have hi := (List.getElem?_eq_some_iff.mp hd).1
        rw [List.length_map] at hi
        rw [map_get hi] at hd
        rw [map_get (by simp at hi ⊢; omega)] at he
        cases hd
        cases he
        have ba := hb _ (at3_mem hi)
        have mb : at3 (t ++ [v]) i ∈ v :: t := by
          have := at3_mem (ps := t ++ [v]) (i := i) (by simp at hi ⊢; omega)
          rcases List.mem_append.mp this with z | z
          · exact List.mem_cons_of_mem _ z
          · have z' : at3 (t ++ [v]) i = v := by simpa using z
            rw [z']
            simp
        unfold lcStep sp__law_turn
        walk_at "vs"
        refine ⟨_, _, zP, rfl, ba, hb _ mb, bh_zP, ?_⟩
        rw [List.length_map, List.length_range]
        refine ⟨sz1001 (by simp at hi hl; omega), ?_⟩
        rw [List.range_succ, List.map_append]
        rfl
      · rintro acc en p ⟨rfl, rfl⟩
        rw [eM]
        have hn : min (List.map dP (v :: t)).length (List.map dP (t ++ [v])).length = (v :: t).length := by simp
        rw [hn]
        walk_at "vs"
        refine ⟨(List.range (v :: t).length).map fun j => turnI (at3 (v :: t) j) (at3 (t ++ [v]) j) zP, by rw [List.map_map]; rfl, by simp, fun m hm hle => ⟨m, rfl, ?_, ?_⟩⟩
        · rw [hM]
          constructor
          · intro h0 i hi
            have := hle _ (List.mem_map.mpr ⟨i, List.mem_range.mpr hi, rfl⟩)
            omega
          · intro h0
            obtain ⟨i, hi, rfl⟩ := List.mem_map.mp hm
            exact h0 i (List.mem_range.mp hi)
        · rw [hM2]
          constructor
          · intro h0 i hi
            have := hle _ (List.mem_map.mpr ⟨i, List.mem_range.mpr hi, rfl⟩)
            omega
          · intro h0
            obtain ⟨i, hi, rfl⟩ := List.mem_map.mp hm
            exact h0 i (List.mem_range.mp hi)
    rintro _ ⟨m, rfl, hm, hm2⟩
    walk_at "vs"
    split
    · exact h 1 ⟨fun _ => hm.mp (by omega), fun _ => by decide⟩ ⟨fun _ => hm2.mp (by omega), fun _ => by decide⟩
    · split
      · rename_i z
        have : m = 0 := by simpa using z
        exact h 0 ⟨fun _ => hm.mp (by omega), fun _ => by decide⟩ ⟨fun k => by omega, fun k => by have := hm2.mpr k; omega⟩
      · rename_i z w
        have : ¬ m = 0 := by simpa using w
        exact h (-1) ⟨fun k => by omega, fun k => by have := hm.mpr k; omega⟩ ⟨fun k => by omega, fun k => by have := hm2.mpr k; omega⟩
/-- the law's own look: (0, 0) lies within exactly if no line has all on one hand -/
theorem inn_sided {rs L : List P3} {v : P3} {t : List P3} (hw : ∀ x ∈ rs, LowP x) (h : IsHull (fun x => x ∈ rs) L v t) : InnL L ↔ ¬ Sided rs := by
  have hW : ∀ p ∈ rs, PosW p := fun p hp => (hw p hp).w
  have eL := h.eq
  have sv : v ∈ rs := h.mem v (by rw [eL]; simp)
  rw [sided_hull hw h]
  constructor
  · rintro ⟨_, c⟩
    rw [eL] at c ⊢
    exact con_unsided c
  · intro un
    rw [← sided_hull hw h] at un
    rcases h.cyc with ⟨et, all⟩ | ⟨tne, path, nv⟩
    · exfalso
      refine un ?_
      have s1 := sided_one v
      exact sided_sub (fun x hx => by rw [all x hx]; simp) s1
    · have hS : ∀ x ∈ L ++ [v], x ∈ rs := fun x hx => by
        rcases List.mem_append.mp hx with z | z
        · exact h.mem x z
        · obtain rfl : x = v := by simpa using z
          exact sv
      have cn : Con (fun a b => 0 < crossI a b) (L ++ [v]) := path_con (fun a b ha n => by
        rcases Int.lt_or_le 0 (crossI a b) with q | q
        · exact q
        · exact absurd (edge_sided hW (hW a ha) (hW b n.mem) ((low_tot (hw a ha) (hw b n.mem)).resolve_left (Ne.symm n.ne)) (next_ge n) q) un) hS path
      rw [eL] at cn ⊢
      refine ⟨?_, cn⟩
      match t, tne, cn with
      | [b], _, cn =>
        exfalso
        have c1 : 0 < crossI v b := cn.1
        have c2 : 0 < crossI b v := cn.2.1
        rw [cross_neg] at c2
        omega
      | b :: c :: r, _, _ => simp only [List.length_cons]; omega
theorem nz_edge {rs L : List P3} {v : P3} {t : List P3} (hw : ∀ x ∈ rs, LowP x) (h : IsHull (fun x => x ∈ rs) L v t) {u : Int × Int} (hu : u ∈ (dirL L).map normU) : u.1 ≠ 0 ∨ u.2 ≠ 0 := by
  obtain ⟨d, hd, rfl⟩ := List.mem_map.mp hu
  have eL := h.eq
  rw [eL] at hd
  obtain ⟨tne, c, q, e, rfl⟩ := dir_edge2 hd
  rw [← eL] at e
  rcases h.cyc with ⟨et, _⟩ | ⟨_, path, _⟩
  · exact absurd et tne
  · have n := path_edge path e
    have mc := h.mem c (edge_fst e)
    have := dir_nz ((low_tot (hw c mc) (hw q n.mem)).resolve_left (Ne.symm n.ne))
    unfold nzP at this
    simp only [normU] at this ⊢
    omega
theorem dir_bd {L : List P3} (hb : ∀ p ∈ L, Bq p) {u : Int × Int} (hu : u ∈ (dirL L).map normU) : u.1.natAbs < 2 ^ 401 ∧ u.2.natAbs < 2 ^ 401 := by
  obtain ⟨d, hd, rfl⟩ := List.mem_map.mp hu
  match L, hd, hb with
  | [], hd, _ => cases hd
  | v :: t, hd, hb =>
    obtain ⟨_, c, q, hc, hq, rfl⟩ := dir_edge hd
    obtain ⟨c1, c2, c3, c4⟩ := hb c hc
    obtain ⟨q1, q2, q3, q4⟩ := hb q hq
    have cw : c.2.2.natAbs < 2 ^ 200 := by omega
    have qw : q.2.2.natAbs < 2 ^ 200 := by omega
    have a1 : (dx c q).natAbs < 2 ^ (200 + 200 + 1) := sub_bd (mul_bd2 q1 cw) (mul_bd2 c1 qw)
    have a2 : (dy c q).natAbs < 2 ^ (200 + 200 + 1) := sub_bd (mul_bd2 q2 cw) (mul_bd2 c2 qw)
    simp only [normU, Int.natAbs_neg]
    exact ⟨a2, a1⟩
theorem least_bd {L : List P3} {u m : Int × Int} (hb : ∀ p ∈ L, Bq p) (u1 : u.1.natAbs < 2 ^ 401) (u2 : u.2.natAbs < 2 ^ 401) (h : Least u L m) : m.1.natAbs < 2 ^ 602 ∧ m.2.natAbs < 2 ^ 200 ∧ 0 < m.2 := by
  obtain ⟨⟨p, hp, rfl⟩, _⟩ := h
  obtain ⟨p1, p2, p3, p4⟩ := hb p hp
  exact ⟨val_bd (k := 401) (j := 200) u1 u2 p1 p2, by simp only; omega, p3⟩
def sp_gauge_of : Spc := fun args Φ _ => ∃ ps qs Lq : List P3, args = [.val (.lst (ps.map dP)), .val (.lst (Lq.map dP))] ∧ ps ≠ [] ∧ ps.length ≤ 100 ∧ (∀ p ∈ ps, Bq p) ∧ HullOf qs Lq ∧ Lq.length ≤ 400 ∧ (∀ p ∈ qs, Bq p) ∧ ¬ Sided qs ∧
  ∀ n d : Int, GaugeOk ps qs n d → Φ (.val (dU (n, d))) []
/-- slots: 0 points, 1 shape, 2 rim, 3 most, 4 normal, 5 near, 6 far, 7 top, 8 bottom -/
def T_gauge_of : TDs :=
  (tCutD (tSetV 2 (tCallD 1 (q0 sp_hull_corners) (tConsD (tVarD 0) tNilD)))
  (tSeqD (tSetV 3 (tTupD (tConsD (tConD (.int 0)) (tConsD (tConD (.int 1)) tNilD))))
  (tCutD (tIfSD (tValD (tCallD 1 (q0 sp_touches_zero) (tConsD (tVarD 2) tNilD))) (tRetD (tVarD 3)) tNextD)
  (tCutD (tForLD (tOpD gAdd (tCallD 1 (q0 sp_normals) (tConsD (tVarD 2) tNilD)) (tCallD 1 (q0 sp_normals) (tConsD (tVarD 1) tNilD))) (tNamG 4) (tCutD (tSetV 5 (tCallD 2 (q0 sp_least_value) (tConsD (tVarD 4) (tConsD (tVarD 2) tNilD))))
  (tCutD (tSetV 6 (tCallD 2 (q0 sp_least_value) (tConsD (tVarD 4) (tConsD (tVarD 1) tNilD))))
  (tCutD (tSetV 7 (tOpD (gII CMulA (· * ·)) (tOpD gIx (tVarD 5) (tConD (.int 0))) (tOpD gIx (tVarD 6) (tConD (.int 1)))))
  (tCutD (tSetV 8 (tOpD (gII CMulA (· * ·)) (tUnD (gU fun i => -i) (tOpD gIx (tVarD 6) (tConD (.int 0)))) (tOpD gIx (tVarD 5) (tConD (.int 1)))))
  (tIfSD (tValD (tOpD (gIB fun i j => decide (j < i)) (tOpD (gII CMulA (· * ·)) (tVarD 7) (tOpD gIx (tVarD 3) (tConD (.int 1)))) (tOpD (gII CMulA (· * ·)) (tOpD gIx (tVarD 3) (tConD (.int 0))) (tVarD 8)))) (tSetV 3 (tTupD (tConsD (tVarD 7) (tConsD (tVarD 8) tNilD)))) tNextD))))))
  (tRetD (tCallD 2 (q0 sp_lowest) (tConsD (tOpD gIx (tVarD 3) (tConD (.int 0))) (tConsD (tOpD gIx (tVarD 3) (tConD (.int 1))) tNilD))))))))
theorem rd_gauge_of {args : En} {Φ : Res → List D → Prop} {Ψ : Xc → List D → Prop} (h : sp_gauge_of args Φ Ψ) : T_gauge_of (edOf args Φ XN) (noR ["points", "shape", "rim", "most", "normal", "near", "far", "top", "bottom"] args) := by
  obtain ⟨ps, qs, Lq, rfl, hne, hl, hb, hLq, hlq, hbq, un, h⟩ := h
  have hB : ∀ p ∈ ps, Bh p := fun p hp => (hb p hp).bh
  have wp : ∀ p ∈ ps, PosW p := fun p hp => (hB p hp).w
  have wq : ∀ p ∈ qs, PosW p := fun p hp => (hbq p hp).bh.w
  have qb : ∀ x ∈ Lq, Bq x := fun x hx => by
    obtain ⟨q, hq, rfl⟩ := List.mem_map.mp (hullOf_mem hLq x hx)
    exact (hbq q hq).low
  unfold T_gauge_of
  generalize hS : Sl.val (D.lst (ps.map dP)) = S
  generalize hQ : Sl.val (D.lst (Lq.map dP)) = Q
  refine ⟨fun en => ∃ L : List P3, en = [S, Q, .val (.lst (L.map dP)), .no, .no, .no, .no, .no, .no] ∧ HullOf ps L ∧ L.length ≤ 200, ?_, ?_⟩
  · subst hS
    unfold sp_hull_corners
    walk_at "vs"
    exact ⟨ps, _, rfl, .inl rfl, hne, by omega, hB, fun a L h1 h2 => ⟨L, rfl, h1, by omega⟩⟩
  rintro _ ⟨L, rfl, hL, hLl⟩
  have lb : ∀ x ∈ L, Bq x := fun x hx => by
    obtain ⟨q, hq, rfl⟩ := List.mem_map.mp (hullOf_mem hL x hx)
    exact (hb q hq).low
  have lB : ∀ x ∈ L, Bh x := fun x hx => (lb x hx).bh
  have qB : ∀ x ∈ Lq, Bh x := fun x hx => (qb x hx).bh
  have lne := hullOf_ne hL
  have qne := hullOf_ne hLq
  have tt : Touch L ↔ Touch ps := by rw [← met_touch wp hne hL, ← met_touch (fun x hx => (lB x hx).w) lne (hullOf_self wp hL)]
  obtain ⟨v, t, kL⟩ := hL
  obtain ⟨w, tq, kQ⟩ := hLq
  have eL := kL.eq
  have eQ := kQ.eq
  have unL : ¬ Sided Lq := fun z => un ((sided_low wq).mpr ((sided_hull (lowmap wq) kQ).mpr z))
  generalize hR : Sl.val (D.lst (L.map dP)) = Rm
  walk_at "vs"
  refine ⟨sz1000 (by decide), ?_⟩
  refine ⟨fun en => en = [S, Q, Rm, .val (dU (0, 1)), .no, .no, .no, .no, .no] ∧ ¬ Touch ps, ?_, ?_⟩
  · subst hR
    unfold sp_touches_zero
    walk_at "vs"
    refine ⟨L, _, rfl, .inl rfl, by omega, lB, fun b hb' => ?_⟩
    cases b with
    | true =>
      have := tt.mp (hb'.mp rfl)
      subst hS hQ
      exact h 0 1 (.inl ⟨this, rfl, rfl⟩)
    | false => exact ⟨rfl, fun z => by have := hb'.mpr (tt.mpr z); cases this⟩
  rintro _ ⟨rfl, nt⟩
  generalize hus : (dirL L ++ dirL Lq).map normU = us
  have hul : us.length ≤ 700 := by
    have a1 := dir_len L
    have a2 := dir_len Lq
    rw [← hus, List.length_map, List.length_append]
    omega
  have hue : us = (dirL L).map normU ++ (dirL Lq).map normU := by rw [← hus, List.map_append]
  have hun : ∀ u ∈ us, (u.1 ≠ 0 ∨ u.2 ≠ 0) ∧ u.1.natAbs < 2 ^ 401 ∧ u.2.natAbs < 2 ^ 401 := fun u hu => by
    rw [hue] at hu
    rcases List.mem_append.mp hu with z | z
    · exact ⟨nz_edge (lowmap wp) kL z, dir_bd lb z⟩
    · exact ⟨nz_edge (lowmap wq) kQ z, dir_bd qb z⟩
  refine ⟨fun en => ∃ (M : Int × Int) (e4 e5 e6 e7 e8 : Sl), en = [S, Q, Rm, .val (dU M), e4, e5, e6, e7, e8] ∧ GInv L Lq us M, ?_, ?_⟩
  · refine forLo_i (fun i en => ∃ (M : Int × Int) (e4 e5 e6 e7 e8 : Sl), en = [S, Q, Rm, .val (dU M), e4, e5, e6, e7, e8] ∧ GInv L Lq (us.take i) M) (en1 := [S, Q, Rm, .val (dU (0, 1)), .no, .no, .no, .no, .no]) (ds := us.map dU) (fun Φ z => ?_) ⟨_, _, _, _, _, _, rfl, ⟨by decide, by decide, by decide, by decide, by simp, .inl rfl⟩⟩ ?_ ?_
    · subst hR hQ
      rw [hue, List.map_append] at z
      unfold sp_normals
      walk_at "vs"
      have a1 := dir_len L
      have a2 := dir_len Lq
      have l1 := congrArg List.length eL
      have l2 := congrArg List.length eQ
      rw [List.length_cons] at l1 l2
      have lB' : ∀ x ∈ v :: t, Bh x := by rw [← eL]; exact lB
      have qB' : ∀ x ∈ w :: tq, Bh x := by rw [← eQ]; exact qB
      refine ⟨v, t, by rw [eL], by omega, lB', fun p1 => ⟨w, tq, by rw [eQ], by omega, qB', fun p2 => ?_⟩⟩
      rw [← eL, ← eQ]
      exact ⟨sz1000 (by rw [List.length_map, List.length_map, List.length_map, List.length_map]; omega), z⟩
    · rintro i d _ hd ⟨M, e4, e5, e6, e7, e8, rfl, gi⟩
      obtain ⟨u, hu, rfl⟩ := get_map hd
      obtain ⟨nz, u1, u2⟩ := hun u (List.mem_of_getElem? hu)
      have tk : us.take (i + 1) = us.take i ++ [u] := by rw [List.take_succ, hu]; rfl
      show tCutD _ _ _ _
      refine ⟨fun en => ∃ near, en = [S, Q, Rm, .val (dU M), .val (dU u), .val (dU near), e6, e7, e8] ∧ Least u L near, ?_, ?_⟩
      · subst hR
        unfold sp_least_value
        walk_at "vs"
        exact ⟨u, L, rfl, lne, by omega, up u1 (by decide), up u2 (by decide), lB, fun m hm => ⟨m, rfl, hm⟩⟩
      rintro _ ⟨near, rfl, hn⟩
      refine ⟨fun en => ∃ far, en = [S, Q, Rm, .val (dU M), .val (dU u), .val (dU near), .val (dU far), e7, e8] ∧ Least u Lq far, ?_, ?_⟩
      · subst hQ
        unfold sp_least_value
        walk_at "vs"
        exact ⟨u, Lq, rfl, qne, by omega, up u1 (by decide), up u2 (by decide), qB, fun m hm => ⟨m, rfl, hm⟩⟩
      rintro _ ⟨far, rfl, hf⟩
      obtain ⟨n1, n2, n3⟩ := least_bd lb u1 u2 hn
      obtain ⟨f1, f2, f3⟩ := least_bd qb u1 u2 hf
      have f0 := least_far (fun x hx => (qB x hx).w) unL nz hf
      have en : dU near = .tup [.int near.1, .int near.2] := rfl
      have ef : dU far = .tup [.int far.1, .int far.2] := rfl
      have em : dU M = .tup [.int M.1, .int M.2] := rfl
      have nf : (-far.1).natAbs < 2 ^ 602 := by rw [Int.natAbs_neg]; exact f1
      have T9 : (near.1 * far.2).natAbs < 2 ^ 900 := up (m := 602 + 200) (mul_bd2 n1 f2) (by decide)
      have B9 : (-far.1 * near.2).natAbs < 2 ^ 900 := up (m := 602 + 200) (mul_bd2 nf n2) (by decide)
      refine ⟨fun en => en = [S, Q, Rm, .val (dU M), .val (dU u), .val (dU near), .val (dU far), .val (.int (near.1 * far.2)), e8], ?_, ?_⟩
      · rw [en, ef]
        walk_at "vs"
        exact big (up n1 (by decide)) (up f2 (by decide))
      rintro _ rfl
      refine ⟨fun en => en = [S, Q, Rm, .val (dU M), .val (dU u), .val (dU near), .val (dU far), .val (.int (near.1 * far.2)), .val (.int (-far.1 * near.2))], ?_, ?_⟩
      · rw [en, ef]
        walk_at "vs"
        exact big (up nf (by decide)) (up n2 (by decide))
      rintro _ rfl
      have put : M.1 * (-far.1 * near.2) < near.1 * far.2 * M.2 → ∃ (M_1 : Int × Int) (e4 e5 e6 e7 e8 : Sl), ([S, Q, Rm, .val (.tup [.int (near.1 * far.2), .int (-far.1 * near.2)]), .val (dU u), .val (dU near), .val (dU far), .val (.int (near.1 * far.2)), .val (.int (-far.1 * near.2))] : En) = [S, Q, Rm, .val (dU M_1), e4, e5, e6, e7, e8] ∧ GInv L Lq (us.take (i + 1)) M_1 := fun lt => by
        rw [tk]
        exact ⟨(near.1 * far.2, -far.1 * near.2), _, _, _, _, _, rfl, ginv_put gi nz hn hf f0 n3 lt T9 B9⟩
      have keep : ¬ M.1 * (-far.1 * near.2) < near.1 * far.2 * M.2 → ∃ (M_1 : Int × Int) (e4 e5 e6 e7 e8 : Sl), ([S, Q, Rm, .val (dU M), .val (dU u), .val (dU near), .val (dU far), .val (.int (near.1 * far.2)), .val (.int (-far.1 * near.2))] : En) = [S, Q, Rm, .val (dU M_1), e4, e5, e6, e7, e8] ∧ GInv L Lq (us.take (i + 1)) M_1 := fun nlt => by
        rw [tk]
        exact ⟨M, _, _, _, _, _, rfl, ginv_keep gi hn hf f0 n3 nlt⟩
      rw [em] at keep ⊢
      have b1 := gi.b1
      have b2 := gi.b2
      walk_at "vs"
      refine ⟨big (up T9 (by decide)) (up b2 (by decide)), big (up b1 (by decide)) (up B9 (by decide)), ?_⟩
      split
      · rename_i z
        exact ⟨sz1000 (by decide), put z⟩
      · rename_i z
        exact keep z
    · rintro _ ⟨M, e4, e5, e6, e7, e8, rfl, gi⟩
      rw [List.length_map, List.take_length] at gi
      exact ⟨M, e4, e5, e6, e7, e8, rfl, gi⟩
  rintro _ ⟨M, e4, e5, e6, e7, e8, rfl, gi⟩
  rw [← hus] at gi
  have ok := gauge_end wp wq hne kL kQ un nt gi
  have em : dU M = .tup [.int M.1, .int M.2] := rfl
  have b2 := gi.b2
  have m2 := gi.pos
  rw [em]
  unfold sp_lowest
  walk_at "vs"
  refine ⟨M.1, M.2, rfl, m2, ?_, ?_⟩
  · have : M.2.natAbs < BB := upB (m := 900) b2
    omega
  · subst hS hQ
    exact h _ _ ok
def flatX (C : Addr) : Xc := ⟨.ref C, some ("corner", .str "shape")⟩
def sp_gauge (C : Addr) : Spc := fun args Φ Ψ => ∃ (ps qs : List P3) (s : D), args = [.val (.lst (ps.map dP)), .val s] ∧ SeqP qs s ∧ ps ≠ [] ∧ ps.length ≤ 100 ∧ (∀ p ∈ ps, Bq p) ∧ qs.length ≤ 100 ∧ (∀ p ∈ qs, Bq p) ∧ (Sided qs → Ψ (flatX C) []) ∧
  (¬ Sided qs → ∀ n d : Int, GaugeOk ps qs n d → Φ (.val (dU (n, d))) [])
/-- slots: 0 points, 1 shape -/
def T_gauge (C : Addr) : TDs :=
  (tCutD (tIfSD (tValD (tOpD (gIsN not) (tCallD 1 (q0 sp_side_found) (tConsD (tVarD 1) tNilD)) (tConD .non))) (tRaiseFlat C (tConsD (tConD (.str "shape")) tNilD)) tNextD)
  (tRetD (tCallD 2 (q0 sp_gauge_of) (tConsD (tVarD 0) (tConsD (tCallD 1 (q0 sp_hull_corners) (tConsD (tVarD 1) tNilD)) tNilD)))))
theorem rd_gauge {C : Addr} {args : En} {Φ : Res → List D → Prop} {Ψ : Xc → List D → Prop} (h : sp_gauge C args Φ Ψ) : T_gauge C (edOf args Φ Ψ) (noR ["points", "shape"] args) := by
  obtain ⟨ps, qs, s, rfl, hs, hne, hl, hb, hlq, hbq, hX, h⟩ := h
  have hB : ∀ p ∈ qs, Bh p := fun p hp => (hbq p hp).bh
  unfold T_gauge
  refine ⟨fun en => en = [.val (.lst (ps.map dP)), .val s] ∧ ¬ Sided qs, ?_, ?_⟩
  · unfold sp_side_found
    walk_at "vs"
    refine ⟨qs, s, rfl, hs, by omega, hB, ?_⟩
    rcases sideD_none (ps := qs) with ⟨a, b, e, k⟩ | ⟨e, k⟩
    · rw [e]
      try walk_at "vs"
      exact hX k
    · rw [e]
      try walk_at "vs"
      exact k
  rintro _ ⟨rfl, un⟩
  have qne : qs ≠ [] := fun e => un (by rw [e]; exact ⟨(1, 0, 1), .inl (by decide), by simp⟩)
  unfold sp_gauge_of sp_hull_corners
  walk_at "vs"
  refine ⟨qs, s, rfl, hs, qne, by omega, hB, fun a L hL hLl => ⟨ps, qs, L, rfl, hne, hl, hb, hL, by omega, hbq, un, h un⟩⟩
def toldD (qs : List P3) (n d : Int) : D := dU (n, d)
def flatD : D := .lst [.str "Flat", .str "shape", .bl true]
def sp__law_told (C : Addr) : Spc := fun args Φ _ => ∃ ps qs : List P3, args = [.val (.lst (ps.map dP)), .val (.lst (qs.map dP))] ∧ ps ≠ [] ∧ ps.length ≤ 100 ∧ (∀ p ∈ ps, Bq p) ∧ qs.length ≤ 100 ∧ (∀ p ∈ qs, Bq p) ∧ (Sided qs → ∀ a, Φ (.own a flatD) []) ∧
  (¬ Sided qs → ∀ n d : Int, GaugeOk ps qs n d → Φ (.val (dU (n, d))) [])
/-- slots: 0 some, 1 form, 2 e -/
def T__law_told (C : Addr) : TDs :=
  (tTryD C 2 (tRetD (tCallD 2 (sp_gauge C) (tConsD (tVarD 0) (tConsD (tVarD 1) tNilD)))) (fun a cls dd => (tRetD (tLstD (tConsD (tConD (.str "Flat")) (tConsD (tFldFlat C a cls dd 2) (tConsD (tAndDV (tIsX C a cls dd true 2) (tNotDV (tIsX C a cls dd false 2))) tNilD)))))))
theorem rd__law_told {C : Addr} {args : En} {Φ : Res → List D → Prop} {Ψ : Xc → List D → Prop} (h : sp__law_told C args Φ Ψ) : T__law_told C (edOf args Φ XN) (noR ["some", "form", "e"] args) := by
  obtain ⟨ps, qs, rfl, hne, hl, hb, hlq, hbq, hX, h⟩ := h
  unfold T__law_told sp_gauge flatX
  walk_at "vs"
  refine ⟨ps, qs, _, rfl, .inl rfl, hne, hl, hb, hlq, hbq, fun k => ?_, fun k => h k⟩
  intro a cls dd
  try walk_at "vs"
  exact ⟨rfl, rfl, sz1000 (by decide), hX k⟩
end VS

namespace VS
open PySem L2 PySem.Spec PyProof.Rows
local macro_rules | `(tactic| walk_at "vs") => `(tactic| simp (maxSteps := 400000) only [tSeqD, tEitD, tEitS, tRevD, tRepD, tNewT, tPutT, gListT, gGcd3, gLt2, tFgtD, gAny, gMin, gGcd, tRaiseFlat, tTryD, tFldFlat, tIsX, tIfSD, tRetD, retD, tSetD, tSetV, tVarD, tConD, tOpD, tUnD, tCaD, tCallD, tConsD, tNilD, tTupD, tLstD, tValD, tAndD, tOrD, tNotD, tIfD, tAndDV, tOrDV, tNotDV, tAsgD, tParD, tPar3D, tNamG, tTupG, tNilG, tConsG, tUnlG, tDropD, tNextD, tBrkD, tCntD, tNeverD, tStoD, tMetD, tSlLD, tNoPartD, tPartD, tChD, tIsiD, tIsiTD, tIsi3D, tFrzD, q0, tYesD, wipeD,
  gI0, gII, gIB, gAdd, gU, gEq, gIx, gIsN, gLen, gInt, gAbs, gBool, gList, gTupC, mAppend, mPop, mPopAt, mInsert, mReverse, rd, rds, vl, vls, slR, nob, mkArgs, bors, putOwns, edOf, outsP, noR, shD, eqD,
  List.getElem?_cons_zero, List.getElem?_cons_succ, List.getElem?_nil, List.set_cons_zero, List.set_cons_succ, List.cons_append, List.nil_append, List.length_cons, List.length_nil, List.replicate, Nat.add_sub_cancel, Nat.sub_self, Nat.reduceAdd, Nat.reduceSub, Int.reduceToNat, Int.reducePow, Int.reduceNeg, Int.reduceAdd, Int.reduceSub, Int.reduceMul, id_eq, true_and, and_true, List.nodup_nil, if_true, if_false, List.nodup_cons, List.not_mem_nil, not_false_eq_true, Bool.not_true, Bool.not_false, Bool.true_or, Bool.or_false, Bool.false_or, decide_eq_true_eq, Bool.false_eq_true, XF,
  Bool.or_true, bne_self_eq_false, isT_dict_non, isT_dict_bl, isT_dict_int, isT_dict_str, isT_dict_tup, isT_dict_lst, isT_list_non, isT_list_bl, isT_list_int, isT_list_str, isT_list_tup, isT_list_lst, isT_tuple_non, isT_tuple_bl, isT_tuple_int, isT_tuple_str, isT_tuple_tup, isT_tuple_lst, isT_bool_non, isT_bool_bl, isT_bool_int, isT_bool_str, isT_bool_tup, isT_bool_lst, isT_str_non, isT_str_bl, isT_str_int, isT_str_str, isT_str_tup, isT_str_lst, isT_int_non, isT_int_bl, isT_int_int, isT_int_str, isT_int_tup, isT_int_lst,
  atI0, atI1, atI2, atI3, atI4, ixN51, ixN52, ixN53, ixN54])
local macro_rules | `(tactic| walk_at "vh") => `(tactic| simp (maxSteps := 400000) only [tSeqD, tEitD, tEitS, tRevD, tRepD, tNewT, tPutT, gListT, gGcd3, gLt2, tFgtD, gAny, gMin, gGcd, tRaiseFlat, tTryD, tFldFlat, tIsX, tIfSD, tRetD, retD, tSetD, tSetV, tVarD, tConD, tOpD, tUnD, tCaD, tCallD, tConsD, tNilD, tTupD, tLstD, tValD, tAndD, tOrD, tNotD, tIfD, tAndDV, tOrDV, tNotDV, tAsgD, tParD, tPar3D, tNamG, tTupG, tNilG, tConsG, tUnlG, tDropD, tNextD, tBrkD, tCntD, tNeverD, tStoD, tMetD, tSlLD, tNoPartD, tPartD, tChD, tIsiD, tIsiTD, tIsi3D, tFrzD, q0, tYesD, wipeD,
  gI0, gII, gIB, gAdd, gU, gEq, gIx, gIsN, gLen, gInt, gAbs, gBool, gList, gTupC, mAppend, mPop, mPopAt, mInsert, mReverse, rd, rds, vl, vls, slR, nob, mkArgs, bors, putOwns, edOf, outsP, noR, shD, eqD,
  List.getElem?_cons_zero, List.getElem?_cons_succ, List.getElem?_nil, List.set_cons_zero, List.set_cons_succ, List.cons_append, List.nil_append, List.length_cons, List.length_nil, List.replicate, Nat.add_sub_cancel, Nat.sub_self, Nat.reduceAdd, Nat.reduceSub, Int.reduceToNat, Int.reducePow, Int.reduceNeg, Int.reduceAdd, Int.reduceSub, Int.reduceMul, id_eq, true_and, and_true, List.nodup_nil, if_true, if_false, List.nodup_cons, List.not_mem_nil, not_false_eq_true, Bool.not_true, Bool.not_false, Bool.true_or, Bool.or_false, Bool.false_or, decide_eq_true_eq, Bool.false_eq_true, XF,
  Bool.or_true, bne_self_eq_false, isT_dict_non, isT_dict_bl, isT_dict_int, isT_dict_str, isT_dict_tup, isT_dict_lst, isT_list_non, isT_list_bl, isT_list_int, isT_list_str, isT_list_tup, isT_list_lst, isT_tuple_non, isT_tuple_bl, isT_tuple_int, isT_tuple_str, isT_tuple_tup, isT_tuple_lst, isT_bool_non, isT_bool_bl, isT_bool_int, isT_bool_str, isT_bool_tup, isT_bool_lst, isT_str_non, isT_str_bl, isT_str_int, isT_str_str, isT_str_tup, isT_str_lst, isT_int_non, isT_int_bl, isT_int_int, isT_int_str, isT_int_tup, isT_int_lst,
  atI0, atI1, atI2, atI3, atI4, ixN51, ixN52, ixN53, ixN54, *])
local macro_rules | `(tactic| walk_at "lf") => `(tactic| ((repeat' (with_reducible apply And.intro)) <;> first | exact mulR (by decide) (by decide) | exact pow1018 | exact pow3 (by omega) | exact divB (by omega) (by omega) | exact Int.emod_nonneg _ (by omega) | exact Int.emod_lt_of_pos _ (by omega) | exact Int.ediv_nonneg (by omega) (by omega) | omega | decide | assumption | skip))
local macro_rules | `(tactic| walk_at "vn") => `(tactic| simp (maxSteps := 400000) only [tSeqD, tEitD, tEitS, tRevD, tRepD, tNewT, tPutT, gListT, gGcd3, gLt2, tFgtD, gAny, gMin, gGcd, tRaiseFlat, tTryD, tFldFlat, tIsX, tIfSD, tRetD, retD, tSetD, tSetV, tVarD, tConD, tOpD, tUnD, tCaD, tCallD, tConsD, tNilD, tTupD, tLstD, tValD, tAndD, tOrD, tNotD, tIfD, tAndDV, tOrDV, tNotDV, tAsgD, tParD, tPar3D, tNamG, tTupG, tNilG, tConsG, tUnlG, tDropD, tNextD, tBrkD, tCntD, tNeverD, tStoD, tMetD, tSlLD, tNoPartD, tPartD, tChD, tIsiD, tIsiTD, tIsi3D, tFrzD, q0, tYesD, wipeD,
  gI0, gII, gIB, gAdd, gU, gEq, gIx, gIsN, gLen, gInt, gAbs, gBool, gList, gTupC, mAppend, mPop, mPopAt, mInsert, mReverse, rd, rds, vl, vls, slR, nob, mkArgs, bors, putOwns, edOf, outsP, noR,
  List.getElem?_cons_zero, List.getElem?_cons_succ, List.getElem?_nil, List.set_cons_zero, List.set_cons_succ, List.cons_append, List.nil_append, List.length_cons, List.length_nil, List.replicate, Nat.add_sub_cancel, Nat.sub_self, Nat.reduceAdd, Nat.reduceSub, Int.reduceToNat, Int.reducePow, Int.reduceNeg, Int.reduceAdd, Int.reduceSub, Int.reduceMul, id_eq, true_and, and_true, List.nodup_nil, if_true, if_false, List.nodup_cons, List.not_mem_nil, not_false_eq_true, Bool.not_true, Bool.not_false, Bool.true_or, Bool.or_false, Bool.false_or, decide_eq_true_eq, Bool.false_eq_true, XF,
  Bool.or_true, bne_self_eq_false, isT_dict_non, isT_dict_bl, isT_dict_int, isT_dict_str, isT_dict_tup, isT_dict_lst, isT_list_non, isT_list_bl, isT_list_int, isT_list_str, isT_list_tup, isT_list_lst, isT_tuple_non, isT_tuple_bl, isT_tuple_int, isT_tuple_str, isT_tuple_tup, isT_tuple_lst, isT_bool_non, isT_bool_bl, isT_bool_int, isT_bool_str, isT_bool_tup, isT_bool_lst, isT_str_non, isT_str_bl, isT_str_int, isT_str_str, isT_str_tup, isT_str_lst, isT_int_non, isT_int_bl, isT_int_int, isT_int_str, isT_int_tup, isT_int_lst,
  atI0, atI1, atI2, atI3, atI4, ixN51, ixN52, ixN53, ixN54])

/-- the shapes' numbers -/
def Bf (p : P3) : Prop := p.1.natAbs ≤ 2 ^ 40 ∧ p.2.1.natAbs ≤ 2 ^ 40 ∧ 0 < p.2.2 ∧ p.2.2 ≤ 2 ^ 40
theorem cut_some (xs : List P3) (n : Int) : ∃ ys : List P3, cutD (xs.map dP) none (some n) = ys.map dP ∧ (∀ y ∈ ys, y ∈ xs) ∧ ys.length ≤ xs.length ∧ (0 < n → ys.length ≤ n.toNat ∧ (xs ≠ [] → ys ≠ [])) := by
  rw [cut_map]
  unfold cutG
  rw [HT.sIx_none]
  refine ⟨_, rfl, fun y hy => List.mem_of_mem_drop (List.mem_of_mem_take hy), by rw [List.length_take, List.length_drop]; omega, fun h0 => ?_⟩
  have e : HT.sIx xs.length xs.length (some n) = min n.toNat xs.length := by
    unfold HT.sIx
    simp
    omega
  rw [e, List.drop_zero, Nat.sub_zero]
  refine ⟨by rw [List.length_take]; omega, fun hne z => ?_⟩
  have := List.length_pos_iff.mpr hne
  have l := congrArg List.length z
  rw [List.length_take, List.length_nil] at l
  omega
section
variable {ta te : TDe} {ts : TDa} {tG : TDg} {tt : TDt} {vs : List Nat} {Ψ : Px} {en : En} {Φ : Res → En → Prop}
theorem lcR1_w (Pn : Int → En → Prop) (J : Nat → List D → En → Prop) (hti : ∀ Φ : List Res → En → Prop, (∀ n en1, Pn n en1 → Φ [.val (.int n)] en1) → ts Ψ en Φ) (hb : ∀ n en1, Pn n en1 → -(2 ^ 62) ≤ n ∧ n < 2 ^ 62 ∧ wipeD en1 vs = en1 ∧ J 0 [] en1)
    (step : ∀ (n : Int) (e1 : En), Pn n e1 → ∀ (i : Nat) acc en, (i : Int) < n → J i acc en → lcStep tG tt te vs (J (i + 1)) (.int i) acc en) (fin : ∀ n e1, Pn n e1 → ∀ acc en2 p, J n.toNat acc en2 → Φ (.own p (.lst acc)) en2) : tLcR1 ts tG tt te vs Ψ en Φ :=
  hti _ fun n en1 hP => ⟨(hb n en1 hP).1, (hb n en1 hP).2.1, (hb n en1 hP).2.2.1, J, (hb n en1 hP).2.2.2, step n en1 hP, fin n en1 hP⟩
end
theorem rep_pts : ∀ (n : Nat) (ys : List P3), (List.replicate n (ys.map dP)).flatten = ((List.replicate n ys).flatten).map dP
  | 0, _ => rfl
  | n + 1, ys => by
    rw [List.replicate_succ, List.flatten_cons, rep_pts n ys, List.replicate_succ, List.flatten_cons, List.map_append]
theorem rep_mem {n : Nat} {ys : List P3} {y : P3} (h : y ∈ (List.replicate n ys).flatten) : y ∈ ys := by
  obtain ⟨l, hl, hy⟩ := List.mem_flatten.mp h
  rw [List.eq_of_mem_replicate hl] at hy
  exact hy
theorem rep_len (n : Nat) (ys : List P3) : (List.replicate n ys).flatten.length = n * ys.length := by
  induction n with
  | zero => simp
  | succ n ih => rw [List.replicate_succ, List.flatten_cons, List.length_append, ih, Nat.succ_mul]; omega
def sp__law_form : Spc := fun args Φ _ => ∃ q d0, args = [.own q d0] ∧ BagOk d0 ∧ ∀ (a : Addr) (ps : List P3) (d1 : D), ps.length ≤ 90 → (∀ p ∈ ps, Bf p) → BagOk d1 → Φ (.own a (.lst (ps.map dP))) [d1]
def n2D : D → D
  | .tup [.int x, .int y, .int w] => .tup [.int (-x), .int (-y), .int (2 * w)]
  | _ => .non
theorem n2D_map (ys : List P3) : (ys.map dP).map n2D = (ys.map fun p => ((-p.1, -p.2.1, 2 * p.2.2) : P3)).map dP := by
  rw [List.map_map, List.map_map]
  rfl
theorem bf_lit {ps : List P3} {x y w : Int} (h : ∀ p ∈ ps, Bf p) (hx : x.natAbs ≤ 2 ^ 40) (hy : y.natAbs ≤ 2 ^ 40) (w0 : 0 < w) (w1 : w ≤ 2 ^ 40) : ∀ p ∈ ((x, y, w) : P3) :: ps, Bf p := fun p hp => by
  rcases List.mem_cons.mp hp with e | e
  · rw [e]; exact ⟨hx, hy, w0, w1⟩
  · exact h p e
theorem bf_app {ps qs : List P3} (h1 : ∀ p ∈ ps, Bf p) (h2 : ∀ p ∈ qs, Bf p) : ∀ p ∈ ps ++ qs, Bf p := fun p hp => (List.mem_append.mp hp).elim (h1 p) (h2 p)
def elsT : TDs := tSetV 2 (tOpD gAdd (tLstD (tConsD (tTupD (tConsD (tConD (.int 2)) (tConsD (tConD (.int 0)) (tConsD (tConD (.int 1)) tNilD)))) (tConsD (tTupD (tConsD (tConD (.int 0)) (tConsD (tConD (.int 2)) (tConsD (tConD (.int 1)) tNilD)))) (tConsD (tTupD (tConsD (tUnD (gU fun i => -i) (tConD (.int 1))) (tConsD (tUnD (gU fun i => -i) (tConD (.int 1))) (tConsD (tOpD gAdd (tConD (.int 1)) (tCallD 2 (q0 sp__law_draw) (tConsD (tVarD 0) (tConsD (tConD (.int 3)) tNilD)))) tNilD)))) tNilD)))) (tVarD 2))
/-- slots: 0 bag, 1 pick, 2 some, 3 n, 4 k, 5 p -/
def T__law_form : TDs :=
  (tCutD (tSetV 1 (tCallD 2 (q0 sp__law_draw) (tConsD (tVarD 0) (tConsD (tConD (.int 8)) tNilD))))
  (tCutD (tSetV 2 (tLcR1 (tConsD (tOpD gAdd (tConD (.int 1)) (tCallD 2 (q0 sp__law_draw) (tConsD (tVarD 0) (tConsD (tConD (.int 3)) tNilD)))) tNilD) (tNamG 4) tYesD (tCallD 2 (q0 sp__law_point) (tConsD (tVarD 0) (tConsD (tConD (.int 3)) tNilD))) [4]))
  (tCutD (tIfSD (tValD (tOpD (gIB fun i j => decide (i < j)) (tVarD 1) (tConD (.int 3)))) (tSetV 2 (tOpD gAdd (tOpD gAdd (tVarD 2) (tLcL (tVarD 2) (tNamG 5) tYesD (tTupD (tConsD (tOpD gAdd (tUnD (gU fun i => -i) (tOpD gIx (tVarD 5) (tConD (.int 0)))) (tCallD 2 (q0 sp__law_draw) (tConsD (tVarD 0) (tConsD (tConD (.int 2)) tNilD)))) (tConsD (tUnD (gU fun i => -i) (tOpD gIx (tVarD 5) (tConD (.int 1)))) (tConsD (tOpD gIx (tVarD 5) (tConD (.int 2))) tNilD)))) [5])) (tLstD (tConsD (tTupD (tConsD (tConD (.int 0)) (tConsD (tConD (.int 1)) (tConsD (tConD (.int 2)) tNilD)))) (tConsD (tTupD (tConsD (tConD (.int 1)) (tConsD (tUnD (gU fun i => -i) (tConD (.int 1))) (tConsD (tConD (.int 3)) tNilD)))) (tConsD (tTupD (tConsD (tUnD (gU fun i => -i) (tConD (.int 1))) (tConsD (tUnD (gU fun i => -i) (tConD (.int 1))) (tConsD (tConD (.int 3)) tNilD)))) tNilD)))))) (tIfSD (tValD (tOpD (gEq id) (tVarD 1) (tConD (.int 3)))) (tSetV 2 (tLstD (tConsD (tTupD (tConsD (tConD (.int 1)) (tConsD (tConD (.int 1)) (tConsD (tConD (.int 1)) tNilD)))) (tConsD (tTupD (tConsD (tUnD (gU fun i => -i) (tConD (.int 1))) (tConsD (tConD (.int 1)) (tConsD (tConD (.int 1)) tNilD)))) (tConsD (tTupD (tConsD (tUnD (gU fun i => -i) (tConD (.int 1))) (tConsD (tUnD (gU fun i => -i) (tConD (.int 1))) (tConsD (tConD (.int 1)) tNilD)))) (tConsD (tTupD (tConsD (tConD (.int 1)) (tConsD (tUnD (gU fun i => -i) (tConD (.int 1))) (tConsD (tConD (.int 1)) tNilD)))) tNilD)))))) (tIfSD (tValD (tOpD (gEq id) (tVarD 1) (tConD (.int 4)))) (tCutD (tSetV 3 (tCallD 2 (q0 sp__law_of) (tConsD (tVarD 0) (tConsD (tLstD (tConsD (tConD (.int 3)) (tConsD (tConD (.int 20)) (tConsD (tOpD (gII CPow fun i j => i ^ j.toNat) (tConD (.int 10)) (tConD (.int 9))) tNilD)))) tNilD))))
  (tSetV 2 (tLstD (tConsD (tTupD (tConsD (tVarD 3) (tConsD (tConD (.int 1)) (tConsD (tConD (.int 1)) tNilD)))) (tConsD (tTupD (tConsD (tUnD (gU fun i => -i) (tVarD 3)) (tConsD (tConD (.int 1)) (tConsD (tConD (.int 2)) tNilD)))) (tConsD (tTupD (tConsD (tOpD (gI0 (· - ·)) (tCallD 2 (q0 sp__law_draw) (tConsD (tVarD 0) (tConsD (tConD (.int 3)) tNilD))) (tConD (.int 1))) (tConsD (tUnD (gU fun i => -i) (tConD (.int 1))) (tConsD (tOpD gAdd (tConD (.int 1)) (tCallD 2 (q0 sp__law_draw) (tConsD (tVarD 0) (tConsD (tConD (.int 4)) tNilD)))) tNilD)))) tNilD)))))) (tIfSD (tValD (tOpD (gEq id) (tVarD 1) (tConD (.int 5)))) (tSetV 2 (tOpD gAdd (tVarD 2) (tLcL (tVarD 2) (tNamG 5) tYesD (tTupD (tConsD (tUnD (gU fun i => -i) (tOpD gIx (tVarD 5) (tConD (.int 0)))) (tConsD (tUnD (gU fun i => -i) (tOpD gIx (tVarD 5) (tConD (.int 1)))) (tConsD (tOpD (gII CMulA (· * ·)) (tConD (.int 2)) (tOpD gIx (tVarD 5) (tConD (.int 2)))) tNilD)))) [5]))) (tIfSD (tAndD (tValD (tOpD (gEq id) (tVarD 1) (tConD (.int 6)))) (tValD (tOpD (gEq id) (tCallD 2 (q0 sp__law_draw) (tConsD (tVarD 0) (tConsD (tConD (.int 2)) tNilD))) (tConD (.int 0))))) (tSetV 2 (tRepD (tSlLD (tVarD 2) tNoPartD (tPartD (tCallD 2 (q0 sp__law_draw) (tConsD (tVarD 0) (tConsD (tConD (.int 4)) tNilD))))) (tCallD 2 (q0 sp__law_of) (tConsD (tVarD 0) (tConsD (tLstD (tConsD (tConD (.int 1)) (tConsD (tConD (.int 1)) (tConsD (tConD (.int 30)) tNilD)))) tNilD))))) (tSetV 2 (tOpD gAdd (tLstD (tConsD (tTupD (tConsD (tConD (.int 2)) (tConsD (tConD (.int 0)) (tConsD (tConD (.int 1)) tNilD)))) (tConsD (tTupD (tConsD (tConD (.int 0)) (tConsD (tConD (.int 2)) (tConsD (tConD (.int 1)) tNilD)))) (tConsD (tTupD (tConsD (tUnD (gU fun i => -i) (tConD (.int 1))) (tConsD (tUnD (gU fun i => -i) (tConD (.int 1))) (tConsD (tOpD gAdd (tConD (.int 1)) (tCallD 2 (q0 sp__law_draw) (tConsD (tVarD 0) (tConsD (tConD (.int 3)) tNilD)))) tNilD)))) tNilD)))) (tVarD 2))))))))
  (tRetD (tCallD 2 (q0 sp__law_shuffled) (tConsD (tVarD 0) (tConsD (tVarD 2) tNilD)))))))
theorem rd__law_form {args : En} {Φ : Res → List D → Prop} {Ψ : Xc → List D → Prop} (h : sp__law_form args Φ Ψ) : T__law_form (edOf args Φ XN) (noR ["bag", "pick", "some", "n", "k", "p"] args) := by
  obtain ⟨q, d0, rfl, hk, h⟩ := h
  unfold T__law_form
  refine ⟨fun en => ∃ (d1 : D) (k : Int), en = [.own q d1, .val (.int k), .no, .no, .no, .no] ∧ BagOk d1, ?_, ?_⟩
  · unfold sp__law_draw
    walk_at "vs"
    exact ⟨q, d0, 8, rfl, hk, by decide, by decide, fun k d1 k0 k1 hk1 => ⟨d1, k, rfl, hk1⟩⟩
  rintro _ ⟨d1, k, rfl, hk1⟩
  clear hk
  refine ⟨fun en => ∃ (d2 : D) (ps : List P3), en = [.own q d2, .val (.int k), .val (.lst (ps.map dP)), .no, .no, .no] ∧ BagOk d2 ∧ ps.length ≤ 3 ∧ ∀ p ∈ ps, Bz 1000 p, ?_, ?_⟩
  · walk_at "vs"
    refine lcR1_w (fun n en => 1 ≤ n ∧ n ≤ 3 ∧ ∃ d4, en = [.own q d4, .val (.int k), .no, .no, .no, .no] ∧ BagOk d4)
      (fun i acc en => ∃ (d4 : D) (zs : List P3), acc = zs.map dP ∧ zs.length = i ∧ (∀ p ∈ zs, Bz 1000 p) ∧ en = [.own q d4, .val (.int k), .no, .no, .no, .no] ∧ BagOk d4) (fun Φ z => ?_) ?_ ?_ ?_
    · unfold sp__law_draw
      walk_at "vs"
      exact ⟨q, d1, 3, rfl, hk1, by decide, by decide, fun n d4 n0 n1 hk4 => z _ _ ⟨by omega, by omega, d4, rfl, hk4⟩⟩
    · rintro n _ ⟨n0, n3, d4, rfl, hk4⟩
      exact ⟨by omega, by omega, rfl, d4, [], rfl, rfl, by simp, rfl, hk4⟩
    · rintro n _ ⟨n0, n3, _⟩ i acc _ hi ⟨d4, zs, rfl, hz, hzb, rfl, hk4⟩
      unfold lcStep sp__law_point
      walk_at "vs"
      refine ⟨q, d4, 3, rfl, hk4, by decide, by decide, fun p d5 hp hk5 => ⟨by rw [List.length_map]; exact sz1001 (by omega), d5, zs ++ [p], by simp, by simp [hz], fun y hy => ?_, rfl, hk5⟩⟩
      rcases List.mem_append.mp hy with w | w
      · exact hzb y w
      · obtain rfl : y = p := by simpa using w
        exact hp
    · rintro n _ ⟨n0, n3, _⟩ acc _ p ⟨d4, zs, rfl, hz, hzb, rfl, hk4⟩
      walk_at "vs"
      exact ⟨d4, zs, rfl, hk4, by omega, hzb⟩
  rintro _ ⟨d2, ps, rfl, hk2, hl, hbz⟩
  clear hk1
  have hb : ∀ p ∈ ps, Bf p := fun p hp => by
    obtain ⟨h1, h2, h3, h4⟩ := hbz p hp
    exact ⟨by omega, by omega, h3, by omega⟩
  refine ⟨fun en => ∃ (d3 : D) (rs : List P3) (e3 e4 e5 : Sl), en = [.own q d3, .val (.int k), .val (.lst (rs.map dP)), e3, e4, e5] ∧ BagOk d3 ∧ rs.length ≤ 90 ∧ ∀ p ∈ rs, Bf p, ?_, ?_⟩
  · generalize hS : Sl.val (D.lst (ps.map dP)) = S
    show tIfSD _ _ _ _ _
    have w0 : ∀ {T F : TDs} {e : En} {De : Ed} {j : Int}, e[1]? = some (.val (.int k)) → ((if k < j then T De e else F De e) → tIfSD (tValD (tOpD (gIB fun i j => decide (i < j)) (tVarD 1) (tConD (.int j)))) T F De e) := fun {T F e De j} he hh => by
      simp only [tIfSD, tValD, tOpD, tVarD, tConD, he, rd, gIB]
      simpa using hh
    have w1 : ∀ {T F : TDs} {e : En} {De : Ed} {j : Int}, e[1]? = some (.val (.int k)) → ((if k = j then T De e else F De e) → tIfSD (tValD (tOpD (gEq id) (tVarD 1) (tConD (.int j)))) T F De e) := fun {T F e De j} he hh => by
      simp only [tIfSD, tValD, tOpD, tVarD, tConD, he, rd, gEq, shD, eqD]
      simpa using hh
    refine w0 rfl ?_
    split
    · -- with the opposite ones, moved a bit, and a triangle
      subst hS
      have hcomp : ∀ (Φ' : Res → En → Prop), (∀ (a : Addr) (zs : List P3) (d : D), BagOk d → zs.length = ps.length → (∀ p ∈ zs, Bf p) → Φ' (.own a (.lst (zs.map dP))) [.own q d, .val (.int k), .val (.lst (ps.map dP)), .no, .no, .no]) →
          tLcL (tVarD 2) (tNamG 5) tYesD (tTupD (tConsD (tOpD gAdd (tUnD (gU fun i => -i) (tOpD gIx (tVarD 5) (tConD (.int 0)))) (tCallD 2 (q0 sp__law_draw) (tConsD (tVarD 0) (tConsD (tConD (.int 2)) tNilD)))) (tConsD (tUnD (gU fun i => -i) (tOpD gIx (tVarD 5) (tConD (.int 1)))) (tConsD (tOpD gIx (tVarD 5) (tConD (.int 2))) tNilD)))) [5] (edOf [.own q d0] Φ XN).ex [.own q d2, .val (.int k), .val (.lst (ps.map dP)), .no, .no, .no] Φ' := fun Φ' hh => by
        refine lcL_i (fun i acc en => ∃ (d4 : D) (zs : List P3), acc = zs.map dP ∧ zs.length = i ∧ (∀ p ∈ zs, Bf p) ∧ en = [.own q d4, .val (.int k), .val (.lst (ps.map dP)), .no, .no, .no] ∧ BagOk d4) (en1 := [.own q d2, .val (.int k), .val (.lst (ps.map dP)), .no, .no, .no]) (ds := ps.map dP) (fun Φ z => by walk_at "vs"; exact z) rfl ⟨d2, [], rfl, rfl, by simp, rfl, hk2⟩ ?_ ?_
        · rintro i d acc en hd ⟨d4, zs, rfl, hz, hzb, rfl, hk4⟩
          obtain ⟨p, hp, rfl⟩ := get_map hd
          have hi := (List.getElem?_eq_some_iff.mp hp).1
          obtain ⟨p1, p2, p3, p4⟩ := hbz p (List.mem_of_getElem? hp)
          have ed : dP p = .tup [.int p.1, .int p.2.1, .int p.2.2] := rfl
          rw [ed]
          unfold lcStep sp__law_draw
          walk_at "vs"
          refine ⟨q, d4, 2, rfl, hk4, by decide, by decide, fun j d5 j0 j1 hk5 => ⟨sz1000 (by decide), by rw [List.length_map]; exact sz1001 (by omega), d5, zs ++ [(-p.1 + j, -p.2.1, p.2.2)], by simp [dP], by simp [hz], fun y hy => ?_, rfl, hk5⟩⟩
          rcases List.mem_append.mp hy with w | w
          · exact hzb y w
          · obtain rfl : y = (-p.1 + j, -p.2.1, p.2.2) := by simpa using w
            exact ⟨by show (-p.1 + j).natAbs ≤ _; omega, by show (-p.2.1).natAbs ≤ _; omega, p3, by show p.2.2 ≤ _; omega⟩
        · rintro acc en a ⟨d4, zs, rfl, hz, hzb, rfl, hk4⟩
          rw [List.length_map] at hz
          exact hh a zs d4 hk4 hz hzb
      have hcomp2 := hcomp
      walk_at "vs"
      refine hcomp _ fun a zs d hkd hz hzb => ?_
      walk_at "vs"
      refine ⟨sz1000 (by rw [List.length_map, List.length_map]; omega), fun _ => ⟨sz1000 (by decide), sz1000 (by decide), sz1000 (by decide), sz1000 (by decide), fun _ => ⟨sz1000 (by rw [List.length_append, List.length_map, List.length_map]; omega), fun _ => ⟨d, (ps ++ zs) ++ [(0, 1, 2), (1, -1, 3), (-1, -1, 3)], _, _, _, by rw [List.map_append, List.map_append]; rfl, hkd, by rw [List.length_append, List.length_append]; simp; omega, bf_app (bf_app hb hzb) ?_⟩⟩⟩⟩
      exact bf_lit (bf_lit (bf_lit (by simp) (by decide) (by decide) (by decide) (by decide)) (by decide) (by decide) (by decide) (by decide)) (by decide) (by decide) (by decide) (by decide)
    refine w1 rfl ?_
    split
    · subst hS
      walk_at "vs"
      exact ⟨sz1000 (by decide), sz1000 (by decide), sz1000 (by decide), sz1000 (by decide), sz1000 (by decide), fun _ => ⟨d2, [(1, 1, 1), (-1, 1, 1), (-1, -1, 1), (1, -1, 1)], _, _, _, rfl, hk2, by simp, bf_lit (bf_lit (bf_lit (bf_lit (by simp) (by decide) (by decide) (by decide) (by decide)) (by decide) (by decide) (by decide) (by decide)) (by decide) (by decide) (by decide) (by decide)) (by decide) (by decide) (by decide) (by decide)⟩⟩
    refine w1 rfl ?_
    split
    · refine ⟨fun en => ∃ (d3 : D) (n : Int), en = [.own q d3, .val (.int k), S, .val (.int n), .no, .no] ∧ BagOk d3 ∧ 0 ≤ n ∧ n ≤ 10 ^ 9, ?_, ?_⟩
      · unfold sp__law_of
        walk_at "vs"
        refine ⟨⟨by decide, by decide, by decide⟩, sz1000 (by decide), fun _ => ⟨q, d2, _, rfl, hk2, by simp, by decide, ?_⟩⟩
        intro x d3 hx hk3
        simp only [List.mem_cons, List.not_mem_nil, or_false] at hx
        rcases hx with rfl | rfl | rfl <;> exact ⟨d3, _, rfl, hk3, by decide, by decide⟩
      rintro _ ⟨d3, n, rfl, hk3, n0, n9⟩
      subst hS
      unfold sp__law_draw
      walk_at "vs"
      refine ⟨sz1000 (by decide), sz1000 (by decide), q, d3, 3, rfl, hk3, by decide, by decide, fun i d4 i0 i1 hk4 => ⟨q, d4, 4, rfl, hk4, by decide, by decide, fun j d5 j0 j1 hk5 => ⟨sz1000 (by decide), sz1000 (by decide), fun _ => ⟨d5, [(n, 1, 1), (-n, 1, 2), (i - 1, -1, 1 + j)], _, _, _, rfl, hk5, by simp, ?_⟩⟩⟩⟩
      exact bf_lit (bf_lit (bf_lit (by simp) (by omega) (by decide) (by omega) (by omega)) (by omega) (by decide) (by decide) (by decide)) (by omega) (by decide) (by decide) (by decide)
    refine w1 rfl ?_
    split
    · subst hS
      walk_at "vs"
      refine lcL_map (f := n2D) (ds := ps.map dP) (by rw [List.length_map]; omega) (fun Φ z => by walk_at "vs"; exact z) rfl (fun d acc J hd hacc hJ => ?_) (fun r => ?_)
      · obtain ⟨p, hp, rfl⟩ := List.mem_map.mp hd
        have ed : dP p = .tup [.int p.1, .int p.2.1, .int p.2.2] := rfl
        rw [ed] at hJ ⊢
        unfold n2D at hJ
        unfold lcStep
        walk_at "vs"
        exact ⟨mulL (by decide) (by decide), sz1000 (by decide), hacc, hJ⟩
      · rw [n2D_map]
        walk_at "vs"
        refine ⟨sz1000 (by rw [List.length_map, List.length_map, List.length_map]; omega), fun _ => ⟨d2, ps ++ ps.map fun p => ((-p.1, -p.2.1, 2 * p.2.2) : P3), _, _, _, by rw [List.map_append], hk2, by rw [List.length_append, List.length_map]; omega, bf_app hb fun y hy => ?_⟩⟩
        obtain ⟨p, hp, rfl⟩ := List.mem_map.mp hy
        obtain ⟨p1, p2, p3, p4⟩ := hbz p hp
        exact ⟨by show (-p.1).natAbs ≤ _; omega, by show (-p.2.1).natAbs ≤ _; omega, by show 0 < 2 * p.2.2; omega, by show 2 * p.2.2 ≤ _; omega⟩
    subst hS
    have els : ∀ d : D, BagOk d → elsT { edOf [Sl.own q d0] Φ XN with nx := fun en => ∃ (d3 : D) (rs : List P3) (e3 e4 e5 : Sl), en = [.own q d3, .val (.int k), .val (.lst (rs.map dP)), e3, e4, e5] ∧ BagOk d3 ∧ rs.length ≤ 90 ∧ ∀ p ∈ rs, Bf p } [.own q d, .val (.int k), .val (.lst (ps.map dP)), .no, .no, .no] := fun d hkd => by
      unfold elsT sp__law_draw
      walk_at "vs"
      refine ⟨sz1000 (by decide), sz1000 (by decide), q, d, 3, rfl, hkd, by decide, by decide, fun j d5 j0 j1 hk5 => ⟨sz1000 (by decide), sz1000 (by decide), fun _ => ⟨sz1000 (by rw [List.length_map]; omega), fun _ => ⟨d5, [(2, 0, 1), (0, 2, 1), (-1, -1, 1 + j)] ++ ps, _, _, _, by rw [List.map_append]; rfl, hk5, by rw [List.length_append]; simp; omega, bf_app ?_ hb⟩⟩⟩⟩
      exact bf_lit (bf_lit (bf_lit (by simp) (by decide) (by decide) (by omega) (by omega)) (by decide) (by decide) (by decide) (by decide)) (by decide) (by decide) (by decide) (by decide)
    show tIfSD _ _ elsT _ _
    unfold sp__law_draw sp__law_of
    walk_at "vs"
    split
    · refine ⟨q, d2, 2, rfl, hk2, by decide, by decide, fun j d3 j0 j1 hk3 => ?_⟩
      split
      · refine ⟨q, d3, 4, rfl, hk3, by decide, by decide, fun n d4 n0 n1 hk4 => ?_⟩
        obtain ⟨ys, ey, ym, yl, _⟩ := cut_some ps n
        rw [ey]
        intro p1
        refine ⟨sz1000 (by decide), fun _ => ⟨q, d4, _, rfl, hk4, by simp, by simp, fun x d5 hx hk5 => ?_⟩⟩
        simp only [List.mem_cons, List.not_mem_nil, or_false] at hx
        have fin : ∀ m : Nat, m ≤ 30 → ∃ (d3 : D) (rs : List P3) (e3 e4 e5 : Sl), ([.own q d5, .val (.int k), .val (.lst ((List.replicate m (ys.map dP)).flatten)), .no, .no, .no] : En) = [.own q d3, .val (.int k), .val (.lst (rs.map dP)), e3, e4, e5] ∧ BagOk d3 ∧ rs.length ≤ 90 ∧ ∀ p ∈ rs, Bf p := fun m hm => by
          rw [rep_pts]
          refine ⟨d5, _, _, _, _, rfl, hk5, ?_, fun y hy => hb y (ym y (rep_mem hy))⟩
          rw [rep_len]
          have : m * ys.length ≤ 30 * 3 := Nat.mul_le_mul hm (by omega)
          omega
        have szz : ∀ m : Nat, m ≤ 30 → (ys.map dP).length * m ≤ sizeLine := fun m hm => by
          rw [List.length_map]
          have : ys.length * m ≤ 3 * 30 := Nat.mul_le_mul (by omega) hm
          exact sz1000 (by omega)
        rcases hx with rfl | rfl | rfl
        · exact ⟨by decide, by decide, szz 1 (by decide), fun _ => fin 1 (by decide)⟩
        · exact ⟨by decide, by decide, szz 1 (by decide), fun _ => fin 1 (by decide)⟩
        · exact ⟨by decide, by decide, szz 30 (by decide), fun _ => fin 30 (by decide)⟩
      · exact els d3 hk3
    · exact els d2 hk2
  rintro _ ⟨d3, rs, e3, e4, e5, rfl, hk3, hl3, hb3⟩
  unfold sp__law_shuffled
  walk_at "vs"
  refine ⟨q, d3, _, rfl, hk3, by rw [List.length_map]; omega, fun c es d4 hp hk4 => ?_⟩
  obtain ⟨rs', hp', rfl⟩ := perm_map hp rs rfl
  exact h c rs' d4 (by rw [hp'.length_eq]; exact hl3) (fun m hm => hb3 m (hp'.mem_iff.mp hm)) hk4
end VS

namespace VS
open PySem L2 PySem.Spec PyProof.Rows
local macro_rules | `(tactic| walk_at "vs") => `(tactic| simp (maxSteps := 400000) only [tSeqD, tEitD, tEitS, tRevD, tRepD, tNewT, tPutT, gListT, gGcd3, gLt2, tFgtD, gAny, gMin, gGcd, tRaiseFlat, tTryD, tFldFlat, tIsX, tIfSD, tRetD, retD, tSetD, tSetV, tVarD, tConD, tOpD, tUnD, tCaD, tCallD, tConsD, tNilD, tTupD, tLstD, tValD, tAndD, tOrD, tNotD, tIfD, tAndDV, tOrDV, tNotDV, tAsgD, tParD, tPar3D, tNamG, tTupG, tNilG, tConsG, tUnlG, tDropD, tNextD, tBrkD, tCntD, tNeverD, tStoD, tMetD, tSlLD, tNoPartD, tPartD, tChD, tIsiD, tIsiTD, tIsi3D, tFrzD, q0, tYesD, wipeD,
  gI0, gII, gIB, gAdd, gU, gEq, gIx, gIsN, gLen, gInt, gAbs, gBool, gList, gTupC, mAppend, mPop, mPopAt, mInsert, mReverse, rd, rds, vl, vls, slR, nob, mkArgs, bors, putOwns, edOf, outsP, noR, shD, eqD,
  List.getElem?_cons_zero, List.getElem?_cons_succ, List.getElem?_nil, List.set_cons_zero, List.set_cons_succ, List.cons_append, List.nil_append, List.length_cons, List.length_nil, List.replicate, Nat.add_sub_cancel, Nat.sub_self, Nat.reduceAdd, Nat.reduceSub, Int.reduceToNat, Int.reducePow, Int.reduceNeg, Int.reduceAdd, Int.reduceSub, Int.reduceMul, id_eq, true_and, and_true, List.nodup_nil, if_true, if_false, List.nodup_cons, List.not_mem_nil, not_false_eq_true, Bool.not_true, Bool.not_false, Bool.true_or, Bool.or_false, Bool.false_or, decide_eq_true_eq, Bool.false_eq_true, XF,
  Bool.or_true, bne_self_eq_false, isT_dict_non, isT_dict_bl, isT_dict_int, isT_dict_str, isT_dict_tup, isT_dict_lst, isT_list_non, isT_list_bl, isT_list_int, isT_list_str, isT_list_tup, isT_list_lst, isT_tuple_non, isT_tuple_bl, isT_tuple_int, isT_tuple_str, isT_tuple_tup, isT_tuple_lst, isT_bool_non, isT_bool_bl, isT_bool_int, isT_bool_str, isT_bool_tup, isT_bool_lst, isT_str_non, isT_str_bl, isT_str_int, isT_str_str, isT_str_tup, isT_str_lst, isT_int_non, isT_int_bl, isT_int_int, isT_int_str, isT_int_tup, isT_int_lst,
  atI0, atI1, atI2, atI3, atI4, ixN51, ixN52, ixN53, ixN54])
local macro_rules | `(tactic| walk_at "vh") => `(tactic| simp (maxSteps := 400000) only [tSeqD, tEitD, tEitS, tRevD, tRepD, tNewT, tPutT, gListT, gGcd3, gLt2, tFgtD, gAny, gMin, gGcd, tRaiseFlat, tTryD, tFldFlat, tIsX, tIfSD, tRetD, retD, tSetD, tSetV, tVarD, tConD, tOpD, tUnD, tCaD, tCallD, tConsD, tNilD, tTupD, tLstD, tValD, tAndD, tOrD, tNotD, tIfD, tAndDV, tOrDV, tNotDV, tAsgD, tParD, tPar3D, tNamG, tTupG, tNilG, tConsG, tUnlG, tDropD, tNextD, tBrkD, tCntD, tNeverD, tStoD, tMetD, tSlLD, tNoPartD, tPartD, tChD, tIsiD, tIsiTD, tIsi3D, tFrzD, q0, tYesD, wipeD,
  gI0, gII, gIB, gAdd, gU, gEq, gIx, gIsN, gLen, gInt, gAbs, gBool, gList, gTupC, mAppend, mPop, mPopAt, mInsert, mReverse, rd, rds, vl, vls, slR, nob, mkArgs, bors, putOwns, edOf, outsP, noR, shD, eqD,
  List.getElem?_cons_zero, List.getElem?_cons_succ, List.getElem?_nil, List.set_cons_zero, List.set_cons_succ, List.cons_append, List.nil_append, List.length_cons, List.length_nil, List.replicate, Nat.add_sub_cancel, Nat.sub_self, Nat.reduceAdd, Nat.reduceSub, Int.reduceToNat, Int.reducePow, Int.reduceNeg, Int.reduceAdd, Int.reduceSub, Int.reduceMul, id_eq, true_and, and_true, List.nodup_nil, if_true, if_false, List.nodup_cons, List.not_mem_nil, not_false_eq_true, Bool.not_true, Bool.not_false, Bool.true_or, Bool.or_false, Bool.false_or, decide_eq_true_eq, Bool.false_eq_true, XF,
  Bool.or_true, bne_self_eq_false, isT_dict_non, isT_dict_bl, isT_dict_int, isT_dict_str, isT_dict_tup, isT_dict_lst, isT_list_non, isT_list_bl, isT_list_int, isT_list_str, isT_list_tup, isT_list_lst, isT_tuple_non, isT_tuple_bl, isT_tuple_int, isT_tuple_str, isT_tuple_tup, isT_tuple_lst, isT_bool_non, isT_bool_bl, isT_bool_int, isT_bool_str, isT_bool_tup, isT_bool_lst, isT_str_non, isT_str_bl, isT_str_int, isT_str_str, isT_str_tup, isT_str_lst, isT_int_non, isT_int_bl, isT_int_int, isT_int_str, isT_int_tup, isT_int_lst,
  atI0, atI1, atI2, atI3, atI4, ixN51, ixN52, ixN53, ixN54, *])
local macro_rules | `(tactic| walk_at "lf") => `(tactic| ((repeat' (with_reducible apply And.intro)) <;> first | exact mulR (by decide) (by decide) | exact pow1018 | exact pow3 (by omega) | exact divB (by omega) (by omega) | exact Int.emod_nonneg _ (by omega) | exact Int.emod_lt_of_pos _ (by omega) | exact Int.ediv_nonneg (by omega) (by omega) | omega | decide | assumption | skip))
local macro_rules | `(tactic| walk_at "vn") => `(tactic| simp (maxSteps := 400000) only [tSeqD, tEitD, tEitS, tRevD, tRepD, tNewT, tPutT, gListT, gGcd3, gLt2, tFgtD, gAny, gMin, gGcd, tRaiseFlat, tTryD, tFldFlat, tIsX, tIfSD, tRetD, retD, tSetD, tSetV, tVarD, tConD, tOpD, tUnD, tCaD, tCallD, tConsD, tNilD, tTupD, tLstD, tValD, tAndD, tOrD, tNotD, tIfD, tAndDV, tOrDV, tNotDV, tAsgD, tParD, tPar3D, tNamG, tTupG, tNilG, tConsG, tUnlG, tDropD, tNextD, tBrkD, tCntD, tNeverD, tStoD, tMetD, tSlLD, tNoPartD, tPartD, tChD, tIsiD, tIsiTD, tIsi3D, tFrzD, q0, tYesD, wipeD,
  gI0, gII, gIB, gAdd, gU, gEq, gIx, gIsN, gLen, gInt, gAbs, gBool, gList, gTupC, mAppend, mPop, mPopAt, mInsert, mReverse, rd, rds, vl, vls, slR, nob, mkArgs, bors, putOwns, edOf, outsP, noR,
  List.getElem?_cons_zero, List.getElem?_cons_succ, List.getElem?_nil, List.set_cons_zero, List.set_cons_succ, List.cons_append, List.nil_append, List.length_cons, List.length_nil, List.replicate, Nat.add_sub_cancel, Nat.sub_self, Nat.reduceAdd, Nat.reduceSub, Int.reduceToNat, Int.reducePow, Int.reduceNeg, Int.reduceAdd, Int.reduceSub, Int.reduceMul, id_eq, true_and, and_true, List.nodup_nil, if_true, if_false, List.nodup_cons, List.not_mem_nil, not_false_eq_true, Bool.not_true, Bool.not_false, Bool.true_or, Bool.or_false, Bool.false_or, decide_eq_true_eq, Bool.false_eq_true, XF,
  Bool.or_true, bne_self_eq_false, isT_dict_non, isT_dict_bl, isT_dict_int, isT_dict_str, isT_dict_tup, isT_dict_lst, isT_list_non, isT_list_bl, isT_list_int, isT_list_str, isT_list_tup, isT_list_lst, isT_tuple_non, isT_tuple_bl, isT_tuple_int, isT_tuple_str, isT_tuple_tup, isT_tuple_lst, isT_bool_non, isT_bool_bl, isT_bool_int, isT_bool_str, isT_bool_tup, isT_bool_lst, isT_str_non, isT_str_bl, isT_str_int, isT_str_str, isT_str_tup, isT_str_lst, isT_int_non, isT_int_bl, isT_int_int, isT_int_str, isT_int_tup, isT_int_lst,
  atI0, atI1, atI2, atI3, atI4, ixN51, ixN52, ixN53, ixN54])

theorem Bf.bq {p : P3} (h : Bf p) : Bq p := by
  obtain ⟨h1, h2, h3, h4⟩ := h
  exact ⟨by omega, by omega, h3, by omega⟩
theorem grow_snoc {ps qs : List P3} {p : P3} {n d : Int} : growL (ps ++ [p]) qs n d = growL ps qs n d ++ qs.map (gP n d p) := by
  unfold growL
  rw [List.flatMap_append]
  simp
theorem grow_len (ps qs : List P3) (n d : Int) : (growL ps qs n d).length = ps.length * qs.length := by
  unfold growL
  induction ps with
  | nil => simp
  | cons p r ih => rw [List.flatMap_cons, List.length_append, ih, List.length_map, List.length_cons, Nat.succ_mul]; omega
theorem gP_bh {n d : Int} {p q : P3} (n0 : n.natAbs < 2 ^ 900) (d0 : d.natAbs < 2 ^ 900) (dp : 0 < d) (hp : Bq p) (hq : Bq q) : Bh (gP n d p q) := by
  obtain ⟨p1, p2, p3, p4⟩ := hp
  obtain ⟨q1, q2, q3, q4⟩ := hq
  have pw : p.2.2.natAbs < 2 ^ 200 := by omega
  have qw : q.2.2.natAbs < 2 ^ 200 := by omega
  have t : ∀ {x y : Int}, x.natAbs < 2 ^ 200 → y.natAbs < 2 ^ 200 → (x * d * q.2.2 + n * y * p.2.2).natAbs < BB := fun {x y} hx hy =>
    upB (m := 200 + 900 + 200 + 1) (add_bd (mul_bd2 (mul_bd2 hx d0) qw) (up (m := 900 + 200 + 200) (mul_bd2 (mul_bd2 n0 hy) pw) (by decide))) (by decide)
  have w : (p.2.2 * d * q.2.2).natAbs < BB := upB (m := 200 + 900 + 200) (mul_bd2 (mul_bd2 pw d0) qw) (by decide)
  have w0 : 0 < p.2.2 * d * q.2.2 := sg_P (sg_P p3 dp) q3
  exact ⟨t p1 q1, t p2 q2, w0, by show p.2.2 * d * q.2.2 < (BB : Int); omega⟩
def gD (n d : Int) (p : P3) : D → D
  | .tup [.int x, .int y, .int w] => dP (gP n d p (x, y, w))
  | _ => .non
theorem gD_map (n d : Int) (p : P3) (qs : List P3) : (qs.map dP).map (gD n d p) = (qs.map (gP n d p)).map dP := by
  rw [List.map_map, List.map_map]
  rfl
def sp__law_grown : Spc := fun args Φ _ => ∃ (ps qs : List P3) (n d : Int), args = [.val (.lst (ps.map dP)), .val (.lst (qs.map dP)), .val (.int n), .val (.int d)] ∧ ps ≠ [] ∧ qs ≠ [] ∧ ps.length ≤ 8 ∧ qs.length ≤ 90 ∧ (∀ p ∈ ps, Bq p) ∧ (∀ p ∈ qs, Bq p) ∧
  n.natAbs < 2 ^ 900 ∧ d.natAbs < 2 ^ 900 ∧ 0 < d ∧ ∀ (a : Addr) (L : List P3), HullOf (growL ps qs n d) L → L.length ≤ 900 → Φ (.own a (.lst (L.map dP))) []
/-- slots: 0 some, 1 form, 2 n, 3 d, 4 out, 5 p, 6 q -/
def T__law_grown : TDs :=
  (tSeqD (tSetV 4 (tLstD tNilD))
  (tCutD (tForLD (tVarD 0) (tNamG 5) (tSetV 4 (tOpD gAdd (tVarD 4) (tLcL (tVarD 1) (tNamG 6) tYesD (tTupD (tConsD (tOpD gAdd (tOpD (gII CMulA (· * ·)) (tOpD (gII CMulA (· * ·)) (tOpD gIx (tVarD 5) (tConD (.int 0))) (tVarD 3)) (tOpD gIx (tVarD 6) (tConD (.int 2)))) (tOpD (gII CMulA (· * ·)) (tOpD (gII CMulA (· * ·)) (tVarD 2) (tOpD gIx (tVarD 6) (tConD (.int 0)))) (tOpD gIx (tVarD 5) (tConD (.int 2))))) (tConsD (tOpD gAdd (tOpD (gII CMulA (· * ·)) (tOpD (gII CMulA (· * ·)) (tOpD gIx (tVarD 5) (tConD (.int 1))) (tVarD 3)) (tOpD gIx (tVarD 6) (tConD (.int 2)))) (tOpD (gII CMulA (· * ·)) (tOpD (gII CMulA (· * ·)) (tVarD 2) (tOpD gIx (tVarD 6) (tConD (.int 1)))) (tOpD gIx (tVarD 5) (tConD (.int 2))))) (tConsD (tOpD (gII CMulA (· * ·)) (tOpD (gII CMulA (· * ·)) (tOpD gIx (tVarD 5) (tConD (.int 2))) (tVarD 3)) (tOpD gIx (tVarD 6) (tConD (.int 2)))) tNilD)))) [6]))))
  (tRetD (tCallD 1 (q0 sp__law_hull) (tConsD (tVarD 4) tNilD)))))
theorem rd__law_grown {args : En} {Φ : Res → List D → Prop} {Ψ : Xc → List D → Prop} (h : sp__law_grown args Φ Ψ) : T__law_grown (edOf args Φ XN) (noR ["some", "form", "n", "d", "out", "p", "q"] args) := by
  obtain ⟨ps, qs, n, d, rfl, nep, neq, hl, hlq, hb, hbq, n0, d0, dp, h⟩ := h
  have len : ∀ xs : List P3, xs.length ≤ 8 → (growL xs qs n d).length ≤ 720 := fun xs hx => by
    rw [grow_len]
    have : xs.length * qs.length ≤ 8 * 90 := Nat.mul_le_mul hx hlq
    omega
  unfold T__law_grown
  generalize hS : Sl.val (D.lst (ps.map dP)) = S
  generalize hQ : Sl.val (D.lst (qs.map dP)) = Q
  walk_at "vs"
  refine ⟨sz1000 (by decide), fun _ => ?_⟩
  refine ⟨fun en => ∃ e5, en = [S, Q, .val (.int n), .val (.int d), .val (.lst ((growL ps qs n d).map dP)), e5, .no], ?_, ?_⟩
  · refine forL_i (fun i en => ∃ e5, en = [S, Q, .val (.int n), .val (.int d), .val (.lst ((growL (ps.take i) qs n d).map dP)), e5, .no]) (en1 := [S, Q, .val (.int n), .val (.int d), .val (.lst []), .no, .no]) (ds := ps.map dP) (fun Φ z => ?_) ⟨_, rfl⟩ ?_ ?_
    · subst hS
      walk_at "vs"
      exact z
    · rintro i dd _ hd ⟨e5, rfl⟩
      obtain ⟨p, hp, rfl⟩ := get_map hd
      have bp := hb p (List.mem_of_getElem? hp)
      obtain ⟨p1, p2, p3, p4⟩ := bp
      have pw : p.2.2.natAbs < 2 ^ 200 := by omega
      have tk : growL (ps.take (i + 1)) qs n d = growL (ps.take i) qs n d ++ qs.map (gP n d p) := by
        rw [List.take_succ, hp]
        exact grow_snoc
      have hlen := len (ps.take i) (by rw [List.length_take]; omega)
      rw [tk]
      generalize growL (ps.take i) qs n d = gs at *
      generalize hP : Sl.val (dP p) = Pv
      walk_at "vs"
      refine lcL_map (f := gD n d p) (ds := qs.map dP) (by rw [List.length_map]; omega) (fun Φ z => by subst hQ; walk_at "vs"; exact z) rfl (fun x acc J hx hacc hJ => ?_) (fun r => ?_)
      · obtain ⟨q, hq, rfl⟩ := List.mem_map.mp hx
        obtain ⟨q1, q2, q3, q4⟩ := hbq q hq
        have qw : q.2.2.natAbs < 2 ^ 200 := by omega
        have eg : gD n d p (dP q) = .tup [.int (p.1 * d * q.2.2 + n * q.1 * p.2.2), .int (p.2.1 * d * q.2.2 + n * q.2.1 * p.2.2), .int (p.2.2 * d * q.2.2)] := rfl
        have eq : dP q = .tup [.int q.1, .int q.2.1, .int q.2.2] := rfl
        have ep : dP p = .tup [.int p.1, .int p.2.1, .int p.2.2] := rfl
        rw [eg] at hJ
        rw [eq]
        subst hP
        rw [ep] at hJ ⊢
        unfold lcStep
        walk_at "vs"
        have b1 : ∀ {x : Int}, x.natAbs < 2 ^ 200 → CMulA x d := fun hx => big (up hx (by decide)) (up d0 (by decide))
        have b2 : ∀ {x : Int}, x.natAbs < 2 ^ 200 → CMulA (x * d) q.2.2 := fun hx => big (up (mul_bd2 hx d0) (by decide)) (up qw (by decide))
        have b3 : ∀ {x : Int}, x.natAbs < 2 ^ 200 → CMulA n x := fun hx => big (up n0 (by decide)) (up hx (by decide))
        have b4 : ∀ {x : Int}, x.natAbs < 2 ^ 200 → CMulA (n * x) p.2.2 := fun hx => big (up (mul_bd2 n0 hx) (by decide)) (up pw (by decide))
        exact ⟨b1 p1, b2 p1, b3 q1, b4 q1, b1 p2, b2 p2, b3 q2, b4 q2, b1 pw, b2 pw, sz1000 (by decide), hacc, hJ⟩
      · rw [gD_map, List.map_append]
        walk_at "vs"
        refine ⟨sz1000 (by rw [List.length_map, List.length_map, List.length_map]; omega), fun _ => ⟨_, rfl⟩⟩
    · rintro _ ⟨e5, rfl⟩
      rw [List.length_map, List.take_length]
      exact ⟨e5, rfl⟩
  rintro _ ⟨e5, rfl⟩
  have l0 := len ps hl
  subst hS hQ
  unfold sp__law_hull
  walk_at "vs"
  refine ⟨growL ps qs n d, rfl, fun e => ?_, by omega, fun x hx => ?_, fun a L h1 h2 => h a L h1 (by omega)⟩
  · have z := grow_len ps qs n d
    rw [e] at z
    have a1 := List.length_pos_iff.mpr nep
    have a2 := List.length_pos_iff.mpr neq
    have := Nat.mul_pos a1 a2
    simp at z
    omega
  · obtain ⟨p, hp, q, hq, rfl⟩ := mem_grow.mp hx
    exact gP_bh n0 d0 dp (hb p hp) (hbq q hq)
def tD (a b : Int) : D → D
  | .tup [.int x, .int y, .int w] => .tup [.int (x * a), .int (y * a), .int (w * b)]
  | _ => .non
theorem tD_map (a b : Int) (ps : List P3) : (ps.map dP).map (tD a b) = (timesL ps a b).map dP := by
  unfold timesL
  rw [List.map_map, List.map_map]
  rfl
def sp__law_times : Spc := fun args Φ _ => ∃ (ps : List P3) (a b : Int), args = [.val (.lst (ps.map dP)), .val (.int a), .val (.int b)] ∧ ps.length ≤ 100 ∧ 0 < a ∧ a ≤ 5 ∧ 0 < b ∧ b ≤ 5 ∧ ∀ r : Addr, Φ (.own r (.lst ((timesL ps a b).map dP))) []
/-- slots: 0 some, 1 n, 2 d, 3 p -/
def T__law_times : TDs :=
  (tRetD (tLcL (tVarD 0) (tNamG 3) tYesD (tTupD (tConsD (tOpD (gII CMulA (· * ·)) (tOpD gIx (tVarD 3) (tConD (.int 0))) (tVarD 1)) (tConsD (tOpD (gII CMulA (· * ·)) (tOpD gIx (tVarD 3) (tConD (.int 1))) (tVarD 1)) (tConsD (tOpD (gII CMulA (· * ·)) (tOpD gIx (tVarD 3) (tConD (.int 2))) (tVarD 2)) tNilD)))) [3]))
theorem rd__law_times {args : En} {Φ : Res → List D → Prop} {Ψ : Xc → List D → Prop} (h : sp__law_times args Φ Ψ) : T__law_times (edOf args Φ XN) (noR ["some", "n", "d", "p"] args) := by
  obtain ⟨ps, a, b, rfl, hl, a0, a5, b0, b5, h⟩ := h
  unfold T__law_times
  generalize hS : Sl.val (D.lst (ps.map dP)) = S
  walk_at "vs"
  refine lcL_map (f := tD a b) (ds := ps.map dP) (by rw [List.length_map]; omega) (fun Φ z => by subst hS; walk_at "vs"; exact z) rfl (fun x acc J hx hacc hJ => ?_) (fun r => ?_)
  · obtain ⟨p, hp, rfl⟩ := List.mem_map.mp hx
    have ed : dP p = .tup [.int p.1, .int p.2.1, .int p.2.2] := rfl
    rw [ed] at hJ ⊢
    unfold tD at hJ
    unfold lcStep
    walk_at "vs"
    exact ⟨mulR (by omega) (by omega), mulR (by omega) (by omega), mulR (by omega) (by omega), sz1000 (by decide), hacc, hJ⟩
  · rw [tD_map]
    subst hS
    walk_at "vs"
    exact h r
def isI : D → D := fun _ => .bl true
def sp__law_number : Spc := fun args Φ _ => ∃ n d : Int, args = [.val (dU (n, d))] ∧ 0 ≤ n ∧ 0 < d ∧ Int.gcd n d = 1 ∧ Φ (.val (.bl true)) []
section
variable {ti : TDe} {tG : TDg} {tt : TDt} {te : TDe} {vs : List Nat} {Ψ : Px} {en en1 : En} {Φ : Res → En → Prop} {ds : List D}
end
/-- slots: 0 told, 1 x -/
def T__law_number : TDs :=
  (tCutD (tIfSD (tOrD (tNotD (tValD (tIsiD "tuple" (tVarD 0)))) (tValD (tOpD (gEq not) (tCaD gLen (tConsD (tVarD 0) tNilD)) (tConD (.int 2))))) (tRetD (tConD (.bl false))) tNextD)
  (tCutD (tIfSD (tNotD (tValD (tCaD gAll (tConsD (tLcT (tVarD 0) (tNamG 1) tYesD (tAndDV (tIsiD "int" (tVarD 1)) (tNotDV (tIsiD "bool" (tVarD 1)))) [1]) tNilD)))) (tRetD (tConD (.bl false))) tNextD)
  (tRetD (tAndDV (tOpD (gIB fun i j => decide (j ≤ i)) (tOpD gIx (tVarD 0) (tConD (.int 0))) (tConD (.int 0))) (tAndDV (tOpD (gIB fun i j => decide (j < i)) (tOpD gIx (tVarD 0) (tConD (.int 1))) (tConD (.int 0))) (tOpD (gEq id) (tCallD 2 (q0 sp__law_gcd) (tConsD (tOpD gIx (tVarD 0) (tConD (.int 0))) (tConsD (tOpD gIx (tVarD 0) (tConD (.int 1))) tNilD))) (tConD (.int 1))))))))
theorem rd__law_number {args : En} {Φ : Res → List D → Prop} {Ψ : Xc → List D → Prop} (h : sp__law_number args Φ Ψ) : T__law_number (edOf args Φ XN) (noR ["told", "x"] args) := by
  obtain ⟨n, d, rfl, n0, d0, co, h⟩ := h
  have eu : dU (n, d) = .tup [.int n, .int d] := rfl
  unfold T__law_number
  rw [eu]
  refine ⟨fun en => en = [.val (.tup [.int n, .int d]), .no], ?_, ?_⟩
  · walk_at "vs"
    first
      | done
      | simp
  rintro _ rfl
  refine ⟨fun en => en = [.val (.tup [.int n, .int d]), .no], ?_, ?_⟩
  · walk_at "vs"
    refine lcT_map (f := isI) (ds := [.int n, .int d]) (by simp) (fun Φ z => by walk_at "vs"; exact z) rfl (fun x acc J hd hacc hJ => ?_) (fun q => ?_)
    · have : x = .int n ∨ x = .int d := by simpa using hd
      unfold lcStep
      unfold isI at hJ
      rcases this with rfl | rfl
      · walk_at "vs"
        exact ⟨hacc, hJ⟩
      · walk_at "vs"
        exact ⟨hacc, hJ⟩
    · have e : [D.int n, D.int d].map isI = [true, true].map D.bl := rfl
      rw [e]
      walk_at "vs"
      refine ⟨_, rfl, ?_⟩
      have e2 : [true, true].all id = true := rfl
      rw [e2]
      simp
  rintro _ rfl
  unfold sp__law_gcd
  have n0' : decide (0 ≤ n) = true := by simpa using n0
  have d0' : decide (0 < d) = true := by simpa using d0
  walk_at "vs"
  rw [if_pos n0, if_pos d0]
  refine ⟨n, d, rfl, ?_⟩
  rw [co]
  exact h
theorem lowest_eq {n d A B : Nat} (co : Nat.gcd n d = 1) (hd : 0 < d) (hA : 0 < A) (hB : 0 < B) (h : n * B = A * d) : n = A / Nat.gcd A B ∧ d = B / Nat.gcd A B := by
  obtain ⟨a, b, cab, ea, eb⟩ := Nat.exists_coprime A B
  have g0 : 0 < Nat.gcd A B := Nat.gcd_pos_of_pos_left _ hA
  generalize Nat.gcd A B = g at *
  have a0 : 0 < a := by
    rcases Nat.eq_zero_or_pos a with z | z
    · rw [z] at ea; omega
    · exact z
  have h2 : n * b = a * d := by
    have : g * (n * b) = g * (a * d) := by
      have e1 : g * (n * b) = n * B := by rw [eb]; grind
      have e2 : g * (a * d) = A * d := by rw [ea]; grind
      rw [e1, e2, h]
    exact Nat.eq_of_mul_eq_mul_left g0 this
  have k1 : a ∣ n := Nat.Coprime.dvd_of_dvd_mul_right cab (show a ∣ n * b from ⟨d, h2⟩)
  have k2 : n ∣ a := Nat.Coprime.dvd_of_dvd_mul_right (show Nat.Coprime n d from co) (show n ∣ a * d from ⟨b, h2.symm⟩)
  have e : n = a := Nat.dvd_antisymm k2 k1
  have e2 : d = b := by
    rw [e] at h2
    exact (Nat.eq_of_mul_eq_mul_left a0 h2).symm
  have q1 : A / g = a := by rw [ea]; exact Nat.mul_div_cancel _ g0
  have q2 : B / g = b := by rw [eb]; exact Nat.mul_div_cancel _ g0
  rw [q1, q2]
  exact ⟨e, e2⟩
theorem lowest_int {n d A B : Int} (n0 : 0 < n) (hd : 0 < d) (hA : 0 < A) (hB : 0 < B) (co : Int.gcd n d = 1) (h : n * B = A * d) : n = A / (Int.gcd A B : Nat) ∧ d = B / (Int.gcd A B : Nat) := by
  obtain ⟨n, rfl⟩ := Int.eq_ofNat_of_zero_le (Int.le_of_lt n0)
  obtain ⟨d, rfl⟩ := Int.eq_ofNat_of_zero_le (Int.le_of_lt hd)
  obtain ⟨A, rfl⟩ := Int.eq_ofNat_of_zero_le (Int.le_of_lt hA)
  obtain ⟨B, rfl⟩ := Int.eq_ofNat_of_zero_le (Int.le_of_lt hB)
  have co' : Nat.gcd n d = 1 := co
  have h' : n * B = A * d := by exact_mod_cast h
  obtain ⟨e1, e2⟩ := lowest_eq co' (by omega) (by omega) (by omega) h'
  have eg : Int.gcd (A : Int) (B : Int) = Nat.gcd A B := rfl
  rw [eg]
  constructor
  · conv => lhs; rw [e1]
    exact Int.natCast_ediv ..
  · conv => lhs; rw [e2]
    exact Int.natCast_ediv ..
theorem not_touch_times {ps : List P3} (hne : ps ≠ []) {a b : Int} (ha : 0 < a) (h : ¬ Touch ps) : ¬ Touch (timesL ps a b) := by
  have n2 : timesL ps a b ≠ [] := fun e => hne (List.map_eq_nil_iff.mp e)
  rw [touch_open n2, open_times ha]
  rw [touch_open hne] at h
  exact h
theorem times_one {ps qs : List P3} {n d a b : Int} (wp : ∀ p ∈ ps, PosW p) (wq : ∀ p ∈ qs, PosW p) (hne : ps ≠ []) (un : ¬ Sided qs) (nt : ¬ Touch ps) (a0 : 0 < a) (b0 : 0 < b) (h : GaugeOk ps qs n d) {n' d' : Int} (h' : GaugeOk (timesL ps a b) qs n' d') :
    n' = n * a / (Int.gcd (n * a) (d * b) : Nat) ∧ d' = d * b / (Int.gcd (n * a) (d * b) : Nat) := by
  rcases h with ⟨t, _⟩ | ⟨_, n0, d0, _, _, co, hs, ho⟩
  · exact absurd t nt
  rcases h' with ⟨t, _⟩ | ⟨_, n0', d0', _, _, co', hs', ho'⟩
  · exact absurd t (not_touch_times hne a0 nt)
  have hs2 : Sided (growL ps qs (n' * b) (d' * a)) := sided_xy grow_times1.2 hs'
  have ho2 : ¬ Open (growL ps qs (n' * b) (d' * a)) := fun z => ho' (open_xy grow_times1.1 z)
  have e := gauge_one wp wq un n0 d0 (sg_P n0' b0) (sg_P d0' a0) hs ho hs2 ho2
  exact lowest_int n0' d0' (sg_P n0 a0) (sg_P d0 b0) co' (by grind)
theorem times_two {ps qs : List P3} {n d a b : Int} (wp : ∀ p ∈ ps, PosW p) (wq : ∀ p ∈ qs, PosW p) (hne : ps ≠ []) (un : ¬ Sided qs) (nt : ¬ Touch ps) (a0 : 0 < a) (b0 : 0 < b) (h : GaugeOk ps qs n d) {n' d' : Int} (h' : GaugeOk ps (timesL qs a b) n' d') :
    n' = n * b / (Int.gcd (n * b) (d * a) : Nat) ∧ d' = d * a / (Int.gcd (n * b) (d * a) : Nat) := by
  rcases h with ⟨t, _⟩ | ⟨_, n0, d0, _, _, co, hs, ho⟩
  · exact absurd t nt
  rcases h' with ⟨t, _⟩ | ⟨_, n0', d0', _, _, co', hs', ho'⟩
  · exact absurd t nt
  have hs2 : Sided (growL ps qs (n' * a) (d' * b)) := sided_xy grow_times2.2 hs'
  have ho2 : ¬ Open (growL ps qs (n' * a) (d' * b)) := fun z => ho' (open_xy grow_times2.1 z)
  have e := gauge_one wp wq un n0 d0 (sg_P n0' a0) (sg_P d0' b0) hs ho hs2 ho2
  exact lowest_int n0' d0' (sg_P n0 b0) (sg_P d0 a0) co' (by grind)
theorem times_bq {ps : List P3} {a b : Int} (hb : ∀ p ∈ ps, p.1.natAbs < 2 ^ 190 ∧ p.2.1.natAbs < 2 ^ 190 ∧ 0 < p.2.2 ∧ p.2.2 < 2 ^ 190) (a0 : 0 < a) (a5 : a ≤ 5) (b0 : 0 < b) (b5 : b ≤ 5) : ∀ p ∈ timesL ps a b, Bq p := fun x hx => by
  obtain ⟨p, hp, rfl⟩ := List.mem_map.mp hx
  obtain ⟨p1, p2, p3, p4⟩ := hb p hp
  have a3 : a.natAbs < 2 ^ 3 := by omega
  have b3 : b.natAbs < 2 ^ 3 := by omega
  have pw : p.2.2.natAbs < 2 ^ 190 := by omega
  have w : (p.2.2 * b).natAbs < 2 ^ 200 := up (mul_bd2 pw b3) (by decide)
  have w0 : 0 < p.2.2 * b := sg_P p3 b0
  exact ⟨up (mul_bd2 p1 a3) (by decide), up (mul_bd2 p2 a3) (by decide), w0, by show p.2.2 * b < 2 ^ 200; omega⟩
theorem sh_pts : ∀ ps : List P3, PyData.canLayAll0 (pys (ps.map dP)) = true ∧ PyData.depthAll (pys (ps.map dP)) ≤ 1
  | [] => ⟨rfl, Nat.zero_le _⟩
  | p :: r => by
    obtain ⟨h1, h2⟩ := sh_pts r
    constructor
    · simp [pys, py, dP, PyData.canLayAll0, PyData.canLay0, h1]
    · simp [pys, py, dP, PyData.depthAll, PyData.depth, h2]
theorem shD_pts (ps : List P3) : shD (.lst (ps.map dP)) := by
  obtain ⟨h1, h2⟩ := sh_pts ps
  show SeqAt.shaped (py (.lst (ps.map dP))) = true
  unfold SeqAt.shaped
  simp only [py, PyData.canLay0, PyData.depth, h1, Bool.true_and, decide_eq_true_eq]
  omega
theorem eqD_nil (ps : List P3) : eqD (.lst (ps.map dP)) (.lst []) = decide (ps = []) := by
  rw [eqD_is]
  cases ps with
  | nil => simp [py, pys, PyData.eqv, PyData.eqvAll]
  | cons p r => simp [py, pys, PyData.eqv, PyData.eqvAll]
end VS

namespace VS
open PySem L2 PySem.Spec PyProof.Rows
local macro_rules | `(tactic| walk_at "vs") => `(tactic| simp (maxSteps := 400000) only [tSeqD, tEitD, tEitS, tRevD, tRepD, tNewT, tPutT, gListT, gGcd3, gLt2, tFgtD, gAny, gMin, gGcd, tRaiseFlat, tTryD, tFldFlat, tIsX, tIfSD, tRetD, retD, tSetD, tSetV, tVarD, tConD, tOpD, tUnD, tCaD, tCallD, tConsD, tNilD, tTupD, tLstD, tValD, tAndD, tOrD, tNotD, tIfD, tAndDV, tOrDV, tNotDV, tAsgD, tParD, tPar3D, tNamG, tTupG, tNilG, tConsG, tUnlG, tDropD, tNextD, tBrkD, tCntD, tNeverD, tStoD, tMetD, tSlLD, tNoPartD, tPartD, tChD, tIsiD, tIsiTD, tIsi3D, tFrzD, q0, tYesD, wipeD,
  gI0, gII, gIB, gAdd, gU, gEq, gIx, gIsN, gLen, gInt, gAbs, gBool, gList, gTupC, mAppend, mPop, mPopAt, mInsert, mReverse, rd, rds, vl, vls, slR, nob, mkArgs, bors, putOwns, edOf, outsP, noR, shD, eqD,
  List.getElem?_cons_zero, List.getElem?_cons_succ, List.getElem?_nil, List.set_cons_zero, List.set_cons_succ, List.cons_append, List.nil_append, List.length_cons, List.length_nil, List.replicate, Nat.add_sub_cancel, Nat.sub_self, Nat.reduceAdd, Nat.reduceSub, Int.reduceToNat, Int.reducePow, Int.reduceNeg, Int.reduceAdd, Int.reduceSub, Int.reduceMul, id_eq, true_and, and_true, List.nodup_nil, if_true, if_false, List.nodup_cons, List.not_mem_nil, not_false_eq_true, Bool.not_true, Bool.not_false, Bool.true_or, Bool.or_false, Bool.false_or, decide_eq_true_eq, Bool.false_eq_true, XF,
  Bool.or_true, bne_self_eq_false, isT_dict_non, isT_dict_bl, isT_dict_int, isT_dict_str, isT_dict_tup, isT_dict_lst, isT_list_non, isT_list_bl, isT_list_int, isT_list_str, isT_list_tup, isT_list_lst, isT_tuple_non, isT_tuple_bl, isT_tuple_int, isT_tuple_str, isT_tuple_tup, isT_tuple_lst, isT_bool_non, isT_bool_bl, isT_bool_int, isT_bool_str, isT_bool_tup, isT_bool_lst, isT_str_non, isT_str_bl, isT_str_int, isT_str_str, isT_str_tup, isT_str_lst, isT_int_non, isT_int_bl, isT_int_int, isT_int_str, isT_int_tup, isT_int_lst,
  atI0, atI1, atI2, atI3, atI4, ixN51, ixN52, ixN53, ixN54])
local macro_rules | `(tactic| walk_at "vh") => `(tactic| simp (maxSteps := 400000) only [tSeqD, tEitD, tEitS, tRevD, tRepD, tNewT, tPutT, gListT, gGcd3, gLt2, tFgtD, gAny, gMin, gGcd, tRaiseFlat, tTryD, tFldFlat, tIsX, tIfSD, tRetD, retD, tSetD, tSetV, tVarD, tConD, tOpD, tUnD, tCaD, tCallD, tConsD, tNilD, tTupD, tLstD, tValD, tAndD, tOrD, tNotD, tIfD, tAndDV, tOrDV, tNotDV, tAsgD, tParD, tPar3D, tNamG, tTupG, tNilG, tConsG, tUnlG, tDropD, tNextD, tBrkD, tCntD, tNeverD, tStoD, tMetD, tSlLD, tNoPartD, tPartD, tChD, tIsiD, tIsiTD, tIsi3D, tFrzD, q0, tYesD, wipeD,
  gI0, gII, gIB, gAdd, gU, gEq, gIx, gIsN, gLen, gInt, gAbs, gBool, gList, gTupC, mAppend, mPop, mPopAt, mInsert, mReverse, rd, rds, vl, vls, slR, nob, mkArgs, bors, putOwns, edOf, outsP, noR, shD, eqD,
  List.getElem?_cons_zero, List.getElem?_cons_succ, List.getElem?_nil, List.set_cons_zero, List.set_cons_succ, List.cons_append, List.nil_append, List.length_cons, List.length_nil, List.replicate, Nat.add_sub_cancel, Nat.sub_self, Nat.reduceAdd, Nat.reduceSub, Int.reduceToNat, Int.reducePow, Int.reduceNeg, Int.reduceAdd, Int.reduceSub, Int.reduceMul, id_eq, true_and, and_true, List.nodup_nil, if_true, if_false, List.nodup_cons, List.not_mem_nil, not_false_eq_true, Bool.not_true, Bool.not_false, Bool.true_or, Bool.or_false, Bool.false_or, decide_eq_true_eq, Bool.false_eq_true, XF,
  Bool.or_true, bne_self_eq_false, isT_dict_non, isT_dict_bl, isT_dict_int, isT_dict_str, isT_dict_tup, isT_dict_lst, isT_list_non, isT_list_bl, isT_list_int, isT_list_str, isT_list_tup, isT_list_lst, isT_tuple_non, isT_tuple_bl, isT_tuple_int, isT_tuple_str, isT_tuple_tup, isT_tuple_lst, isT_bool_non, isT_bool_bl, isT_bool_int, isT_bool_str, isT_bool_tup, isT_bool_lst, isT_str_non, isT_str_bl, isT_str_int, isT_str_str, isT_str_tup, isT_str_lst, isT_int_non, isT_int_bl, isT_int_int, isT_int_str, isT_int_tup, isT_int_lst,
  atI0, atI1, atI2, atI3, atI4, ixN51, ixN52, ixN53, ixN54, *])
local macro_rules | `(tactic| walk_at "lf") => `(tactic| ((repeat' (with_reducible apply And.intro)) <;> first | exact mulR (by decide) (by decide) | exact pow1018 | exact pow3 (by omega) | exact divB (by omega) (by omega) | exact Int.emod_nonneg _ (by omega) | exact Int.emod_lt_of_pos _ (by omega) | exact Int.ediv_nonneg (by omega) (by omega) | omega | decide | assumption | skip))
local macro_rules | `(tactic| walk_at "vn") => `(tactic| simp (maxSteps := 400000) only [tSeqD, tEitD, tEitS, tRevD, tRepD, tNewT, tPutT, gListT, gGcd3, gLt2, tFgtD, gAny, gMin, gGcd, tRaiseFlat, tTryD, tFldFlat, tIsX, tIfSD, tRetD, retD, tSetD, tSetV, tVarD, tConD, tOpD, tUnD, tCaD, tCallD, tConsD, tNilD, tTupD, tLstD, tValD, tAndD, tOrD, tNotD, tIfD, tAndDV, tOrDV, tNotDV, tAsgD, tParD, tPar3D, tNamG, tTupG, tNilG, tConsG, tUnlG, tDropD, tNextD, tBrkD, tCntD, tNeverD, tStoD, tMetD, tSlLD, tNoPartD, tPartD, tChD, tIsiD, tIsiTD, tIsi3D, tFrzD, q0, tYesD, wipeD,
  gI0, gII, gIB, gAdd, gU, gEq, gIx, gIsN, gLen, gInt, gAbs, gBool, gList, gTupC, mAppend, mPop, mPopAt, mInsert, mReverse, rd, rds, vl, vls, slR, nob, mkArgs, bors, putOwns, edOf, outsP, noR,
  List.getElem?_cons_zero, List.getElem?_cons_succ, List.getElem?_nil, List.set_cons_zero, List.set_cons_succ, List.cons_append, List.nil_append, List.length_cons, List.length_nil, List.replicate, Nat.add_sub_cancel, Nat.sub_self, Nat.reduceAdd, Nat.reduceSub, Int.reduceToNat, Int.reducePow, Int.reduceNeg, Int.reduceAdd, Int.reduceSub, Int.reduceMul, id_eq, true_and, and_true, List.nodup_nil, if_true, if_false, List.nodup_cons, List.not_mem_nil, not_false_eq_true, Bool.not_true, Bool.not_false, Bool.true_or, Bool.or_false, Bool.false_or, decide_eq_true_eq, Bool.false_eq_true, XF,
  Bool.or_true, bne_self_eq_false, isT_dict_non, isT_dict_bl, isT_dict_int, isT_dict_str, isT_dict_tup, isT_dict_lst, isT_list_non, isT_list_bl, isT_list_int, isT_list_str, isT_list_tup, isT_list_lst, isT_tuple_non, isT_tuple_bl, isT_tuple_int, isT_tuple_str, isT_tuple_tup, isT_tuple_lst, isT_bool_non, isT_bool_bl, isT_bool_int, isT_bool_str, isT_bool_tup, isT_bool_lst, isT_str_non, isT_str_bl, isT_str_int, isT_str_str, isT_str_tup, isT_str_lst, isT_int_non, isT_int_bl, isT_int_int, isT_int_str, isT_int_tup, isT_int_lst,
  atI0, atI1, atI2, atI3, atI4, ixN51, ixN52, ixN53, ixN54])

def Bs (p : P3) : Prop := p.1.natAbs < 2 ^ 190 ∧ p.2.1.natAbs < 2 ^ 190 ∧ 0 < p.2.2 ∧ p.2.2 < 2 ^ 190
theorem Bs.bq {p : P3} (h : Bs p) : Bq p := by
  obtain ⟨h1, h2, h3, h4⟩ := h
  exact ⟨by omega, by omega, h3, by omega⟩
theorem Bf.bs {p : P3} (h : Bf p) : Bs p := by
  obtain ⟨h1, h2, h3, h4⟩ := h
  exact ⟨by omega, by omega, h3, by omega⟩
def mvD (x y : Int) : D → D
  | .tup [.int a, .int b, .int w] => .tup [.int (a + x * w), .int (b + y * w), .int w]
  | _ => .non
theorem mvD_map (x y : Int) (ps : List P3) : (ps.map dP).map (mvD x y) = (ps.map fun p => ((p.1 + x * p.2.2, p.2.1 + y * p.2.2, p.2.2) : P3)).map dP := by
  rw [List.map_map, List.map_map]
  rfl
theorem hull_facts {ps L : List P3} (hb : ∀ p ∈ ps, PosW p) (hne : ps ≠ []) (h : HullOf ps L) : (MetL L ↔ Touch ps) ∧ (InnL L ↔ ¬ Sided ps) := by
  refine ⟨met_touch hb hne h, ?_⟩
  obtain ⟨v, t, h⟩ := h
  rw [inn_sided (lowmap hb) h, ← sided_low hb]
section
variable {t1 t2 : TDt} {A B : TDs} {De : Ed} {en : En}
theorem case_or (b1 b2 : Bool) (h1 : ∀ Φ : Bool → En → Prop, Φ b1 en → t1 De.ex en Φ) (h2 : b1 = false → ∀ Φ : Bool → En → Prop, Φ b2 en → t2 De.ex en Φ) (hA : b1 = true ∨ b2 = true → A De en) (hB : b1 = false → b2 = false → B De en) : tIfSD (tOrD t1 t2) A B De en := by
  unfold tIfSD tOrD
  refine h1 _ ?_
  cases b1 with
  | true => simpa using hA (.inl rfl)
  | false =>
    simp only [Bool.false_eq_true, if_false]
    refine h2 rfl _ ?_
    cases b2 with
    | true => simpa using hA (.inr rfl)
    | false => simpa using hB rfl rfl
theorem case_not (b : Bool) (h1 : ∀ Φ : Bool → En → Prop, Φ b en → t1 De.ex en Φ) (hA : b = false → A De en) (hB : b = true → B De en) : tIfSD (tNotD t1) A B De en := by
  unfold tIfSD tNotD
  refine h1 _ ?_
  cases b with
  | true => simpa using hB rfl
  | false => simpa using hA rfl
theorem case_t (b : Bool) (h1 : ∀ Φ : Bool → En → Prop, Φ b en → t1 De.ex en Φ) (hA : b = true → A De en) (hB : b = false → B De en) : tIfSD t1 A B De en := by
  unfold tIfSD
  refine h1 _ ?_
  cases b with
  | true => simpa using hA rfl
  | false => simpa using hB rfl
end
theorem ok_flat : okD flatD = true := by decide +kernel
theorem dep_flat : depD flatD ≤ 3 := by decide
theorem ok_dU (u : Int × Int) : okD (dU u) = true := rfl
theorem dep_dU (u : Int × Int) : depD (dU u) ≤ 3 := by simp [dU, depD, depDs]
theorem bool_of (P : Prop) : ∃ b : Bool, b = true ↔ P := by
  by_cases h : P
  · exact ⟨true, by simp [h]⟩
  · exact ⟨false, by simp [h]⟩
theorem bool_eq {a b : Bool} {P : Prop} (h1 : a = true ↔ P) (h2 : b = true ↔ P) : a = b := by
  cases a <;> cases b <;> simp_all
def sp_law : Spc := fun args Φ _ => ∃ ns : List Int, args = [.val (.lst (ns.map D.int))] ∧ Φ (.val (.bl true)) []
/-- slots: 0 script, 1 bag, 2 zero, 3 k, 4 some, 5 x, 6 y, 7 form, 8 handed, 9 passed, 10 told, 11 n, 12 d, 13 a, 14 b, 15 g, 16 h, 17 p -/
def T_law (C : Addr) : TDs :=
  (tCutD (tSetD 1 (tCallD 1 (q0 sp__law_bag) (tConsD (tVarD 0) tNilD)))
  (tCutD (tSetV 2 (tTupD (tConsD (tConD (.int 0)) (tConsD (tConD (.int 0)) (tConsD (tConD (.int 1)) tNilD)))))
  (tCutD (tForR1 (tConsD (tConD (.int 3)) tNilD) (tNamG 3) (tCutD (tSetV 4 (tSlLD (tCallD 1 (q0 sp__law_plane_points) (tConsD (tVarD 1) tNilD)) tNoPartD (tPartD (tConD (.int 8)))))
  (tCutD (tIfSD (tValD (tOpD (gEq id) (tCallD 2 (q0 sp__law_draw) (tConsD (tVarD 1) (tConsD (tConD (.int 2)) tNilD))) (tConD (.int 0)))) (tCutD (tAsgD (tTupD (tConsD (tOpD (gI0 (· - ·)) (tCallD 2 (q0 sp__law_draw) (tConsD (tVarD 1) (tConsD (tConD (.int 21)) tNilD))) (tConD (.int 10))) (tConsD (tOpD (gI0 (· - ·)) (tCallD 2 (q0 sp__law_draw) (tConsD (tVarD 1) (tConsD (tConD (.int 21)) tNilD))) (tConD (.int 10))) tNilD))) (tTupG 2 (tConsG (tNamG 5) (tConsG (tNamG 6) tNilG))))
  (tSetV 4 (tLcL (tVarD 4) (tNamG 17) tYesD (tTupD (tConsD (tOpD gAdd (tOpD gIx (tVarD 17) (tConD (.int 0))) (tOpD (gII CMulA (· * ·)) (tVarD 5) (tOpD gIx (tVarD 17) (tConD (.int 2))))) (tConsD (tOpD gAdd (tOpD gIx (tVarD 17) (tConD (.int 1))) (tOpD (gII CMulA (· * ·)) (tVarD 6) (tOpD gIx (tVarD 17) (tConD (.int 2))))) (tConsD (tOpD gIx (tVarD 17) (tConD (.int 2))) tNilD)))) [17]))) tNextD)
  (tCutD (tSetV 7 (tCallD 1 (q0 sp__law_form) (tConsD (tVarD 1) tNilD)))
  (tCutD (tParD 8 9 (tConsD (tCaD gList (tConsD (tVarD 4) tNilD)) (tConsD (tCaD gList (tConsD (tVarD 7) tNilD)) tNilD)))
  (tFrzD 9 (tFrzD 8 (tCutD (tSetV 10 (tCallD 2 (q0 (sp__law_told C)) (tConsD (tVarD 8) (tConsD (tVarD 9) tNilD))))
  (tCutD (tIfSD (tOrD (tNotD (tValD (tCallD 2 (q0 (sp__law_like 3)) (tConsD (tVarD 8) (tConsD (tVarD 4) tNilD))))) (tNotD (tValD (tCallD 2 (q0 (sp__law_like 3)) (tConsD (tVarD 9) (tConsD (tVarD 7) tNilD)))))) (tRetD (tConD (.bl false))) tNextD)
  (tIfSD (tOrD (tValD (tOpD (gEq id) (tVarD 7) (tLstD tNilD))) (tValD (tOpD (gIB fun i j => decide (i < j)) (tCallD 2 (q0 sp__law_where) (tConsD (tCallD 1 (q0 sp__law_hull) (tConsD (tVarD 7) tNilD)) (tConsD (tVarD 2) tNilD))) (tConD (.int 1))))) (tIfSD (tNotD (tValD (tCallD 2 (q0 (sp__law_like 3)) (tConsD (tVarD 10) (tConsD (tLstD (tConsD (tConD (.str "Flat")) (tConsD (tConD (.str "shape")) (tConsD (tConD (.bl true)) tNilD)))) tNilD))))) (tRetD (tConD (.bl false))) tNextD) (tIfSD (tNotD (tValD (tCallD 1 (q0 sp__law_number) (tConsD (tVarD 10) tNilD)))) (tRetD (tConD (.bl false))) (tIfSD (tValD (tOpD (gIB fun i j => decide (j ≤ i)) (tCallD 2 (q0 sp__law_where) (tConsD (tCallD 1 (q0 sp__law_hull) (tConsD (tVarD 4) tNilD)) (tConsD (tVarD 2) tNilD))) (tConD (.int 0)))) (tIfSD (tNotD (tValD (tCallD 2 (q0 (sp__law_like 3)) (tConsD (tVarD 10) (tConsD (tTupD (tConsD (tConD (.int 0)) (tConsD (tConD (.int 1)) tNilD))) tNilD))))) (tRetD (tConD (.bl false))) tNextD) (tCutD (tAsgD (tVarD 10) (tTupG 2 (tConsG (tNamG 11) (tConsG (tNamG 12) tNilG))))
  (tCutD (tIfSD (tOrD (tValD (tOpD (gEq id) (tVarD 11) (tConD (.int 0)))) (tValD (tOpD (gEq not) (tCallD 2 (q0 sp__law_where) (tConsD (tCallD 4 (q0 sp__law_grown) (tConsD (tVarD 4) (tConsD (tVarD 7) (tConsD (tVarD 11) (tConsD (tVarD 12) tNilD))))) (tConsD (tVarD 2) tNilD))) (tConD (.int 0))))) (tRetD (tConD (.bl false))) tNextD)
  (tCutD (tParD 13 14 (tConsD (tOpD gAdd (tConD (.int 1)) (tCallD 2 (q0 sp__law_draw) (tConsD (tVarD 1) (tConsD (tConD (.int 5)) tNilD)))) (tConsD (tOpD gAdd (tConD (.int 1)) (tCallD 2 (q0 sp__law_draw) (tConsD (tVarD 1) (tConsD (tConD (.int 4)) tNilD)))) tNilD)))
  (tCutD (tParD 15 16 (tConsD (tCallD 2 (q0 sp__law_gcd) (tConsD (tOpD (gII CMulA (· * ·)) (tVarD 11) (tVarD 13)) (tConsD (tOpD (gII CMulA (· * ·)) (tVarD 12) (tVarD 14)) tNilD))) (tConsD (tCallD 2 (q0 sp__law_gcd) (tConsD (tOpD (gII CMulA (· * ·)) (tVarD 11) (tVarD 14)) (tConsD (tOpD (gII CMulA (· * ·)) (tVarD 12) (tVarD 13)) tNilD))) tNilD)))
  (tCutD (tIfSD (tNotD (tValD (tCallD 2 (q0 (sp__law_like 3)) (tConsD (tCallD 2 (q0 (sp_gauge C)) (tConsD (tCallD 3 (q0 sp__law_times) (tConsD (tVarD 4) (tConsD (tVarD 13) (tConsD (tVarD 14) tNilD)))) (tConsD (tCaD gTupC (tConsD (tVarD 7) tNilD)) tNilD))) (tConsD (tTupD (tConsD (tOpD (gII CDivW (· / ·)) (tOpD (gII CMulA (· * ·)) (tVarD 11) (tVarD 13)) (tVarD 15)) (tConsD (tOpD (gII CDivW (· / ·)) (tOpD (gII CMulA (· * ·)) (tVarD 12) (tVarD 14)) (tVarD 15)) tNilD))) tNilD))))) (tRetD (tConD (.bl false))) tNextD)
  (tIfSD (tNotD (tValD (tCallD 2 (q0 (sp__law_like 3)) (tConsD (tCallD 2 (q0 (swapS (sp_gauge C))) (tConsD (tCallD 3 (q0 sp__law_times) (tConsD (tVarD 7) (tConsD (tVarD 13) (tConsD (tVarD 14) tNilD)))) (tConsD (tVarD 4) tNilD))) (tConsD (tTupD (tConsD (tOpD (gII CDivW (· / ·)) (tOpD (gII CMulA (· * ·)) (tVarD 11) (tVarD 14)) (tVarD 16)) (tConsD (tOpD (gII CDivW (· / ·)) (tOpD (gII CMulA (· * ·)) (tVarD 12) (tVarD 13)) (tVarD 16)) tNilD))) tNilD))))) (tRetD (tConD (.bl false))) tNextD))))))))))))))))))
  (tRetD (tConD (.bl true))))))
theorem rd_law {C : Addr} {args : En} {Φ : Res → List D → Prop} {Ψ : Xc → List D → Prop} (h : sp_law args Φ Ψ) : T_law C (edOf args Φ XN) (noR ["script", "bag", "zero", "k", "some", "x", "y", "form", "handed", "passed", "told", "n", "d", "a", "b", "g", "h", "p"] args) := by
  obtain ⟨ns, rfl, h⟩ := h
  unfold T_law
  generalize hSc : Sl.val (D.lst (ns.map D.int)) = Sc
  refine ⟨fun en => ∃ (p : Addr) (d1 : D), en = [Sc, .own p d1, .no, .no, .no, .no, .no, .no, .no, .no, .no, .no, .no, .no, .no, .no, .no, .no] ∧ BagOk d1, ?_, ?_⟩
  · subst hSc
    unfold sp__law_bag
    walk_at "vs"
    exact ⟨ns, rfl, fun p d hd => ⟨p, d, rfl, hd⟩⟩
  rintro _ ⟨p, d1, rfl, hk1⟩
  generalize hZ : Sl.val (D.tup [.int 0, .int 0, .int 1]) = Z
  refine ⟨fun en => en = [Sc, .own p d1, Z, .no, .no, .no, .no, .no, .no, .no, .no, .no, .no, .no, .no, .no, .no, .no], ?_, ?_⟩
  · subst hZ
    walk_at "vs"
    exact sz1000 (by decide)
  rintro _ rfl
  refine ⟨fun en => ∃ (d1 : D) (e3 e4 e5 e6 e7 e8 e9 e10 e11 e12 e13 e14 e15 e16 : Sl), en = [Sc, .own p d1, Z, e3, e4, e5, e6, e7, e8, e9, e10, e11, e12, e13, e14, e15, e16, .no] ∧ BagOk d1, ?_, ?_⟩
  · refine forR1_i (fun _ en => ∃ (d1 : D) (e3 e4 e5 e6 e7 e8 e9 e10 e11 e12 e13 e14 e15 e16 : Sl), en = [Sc, .own p d1, Z, e3, e4, e5, e6, e7, e8, e9, e10, e11, e12, e13, e14, e15, e16, .no] ∧ BagOk d1)
      (en1 := [Sc, .own p d1, Z, .no, .no, .no, .no, .no, .no, .no, .no, .no, .no, .no, .no, .no, .no, .no]) (n := 3) ?_ (by decide) (by decide) ⟨d1, _, _, _, _, _, _, _, _, _, _, _, _, _, _, rfl, hk1⟩ ?_ (fun en z => z)
    · intro Φ z
      walk_at "vs"
      exact z
    rintro i _ hi ⟨d1, e3, e4, e5, e6, e7, e8, e9, e10, e11, e12, e13, e14, e15, e16, rfl, hk1⟩
    show tCutD _ _ _ _
    refine ⟨fun en => ∃ (d2 : D) (ps : List P3), en = [Sc, .own p d2, Z, .val (.int i), .val (.lst (ps.map dP)), e5, e6, e7, e8, e9, e10, e11, e12, e13, e14, e15, e16, .no] ∧ BagOk d2 ∧ ps ≠ [] ∧ ps.length ≤ 8 ∧ ∀ q ∈ ps, q.1.natAbs < 2 ^ 110 ∧ q.2.1.natAbs < 2 ^ 110 ∧ 0 < q.2.2 ∧ q.2.2 < 2 ^ 12, ?_, ?_⟩
    · unfold sp__law_plane_points
      walk_at "vs"
      refine ⟨p, d1, rfl, hk1, fun a ps d2 h1 h2 h3 hk2 => ?_⟩
      obtain ⟨ys, ey, ym, yl, yn⟩ := cut_some ps 8
      obtain ⟨y8, yne⟩ := yn (by decide)
      rw [ey]
      exact fun _ => ⟨d2, ys, rfl, hk2, yne h1, by omega, fun q hq => h3 q (ym q hq)⟩
    rintro _ ⟨d2, ps, rfl, hk2, hne, hl, hbw⟩
    clear hk1
    refine ⟨fun en => ∃ (d2 : D) (ps : List P3) (e5 e6 : Sl), en = [Sc, .own p d2, Z, .val (.int i), .val (.lst (ps.map dP)), e5, e6, e7, e8, e9, e10, e11, e12, e13, e14, e15, e16, .no] ∧ BagOk d2 ∧ ps ≠ [] ∧ ps.length ≤ 8 ∧ ∀ q ∈ ps, Bs q, ?_, ?_⟩
    · have stay : ∀ d, BagOk d → ∃ (d2 : D) (ps_1 : List P3) (e5_1 e6_1 : Sl), ([Sc, .own p d, Z, .val (.int i), .val (.lst (ps.map dP)), e5, e6, e7, e8, e9, e10, e11, e12, e13, e14, e15, e16, .no] : En) = [Sc, .own p d2, Z, .val (.int i), .val (.lst (ps_1.map dP)), e5_1, e6_1, e7, e8, e9, e10, e11, e12, e13, e14, e15, e16, .no] ∧ BagOk d2 ∧ ps_1 ≠ [] ∧ ps_1.length ≤ 8 ∧ ∀ q ∈ ps_1, Bs q := fun d hd =>
        ⟨d, ps, _, _, rfl, hd, hne, hl, fun q hq => by
          obtain ⟨h1, h2, h3, h4⟩ := hbw q hq
          exact ⟨by omega, by omega, h3, by omega⟩⟩
      generalize hS : Sl.val (D.lst (ps.map dP)) = S at stay ⊢
      unfold sp__law_draw
      walk_at "vs"
      refine ⟨p, d2, 2, rfl, hk2, by decide, by decide, fun k d3 k0 k1 hk3 => ?_⟩
      split
      · refine ⟨fun en => ∃ (d4 : D) (x y : Int), en = [Sc, .own p d4, Z, .val (.int i), S, .val (.int x), .val (.int y), e7, e8, e9, e10, e11, e12, e13, e14, e15, e16, .no] ∧ BagOk d4 ∧ x.natAbs ≤ 10 ∧ y.natAbs ≤ 10, ?_, ?_⟩
        · walk_at "vs"
          exact ⟨p, d3, 21, rfl, hk3, by decide, by decide, fun x d4 x0 x1 hk4 => ⟨p, d4, 21, rfl, hk4, by decide, by decide, fun y d5 y0 y1 hk5 => ⟨sz1000 (by decide), d5, _, _, rfl, hk5, by omega, by omega⟩⟩⟩
        rintro _ ⟨d4, x, y, rfl, hk4, hx, hy⟩
        clear stay
        subst hS
        refine lcL_map (f := mvD x y) (ds := ps.map dP) (by rw [List.length_map]; omega) (fun Φ z => by walk_at "vs"; exact z) rfl (fun d acc J hd hacc hJ => ?_) (fun r => ?_)
        · obtain ⟨q, hq, rfl⟩ := List.mem_map.mp hd
          have ed : dP q = .tup [.int q.1, .int q.2.1, .int q.2.2] := rfl
          rw [ed] at hJ ⊢
          unfold mvD at hJ
          unfold lcStep
          walk_at "vs"
          exact ⟨mulL (by omega) (by omega), mulL (by omega) (by omega), sz1000 (by decide), hacc, hJ⟩
        · rw [mvD_map]
          walk_at "vs"
          refine ⟨d4, _, _, _, rfl, hk4, fun e => hne (List.map_eq_nil_iff.mp e), by rw [List.length_map]; exact hl, fun q hq => ?_⟩
          obtain ⟨r, hr, rfl⟩ := List.mem_map.mp hq
          obtain ⟨h1, h2, h3, h4⟩ := hbw r hr
          have w12 : r.2.2.natAbs < 2 ^ 12 := by omega
          have xx : x.natAbs < 2 ^ 4 := by omega
          have yy : y.natAbs < 2 ^ 4 := by omega
          have m1 := mul_bd2 xx w12
          have m2 := mul_bd2 yy w12
          exact ⟨by show (r.1 + x * r.2.2).natAbs < _; omega, by show (r.2.1 + y * r.2.2).natAbs < _; omega, h3, by show r.2.2 < _; omega⟩
      · exact stay d3 hk3
    rintro _ ⟨d3, ps, e5, e6, rfl, hk3, hne, hl, hbs⟩
    clear hk2
    have hbq : ∀ q ∈ ps, Bq q := fun q hq => (hbs q hq).bq
    have hB : ∀ q ∈ ps, Bh q := fun q hq => (hbq q hq).bh
    have wp : ∀ q ∈ ps, PosW q := fun q hq => (hB q hq).w
    generalize hS : Sl.val (D.lst (ps.map dP)) = S
    refine ⟨fun en => ∃ (d4 : D) (qs : List P3), en = [Sc, .own p d4, Z, .val (.int i), S, e5, e6, .val (.lst (qs.map dP)), e8, e9, e10, e11, e12, e13, e14, e15, e16, .no] ∧ BagOk d4 ∧ qs.length ≤ 90 ∧ ∀ q ∈ qs, Bf q, ?_, ?_⟩
    · unfold sp__law_form
      walk_at "vs"
      exact ⟨p, d3, rfl, hk3, fun a qs d4 h1 h2 hk4 => ⟨d4, qs, rfl, hk4, h1, h2⟩⟩
    rintro _ ⟨d4, qs, rfl, hk4, hlq, hbf⟩
    clear hk3
    have qbq : ∀ q ∈ qs, Bq q := fun q hq => (hbf q hq).bq
    have qB : ∀ q ∈ qs, Bh q := fun q hq => (qbq q hq).bh
    have wq : ∀ q ∈ qs, PosW q := fun q hq => (qB q hq).w
    generalize hF : Sl.val (D.lst (qs.map dP)) = F
    refine ⟨fun en => ∃ a b, en = [Sc, .own p d4, Z, .val (.int i), S, e5, e6, F, .own a (.lst (ps.map dP)), .own b (.lst (qs.map dP)), e10, e11, e12, e13, e14, e15, e16, .no], ?_, ?_⟩
    · subst hS hF
      walk_at "vs"
      exact fun a b => ⟨a, b, rfl⟩
    rintro _ ⟨a, b, rfl⟩
    show tFrzD _ _ _ _
    walk_at "vs"
    rw [hS, hF]
    have okP : okD (.lst (ps.map dP)) = true := ok_lst (by omega)
    have okQ : okD (.lst (qs.map dP)) = true := ok_lst (by omega)
    -- what is told
    refine ⟨fun en => ∃ t : D, en = [Sc, .own p d4, Z, .val (.int i), S, e5, e6, F, S, F, .val t, e11, e12, e13, e14, e15, e16, .no] ∧ (Sided qs ∧ t = flatD ∨ ¬ Sided qs ∧ ∃ n d, t = dU (n, d) ∧ GaugeOk ps qs n d), ?_, ?_⟩
    · subst hS hF
      unfold sp__law_told
      walk_at "vs"
      exact ⟨ps, qs, rfl, hne, by omega, hbq, by omega, qbq, fun k a => ⟨_, rfl, .inl ⟨k, rfl⟩⟩, fun k n d g => ⟨_, rfl, .inr ⟨k, n, d, rfl, g⟩⟩⟩
    rintro _ ⟨t, rfl, ht⟩
    refine ⟨fun en => en = [Sc, .own p d4, Z, .val (.int i), S, e5, e6, F, S, F, .val t, e11, e12, e13, e14, e15, e16, .no], ?_, ?_⟩
    · subst hS hF
      unfold sp__law_like
      walk_at "vs"
      refine ⟨_, rfl, okP, dep_lst ps, ?_⟩
      try walk_at "vs"
      exact ⟨_, rfl, okQ, dep_lst qs⟩
    rintro _ rfl
    have done : ∀ (d : D) (f11 f12 f13 f14 f15 f16 : Sl), BagOk d → ∃ (d1 : D) (g3 g4 g5 g6 g7 g8 g9 g10 g11 g12 g13 g14 g15 g16 : Sl), ([Sc, .own p d, Z, .val (.int i), S, e5, e6, F, S, F, .val t, f11, f12, f13, f14, f15, f16, .no] : En) = [Sc, .own p d1, Z, g3, g4, g5, g6, g7, g8, g9, g10, g11, g12, g13, g14, g15, g16, .no] ∧ BagOk d1 := fun d f11 f12 f13 f14 f15 f16 hd =>
      ⟨d, _, _, _, _, _, _, _, _, _, _, _, _, _, _, rfl, hd⟩
    obtain ⟨sb, hsb⟩ := bool_of (Sided qs)
    obtain ⟨tb, htb⟩ := bool_of (Touch ps)
    have s0 : qs = [] → Sided qs := fun e => by rw [e]; exact ⟨(1, 0, 1), .inl (by decide), by simp⟩
    refine case_or (decide (qs = [])) sb (fun Φ z => ?_) (fun e0 Φ z => ?_) (fun hor => ?_) (fun e0 e1 => ?_)
    · subst hF
      walk_at "vn"
      refine ⟨sz1000 (by decide), fun _ => ⟨shD_pts qs, shD_pts [], ?_⟩⟩
      rw [eqD_nil]
      exact z
    · have qne : qs ≠ [] := by simpa using e0
      subst hF hZ
      unfold sp__law_where sp__law_hull
      walk_at "vs"
      refine ⟨qs, rfl, qne, by omega, qB, fun a L hL hLl => ⟨L, rfl, hullOf_ne hL, by omega, fun x hx => ?_, fun k k1 k2 => ?_⟩⟩
      · obtain ⟨q, hq, rfl⟩ := List.mem_map.mp (hullOf_mem hL x hx)
        exact (qB q hq).low
      · have e : decide (k < 1) = sb := bool_eq (P := Sided qs) (by
          rw [decide_eq_true_eq]
          have f := (hull_facts wq qne hL).2
          constructor
          · intro z
            exact Classical.byContradiction fun w => by have := k2.mpr (f.mpr w); omega
          · intro z
            rcases Int.lt_or_le k 1 with w | w
            · exact w
            · exact absurd z (f.mp (k2.mp (by omega)))) hsb
        rw [e]
        exact z
    · have sd : Sided qs := by
        rcases hor with e | e
        · exact s0 (by simpa using e)
        · exact hsb.mp e
      obtain rfl : t = flatD := by
        rcases ht with ⟨_, e⟩ | ⟨u, _⟩
        · exact e
        · exact absurd sd u
      refine case_not true (fun Φ z => ?_) (fun e => by cases e) (fun _ => ?_)
      · unfold sp__law_like
        walk_at "vs"
        exact ⟨sz1000 (by decide), fun _ => ⟨flatD, rfl, ok_flat, dep_flat, z⟩⟩
      · exact done d4 _ _ _ _ _ _ hk4
    · have qne : qs ≠ [] := by simpa using e0
      have un : ¬ Sided qs := fun z => by
        have := hsb.mpr z
        rw [e1] at this
        cases this
      obtain ⟨n, d, rfl, g⟩ : ∃ n d, t = dU (n, d) ∧ GaugeOk ps qs n d := by
        rcases ht with ⟨sd, _⟩ | ⟨_, g⟩
        · exact absurd sd un
        · exact g
      refine case_not true (fun Φ z => ?_) (fun e => by cases e) (fun _ => ?_)
      · unfold sp__law_number
        walk_at "vs"
        refine ⟨n, d, rfl, ?_, ?_, ?_, z⟩
        · rcases g with ⟨_, rfl, rfl⟩ | ⟨_, a, _⟩
          · decide
          · omega
        · rcases g with ⟨_, rfl, rfl⟩ | ⟨_, _, a, _⟩
          · decide
          · exact a
        · rcases g with ⟨_, rfl, rfl⟩ | ⟨_, _, _, _, _, a, _⟩
          · decide
          · exact a
      refine case_t tb (fun Φ z => ?_) (fun e => ?_) (fun e => ?_)
      · subst hS hZ
        unfold sp__law_where sp__law_hull
        walk_at "vs"
        refine ⟨ps, rfl, hne, by omega, hB, fun a L hL hLl => ⟨L, rfl, hullOf_ne hL, by omega, fun x hx => ?_, fun k k1 k2 => ?_⟩⟩
        · obtain ⟨q, hq, rfl⟩ := List.mem_map.mp (hullOf_mem hL x hx)
          exact (hB q hq).low
        · have e : decide (0 ≤ k) = tb := bool_eq (P := Touch ps) (by rw [decide_eq_true_eq, k1, (hull_facts wp hne hL).1]) htb
          rw [e]
          exact z
      · have tt := htb.mp e
        obtain ⟨rfl, rfl⟩ : n = 0 ∧ d = 1 := by
          rcases g with ⟨_, a, b⟩ | ⟨nt, _⟩
          · exact ⟨a, b⟩
          · exact absurd tt nt
        refine case_not true (fun Φ z => ?_) (fun e => by cases e) (fun _ => ?_)
        · unfold sp__law_like
          walk_at "vs"
          exact ⟨sz1000 (by decide), dU (0, 1), rfl, ok_dU _, dep_dU _, z⟩
        · exact done d4 _ _ _ _ _ _ hk4
      · have nt : ¬ Touch ps := fun z => by
          have := htb.mpr z
          rw [e] at this
          cases this
        have gg := g
        rcases g with ⟨tt, _⟩ | ⟨_, n0, d0, n9, d9, co, hs, ho⟩
        · exact absurd tt nt
        refine ⟨fun en => en = [Sc, .own p d4, Z, .val (.int i), S, e5, e6, F, S, F, .val (dU (n, d)), .val (.int n), .val (.int d), e13, e14, e15, e16, .no], ?_, ?_⟩
        · have eu : dU (n, d) = .tup [.int n, .int d] := rfl
          rw [eu]
          walk_at "vs"
        rintro _ rfl
        refine ⟨fun en => en = [Sc, .own p d4, Z, .val (.int i), S, e5, e6, F, S, F, .val (dU (n, d)), .val (.int n), .val (.int d), e13, e14, e15, e16, .no], ?_, ?_⟩
        · refine case_or false false (fun Φ z => ?_) (fun _ Φ z => ?_) (fun hor => by simp at hor) (fun _ _ => rfl)
          · walk_at "vs"
            rw [decide_eq_false (show ¬ n = 0 by omega)]
            exact z
          · subst hS hF hZ
            unfold sp__law_where sp__law_grown
            walk_at "vs"
            have gw := grow_w (n := n) wp wq d0
            have gne : growL ps qs n d ≠ [] := fun e => by
              obtain ⟨p1, hp1⟩ := List.exists_mem_of_ne_nil _ hne
              obtain ⟨q1, hq1⟩ := List.exists_mem_of_ne_nil _ qne
              have : gP n d p1 q1 ∈ growL ps qs n d := mem_grow.mpr ⟨p1, hp1, q1, hq1, rfl⟩
              rw [e] at this
              cases this
            refine ⟨ps, qs, n, d, rfl, hne, qne, hl, hlq, hbq, qbq, n9, d9, d0, fun a L hL hLl => ⟨L, rfl, hullOf_ne hL, by omega, fun x hx => ?_, fun k k1 k2 => ?_⟩⟩
            · obtain ⟨y, hy, rfl⟩ := List.mem_map.mp (hullOf_mem hL x hx)
              obtain ⟨p1, hp1, q1, hq1, rfl⟩ := mem_grow.mp hy
              exact (gP_bh n9 d9 d0 (hbq p1 hp1) (qbq q1 hq1)).low
            · have f := hull_facts gw gne hL
              have a1 : 0 ≤ k := k1.mpr (f.1.mpr ((touch_open gne).mpr ho))
              have a2 : ¬ 0 < k := fun z => f.2.mp (k2.mp z) hs
              have : k = 0 := by omega
              rw [decide_eq_true this]
              exact z
        rintro _ rfl
        refine ⟨fun en => ∃ (d5 : D) (a b : Int), en = [Sc, .own p d5, Z, .val (.int i), S, e5, e6, F, S, F, .val (dU (n, d)), .val (.int n), .val (.int d), .val (.int a), .val (.int b), e15, e16, .no] ∧ BagOk d5 ∧ 0 < a ∧ a ≤ 5 ∧ 0 < b ∧ b ≤ 5, ?_, ?_⟩
        · unfold sp__law_draw
          walk_at "vs"
          exact ⟨p, d4, 5, rfl, hk4, by decide, by decide, fun x d5 x0 x1 hk5 => ⟨p, d5, 4, rfl, hk5, by decide, by decide, fun y d6 y0 y1 hk6 => ⟨d6, _, _, rfl, hk6, by omega, by omega, by omega, by omega⟩⟩⟩
        rintro _ ⟨d5, a, b, rfl, hk5, a0, a5, b0, b5⟩
        have na0 := sg_P n0 a0
        have nb0 := sg_P n0 b0
        have da0 := sg_P d0 a0
        have db0 := sg_P d0 b0
        refine ⟨fun en => en = [Sc, .own p d5, Z, .val (.int i), S, e5, e6, F, S, F, .val (dU (n, d)), .val (.int n), .val (.int d), .val (.int a), .val (.int b), .val (.int (Int.gcd (n * a) (d * b) : Nat)), .val (.int (Int.gcd (n * b) (d * a) : Nat)), .no], ?_, ?_⟩
        · unfold sp__law_gcd
          walk_at "vs"
          exact ⟨mulR (by omega) (by omega), mulR (by omega) (by omega), _, _, rfl, mulR (by omega) (by omega), mulR (by omega) (by omega), _, _, rfl, rfl⟩
        rintro _ rfl
        have dvs : ∀ {X Y : Int}, 0 < Y → Y.natAbs < BB → ∀ x, CDivW x (Int.gcd X Y : Nat) := fun {X Y} y0 yb x => by
          have g0 : 0 < Int.gcd X Y := Int.gcd_pos_of_ne_zero_right _ (by omega)
          have g1 : (Int.gcd X Y : Int) ≤ Y := Int.le_of_dvd y0 (Int.gcd_dvd_right ..)
          exact divW (by omega) (by omega)
        have a3 : a.natAbs < 2 ^ 3 := by omega
        have b3 : b.natAbs < 2 ^ 3 := by omega
        have dbB : (d * b).natAbs < BB := upB (m := 900 + 3) (mul_bd2 d9 b3)
        have daB : (d * a).natAbs < BB := upB (m := 900 + 3) (mul_bd2 d9 a3)
        have wb : ∀ q ∈ qs, q.1.natAbs < 2 ^ 190 ∧ q.2.1.natAbs < 2 ^ 190 ∧ 0 < q.2.2 ∧ q.2.2 < 2 ^ 190 := fun q hq => (hbf q hq).bs
        refine ⟨fun en => en = [Sc, .own p d5, Z, .val (.int i), S, e5, e6, F, S, F, .val (dU (n, d)), .val (.int n), .val (.int d), .val (.int a), .val (.int b), .val (.int (Int.gcd (n * a) (d * b) : Nat)), .val (.int (Int.gcd (n * b) (d * a) : Nat)), .no], ?_, ?_⟩
        · refine case_not true (fun Φ z => ?_) (fun e => by cases e) (fun _ => rfl)
          have t1 := fun n' d' => times_one (n' := n') (d' := d') wp wq hne un nt a0 b0 gg
          have v1 := dvs (X := n * a) db0 dbB
          subst hS hF
          unfold sp__law_like sp_gauge sp__law_times
          generalize hG : (Int.gcd (n * a) (d * b) : Nat) = G at *
          walk_at "vs"
          refine ⟨ps, a, b, rfl, by omega, a0, a5, b0, b5, fun r => ⟨timesL ps a b, qs, _, rfl, .inr rfl, fun e => hne (List.map_eq_nil_iff.mp e), by unfold timesL; rw [List.length_map]; omega, times_bq hbs a0 a5 b0 b5, by omega, qbq, fun k => absurd k un, fun _ n' d' g' => ?_⟩⟩
          obtain ⟨q1, q2⟩ := t1 n' d' g'
          refine ⟨mulR (by omega) (by omega), v1 _, mulR (by omega) (by omega), v1 _, sz1000 (by decide), dU (n', d'), ?_, ok_dU _, dep_dU _, z⟩
          rw [q1, q2]
          rfl
        rintro _ rfl
        refine case_not true (fun Φ z => ?_) (fun e => by cases e) (fun _ => done d5 _ _ _ _ _ _ hk5)
        have t1 := fun n' d' => times_two (n' := n') (d' := d') wp wq hne un nt a0 b0 gg
        have v1 := dvs (X := n * b) da0 daB
        have un2 : ¬ Sided (timesL qs a b) := fun z => un ((sided_times a0).mp z)
        subst hS hF
        unfold sp__law_like swapS sp_gauge sp__law_times
        generalize hG : (Int.gcd (n * b) (d * a) : Nat) = G at *
        walk_at "vs"
        refine ⟨qs, a, b, rfl, by omega, a0, a5, b0, b5, fun r => ⟨_, _, rfl, ps, timesL qs a b, _, rfl, .inl rfl, hne, by omega, hbq, by unfold timesL; rw [List.length_map]; omega, times_bq wb a0 a5 b0 b5, fun k => absurd k un2, fun _ n' d' g' => ?_⟩⟩
        obtain ⟨q1, q2⟩ := t1 n' d' g'
        refine ⟨mulR (by omega) (by omega), v1 _, mulR (by omega) (by omega), v1 _, sz1000 (by decide), dU (n', d'), ?_, ok_dU _, dep_dU _, z⟩
        rw [q1, q2]
        rfl
  · rintro _ ⟨d1, e3, e4, e5, e6, e7, e8, e9, e10, e11, e12, e13, e14, e15, e16, rfl, hk1⟩
    walk_at "vs"
    subst hSc
    exact h
end VS

namespace VS
open PySem L2 PySem.Spec PyProof.Rows

def top (i : Nat) : Stmt := PySem.Challenge.pw_surelycrossed_k04_whole_gauge_from_both.main.body.getD i (.Pass ⟨0, 0, 0, 0⟩)
section
variable {P : Program} {w : World} {K : PySem.W.Frag} {mg : Str → Option Value} {base : Heap}

abbrev s_lowest : Stmt := top 5
abbrev N_lowest : List Str := (["top", "bottom", "common"] : List Str)
theorem sc_lowest : FnScope N_lowest ["top", "bottom"] (defScope s_lowest) := ⟨rfl, rfl, rfl, by decide +kernel, rfl, by decide +kernel, by decide +kernel⟩

theorem ok_lowest {f : Addr} {fd : FuncData} (F : Fun K "lowest" "lowest" s_lowest f fd)
    (m_gcd : mg "gcd" = some (.builtin "math.gcd")) : FnOk P w K mg base CX0 1 f fd ["top", "bottom"] (lSp K 2 sp_lowest) := by
  refine fn_vs F sc_lowest rfl (fun cdv A outer s H E hr => ?_)
  exact ⟨T_lowest, (dss_cut (ds_setV (i := 2) sc_lowest.nd rfl (Or.inl rfl) (de_gcd m_gcd (da_cons (dv 0) (da_cons (dv 1) da_nil))))
  (dss_one (ds_ret (de_tup (da_cons (de_fdiv (dv 0) (dv 2)) (da_cons (de_fdiv (dv 1) (dv 2)) da_nil)))))), fun args Φ hl h => rd_lowest h⟩
abbrev s_point_of : Stmt := top 6
abbrev N_point_of : List Str := (["x", "y", "w", "common"] : List Str)
theorem sc_point_of : FnScope N_point_of ["x", "y", "w"] (defScope s_point_of) := ⟨rfl, rfl, rfl, by decide +kernel, rfl, by decide +kernel, by decide +kernel⟩

theorem ok_point_of {f : Addr} {fd : FuncData} (F : Fun K "point_of" "point_of" s_point_of f fd)
    (m_gcd : mg "gcd" = some (.builtin "math.gcd")) : FnOk P w K mg base CX0 1 f fd ["x", "y", "w"] (lSp K 3 sp_point_of) := by
  refine fn_vs F sc_point_of rfl (fun cdv A outer s H E hr => ?_)
  exact ⟨T_point_of, (dss_cut (ds_setV (i := 3) sc_point_of.nd rfl (Or.inl rfl) (de_gcd3 m_gcd (da_cons (dv 0) (da_cons (dv 1) (da_cons (dv 2) da_nil)))))
  (dss_one (ds_ret (de_tup (da_cons (de_fdiv (dv 0) (dv 3)) (da_cons (de_fdiv (dv 1) (dv 3)) (da_cons (de_fdiv (dv 2) (dv 3)) da_nil))))))), fun args Φ hl h => rd_point_of h⟩
abbrev s_left_turn : Stmt := top 8
abbrev N_left_turn : List Str := (["p", "q", "r"] : List Str)
theorem sc_left_turn : FnScope N_left_turn ["p", "q", "r"] (defScope s_left_turn) := ⟨rfl, rfl, rfl, by decide +kernel, rfl, by decide +kernel, by decide +kernel⟩

theorem ok_left_turn {f : Addr} {fd : FuncData} (F : Fun K "left_turn" "left_turn" s_left_turn f fd)
     : FnOk P w K mg base CX0 1 f fd ["p", "q", "r"] (lSp K 3 sp_left_turn) := by
  refine fn_vs F sc_left_turn rfl (fun cdv A outer s H E hr => ?_)
  exact ⟨T_left_turn, (dss_one (ds_ret (de_addA (de_sub (de_mulA (de_item (dv 0) de_int) (de_sub (de_mulA (de_item (dv 1) de_int) (de_item (dv 2) de_int)) (de_mulA (de_item (dv 2) de_int) (de_item (dv 1) de_int)))) (de_mulA (de_item (dv 0) de_int) (de_sub (de_mulA (de_item (dv 1) de_int) (de_item (dv 2) de_int)) (de_mulA (de_item (dv 2) de_int) (de_item (dv 1) de_int))))) (de_mulA (de_item (dv 0) de_int) (de_sub (de_mulA (de_item (dv 1) de_int) (de_item (dv 2) de_int)) (de_mulA (de_item (dv 2) de_int) (de_item (dv 1) de_int))))))), fun args Φ hl h => rd_left_turn h⟩
abbrev s_is_before : Stmt := top 9
abbrev N_is_before : List Str := (["p", "q", "across"] : List Str)
theorem sc_is_before : FnScope N_is_before ["p", "q"] (defScope s_is_before) := ⟨rfl, rfl, rfl, by decide +kernel, rfl, by decide +kernel, by decide +kernel⟩

theorem ok_is_before {f : Addr} {fd : FuncData} (F : Fun K "is_before" "is_before" s_is_before f fd)
     : FnOk P w K mg base CX0 1 f fd ["p", "q"] (lSp K 2 sp_is_before) := by
  refine fn_vs F sc_is_before rfl (fun cdv A outer s H E hr => ?_)
  exact ⟨T_is_before, (dss_cut (ds_setV (i := 2) sc_is_before.nd rfl (Or.inl rfl) (de_sub (de_mulA (de_item (dv 0) de_int) (de_item (dv 1) de_int)) (de_mulA (de_item (dv 1) de_int) (de_item (dv 0) de_int))))
  (dss_cons (ds_if (dt_ne hr.units (dv 2) de_int) (dss_one (ds_ret (de_lt (dv 2) de_int))) dss_nil)
  (dss_one (ds_ret (de_lt (de_mulA (de_item (dv 0) de_int) (de_item (dv 1) de_int)) (de_mulA (de_item (dv 1) de_int) (de_item (dv 0) de_int))))))), fun args Φ hl h => rd_is_before h⟩
abbrev s_in_order : Stmt := top 10
abbrev N_in_order : List Str := (["points", "row", "p", "low", "high", "half"] : List Str)
theorem sc_in_order : FnScope N_in_order ["points"] (defScope s_in_order) := ⟨rfl, rfl, rfl, by decide +kernel, rfl, by decide +kernel, by decide +kernel⟩

theorem ok_in_order {f : Addr} {fd : FuncData} (F : Fun K "in_order" "in_order" s_in_order f fd)
    {f_is_before : Addr} {d_is_before : FuncData} (G_is_before : Cal P w K mg base CX0 1 2 sp_is_before "is_before" f_is_before d_is_before ["p", "q"])
    (m_len : mg "len" = none) : FnOk P w K mg base CX0 2 f fd ["points"] (lSp K 1 sp_in_order) := by
  refine fn_vs F sc_in_order rfl (fun cdv A outer s H E hr => ?_)
  exact ⟨T_in_order, (dss_cons (ds_set (i := 1) sc_in_order.nd rfl (Or.inl rfl) (de_lst da_nil))
  (dss_cut (ds_forL PassesOwn.never rfl (dv 0) (dg_name (i := 2) sc_in_order.nd rfl (Or.inl rfl)) (dss_cut (ds_setV (i := 3) sc_in_order.nd rfl (Or.inl rfl) de_int)
  (dss_cut (ds_setV (i := 4) sc_in_order.nd rfl (Or.inl rfl) (de_len m_len (da_cons (dv 1) da_nil)))
  (dss_cut (ds_while PassesOwn.never (dt_lt (dv 3) (dv 4)) (dss_cut (ds_setV (i := 5) sc_in_order.nd rfl (Or.inl rfl) (de_fdiv (de_addA (dv 3) (dv 4)) de_int))
  (dss_one (ds_if (dt_val (dc G_is_before hr (da_cons (de_item (dv 1) (dv 5)) (da_cons (dv 2) da_nil)))) (dss_one (ds_setV (i := 3) sc_in_order.nd rfl (Or.inl rfl) (de_addA (dv 5) de_int))) (dss_one (ds_setV (i := 4) sc_in_order.nd rfl (Or.inl rfl) (dv 5)))))))
  (dss_one (ds_if (dt_w (dw_or (dt_eq hr.units (dv 3) (de_len m_len (da_cons (dv 1) da_nil))) (dw_or1 (dt_ne hr.units (de_item (dv 1) (dv 3)) (dv 2))))) (dss_one (ds_expr (dm_insert (pv 1) (da_cons (dv 3) (da_cons (dv 2) da_nil))))) dss_nil))))))
  (dss_one (ds_ret (dv 1))))), fun args Φ hl h => rd_in_order h⟩
abbrev s_rim_along : Stmt := top 11
abbrev N_rim_along : List Str := (["row", "kept", "p"] : List Str)
theorem sc_rim_along : FnScope N_rim_along ["row"] (defScope s_rim_along) := ⟨rfl, rfl, rfl, by decide +kernel, rfl, by decide +kernel, by decide +kernel⟩

theorem ok_rim_along {f : Addr} {fd : FuncData} (F : Fun K "rim_along" "rim_along" s_rim_along f fd)
    {f_left_turn : Addr} {d_left_turn : FuncData} (G_left_turn : Cal P w K mg base CX0 1 3 sp_left_turn "left_turn" f_left_turn d_left_turn ["p", "q", "r"])
    (m_len : mg "len" = none) : FnOk P w K mg base CX0 2 f fd ["row"] (lSp K 1 sp_rim_along) := by
  refine fn_vs F sc_rim_along rfl (fun cdv A outer s H E hr => ?_)
  exact ⟨T_rim_along, (dss_cons (ds_set (i := 1) sc_rim_along.nd rfl (Or.inl rfl) (de_lst da_nil))
  (dss_cut (ds_forL PassesOwn.never rfl (dv 0) (dg_name (i := 2) sc_rim_along.nd rfl (Or.inl rfl)) (dss_cut (ds_while PassesOwn.never (dt_w (dw_and (dt_gt (de_len m_len (da_cons (dv 1) da_nil)) de_int) (dw_and1 (dt_le (dc G_left_turn hr (da_cons (de_item (dv 1) (de_neg de_int)) (da_cons (de_item (dv 1) (de_neg de_int)) (da_cons (dv 2) da_nil)))) de_int)))) (dss_one (ds_expr (dm_pop (pv 1)))))
  (dss_one (ds_expr (dm_append (pv 1) (da_cons (dv 2) da_nil))))))
  (dss_one (ds_ret (dv 1))))), fun args Φ hl h => rd_rim_along h⟩
abbrev s_hull_corners : Stmt := top 12
abbrev N_hull_corners : List Str := (["points", "row", "lower", "upper", "x", "y", "w"] : List Str)
theorem sc_hull_corners : FnScope N_hull_corners ["points"] (defScope s_hull_corners) := ⟨rfl, rfl, rfl, by decide +kernel, rfl, by decide +kernel, by decide +kernel⟩

theorem ok_hull_corners {f : Addr} {fd : FuncData} (F : Fun K "hull_corners" "hull_corners" s_hull_corners f fd)
    {f_rim_along : Addr} {d_rim_along : FuncData} (G_rim_along : Cal P w K mg base CX0 2 1 sp_rim_along "rim_along" f_rim_along d_rim_along ["row"])
    {f_in_order : Addr} {d_in_order : FuncData} (G_in_order : Cal P w K mg base CX0 2 1 sp_in_order "in_order" f_in_order d_in_order ["points"])
    {f_point_of : Addr} {d_point_of : FuncData} (G_point_of : Cal P w K mg base CX0 1 3 sp_point_of "point_of" f_point_of d_point_of ["x", "y", "w"])
    (m_len : mg "len" = none) : FnOk P w K mg base CX0 3 f fd ["points"] (lSp K 1 sp_hull_corners) := by
  refine fn_vs F sc_hull_corners rfl (fun cdv A outer s H E hr => ?_)
  exact ⟨T_hull_corners, (dss_cut (ds_set (i := 1) sc_hull_corners.nd rfl (Or.inl rfl) (dc G_in_order hr (da_cons (de_eit (de_lcL (own := [("x", 4), ("y", 5), ("w", 6)]) rfl sc_hull_corners.nd (dv 0) (blkOk_by (N := N_hull_corners) (sc := defScope s_hull_corners) (own := [("x", 4), ("y", 5), ("w", 6)]) (by decide +kernel)) (fun _ _ _ _ _ => (dg_tup rfl (dgs_cons (dg_name (i := 4) sc_hull_corners.nd rfl (Or.inl rfl)) (dgs_cons (dg_name (i := 5) sc_hull_corners.nd rfl (Or.inl rfl)) (dgs_cons (dg_name (i := 6) sc_hull_corners.nd rfl (Or.inl rfl)) dgs_nil))))) (fun _ _ _ _ _ => dts_nil) (fun _ _ _ _ _ => (dc G_point_of hr (da_cons (dv 4) (da_cons (dv 5) (da_cons (dv 6) da_nil)))))) (de_lcT (own := [("x", 4), ("y", 5), ("w", 6)]) rfl sc_hull_corners.nd (dv 0) (blkOk_by (N := N_hull_corners) (sc := defScope s_hull_corners) (own := [("x", 4), ("y", 5), ("w", 6)]) (by decide +kernel)) (fun _ _ _ _ _ => (dg_tup rfl (dgs_cons (dg_name (i := 4) sc_hull_corners.nd rfl (Or.inl rfl)) (dgs_cons (dg_name (i := 5) sc_hull_corners.nd rfl (Or.inl rfl)) (dgs_cons (dg_name (i := 6) sc_hull_corners.nd rfl (Or.inl rfl)) dgs_nil))))) (fun _ _ _ _ _ => dts_nil) (fun _ _ _ _ _ => (dc G_point_of hr (da_cons (dv 4) (da_cons (dv 5) (da_cons (dv 6) da_nil))))))) da_nil)))
  (dss_cut (ds_if (dt_lt (de_len m_len (da_cons (dv 1) da_nil)) de_int) (dss_one (ds_ret (dv 1))) dss_nil)
  (dss_frz 1 (dss_cut (ds_setV (i := 2) sc_hull_corners.nd rfl (Or.inl rfl) (dc G_rim_along hr (da_cons (dv 1) da_nil)))
  (dss_cut (ds_setV (i := 3) sc_hull_corners.nd rfl (Or.inl rfl) (dc G_rim_along hr (da_cons (de_rev (dv 1)) da_nil)))
  (dss_one (ds_ret (de_addA (de_slL (dv 2) do_none (do_some (de_neg de_int))) (de_slL (dv 3) do_none (do_some (de_neg de_int))))))))))), fun args Φ hl h => rd_hull_corners h⟩
abbrev s_step_along : Stmt := top 13
abbrev N_step_along : List Str := (["p", "q"] : List Str)
theorem sc_step_along : FnScope N_step_along ["p", "q"] (defScope s_step_along) := ⟨rfl, rfl, rfl, by decide +kernel, rfl, by decide +kernel, by decide +kernel⟩

theorem ok_step_along {f : Addr} {fd : FuncData} (F : Fun K "step_along" "step_along" s_step_along f fd)
     : FnOk P w K mg base CX0 1 f fd ["p", "q"] (lSp K 2 sp_step_along) := by
  refine fn_vs F sc_step_along rfl (fun cdv A outer s H E hr => ?_)
  exact ⟨T_step_along, (dss_one (ds_ret (de_tup (da_cons (de_sub (de_mulA (de_item (dv 1) de_int) (de_item (dv 0) de_int)) (de_mulA (de_item (dv 0) de_int) (de_item (dv 1) de_int))) (da_cons (de_sub (de_mulA (de_item (dv 1) de_int) (de_item (dv 0) de_int)) (de_mulA (de_item (dv 0) de_int) (de_item (dv 1) de_int))) da_nil))))), fun args Φ hl h => rd_step_along h⟩
abbrev s_directions : Stmt := top 14
abbrev N_directions : List Str := (["corners", "ahead", "p", "q"] : List Str)
theorem sc_directions : FnScope N_directions ["corners"] (defScope s_directions) := ⟨rfl, rfl, rfl, by decide +kernel, rfl, by decide +kernel, by decide +kernel⟩

theorem ok_directions {f : Addr} {fd : FuncData} (F : Fun K "directions" "directions" s_directions f fd)
    {f_step_along : Addr} {d_step_along : FuncData} (G_step_along : Cal P w K mg base CX0 1 2 sp_step_along "step_along" f_step_along d_step_along ["p", "q"])
    (m_len : mg "len" = none)
    (m_zip : mg "zip" = none) : FnOk P w K mg base CX0 2 f fd ["corners"] (lSp K 1 sp_directions) := by
  refine fn_vs F sc_directions rfl (fun cdv A outer s H E hr => ?_)
  exact ⟨T_directions, (dss_cut (ds_if (dt_eq hr.units (de_len m_len (da_cons (dv 0) da_nil)) de_int) (dss_one (ds_ret (de_lst da_nil))) dss_nil)
  (dss_cut (ds_setV (i := 1) sc_directions.nd rfl (Or.inl rfl) (de_addA (de_slL (dv 0) (do_some de_int) do_none) (de_slL (dv 0) do_none (do_some de_int))))
  (dss_one (ds_ret (de_lcZ (own := [("p", 2), ("q", 3)]) m_zip rfl sc_directions.nd (da_cons (dv 0) (da_cons (dv 1) da_nil)) (blkOk_by (N := N_directions) (sc := defScope s_directions) (own := [("p", 2), ("q", 3)]) (by decide +kernel)) (fun _ _ _ _ _ => (dg_tup rfl (dgs_cons (dg_name (i := 2) sc_directions.nd rfl (Or.inl rfl)) (dgs_cons (dg_name (i := 3) sc_directions.nd rfl (Or.inl rfl)) dgs_nil)))) (fun _ _ _ _ _ => dts_nil) (fun _ _ _ _ _ => (dc G_step_along hr (da_cons (dv 2) (da_cons (dv 3) da_nil))))))))), fun args Φ hl h => rd_directions h⟩
abbrev s_cross : Stmt := top 16
abbrev N_cross : List Str := (["p", "q"] : List Str)
theorem sc_cross : FnScope N_cross ["p", "q"] (defScope s_cross) := ⟨rfl, rfl, rfl, by decide +kernel, rfl, by decide +kernel, by decide +kernel⟩

theorem ok_cross {f : Addr} {fd : FuncData} (F : Fun K "cross" "cross" s_cross f fd)
     : FnOk P w K mg base CX0 1 f fd ["p", "q"] (lSp K 2 sp_cross) := by
  refine fn_vs F sc_cross rfl (fun cdv A outer s H E hr => ?_)
  exact ⟨T_cross, (dss_one (ds_ret (de_sub (de_mulA (de_item (dv 0) de_int) (de_item (dv 1) de_int)) (de_mulA (de_item (dv 0) de_int) (de_item (dv 1) de_int))))), fun args Φ hl h => rd_cross h⟩
abbrev s_rightmost : Stmt := top 17
abbrev N_rightmost : List Str := (["points", "first", "p"] : List Str)
theorem sc_rightmost : FnScope N_rightmost ["points"] (defScope s_rightmost) := ⟨rfl, rfl, rfl, by decide +kernel, rfl, by decide +kernel, by decide +kernel⟩

theorem ok_rightmost {f : Addr} {fd : FuncData} (F : Fun K "rightmost" "rightmost" s_rightmost f fd)
    {f_cross : Addr} {d_cross : FuncData} (G_cross : Cal P w K mg base CX0 1 2 sp_cross "cross" f_cross d_cross ["p", "q"])
    (m_list : mg "list" = none) : FnOk P w K mg base CX0 2 f fd ["points"] (lSp K 1 sp_rightmost) := by
  refine fn_vs F sc_rightmost rfl (fun cdv A outer s H E hr => ?_)
  exact ⟨T_rightmost, (dss_cons (ds_setV (i := 1) sc_rightmost.nd rfl (Or.inl rfl) de_non)
  (dss_cut (ds_forL PassesOwn.never rfl (de_addA (de_listc m_list (da_cons (dv 0) da_nil)) (de_listc m_list (da_cons (dv 0) da_nil))) (dg_name (i := 2) sc_rightmost.nd rfl (Or.inl rfl)) (dss_one (ds_if (dt_isN (dv 1) de_non) (dss_one (ds_if (dt_w (dw_or (dt_ne hr.units (de_item (dv 2) de_int) de_int) (dw_or1 (dt_ne hr.units (de_item (dv 2) de_int) de_int)))) (dss_one (ds_setV (i := 1) sc_rightmost.nd rfl (Or.inl rfl) (dv 2))) dss_nil)) (dss_one (ds_if (dt_lt (dc G_cross hr (da_cons (dv 1) (da_cons (dv 2) da_nil))) de_int) (dss_one (ds_setV (i := 1) sc_rightmost.nd rfl (Or.inl rfl) (dv 2))) dss_nil)))))
  (dss_one (ds_ret (dv 1))))), fun args Φ hl h => rd_rightmost h⟩
abbrev s_side_found : Stmt := top 18
abbrev N_side_found : List Str := (["points", "first", "p"] : List Str)
theorem sc_side_found : FnScope N_side_found ["points"] (defScope s_side_found) := ⟨rfl, rfl, rfl, by decide +kernel, rfl, by decide +kernel, by decide +kernel⟩

theorem ok_side_found {f : Addr} {fd : FuncData} (F : Fun K "side_found" "side_found" s_side_found f fd)
    {f_cross : Addr} {d_cross : FuncData} (G_cross : Cal P w K mg base CX0 1 2 sp_cross "cross" f_cross d_cross ["p", "q"])
    {f_rightmost : Addr} {d_rightmost : FuncData} (G_rightmost : Cal P w K mg base CX0 2 1 sp_rightmost "rightmost" f_rightmost d_rightmost ["points"]) : FnOk P w K mg base CX0 3 f fd ["points"] (lSp K 1 sp_side_found) := by
  refine fn_vs F sc_side_found rfl (fun cdv A outer s H E hr => ?_)
  exact ⟨T_side_found, (dss_cut (ds_setV (i := 1) sc_side_found.nd rfl (Or.inl rfl) (dc G_rightmost hr (da_cons (dv 0) da_nil)))
  (dss_cut (ds_if (dt_isN (dv 1) de_non) (dss_one (ds_ret (de_tup (da_cons de_int (da_cons de_int da_nil))))) dss_nil)
  (dss_cut (ds_eit (ds_forL PassesOwn.never rfl (dv 0) (dg_name (i := 2) sc_side_found.nd rfl (Or.inl rfl)) (dss_one (ds_if (dt_lt (dc G_cross hr (da_cons (dv 1) (da_cons (dv 2) da_nil))) de_int) (dss_one (ds_ret de_non)) dss_nil))) (ds_forT PassesOwn.never rfl (dv 0) (dg_name (i := 2) sc_side_found.nd rfl (Or.inl rfl)) (dss_one (ds_if (dt_lt (dc G_cross hr (da_cons (dv 1) (da_cons (dv 2) da_nil))) de_int) (dss_one (ds_ret de_non)) dss_nil))))
  (dss_one (ds_ret (de_tup (da_cons (de_neg (de_item (dv 1) de_int)) (da_cons (de_item (dv 1) de_int) da_nil)))))))), fun args Φ hl h => rd_side_found h⟩
abbrev s_touches_zero : Stmt := top 19
abbrev N_touches_zero : List Str := (["points", "first", "p", "turn"] : List Str)
theorem sc_touches_zero : FnScope N_touches_zero ["points"] (defScope s_touches_zero) := ⟨rfl, rfl, rfl, by decide +kernel, rfl, by decide +kernel, by decide +kernel⟩

theorem ok_touches_zero {f : Addr} {fd : FuncData} (F : Fun K "touches_zero" "touches_zero" s_touches_zero f fd)
    {f_cross : Addr} {d_cross : FuncData} (G_cross : Cal P w K mg base CX0 1 2 sp_cross "cross" f_cross d_cross ["p", "q"])
    {f_rightmost : Addr} {d_rightmost : FuncData} (G_rightmost : Cal P w K mg base CX0 2 1 sp_rightmost "rightmost" f_rightmost d_rightmost ["points"]) : FnOk P w K mg base CX0 3 f fd ["points"] (lSp K 1 sp_touches_zero) := by
  refine fn_vs F sc_touches_zero rfl (fun cdv A outer s H E hr => ?_)
  exact ⟨T_touches_zero, (dss_cut (ds_setV (i := 1) sc_touches_zero.nd rfl (Or.inl rfl) (dc G_rightmost hr (da_cons (dv 0) da_nil)))
  (dss_cut (ds_if (dt_isN (dv 1) de_non) (dss_one (ds_ret de_bl)) dss_nil)
  (dss_cut (ds_eit (ds_forL PassesOwn.never rfl (dv 0) (dg_name (i := 2) sc_touches_zero.nd rfl (Or.inl rfl)) (dss_cut (ds_setV (i := 3) sc_touches_zero.nd rfl (Or.inl rfl) (dc G_cross hr (da_cons (dv 1) (da_cons (dv 2) da_nil))))
  (dss_cut (ds_if (dt_lt (dv 3) de_int) (dss_one (ds_ret de_bl)) dss_nil)
  (dss_one (ds_if (dt_w (dw_and (dt_eq hr.units (dv 3) de_int) (dw_and1 (dt_le (de_addA (de_mulA (de_item (dv 1) de_int) (de_item (dv 2) de_int)) (de_mulA (de_item (dv 1) de_int) (de_item (dv 2) de_int))) de_int)))) (dss_one (ds_ret de_bl)) dss_nil))))) (ds_forT PassesOwn.never rfl (dv 0) (dg_name (i := 2) sc_touches_zero.nd rfl (Or.inl rfl)) (dss_cut (ds_setV (i := 3) sc_touches_zero.nd rfl (Or.inl rfl) (dc G_cross hr (da_cons (dv 1) (da_cons (dv 2) da_nil))))
  (dss_cut (ds_if (dt_lt (dv 3) de_int) (dss_one (ds_ret de_bl)) dss_nil)
  (dss_one (ds_if (dt_w (dw_and (dt_eq hr.units (dv 3) de_int) (dw_and1 (dt_le (de_addA (de_mulA (de_item (dv 1) de_int) (de_item (dv 2) de_int)) (de_mulA (de_item (dv 1) de_int) (de_item (dv 2) de_int))) de_int)))) (dss_one (ds_ret de_bl)) dss_nil))))))
  (dss_one (ds_ret de_bl))))), fun args Φ hl h => rd_touches_zero h⟩
abbrev s_normals : Stmt := top 21
abbrev N_normals : List Str := (["corners", "right", "up"] : List Str)
theorem sc_normals : FnScope N_normals ["corners"] (defScope s_normals) := ⟨rfl, rfl, rfl, by decide +kernel, rfl, by decide +kernel, by decide +kernel⟩

theorem ok_normals {f : Addr} {fd : FuncData} (F : Fun K "normals" "normals" s_normals f fd)
    {f_directions : Addr} {d_directions : FuncData} (G_directions : Cal P w K mg base CX0 2 1 sp_directions "directions" f_directions d_directions ["corners"]) : FnOk P w K mg base CX0 3 f fd ["corners"] (lSp K 1 sp_normals) := by
  refine fn_vs F sc_normals rfl (fun cdv A outer s H E hr => ?_)
  exact ⟨T_normals, (dss_one (ds_ret (de_lcL (own := [("right", 1), ("up", 2)]) rfl sc_normals.nd (dc G_directions hr (da_cons (dv 0) da_nil)) (blkOk_by (N := N_normals) (sc := defScope s_normals) (own := [("right", 1), ("up", 2)]) (by decide +kernel)) (fun _ _ _ _ _ => (dg_tup rfl (dgs_cons (dg_name (i := 1) sc_normals.nd rfl (Or.inl rfl)) (dgs_cons (dg_name (i := 2) sc_normals.nd rfl (Or.inl rfl)) dgs_nil)))) (fun _ _ _ _ _ => dts_nil) (fun _ _ _ _ _ => (de_tup (da_cons (de_neg (dv 2)) (da_cons (dv 1) da_nil))))))), fun args Φ hl h => rd_normals h⟩
abbrev s_least_value : Stmt := top 22
abbrev N_least_value : List Str := (["normal", "points", "low", "x", "y", "w", "value"] : List Str)
theorem sc_least_value : FnScope N_least_value ["normal", "points"] (defScope s_least_value) := ⟨rfl, rfl, rfl, by decide +kernel, rfl, by decide +kernel, by decide +kernel⟩

theorem ok_least_value {f : Addr} {fd : FuncData} (F : Fun K "least_value" "least_value" s_least_value f fd)
     : FnOk P w K mg base CX0 1 f fd ["normal", "points"] (lSp K 2 sp_least_value) := by
  refine fn_vs F sc_least_value rfl (fun cdv A outer s H E hr => ?_)
  exact ⟨T_least_value, (dss_cons (ds_setV (i := 2) sc_least_value.nd rfl (Or.inl rfl) de_non)
  (dss_cut (ds_forL PassesOwn.never rfl (dv 1) (dg_tup rfl (dgs_cons (dg_name (i := 3) sc_least_value.nd rfl (Or.inl rfl)) (dgs_cons (dg_name (i := 4) sc_least_value.nd rfl (Or.inl rfl)) (dgs_cons (dg_name (i := 5) sc_least_value.nd rfl (Or.inl rfl)) dgs_nil)))) (dss_cut (ds_setV (i := 6) sc_least_value.nd rfl (Or.inl rfl) (de_addA (de_mulA (de_item (dv 0) de_int) (dv 3)) (de_mulA (de_item (dv 0) de_int) (dv 4))))
  (dss_one (ds_if (dt_w (dw_or (dt_isN (dv 2) de_non) (dw_or1 (dt_lt (de_mulA (dv 6) (de_item (dv 2) de_int)) (de_mulA (de_item (dv 2) de_int) (dv 5)))))) (dss_one (ds_setV (i := 2) sc_least_value.nd rfl (Or.inl rfl) (de_tup (da_cons (dv 6) (da_cons (dv 5) da_nil))))) dss_nil))))
  (dss_one (ds_ret (dv 2))))), fun args Φ hl h => rd_least_value h⟩
abbrev s_gauge_of : Stmt := top 23
abbrev N_gauge_of : List Str := (["points", "shape", "rim", "most", "normal", "near", "far", "top", "bottom"] : List Str)
theorem sc_gauge_of : FnScope N_gauge_of ["points", "shape"] (defScope s_gauge_of) := ⟨rfl, rfl, rfl, by decide +kernel, rfl, by decide +kernel, by decide +kernel⟩

theorem ok_gauge_of {f : Addr} {fd : FuncData} (F : Fun K "gauge_of" "gauge_of" s_gauge_of f fd)
    {f_lowest : Addr} {d_lowest : FuncData} (G_lowest : Cal P w K mg base CX0 1 2 sp_lowest "lowest" f_lowest d_lowest ["top", "bottom"])
    {f_least_value : Addr} {d_least_value : FuncData} (G_least_value : Cal P w K mg base CX0 1 2 sp_least_value "least_value" f_least_value d_least_value ["normal", "points"])
    {f_normals : Addr} {d_normals : FuncData} (G_normals : Cal P w K mg base CX0 3 1 sp_normals "normals" f_normals d_normals ["corners"])
    {f_touches_zero : Addr} {d_touches_zero : FuncData} (G_touches_zero : Cal P w K mg base CX0 3 1 sp_touches_zero "touches_zero" f_touches_zero d_touches_zero ["points"])
    {f_hull_corners : Addr} {d_hull_corners : FuncData} (G_hull_corners : Cal P w K mg base CX0 3 1 sp_hull_corners "hull_corners" f_hull_corners d_hull_corners ["points"]) : FnOk P w K mg base CX0 4 f fd ["points", "shape"] (lSp K 2 sp_gauge_of) := by
  refine fn_vs F sc_gauge_of rfl (fun cdv A outer s H E hr => ?_)
  exact ⟨T_gauge_of, (dss_cut (ds_setV (i := 2) sc_gauge_of.nd rfl (Or.inl rfl) (dc G_hull_corners hr (da_cons (dv 0) da_nil)))
  (dss_cons (ds_setV (i := 3) sc_gauge_of.nd rfl (Or.inl rfl) (de_tup (da_cons de_int (da_cons de_int da_nil))))
  (dss_cut (ds_if (dt_val (dc G_touches_zero hr (da_cons (dv 2) da_nil))) (dss_one (ds_ret (dv 3))) dss_nil)
  (dss_cut (ds_forL PassesOwn.never rfl (de_addA (dc G_normals hr (da_cons (dv 2) da_nil)) (dc G_normals hr (da_cons (dv 1) da_nil))) (dg_name (i := 4) sc_gauge_of.nd rfl (Or.inl rfl)) (dss_cut (ds_setV (i := 5) sc_gauge_of.nd rfl (Or.inl rfl) (dc G_least_value hr (da_cons (dv 4) (da_cons (dv 2) da_nil))))
  (dss_cut (ds_setV (i := 6) sc_gauge_of.nd rfl (Or.inl rfl) (dc G_least_value hr (da_cons (dv 4) (da_cons (dv 1) da_nil))))
  (dss_cut (ds_setV (i := 7) sc_gauge_of.nd rfl (Or.inl rfl) (de_mulA (de_item (dv 5) de_int) (de_item (dv 6) de_int)))
  (dss_cut (ds_setV (i := 8) sc_gauge_of.nd rfl (Or.inl rfl) (de_mulA (de_neg (de_item (dv 6) de_int)) (de_item (dv 5) de_int)))
  (dss_one (ds_if (dt_gt (de_mulA (dv 7) (de_item (dv 3) de_int)) (de_mulA (de_item (dv 3) de_int) (dv 8))) (dss_one (ds_setV (i := 3) sc_gauge_of.nd rfl (Or.inl rfl) (de_tup (da_cons (dv 7) (da_cons (dv 8) da_nil))))) dss_nil)))))))
  (dss_one (ds_ret (dc G_lowest hr (da_cons (de_item (dv 3) de_int) (da_cons (de_item (dv 3) de_int) da_nil))))))))), fun args Φ hl h => rd_gauge_of h⟩
abbrev s_gauge : Stmt := top 25
abbrev N_gauge : List Str := (["points", "shape"] : List Str)
theorem sc_gauge : FnScope N_gauge ["points", "shape"] (defScope s_gauge) := ⟨rfl, rfl, rfl, by decide +kernel, rfl, by decide +kernel, by decide +kernel⟩

theorem ok_gauge {f : Addr} {fd : FuncData} (F : Fun K "gauge" "gauge" s_gauge f fd)
    {C fI : Addr} (X_Flat : PySem.FlatX.FlatTxt K mg C fI)
    {f_gauge_of : Addr} {d_gauge_of : FuncData} (G_gauge_of : Cal P w K mg base CX0 4 2 sp_gauge_of "gauge_of" f_gauge_of d_gauge_of ["points", "shape"])
    {f_hull_corners : Addr} {d_hull_corners : FuncData} (G_hull_corners : Cal P w K mg base CX0 3 1 sp_hull_corners "hull_corners" f_hull_corners d_hull_corners ["points"])
    {f_side_found : Addr} {d_side_found : FuncData} (G_side_found : Cal P w K mg base CX0 3 1 sp_side_found "side_found" f_side_found d_side_found ["points"]) : FnOk P w K mg base (L2.CX P w) 5 f fd ["points", "shape"] (lSp K 2 (sp_gauge C)) := by
  refine fn_vsX F sc_gauge rfl (fun cdv A outer s H E hr => ?_)
  have tk := takes_of (X := cxOf (L2.CX P w) P w K mg base N_gauge "gauge" (defScope s_gauge) f cdv A outer s H E) rfl rfl rfl rfl
  exact ⟨T_gauge C, (dss_cut (ds_if (dt_notN (dc G_side_found hr (da_cons (dv 1) da_nil)) de_non) (dss_one (ds_raiseFlat rfl X_Flat hr tk (da_cons de_str da_nil))) dss_nil)
  (dss_one (ds_ret (dc G_gauge_of hr (da_cons (dv 0) (da_cons (dc G_hull_corners hr (da_cons (dv 1) da_nil)) da_nil)))))), fun args Φ Ψ hl h => rd_gauge h⟩
abbrev s__law_bag : Stmt := top 27
abbrev N__law_bag : List Str := (["script", "seed", "item"] : List Str)
theorem sc__law_bag : FnScope N__law_bag ["script"] (defScope s__law_bag) := ⟨rfl, rfl, rfl, by decide +kernel, rfl, by decide +kernel, by decide +kernel⟩

theorem ok__law_bag {f : Addr} {fd : FuncData} (F : Fun K "_law_bag" "_law_bag" s__law_bag f fd)
    (m_int : mg "int" = none)
    (m_list : mg "list" = none) : FnOk P w K mg base CX0 1 f fd ["script"] (lSp K 1 sp__law_bag) := by
  refine fn_vs F sc__law_bag rfl (fun cdv A outer s H E hr => ?_)
  exact ⟨T__law_bag, (dss_cons (ds_setV (i := 1) sc__law_bag.nd rfl (Or.inl rfl) de_int)
  (dss_cut (ds_forL PassesOwn.never rfl (de_slL (dv 0) do_none (do_some de_int)) (dg_name (i := 2) sc__law_bag.nd rfl (Or.inl rfl)) (dss_one (ds_setV (i := 1) sc__law_bag.nd rfl (Or.inl rfl) (de_mod (de_intc m_int (da_cons (de_addA (de_addA (de_mulA (dv 1) de_int) (de_mod (de_intc m_int (da_cons (dv 2) da_nil)) de_int)) de_int) da_nil)) de_int))))
  (dss_one (ds_ret (de_lst (da_cons (de_listc m_list (da_cons (de_slL (dv 0) do_none (do_some de_int)) da_nil)) (da_cons de_int (da_cons de_int (da_cons (dv 1) (da_cons de_int da_nil)))))))))), fun args Φ hl h => rd__law_bag h⟩
abbrev s__law_draw : Stmt := top 28
abbrev N__law_draw : List Str := (["bag", "limit", "item", "digit"] : List Str)
theorem sc__law_draw : FnScope N__law_draw ["bag", "limit"] (defScope s__law_draw) := ⟨rfl, rfl, rfl, by decide +kernel, rfl, by decide +kernel, by decide +kernel⟩

theorem ok__law_draw {f : Addr} {fd : FuncData} (F : Fun K "_law_draw" "_law_draw" s__law_draw f fd)
    (m_int : mg "int" = none)
    (m_len : mg "len" = none) : FnOk P w K mg base CX0 1 f fd ["bag", "limit"] (lSp K 2 sp__law_draw) := by
  refine fn_vs F sc__law_draw rfl (fun cdv A outer s H E hr => ?_)
  exact ⟨T__law_draw, (dss_cons (ds_sto (de_addA (de_item (dv 0) de_int) de_int) (pv 0) de_int)
  (dss_cons (ds_if (dt_w (dw_and (dt_eq hr.units (de_item (dv 0) de_int) de_int) (dw_and1 (dt_lt (de_item (dv 0) de_int) (de_len m_len (da_cons (de_item (dv 0) de_int) da_nil)))))) (dss_cons (ds_setV (i := 2) sc__law_draw.nd rfl (Or.inl rfl) (de_item (de_item (dv 0) de_int) (de_item (dv 0) de_int)))
  (dss_cons (ds_sto (de_addA (de_item (dv 0) de_int) de_int) (pv 0) de_int)
  (dss_one (ds_if (dt_ge (dv 2) (de_pow de_int de_int)) (dss_one (ds_sto (dv 2) (pv 0) de_int)) (dss_one (ds_sto (de_mod (de_intc m_int (da_cons (de_addA (de_addA (de_mulA (de_item (dv 0) de_int) de_int) (de_mulA (de_mod (de_intc m_int (da_cons (dv 2) da_nil)) de_int) de_int)) de_int) da_nil)) de_int) (pv 0) de_int)))))) dss_nil)
  (dss_cons (ds_if (dt_gt (de_item (dv 0) de_int) de_int) (dss_cons (ds_setV (i := 3) sc__law_draw.nd rfl (Or.inl rfl) (de_mod (de_intc m_int (da_cons (de_item (dv 0) de_int) da_nil)) (dv 1)))
  (dss_cons (ds_sto (de_fdiv (de_item (dv 0) de_int) (dv 1)) (pv 0) de_int)
  (dss_one (ds_ret (dv 3))))) dss_nil)
  (dss_cons (ds_sto (de_mod (de_intc m_int (da_cons (de_addA (de_addA (de_pow (de_item (dv 0) de_int) de_int) (de_mulA (de_item (dv 0) de_int) de_int)) de_int) da_nil)) de_int) (pv 0) de_int)
  (dss_one (ds_ret (de_mod (de_intc m_int (da_cons (de_addA (de_fdiv (de_item (dv 0) de_int) de_int) (de_mulA (de_mod (de_intc m_int (da_cons (de_item (dv 0) de_int) da_nil)) de_int) de_int)) da_nil)) (dv 1)))))))), fun args Φ hl h => rd__law_draw h⟩
abbrev s__law_of : Stmt := top 29
abbrev N__law_of : List Str := (["bag", "things"] : List Str)
theorem sc__law_of : FnScope N__law_of ["bag", "things"] (defScope s__law_of) := ⟨rfl, rfl, rfl, by decide +kernel, rfl, by decide +kernel, by decide +kernel⟩

theorem ok__law_of {f : Addr} {fd : FuncData} (F : Fun K "_law_of" "_law_of" s__law_of f fd)
    {f__law_draw : Addr} {d__law_draw : FuncData} (G__law_draw : Cal P w K mg base CX0 1 2 sp__law_draw "_law_draw" f__law_draw d__law_draw ["bag", "limit"])
    (m_len : mg "len" = none) : FnOk P w K mg base CX0 2 f fd ["bag", "things"] (lSp K 2 sp__law_of) := by
  refine fn_vs F sc__law_of rfl (fun cdv A outer s H E hr => ?_)
  exact ⟨T__law_of, (dss_one (ds_ret (de_item (dv 1) (dc G__law_draw hr (da_cons (dv 0) (da_cons (de_len m_len (da_cons (dv 1) da_nil)) da_nil)))))), fun args Φ hl h => rd__law_of h⟩
abbrev s__law_shuffled : Stmt := top 30
abbrev N__law_shuffled : List Str := (["bag", "things", "left", "out", "k"] : List Str)
theorem sc__law_shuffled : FnScope N__law_shuffled ["bag", "things"] (defScope s__law_shuffled) := ⟨rfl, rfl, rfl, by decide +kernel, rfl, by decide +kernel, by decide +kernel⟩

theorem ok__law_shuffled {f : Addr} {fd : FuncData} (F : Fun K "_law_shuffled" "_law_shuffled" s__law_shuffled f fd)
    {f__law_draw : Addr} {d__law_draw : FuncData} (G__law_draw : Cal P w K mg base CX0 1 2 sp__law_draw "_law_draw" f__law_draw d__law_draw ["bag", "limit"])
    (m_len : mg "len" = none)
    (m_list : mg "list" = none)
    (m_range : mg "range" = none) : FnOk P w K mg base CX0 2 f fd ["bag", "things"] (lSp K 2 sp__law_shuffled) := by
  refine fn_vs F sc__law_shuffled rfl (fun cdv A outer s H E hr => ?_)
  exact ⟨T__law_shuffled, (dss_cut (ds_par (i := 2) (j := 3) rfl sc__law_shuffled.nd rfl rfl (by decide) rfl rfl (da_cons (de_listc m_list (da_cons (dv 1) da_nil)) (da_cons (de_lst da_nil) da_nil)))
  (dss_cut (ds_forR1 m_range PassesOwn.never rfl (da_cons (de_len m_len (da_cons (dv 1) da_nil)) da_nil) (dg_name (i := 4) sc__law_shuffled.nd rfl (Or.inl rfl)) (dss_one (ds_expr (dm_append (pv 3) (da_cons (dm_popAt (pv 2) (da_cons (dc G__law_draw hr (da_cons (dv 0) (da_cons (de_len m_len (da_cons (dv 2) da_nil)) da_nil))) da_nil)) da_nil)))))
  (dss_one (ds_ret (dv 3))))), fun args Φ hl h => rd__law_shuffled h⟩
abbrev s__law_like : Stmt := top 31
abbrev N__law_like : List Str := (["told", "due", "a", "b"] : List Str)
theorem sc__law_like : FnScope N__law_like ["told", "due"] (defScope s__law_like) := ⟨rfl, rfl, rfl, by decide +kernel, rfl, by decide +kernel, by decide +kernel⟩

theorem ok__law_like {f : Addr} {fd : FuncData} (F : Fun K "_law_like" "_law_like" s__law_like f fd)
    (n : Nat) {f__law_like : Addr} {d__law_like : FuncData} (G__law_like : Cal P w K mg base CX0 n 2 (spL__law_like n) "_law_like" f__law_like d__law_like ["told", "due"])
    (m_all : mg "all" = none)
    (m_bool : mg "bool" = none)
    (m_dict : mg "dict" = none)
    (m_int : mg "int" = none)
    (m_isinstance : mg "isinstance" = none)
    (m_len : mg "len" = none)
    (m_list : mg "list" = none)
    (m_str : mg "str" = none)
    (m_tuple : mg "tuple" = none)
    (m_zip : mg "zip" = none) : FnOk P w K mg base CX0 (n + 1) f fd ["told", "due"] (lSp K 2 (sp__law_like n)) := by
  refine fn_vs F sc__law_like rfl (fun cdv A outer s H E hr => ?_)
  exact ⟨T__law_like (spL__law_like n), (dss_cut (ds_if (dt_w (dw_or (dt_val (de_isi m_isinstance (dv 0) rfl m_dict (by decide +kernel) isD_dict)) (dw_or1 (dt_val (de_isi m_isinstance (dv 1) rfl m_dict (by decide +kernel) isD_dict))))) (dss_cons ds_never
  (dss_one ds_never)) dss_nil)
  (dss_cons (ds_if (dt_val (de_isiT2 m_isinstance (dv 1) rfl m_list (by decide +kernel) isD_list rfl m_tuple (by decide +kernel) isD_tuple)) (dss_cons (ds_if (dt_w (dw_or (dt_ne hr.units (de_isi m_isinstance (dv 0) rfl m_list (by decide +kernel) isD_list) (de_isi m_isinstance (dv 1) rfl m_list (by decide +kernel) isD_list)) (dw_or1 (dt_ne hr.units (de_isi m_isinstance (dv 0) rfl m_tuple (by decide +kernel) isD_tuple) (de_isi m_isinstance (dv 1) rfl m_tuple (by decide +kernel) isD_tuple))))) (dss_one (ds_ret de_bl)) dss_nil)
  (dss_one (ds_ret (de_and (de_eq hr.units (de_len m_len (da_cons (dv 0) da_nil)) (de_len m_len (da_cons (dv 1) da_nil))) (de_one (de_all rfl m_all (da_cons (de_lcZ (own := [("a", 2), ("b", 3)]) m_zip rfl sc__law_like.nd (da_cons (dv 0) (da_cons (dv 1) da_nil)) (blkOk_by (N := N__law_like) (sc := defScope s__law_like) (own := [("a", 2), ("b", 3)]) (by decide +kernel)) (fun _ _ _ _ _ => (dg_tup rfl (dgs_cons (dg_name (i := 2) sc__law_like.nd rfl (Or.inl rfl)) (dgs_cons (dg_name (i := 3) sc__law_like.nd rfl (Or.inl rfl)) dgs_nil)))) (fun _ _ _ _ _ => dts_nil) (fun _ _ _ _ _ => (dc G__law_like hr (da_cons (dv 2) (da_cons (dv 3) da_nil)) (Nat.le_refl _)))) da_nil))))))) dss_nil)
  (dss_cons (ds_if (dt_val (de_isiT2 m_isinstance (dv 0) rfl m_list (by decide +kernel) isD_list rfl m_tuple (by decide +kernel) isD_tuple)) (dss_one (ds_ret de_bl)) dss_nil)
  (dss_cons (ds_if (dt_w (dw_or (dt_isN (dv 1) de_non) (dw_or1 (dt_isN (dv 0) de_non)))) (dss_one (ds_ret (de_and (de_isN (dv 1) de_non) (de_one (de_isN (dv 0) de_non))))) dss_nil)
  (dss_cons (ds_if (dt_w (dw_or (dt_ne hr.units (de_isi m_isinstance (dv 0) rfl m_bool (by decide +kernel) isD_bool) (de_isi m_isinstance (dv 1) rfl m_bool (by decide +kernel) isD_bool)) (dw_or1 (dt_ne hr.units (de_isi m_isinstance (dv 0) rfl m_str (by decide +kernel) isD_str) (de_isi m_isinstance (dv 1) rfl m_str (by decide +kernel) isD_str))))) (dss_one (ds_ret de_bl)) dss_nil)
  (dss_one (ds_ret (de_and (de_isiT2 m_isinstance (dv 0) rfl m_int (by decide +kernel) isD_int rfl m_str (by decide +kernel) isD_str) (de_one (de_boolc m_bool (da_cons (de_eq hr.units (dv 0) (dv 1)) da_nil))))))))))), fun args Φ hl h => rd__law_like n h⟩
theorem all__law_like {f : Addr} {fd : FuncData} (F : Fun K "_law_like" "_law_like" s__law_like f fd) (hm : mg "_law_like" = some (.ref f)) (hb : Binds K fd ["told", "due"] [])
    (m_all : mg "all" = none) (m_bool : mg "bool" = none) (m_dict : mg "dict" = none) (m_int : mg "int" = none) (m_isinstance : mg "isinstance" = none) (m_len : mg "len" = none) (m_list : mg "list" = none) (m_str : mg "str" = none) (m_tuple : mg "tuple" = none) (m_zip : mg "zip" = none) : ∀ n, FnOk P w K mg base CX0 (n + 1) f fd ["told", "due"] (lSp K 2 (sp__law_like n))
  | 0 => ok__law_like F 0 ⟨⟨fun vs H Q E h => h.1, fun A outer s H args us vs Q E hr he hB hV h => by
      obtain ⟨_, C, args', Φ, Ψ, _, _, _, hf, _⟩ := h
      exact hf.elim⟩, hm, F.kp, hb⟩ m_all m_bool m_dict m_int m_isinstance m_len m_list m_str m_tuple m_zip
  | n + 1 => ok__law_like F (n + 1) ⟨all__law_like F hm hb m_all m_bool m_dict m_int m_isinstance m_len m_list m_str m_tuple m_zip n, hm, F.kp, hb⟩ m_all m_bool m_dict m_int m_isinstance m_len m_list m_str m_tuple m_zip
abbrev s__law_gcd : Stmt := top 32
abbrev N__law_gcd : List Str := (["a", "b", "one", "two"] : List Str)
theorem sc__law_gcd : FnScope N__law_gcd ["a", "b"] (defScope s__law_gcd) := ⟨rfl, rfl, rfl, by decide +kernel, rfl, by decide +kernel, by decide +kernel⟩

theorem ok__law_gcd {f : Addr} {fd : FuncData} (F : Fun K "_law_gcd" "_law_gcd" s__law_gcd f fd)
    (m_abs : mg "abs" = none)
    (m_int : mg "int" = none) : FnOk P w K mg base CX0 1 f fd ["a", "b"] (lSp K 2 sp__law_gcd) := by
  refine fn_vs F sc__law_gcd rfl (fun cdv A outer s H E hr => ?_)
  exact ⟨T__law_gcd, (dss_cut (ds_par (i := 2) (j := 3) rfl sc__law_gcd.nd rfl rfl (by decide) rfl rfl (da_cons (de_abs m_abs (da_cons (dv 0) da_nil)) (da_cons (de_abs m_abs (da_cons (dv 1) da_nil)) da_nil)))
  (dss_cut (ds_while PassesOwn.never (dt_gt (dv 3) de_int) (dss_one (ds_par (i := 2) (j := 3) rfl sc__law_gcd.nd rfl rfl (by decide) rfl rfl (da_cons (dv 3) (da_cons (de_mod (de_intc m_int (da_cons (dv 2) da_nil)) (dv 3)) da_nil)))))
  (dss_one (ds_ret (dv 2))))), fun args Φ hl h => rd__law_gcd h⟩
abbrev s__law_lowest : Stmt := top 33
abbrev N__law_lowest : List Str := (["x", "y", "w", "g"] : List Str)
theorem sc__law_lowest : FnScope N__law_lowest ["x", "y", "w"] (defScope s__law_lowest) := ⟨rfl, rfl, rfl, by decide +kernel, rfl, by decide +kernel, by decide +kernel⟩

theorem ok__law_lowest {f : Addr} {fd : FuncData} (F : Fun K "_law_lowest" "_law_lowest" s__law_lowest f fd)
    {f__law_gcd : Addr} {d__law_gcd : FuncData} (G__law_gcd : Cal P w K mg base CX0 1 2 sp__law_gcd "_law_gcd" f__law_gcd d__law_gcd ["a", "b"]) : FnOk P w K mg base CX0 2 f fd ["x", "y", "w"] (lSp K 3 sp__law_lowest) := by
  refine fn_vs F sc__law_lowest rfl (fun cdv A outer s H E hr => ?_)
  exact ⟨T__law_lowest, (dss_cut (ds_setV (i := 3) sc__law_lowest.nd rfl (Or.inl rfl) (dc G__law_gcd hr (da_cons (dc G__law_gcd hr (da_cons (dv 0) (da_cons (dv 1) da_nil))) (da_cons (dv 2) da_nil))))
  (dss_one (ds_ret (de_tup (da_cons (de_fdiv (dv 0) (dv 3)) (da_cons (de_fdiv (dv 1) (dv 3)) (da_cons (de_fdiv (dv 2) (dv 3)) da_nil))))))), fun args Φ hl h => rd__law_lowest h⟩
abbrev s__law_turn : Stmt := top 34
abbrev N__law_turn : List Str := (["p", "q", "r"] : List Str)
theorem sc__law_turn : FnScope N__law_turn ["p", "q", "r"] (defScope s__law_turn) := ⟨rfl, rfl, rfl, by decide +kernel, rfl, by decide +kernel, by decide +kernel⟩

theorem ok__law_turn {f : Addr} {fd : FuncData} (F : Fun K "_law_turn" "_law_turn" s__law_turn f fd)
     : FnOk P w K mg base CX0 1 f fd ["p", "q", "r"] (lSp K 3 sp__law_turn) := by
  refine fn_vs F sc__law_turn rfl (fun cdv A outer s H E hr => ?_)
  exact ⟨T__law_turn, (dss_one (ds_ret (de_addA (de_sub (de_mulA (de_item (dv 0) de_int) (de_sub (de_mulA (de_item (dv 1) de_int) (de_item (dv 2) de_int)) (de_mulA (de_item (dv 2) de_int) (de_item (dv 1) de_int)))) (de_mulA (de_item (dv 0) de_int) (de_sub (de_mulA (de_item (dv 1) de_int) (de_item (dv 2) de_int)) (de_mulA (de_item (dv 2) de_int) (de_item (dv 1) de_int))))) (de_mulA (de_item (dv 0) de_int) (de_sub (de_mulA (de_item (dv 1) de_int) (de_item (dv 2) de_int)) (de_mulA (de_item (dv 2) de_int) (de_item (dv 1) de_int))))))), fun args Φ hl h => rd__law_turn h⟩
abbrev s__law_far : Stmt := top 35
abbrev N__law_far : List Str := (["c", "p"] : List Str)
theorem sc__law_far : FnScope N__law_far ["c", "p"] (defScope s__law_far) := ⟨rfl, rfl, rfl, by decide +kernel, rfl, by decide +kernel, by decide +kernel⟩

theorem ok__law_far {f : Addr} {fd : FuncData} (F : Fun K "_law_far" "_law_far" s__law_far f fd)
    (m_abs : mg "abs" = none) : FnOk P w K mg base CX0 1 f fd ["c", "p"] (lSp K 2 sp__law_far) := by
  refine fn_vs F sc__law_far rfl (fun cdv A outer s H E hr => ?_)
  exact ⟨T__law_far, (dss_one (ds_ret (de_addA (de_abs m_abs (da_cons (de_sub (de_mulA (de_item (dv 1) de_int) (de_item (dv 0) de_int)) (de_mulA (de_item (dv 0) de_int) (de_item (dv 1) de_int))) da_nil)) (de_abs m_abs (da_cons (de_sub (de_mulA (de_item (dv 1) de_int) (de_item (dv 0) de_int)) (de_mulA (de_item (dv 0) de_int) (de_item (dv 1) de_int))) da_nil))))), fun args Φ hl h => rd__law_far h⟩
abbrev s__law_hull : Stmt := top 36
abbrev N__law_hull : List Str := (["some", "seen", "p", "rows", "first", "out", "k", "best", "c", "s"] : List Str)
theorem sc__law_hull : FnScope N__law_hull ["some"] (defScope s__law_hull) := ⟨rfl, rfl, rfl, by decide +kernel, rfl, by decide +kernel, by decide +kernel⟩

theorem ok__law_hull {f : Addr} {fd : FuncData} (F : Fun K "_law_hull" "_law_hull" s__law_hull f fd)
    {f__law_far : Addr} {d__law_far : FuncData} (G__law_far : Cal P w K mg base CX0 1 2 sp__law_far "_law_far" f__law_far d__law_far ["c", "p"])
    {f__law_turn : Addr} {d__law_turn : FuncData} (G__law_turn : Cal P w K mg base CX0 1 3 sp__law_turn "_law_turn" f__law_turn d__law_turn ["p", "q", "r"])
    {f__law_lowest : Addr} {d__law_lowest : FuncData} (G__law_lowest : Cal P w K mg base CX0 2 3 sp__law_lowest "_law_lowest" f__law_lowest d__law_lowest ["x", "y", "w"])
    (m_len : mg "len" = none)
    (m_list : mg "list" = none)
    (m_range : mg "range" = none) : FnOk P w K mg base CX0 3 f fd ["some"] (lSp K 1 sp__law_hull) := by
  refine fn_vs F sc__law_hull rfl (fun cdv A outer s H E hr => ?_)
  exact ⟨T__law_hull, (dss_cons (ds_set (i := 1) sc__law_hull.nd rfl (Or.inl rfl) de_newT)
  (dss_cut (ds_forL PassesOwn.never rfl (dv 0) (dg_name (i := 2) sc__law_hull.nd rfl (Or.inl rfl)) (dss_one (ds_putT hr.units de_bl (pv 1) (dc G__law_lowest hr (da_cons (de_item (dv 2) de_int) (da_cons (de_item (dv 2) de_int) (da_cons (de_item (dv 2) de_int) da_nil)))))))
  (dss_cut (ds_setV (i := 3) sc__law_hull.nd rfl (Or.inl rfl) (de_listT rfl m_list (da_cons (dv 1) da_nil)))
  (dss_cut (ds_setV (i := 4) sc__law_hull.nd rfl (Or.inl rfl) (de_item (dv 3) de_int))
  (dss_cut (ds_forL PassesOwn.never rfl (dv 3) (dg_name (i := 2) sc__law_hull.nd rfl (Or.inl rfl)) (dss_one (ds_if (dt_lt2 hr.units (de_tup (da_cons (de_mulA (de_item (dv 2) de_int) (de_item (dv 4) de_int)) (da_cons (de_mulA (de_item (dv 2) de_int) (de_item (dv 4) de_int)) da_nil))) (de_tup (da_cons (de_mulA (de_item (dv 4) de_int) (de_item (dv 2) de_int)) (da_cons (de_mulA (de_item (dv 4) de_int) (de_item (dv 2) de_int)) da_nil)))) (dss_one (ds_setV (i := 4) sc__law_hull.nd rfl (Or.inl rfl) (dv 2))) dss_nil)))
  (dss_cut (ds_set (i := 5) sc__law_hull.nd rfl (Or.inl rfl) (de_lst (da_cons (dv 4) da_nil)))
  (dss_cut (ds_forR1 m_range PassesOwn.never rfl (da_cons (de_len m_len (da_cons (dv 3) da_nil)) da_nil) (dg_name (i := 6) sc__law_hull.nd rfl (Or.inl rfl)) (dss_cut (ds_par (i := 7) (j := 8) rfl sc__law_hull.nd rfl rfl (by decide) rfl rfl (da_cons de_non (da_cons (de_item (dv 5) (de_neg de_int)) da_nil)))
  (dss_cut (ds_forL PassesOwn.never rfl (dv 3) (dg_name (i := 2) sc__law_hull.nd rfl (Or.inl rfl)) (dss_one (ds_if (dt_ne hr.units (dv 2) (dv 8)) (dss_cut (ds_setV (i := 9) sc__law_hull.nd rfl (Or.inl rfl) (de_if (dt_isN (dv 7) de_non) de_int (dc G__law_turn hr (da_cons (dv 8) (da_cons (dv 7) (da_cons (dv 2) da_nil))))))
  (dss_one (ds_if (dt_w (dw_or (dt_isN (dv 7) de_non) (dw_or (dt_lt (dv 9) de_int) (dw_or1 (dt_w (dw_and (dt_eq hr.units (dv 9) de_int) (dw_and1 (dt_gt (de_mulA (dc G__law_far hr (da_cons (dv 8) (da_cons (dv 2) da_nil))) (de_item (dv 7) de_int)) (de_mulA (dc G__law_far hr (da_cons (dv 8) (da_cons (dv 7) da_nil))) (de_item (dv 2) de_int)))))))))) (dss_one (ds_setV (i := 7) sc__law_hull.nd rfl (Or.inl rfl) (dv 2))) dss_nil))) dss_nil)))
  (dss_cut (ds_if (dt_w (dw_or (dt_isN (dv 7) de_non) (dw_or1 (dt_eq hr.units (dv 7) (dv 4))))) (dss_one (ds_ret (dv 5))) dss_nil)
  (dss_one (ds_expr (dm_append (pv 5) (da_cons (dv 7) da_nil))))))))
  (dss_one (ds_ret (dv 5)))))))))), fun args Φ hl h => rd__law_hull h⟩
abbrev s__law_where : Stmt := top 37
abbrev N__law_where : List Str := (["corners", "v", "p", "q", "dots", "least", "a", "b"] : List Str)
theorem sc__law_where : FnScope N__law_where ["corners", "v"] (defScope s__law_where) := ⟨rfl, rfl, rfl, by decide +kernel, rfl, by decide +kernel, by decide +kernel⟩

theorem ok__law_where {f : Addr} {fd : FuncData} (F : Fun K "_law_where" "_law_where" s__law_where f fd)
    {f__law_turn : Addr} {d__law_turn : FuncData} (G__law_turn : Cal P w K mg base CX0 1 3 sp__law_turn "_law_turn" f__law_turn d__law_turn ["p", "q", "r"])
    (m_len : mg "len" = none)
    (m_min : mg "min" = none)
    (m_zip : mg "zip" = none) : FnOk P w K mg base CX0 2 f fd ["corners", "v"] (lSp K 2 sp__law_where) := by
  refine fn_vs F sc__law_where rfl (fun cdv A outer s H E hr => ?_)
  exact ⟨T__law_where, (dss_cut (ds_par (i := 2) (j := 3) rfl sc__law_where.nd rfl rfl (by decide) rfl rfl (da_cons (de_item (dv 0) de_int) (da_cons (de_item (dv 0) (de_neg de_int)) da_nil)))
  (dss_cons (ds_if (dt_lt (de_len m_len (da_cons (dv 0) da_nil)) de_int) (dss_cut (ds_setV (i := 4) sc__law_where.nd rfl (Or.inl rfl) (de_addA (de_mulA (de_sub (de_mulA (de_item (dv 2) de_int) (de_item (dv 1) de_int)) (de_mulA (de_item (dv 1) de_int) (de_item (dv 2) de_int))) (de_sub (de_mulA (de_item (dv 3) de_int) (de_item (dv 1) de_int)) (de_mulA (de_item (dv 1) de_int) (de_item (dv 3) de_int)))) (de_mulA (de_sub (de_mulA (de_item (dv 2) de_int) (de_item (dv 1) de_int)) (de_mulA (de_item (dv 1) de_int) (de_item (dv 2) de_int))) (de_sub (de_mulA (de_item (dv 3) de_int) (de_item (dv 1) de_int)) (de_mulA (de_item (dv 1) de_int) (de_item (dv 3) de_int))))))
  (dss_one (ds_ret (de_if (dt_w (dw_and (dt_eq hr.units (dc G__law_turn hr (da_cons (dv 2) (da_cons (dv 3) (da_cons (dv 1) da_nil)))) de_int) (dw_and1 (dt_le (dv 4) de_int)))) de_int (de_neg de_int))))) dss_nil)
  (dss_cut (ds_setV (i := 5) sc__law_where.nd rfl (Or.inl rfl) (de_min rfl m_min (da_cons (de_lcZ (own := [("a", 6), ("b", 7)]) m_zip rfl sc__law_where.nd (da_cons (dv 0) (da_cons (de_addA (de_slL (dv 0) (do_some de_int) do_none) (de_slL (dv 0) do_none (do_some de_int))) da_nil)) (blkOk_by (N := N__law_where) (sc := defScope s__law_where) (own := [("a", 6), ("b", 7)]) (by decide +kernel)) (fun _ _ _ _ _ => (dg_tup rfl (dgs_cons (dg_name (i := 6) sc__law_where.nd rfl (Or.inl rfl)) (dgs_cons (dg_name (i := 7) sc__law_where.nd rfl (Or.inl rfl)) dgs_nil)))) (fun _ _ _ _ _ => dts_nil) (fun _ _ _ _ _ => (dc G__law_turn hr (da_cons (dv 6) (da_cons (dv 7) (da_cons (dv 1) da_nil)))))) da_nil)))
  (dss_one (ds_ret (de_if (dt_gt (dv 5) de_int) de_int (de_if (dt_eq hr.units (dv 5) de_int) de_int (de_neg de_int)))))))), fun args Φ hl h => rd__law_where h⟩
abbrev s__law_point : Stmt := top 38
abbrev N__law_point : List Str := (["bag", "wide", "w", "k", "x", "y"] : List Str)
theorem sc__law_point : FnScope N__law_point ["bag", "wide"] (defScope s__law_point) := ⟨rfl, rfl, rfl, by decide +kernel, rfl, by decide +kernel, by decide +kernel⟩

theorem ok__law_point {f : Addr} {fd : FuncData} (F : Fun K "_law_point" "_law_point" s__law_point f fd)
    {f__law_draw : Addr} {d__law_draw : FuncData} (G__law_draw : Cal P w K mg base CX0 1 2 sp__law_draw "_law_draw" f__law_draw d__law_draw ["bag", "limit"])
    {f__law_of : Addr} {d__law_of : FuncData} (G__law_of : Cal P w K mg base CX0 2 2 sp__law_of "_law_of" f__law_of d__law_of ["bag", "things"]) : FnOk P w K mg base CX0 3 f fd ["bag", "wide"] (lSp K 2 sp__law_point) := by
  refine fn_vs F sc__law_point rfl (fun cdv A outer s H E hr => ?_)
  exact ⟨T__law_point, (dss_cut (ds_setV (i := 2) sc__law_point.nd rfl (Or.inl rfl) (dc G__law_of hr (da_cons (dv 0) (da_cons (de_lst (da_cons de_int (da_cons de_int (da_cons de_int (da_cons de_int (da_cons de_int (da_cons de_int (da_cons de_int da_nil)))))))) da_nil))))
  (dss_cut (ds_setV (i := 3) sc__law_point.nd rfl (Or.inl rfl) (dc G__law_of hr (da_cons (dv 0) (da_cons (de_lst (da_cons de_int (da_cons de_int (da_cons de_int (da_cons de_int (da_cons de_int da_nil)))))) da_nil))))
  (dss_cut (ds_par (i := 4) (j := 5) rfl sc__law_point.nd rfl rfl (by decide) rfl rfl (da_cons (de_sub (dc G__law_draw hr (da_cons (dv 0) (da_cons (de_addA (de_mulA de_int (dv 1)) de_int) da_nil))) (dv 1)) (da_cons (de_sub (dc G__law_draw hr (da_cons (dv 0) (da_cons (de_addA (de_mulA de_int (dv 1)) de_int) da_nil))) (dv 1)) da_nil)))
  (dss_one (ds_ret (de_tup (da_cons (de_mulA (dv 4) (dv 3)) (da_cons (de_mulA (dv 5) (dv 3)) (da_cons (de_mulA (dv 2) (dv 3)) da_nil))))))))), fun args Φ hl h => rd__law_point h⟩
abbrev s__law_plane_points : Stmt := top 39
abbrev N__law_plane_points : List Str := (["bag", "pick", "size", "k", "out", "x", "y", "a", "b", "steps", "t", "high", "s", "some", "p", "g"] : List Str)
theorem sc__law_plane_points : FnScope N__law_plane_points ["bag"] (defScope s__law_plane_points) := ⟨rfl, rfl, rfl, by decide +kernel, rfl, by decide +kernel, by decide +kernel⟩

theorem ok__law_plane_points {f : Addr} {fd : FuncData} (F : Fun K "_law_plane_points" "_law_plane_points" s__law_plane_points f fd)
    {f__law_shuffled : Addr} {d__law_shuffled : FuncData} (G__law_shuffled : Cal P w K mg base CX0 2 2 sp__law_shuffled "_law_shuffled" f__law_shuffled d__law_shuffled ["bag", "things"])
    {f__law_of : Addr} {d__law_of : FuncData} (G__law_of : Cal P w K mg base CX0 2 2 sp__law_of "_law_of" f__law_of d__law_of ["bag", "things"])
    {f__law_draw : Addr} {d__law_draw : FuncData} (G__law_draw : Cal P w K mg base CX0 1 2 sp__law_draw "_law_draw" f__law_draw d__law_draw ["bag", "limit"])
    {f__law_point : Addr} {d__law_point : FuncData} (G__law_point : Cal P w K mg base CX0 3 2 sp__law_point "_law_point" f__law_point d__law_point ["bag", "wide"])
    (m_int : mg "int" = none)
    (m_range : mg "range" = none) : FnOk P w K mg base CX0 4 f fd ["bag"] (lSp K 1 sp__law_plane_points) := by
  refine fn_vs F sc__law_plane_points rfl (fun cdv A outer s H E hr => ?_)
  exact ⟨T__law_plane_points, (dss_cut (ds_par (i := 1) (j := 2) rfl sc__law_plane_points.nd rfl rfl (by decide) rfl rfl (da_cons (dc G__law_draw hr (da_cons (dv 0) (da_cons de_int da_nil))) (da_cons (de_addA de_int (dc G__law_draw hr (da_cons (dv 0) (da_cons de_int da_nil)))) da_nil)))
  (dss_cut (ds_if (dt_lt (dv 1) de_int) (dss_one (ds_setDlcR1 (own := [("k", 3)]) m_range rfl sc__law_plane_points.nd rfl rfl (sw_true rfl rfl rfl (by decide +kernel)) (da_cons (dv 2) da_nil) (blkOk_by (N := N__law_plane_points) (sc := defScope s__law_plane_points) (own := [("k", 3)]) (by decide +kernel)) (fun _ _ _ _ _ => (dg_name (i := 3) sc__law_plane_points.nd rfl (Or.inl rfl))) (fun _ _ _ _ _ => dts_nil) (fun _ _ _ _ _ => (dc G__law_point hr (da_cons (dv 0) (da_cons de_int da_nil)))))) (dss_one (ds_if (dt_eq hr.units (dv 1) de_int) (dss_cut (ds_asg (de_lcR1 (own := [("k", 3)]) m_range rfl sc__law_plane_points.nd (da_cons de_int da_nil) (blkOk_by (N := N__law_plane_points) (sc := defScope s__law_plane_points) (own := [("k", 3)]) (by decide +kernel)) (fun _ _ _ _ _ => (dg_name (i := 3) sc__law_plane_points.nd rfl (Or.inl rfl))) (fun _ _ _ _ _ => dts_nil) (fun _ _ _ _ _ => (de_sub (dc G__law_draw hr (da_cons (dv 0) (da_cons de_int da_nil))) de_int))) (dg_unl rfl (dgs_cons (dg_name (i := 5) sc__law_plane_points.nd rfl (Or.inr rfl)) (dgs_cons (dg_name (i := 6) sc__law_plane_points.nd rfl (Or.inr rfl)) (dgs_cons (dg_name (i := 7) sc__law_plane_points.nd rfl (Or.inr rfl)) (dgs_cons (dg_name (i := 8) sc__law_plane_points.nd rfl (Or.inr rfl)) dgs_nil))))))
  (dss_cut (ds_setVlcR1 (own := [("k", 3)]) m_range rfl sc__law_plane_points.nd rfl rfl (sw_true rfl rfl rfl (by decide +kernel)) (da_cons (dv 2) da_nil) (blkOk_by (N := N__law_plane_points) (sc := defScope s__law_plane_points) (own := [("k", 3)]) (by decide +kernel)) (fun _ _ _ _ _ => (dg_name (i := 3) sc__law_plane_points.nd rfl (Or.inl rfl))) (fun _ _ _ _ _ => dts_nil) (fun _ _ _ _ _ => (de_sub (dc G__law_draw hr (da_cons (dv 0) (da_cons de_int da_nil))) de_int)))
  (dss_one (ds_setDlcL (own := [("t", 10)]) rfl sc__law_plane_points.nd rfl rfl (sw_true rfl rfl rfl (by decide +kernel)) (dv 9) (blkOk_by (N := N__law_plane_points) (sc := defScope s__law_plane_points) (own := [("t", 10)]) (by decide +kernel)) (fun _ _ _ _ _ => (dg_name (i := 10) sc__law_plane_points.nd rfl (Or.inl rfl))) (fun _ _ _ _ _ => dts_nil) (fun _ _ _ _ _ => (de_tup (da_cons (de_addA (dv 5) (de_mulA (dv 7) (dv 10))) (da_cons (de_addA (dv 6) (de_mulA (dv 8) (dv 10))) (da_cons (de_addA de_int (de_mulA (dc G__law_draw hr (da_cons (dv 0) (da_cons de_int da_nil))) (de_intc m_int (da_cons (de_and (de_eq hr.units (dv 5) de_int) (de_one (de_eq hr.units (dv 6) de_int))) da_nil)))) da_nil))))))))) (dss_one (ds_if (dt_eq hr.units (dv 1) de_int) (dss_cut (ds_setV (i := 11) sc__law_plane_points.nd rfl (Or.inl rfl) (dc G__law_of hr (da_cons (dv 0) (da_cons (de_lst (da_cons (de_pow de_int de_int) (da_cons (de_pow de_int de_int) (da_cons (de_pow de_int de_int) da_nil)))) da_nil))))
  (dss_cons (ds_set (i := 4) sc__law_plane_points.nd rfl (Or.inl rfl) (de_lst da_nil))
  (dss_one (ds_forR1 m_range PassesOwn.never rfl (da_cons (dv 2) da_nil) (dg_name (i := 3) sc__law_plane_points.nd rfl (Or.inl rfl)) (dss_cut (ds_asg (de_tup (da_cons (de_fdiv (de_mulA (dc G__law_draw hr (da_cons (dv 0) (da_cons de_int da_nil))) (dv 11)) de_int) (da_cons (de_fdiv (de_mulA (dc G__law_draw hr (da_cons (dv 0) (da_cons de_int da_nil))) (dv 11)) de_int) da_nil))) (dg_tup rfl (dgs_cons (dg_name (i := 5) sc__law_plane_points.nd rfl (Or.inr rfl)) (dgs_cons (dg_name (i := 6) sc__law_plane_points.nd rfl (Or.inr rfl)) dgs_nil))))
  (dss_one (ds_expr (dm_append (pv 4) (da_cons (de_tup (da_cons (de_addA (de_sub (dv 5) (dv 11)) (dc G__law_draw hr (da_cons (dv 0) (da_cons de_int da_nil)))) (da_cons (de_sub (dv 6) (dv 11)) (da_cons (de_addA de_int (dc G__law_draw hr (da_cons (dv 0) (da_cons de_int da_nil)))) da_nil)))) da_nil))))))))) (dss_one (ds_if (dt_eq hr.units (dv 1) de_int) (dss_cut (ds_asg (de_tup (da_cons (de_addA de_int (dc G__law_draw hr (da_cons (dv 0) (da_cons de_int da_nil)))) (da_cons (de_addA de_int (dc G__law_draw hr (da_cons (dv 0) (da_cons de_int da_nil)))) da_nil))) (dg_tup rfl (dgs_cons (dg_name (i := 7) sc__law_plane_points.nd rfl (Or.inr rfl)) (dgs_cons (dg_name (i := 8) sc__law_plane_points.nd rfl (Or.inr rfl)) dgs_nil))))
  (dss_cons (ds_set (i := 4) sc__law_plane_points.nd rfl (Or.inl rfl) (de_lst da_nil))
  (dss_one (ds_forR1 m_range PassesOwn.never rfl (da_cons (dv 2) da_nil) (dg_name (i := 3) sc__law_plane_points.nd rfl (Or.inl rfl)) (dss_cut (ds_par (i := 12) (j := 10) rfl sc__law_plane_points.nd rfl rfl (by decide) rfl rfl (da_cons (de_sub (dc G__law_draw hr (da_cons (dv 0) (da_cons (de_addA (de_mulA de_int (dv 7)) de_int) da_nil))) (dv 7)) (da_cons (de_sub (dc G__law_draw hr (da_cons (dv 0) (da_cons (de_addA (de_mulA de_int (dv 8)) de_int) da_nil))) (dv 8)) da_nil)))
  (dss_one (ds_expr (dm_append (pv 4) (da_cons (dc G__law_of hr (da_cons (dv 0) (da_cons (de_lst (da_cons (de_tup (da_cons (dv 12) (da_cons (dv 8) (da_cons de_int da_nil)))) (da_cons (de_tup (da_cons (dv 12) (da_cons (de_neg (dv 8)) (da_cons de_int da_nil)))) (da_cons (de_tup (da_cons (dv 7) (da_cons (dv 10) (da_cons de_int da_nil)))) (da_cons (de_tup (da_cons (de_neg (dv 7)) (da_cons (dv 10) (da_cons de_int da_nil)))) (da_cons (de_tup (da_cons (dv 12) (da_cons (dv 10) (da_cons de_int da_nil)))) da_nil)))))) da_nil))) da_nil))))))))) (dss_one (ds_if (dt_eq hr.units (dv 1) de_int) (dss_one (ds_set (i := 4) sc__law_plane_points.nd rfl (Or.inl rfl) (de_rep (de_lst (da_cons (dc G__law_point hr (da_cons (dv 0) (da_cons de_int da_nil))) da_nil)) (de_addA de_int (de_fdiv (dv 2) de_int))))) (dss_one (ds_setDlcR1 (own := [("k", 3)]) m_range rfl sc__law_plane_points.nd rfl rfl (sw_true rfl rfl rfl (by decide +kernel)) (da_cons (dv 2) da_nil) (blkOk_by (N := N__law_plane_points) (sc := defScope s__law_plane_points) (own := [("k", 3)]) (by decide +kernel)) (fun _ _ _ _ _ => (dg_name (i := 3) sc__law_plane_points.nd rfl (Or.inl rfl))) (fun _ _ _ _ _ => dts_nil) (fun _ _ _ _ _ => (dc G__law_point hr (da_cons (dv 0) (da_cons de_int da_nil)))))))))))))))
  (dss_cons (ds_set (i := 13) sc__law_plane_points.nd rfl (Or.inl rfl) (de_lst da_nil))
  (dss_cut (ds_forL PassesOwn.never rfl (de_addA (dv 4) (de_slL (dv 4) do_none (do_some (dc G__law_draw hr (da_cons (dv 0) (da_cons de_int da_nil)))))) (dg_name (i := 14) sc__law_plane_points.nd rfl (Or.inl rfl)) (dss_cut (ds_setV (i := 15) sc__law_plane_points.nd rfl (Or.inl rfl) (dc G__law_of hr (da_cons (dv 0) (da_cons (de_lst (da_cons de_int (da_cons de_int (da_cons de_int (da_cons de_int (da_cons de_int da_nil)))))) da_nil))))
  (dss_one (ds_expr (dm_append (pv 13) (da_cons (de_tup (da_cons (de_mulA (de_item (dv 14) de_int) (dv 15)) (da_cons (de_mulA (de_item (dv 14) de_int) (dv 15)) (da_cons (de_mulA (de_item (dv 14) de_int) (dv 15)) da_nil)))) da_nil))))))
  (dss_frz 13 (dss_one (ds_ret (dc G__law_shuffled hr (da_cons (dv 0) (da_cons (dv 13) da_nil)))))))))), fun args Φ hl h => rd__law_plane_points h⟩
abbrev s__law_form : Stmt := top 40
abbrev N__law_form : List Str := (["bag", "pick", "some", "n", "k", "p"] : List Str)
theorem sc__law_form : FnScope N__law_form ["bag"] (defScope s__law_form) := ⟨rfl, rfl, rfl, by decide +kernel, rfl, by decide +kernel, by decide +kernel⟩

theorem ok__law_form {f : Addr} {fd : FuncData} (F : Fun K "_law_form" "_law_form" s__law_form f fd)
    {f__law_shuffled : Addr} {d__law_shuffled : FuncData} (G__law_shuffled : Cal P w K mg base CX0 2 2 sp__law_shuffled "_law_shuffled" f__law_shuffled d__law_shuffled ["bag", "things"])
    {f__law_draw : Addr} {d__law_draw : FuncData} (G__law_draw : Cal P w K mg base CX0 1 2 sp__law_draw "_law_draw" f__law_draw d__law_draw ["bag", "limit"])
    {f__law_of : Addr} {d__law_of : FuncData} (G__law_of : Cal P w K mg base CX0 2 2 sp__law_of "_law_of" f__law_of d__law_of ["bag", "things"])
    {f__law_point : Addr} {d__law_point : FuncData} (G__law_point : Cal P w K mg base CX0 3 2 sp__law_point "_law_point" f__law_point d__law_point ["bag", "wide"])
    (m_range : mg "range" = none) : FnOk P w K mg base CX0 4 f fd ["bag"] (lSp K 1 sp__law_form) := by
  refine fn_vs F sc__law_form rfl (fun cdv A outer s H E hr => ?_)
  exact ⟨T__law_form, (dss_cut (ds_setV (i := 1) sc__law_form.nd rfl (Or.inl rfl) (dc G__law_draw hr (da_cons (dv 0) (da_cons de_int da_nil))))
  (dss_cut (ds_setVlcR1 (own := [("k", 4)]) m_range rfl sc__law_form.nd rfl rfl (sw_true rfl rfl rfl (by decide +kernel)) (da_cons (de_addA de_int (dc G__law_draw hr (da_cons (dv 0) (da_cons de_int da_nil)))) da_nil) (blkOk_by (N := N__law_form) (sc := defScope s__law_form) (own := [("k", 4)]) (by decide +kernel)) (fun _ _ _ _ _ => (dg_name (i := 4) sc__law_form.nd rfl (Or.inl rfl))) (fun _ _ _ _ _ => dts_nil) (fun _ _ _ _ _ => (dc G__law_point hr (da_cons (dv 0) (da_cons de_int da_nil)))))
  (dss_cut (ds_if (dt_lt (dv 1) de_int) (dss_one (ds_setV (i := 2) sc__law_form.nd rfl (Or.inl rfl) (de_addA (de_addA (dv 2) (de_lcL (own := [("p", 5)]) rfl sc__law_form.nd (dv 2) (blkOk_by (N := N__law_form) (sc := defScope s__law_form) (own := [("p", 5)]) (by decide +kernel)) (fun _ _ _ _ _ => (dg_name (i := 5) sc__law_form.nd rfl (Or.inl rfl))) (fun _ _ _ _ _ => dts_nil) (fun _ _ _ _ _ => (de_tup (da_cons (de_addA (de_neg (de_item (dv 5) de_int)) (dc G__law_draw hr (da_cons (dv 0) (da_cons de_int da_nil)))) (da_cons (de_neg (de_item (dv 5) de_int)) (da_cons (de_item (dv 5) de_int) da_nil))))))) (de_lst (da_cons (de_tup (da_cons de_int (da_cons de_int (da_cons de_int da_nil)))) (da_cons (de_tup (da_cons de_int (da_cons (de_neg de_int) (da_cons de_int da_nil)))) (da_cons (de_tup (da_cons (de_neg de_int) (da_cons (de_neg de_int) (da_cons de_int da_nil)))) da_nil))))))) (dss_one (ds_if (dt_eq hr.units (dv 1) de_int) (dss_one (ds_setV (i := 2) sc__law_form.nd rfl (Or.inl rfl) (de_lst (da_cons (de_tup (da_cons de_int (da_cons de_int (da_cons de_int da_nil)))) (da_cons (de_tup (da_cons (de_neg de_int) (da_cons de_int (da_cons de_int da_nil)))) (da_cons (de_tup (da_cons (de_neg de_int) (da_cons (de_neg de_int) (da_cons de_int da_nil)))) (da_cons (de_tup (da_cons de_int (da_cons (de_neg de_int) (da_cons de_int da_nil)))) da_nil))))))) (dss_one (ds_if (dt_eq hr.units (dv 1) de_int) (dss_cut (ds_setV (i := 3) sc__law_form.nd rfl (Or.inl rfl) (dc G__law_of hr (da_cons (dv 0) (da_cons (de_lst (da_cons de_int (da_cons de_int (da_cons (de_pow de_int de_int) da_nil)))) da_nil))))
  (dss_one (ds_setV (i := 2) sc__law_form.nd rfl (Or.inl rfl) (de_lst (da_cons (de_tup (da_cons (dv 3) (da_cons de_int (da_cons de_int da_nil)))) (da_cons (de_tup (da_cons (de_neg (dv 3)) (da_cons de_int (da_cons de_int da_nil)))) (da_cons (de_tup (da_cons (de_sub (dc G__law_draw hr (da_cons (dv 0) (da_cons de_int da_nil))) de_int) (da_cons (de_neg de_int) (da_cons (de_addA de_int (dc G__law_draw hr (da_cons (dv 0) (da_cons de_int da_nil)))) da_nil)))) da_nil))))))) (dss_one (ds_if (dt_eq hr.units (dv 1) de_int) (dss_one (ds_setV (i := 2) sc__law_form.nd rfl (Or.inl rfl) (de_addA (dv 2) (de_lcL (own := [("p", 5)]) rfl sc__law_form.nd (dv 2) (blkOk_by (N := N__law_form) (sc := defScope s__law_form) (own := [("p", 5)]) (by decide +kernel)) (fun _ _ _ _ _ => (dg_name (i := 5) sc__law_form.nd rfl (Or.inl rfl))) (fun _ _ _ _ _ => dts_nil) (fun _ _ _ _ _ => (de_tup (da_cons (de_neg (de_item (dv 5) de_int)) (da_cons (de_neg (de_item (dv 5) de_int)) (da_cons (de_mulA de_int (de_item (dv 5) de_int)) da_nil))))))))) (dss_one (ds_if (dt_w (dw_and (dt_eq hr.units (dv 1) de_int) (dw_and1 (dt_eq hr.units (dc G__law_draw hr (da_cons (dv 0) (da_cons de_int da_nil))) de_int)))) (dss_one (ds_setV (i := 2) sc__law_form.nd rfl (Or.inl rfl) (de_rep (de_slL (dv 2) do_none (do_some (dc G__law_draw hr (da_cons (dv 0) (da_cons de_int da_nil))))) (dc G__law_of hr (da_cons (dv 0) (da_cons (de_lst (da_cons de_int (da_cons de_int (da_cons de_int da_nil)))) da_nil)))))) (dss_one (ds_setV (i := 2) sc__law_form.nd rfl (Or.inl rfl) (de_addA (de_lst (da_cons (de_tup (da_cons de_int (da_cons de_int (da_cons de_int da_nil)))) (da_cons (de_tup (da_cons de_int (da_cons de_int (da_cons de_int da_nil)))) (da_cons (de_tup (da_cons (de_neg de_int) (da_cons (de_neg de_int) (da_cons (de_addA de_int (dc G__law_draw hr (da_cons (dv 0) (da_cons de_int da_nil)))) da_nil)))) da_nil)))) (dv 2)))))))))))))
  (dss_one (ds_ret (dc G__law_shuffled hr (da_cons (dv 0) (da_cons (dv 2) da_nil)))))))), fun args Φ hl h => rd__law_form h⟩
abbrev s__law_told : Stmt := top 41
abbrev N__law_told : List Str := (["some", "form", "e"] : List Str)
theorem sc__law_told : FnScope N__law_told ["some", "form"] (defScope s__law_told) := ⟨rfl, rfl, rfl, by decide +kernel, rfl, by decide +kernel, by decide +kernel⟩

theorem ok__law_told {f : Addr} {fd : FuncData} (F : Fun K "_law_told" "_law_told" s__law_told f fd)
    {C fI : Addr} (X_Flat : PySem.FlatX.FlatTxt K mg C fI)
    (EI : ExI K C)
    {C_TooMany : Addr} (g_TooMany : mg "TooMany" = some (.ref C_TooMany)) (O_TooMany : PySem.W.kitOne K (.ref C) (.ref C_TooMany) = some false)
    (I_ValueError : PySem.W.kitOne K (.ref C) (.type "ValueError") = some true)
    {f_gauge : Addr} {d_gauge : FuncData} (G_gauge : Cal P w K mg base (L2.CX P w) 5 2 (sp_gauge C) "gauge" f_gauge d_gauge ["points", "shape"])
    (m_ValueError : mg "ValueError" = none)
    (m_isinstance : mg "isinstance" = none) : FnOk P w K mg base CX0 6 f fd ["some", "form"] (lSp K 2 (sp__law_told C)) := by
  refine fn_vs F sc__law_told rfl (fun cdv A outer s H E hr => ?_)
  exact ⟨T__law_told C, (dss_one (ds_try1 rfl rfl sc__law_told.nd rfl rfl ⟨rfl, by decide, Or.inl X_Flat.gC⟩ X_Flat.te (fun W pn xe tk po => (dss_one (ds_ret (dcX G_gauge tk hr (da_cons (dv 0) (da_cons (dv 1) da_nil)))))) (fun a oe cls dd pn hz hf => (dss_one (ds_ret (de_lst (da_cons de_str (da_cons (de_fldFlat X_Flat hz hf (pv 2)) (da_cons (de_and (de_isX EI hz hf I_ValueError m_isinstance (pv 2) rfl m_ValueError (by decide +kernel)) (de_one (de_not (de_isO EI hz hf O_TooMany m_isinstance (pv 2) rfl g_TooMany)))) da_nil))))))))), fun args Φ hl h => rd__law_told h⟩
abbrev s__law_grown : Stmt := top 42
abbrev N__law_grown : List Str := (["some", "form", "n", "d", "out", "p", "q"] : List Str)
theorem sc__law_grown : FnScope N__law_grown ["some", "form", "n", "d"] (defScope s__law_grown) := ⟨rfl, rfl, rfl, by decide +kernel, rfl, by decide +kernel, by decide +kernel⟩

theorem ok__law_grown {f : Addr} {fd : FuncData} (F : Fun K "_law_grown" "_law_grown" s__law_grown f fd)
    {f__law_hull : Addr} {d__law_hull : FuncData} (G__law_hull : Cal P w K mg base CX0 3 1 sp__law_hull "_law_hull" f__law_hull d__law_hull ["some"]) : FnOk P w K mg base CX0 4 f fd ["some", "form", "n", "d"] (lSp K 4 sp__law_grown) := by
  refine fn_vs F sc__law_grown rfl (fun cdv A outer s H E hr => ?_)
  exact ⟨T__law_grown, (dss_cons (ds_setV (i := 4) sc__law_grown.nd rfl (Or.inl rfl) (de_lst da_nil))
  (dss_cut (ds_forL PassesOwn.never rfl (dv 0) (dg_name (i := 5) sc__law_grown.nd rfl (Or.inr rfl)) (dss_one (ds_setV (i := 4) sc__law_grown.nd rfl (Or.inl rfl) (de_addA (dv 4) (de_lcL (own := [("q", 6)]) rfl sc__law_grown.nd (dv 1) (blkOk_by (N := N__law_grown) (sc := defScope s__law_grown) (own := [("q", 6)]) (by decide +kernel)) (fun _ _ _ _ _ => (dg_name (i := 6) sc__law_grown.nd rfl (Or.inl rfl))) (fun _ _ _ _ _ => dts_nil) (fun _ _ _ _ _ => (de_tup (da_cons (de_addA (de_mulA (de_mulA (de_item (dv 5) de_int) (dv 3)) (de_item (dv 6) de_int)) (de_mulA (de_mulA (dv 2) (de_item (dv 6) de_int)) (de_item (dv 5) de_int))) (da_cons (de_addA (de_mulA (de_mulA (de_item (dv 5) de_int) (dv 3)) (de_item (dv 6) de_int)) (de_mulA (de_mulA (dv 2) (de_item (dv 6) de_int)) (de_item (dv 5) de_int))) (da_cons (de_mulA (de_mulA (de_item (dv 5) de_int) (dv 3)) (de_item (dv 6) de_int)) da_nil))))))))))
  (dss_one (ds_ret (dc G__law_hull hr (da_cons (dv 4) da_nil)))))), fun args Φ hl h => rd__law_grown h⟩
abbrev s__law_times : Stmt := top 43
abbrev N__law_times : List Str := (["some", "n", "d", "p"] : List Str)
theorem sc__law_times : FnScope N__law_times ["some", "n", "d"] (defScope s__law_times) := ⟨rfl, rfl, rfl, by decide +kernel, rfl, by decide +kernel, by decide +kernel⟩

theorem ok__law_times {f : Addr} {fd : FuncData} (F : Fun K "_law_times" "_law_times" s__law_times f fd)
     : FnOk P w K mg base CX0 1 f fd ["some", "n", "d"] (lSp K 3 sp__law_times) := by
  refine fn_vs F sc__law_times rfl (fun cdv A outer s H E hr => ?_)
  exact ⟨T__law_times, (dss_one (ds_ret (de_lcL (own := [("p", 3)]) rfl sc__law_times.nd (dv 0) (blkOk_by (N := N__law_times) (sc := defScope s__law_times) (own := [("p", 3)]) (by decide +kernel)) (fun _ _ _ _ _ => (dg_name (i := 3) sc__law_times.nd rfl (Or.inl rfl))) (fun _ _ _ _ _ => dts_nil) (fun _ _ _ _ _ => (de_tup (da_cons (de_mulA (de_item (dv 3) de_int) (dv 1)) (da_cons (de_mulA (de_item (dv 3) de_int) (dv 1)) (da_cons (de_mulA (de_item (dv 3) de_int) (dv 2)) da_nil)))))))), fun args Φ hl h => rd__law_times h⟩
abbrev s__law_number : Stmt := top 44
abbrev N__law_number : List Str := (["told", "x"] : List Str)
theorem sc__law_number : FnScope N__law_number ["told"] (defScope s__law_number) := ⟨rfl, rfl, rfl, by decide +kernel, rfl, by decide +kernel, by decide +kernel⟩

theorem ok__law_number {f : Addr} {fd : FuncData} (F : Fun K "_law_number" "_law_number" s__law_number f fd)
    {f__law_gcd : Addr} {d__law_gcd : FuncData} (G__law_gcd : Cal P w K mg base CX0 1 2 sp__law_gcd "_law_gcd" f__law_gcd d__law_gcd ["a", "b"])
    (m_all : mg "all" = none)
    (m_bool : mg "bool" = none)
    (m_int : mg "int" = none)
    (m_isinstance : mg "isinstance" = none)
    (m_len : mg "len" = none)
    (m_tuple : mg "tuple" = none) : FnOk P w K mg base CX0 2 f fd ["told"] (lSp K 1 sp__law_number) := by
  refine fn_vs F sc__law_number rfl (fun cdv A outer s H E hr => ?_)
  exact ⟨T__law_number, (dss_cut (ds_if (dt_w (dw_or (dt_not (by exact (dt_val (de_isi m_isinstance (dv 0) rfl m_tuple (by decide +kernel) isD_tuple)))) (dw_or1 (dt_ne hr.units (de_len m_len (da_cons (dv 0) da_nil)) de_int)))) (dss_one (ds_ret de_bl)) dss_nil)
  (dss_cut (ds_if (dt_not (by exact (dt_val (de_all rfl m_all (da_cons (de_lcT (own := [("x", 1)]) rfl sc__law_number.nd (dv 0) (blkOk_by (N := N__law_number) (sc := defScope s__law_number) (own := [("x", 1)]) (by decide +kernel)) (fun _ _ _ _ _ => (dg_name (i := 1) sc__law_number.nd rfl (Or.inl rfl))) (fun _ _ _ _ _ => dts_nil) (fun _ _ _ _ _ => (de_and (de_isi m_isinstance (dv 1) rfl m_int (by decide +kernel) isD_int) (de_one (de_not (de_isi m_isinstance (dv 1) rfl m_bool (by decide +kernel) isD_bool)))))) da_nil))))) (dss_one (ds_ret de_bl)) dss_nil)
  (dss_one (ds_ret (de_and (de_ge (de_item (dv 0) de_int) de_int) (de_and (de_gt (de_item (dv 0) de_int) de_int) (de_one (de_eq hr.units (dc G__law_gcd hr (da_cons (de_item (dv 0) de_int) (da_cons (de_item (dv 0) de_int) da_nil))) de_int)))))))), fun args Φ hl h => rd__law_number h⟩
abbrev s_law : Stmt := top 45
abbrev N_law : List Str := (["script", "bag", "zero", "k", "some", "x", "y", "form", "handed", "passed", "told", "n", "d", "a", "b", "g", "h", "p"] : List Str)
theorem sc_law : FnScope N_law ["script"] (defScope s_law) := ⟨rfl, rfl, rfl, by decide +kernel, rfl, by decide +kernel, by decide +kernel⟩

theorem ok_law {f : Addr} {fd : FuncData} (F : Fun K "law" "law" s_law f fd)
    {C fI : Addr} (X_Flat : PySem.FlatX.FlatTxt K mg C fI)
    {f__law_where : Addr} {d__law_where : FuncData} (G__law_where : Cal P w K mg base CX0 2 2 sp__law_where "_law_where" f__law_where d__law_where ["corners", "v"])
    {f__law_hull : Addr} {d__law_hull : FuncData} (G__law_hull : Cal P w K mg base CX0 3 1 sp__law_hull "_law_hull" f__law_hull d__law_hull ["some"])
    {f__law_like : Addr} {d__law_like : FuncData} (G__law_like : Cal P w K mg base CX0 4 2 (sp__law_like 3) "_law_like" f__law_like d__law_like ["told", "due"])
    {f__law_number : Addr} {d__law_number : FuncData} (G__law_number : Cal P w K mg base CX0 2 1 sp__law_number "_law_number" f__law_number d__law_number ["told"])
    {f_gauge : Addr} {d_gauge : FuncData} (G_gauge : Cal P w K mg base (L2.CX P w) 5 2 (sp_gauge C) "gauge" f_gauge d_gauge ["points", "shape"]) (kc_gauge : KwB2 d_gauge "points" "shape")
    {f__law_times : Addr} {d__law_times : FuncData} (G__law_times : Cal P w K mg base CX0 1 3 sp__law_times "_law_times" f__law_times d__law_times ["some", "n", "d"])
    {f__law_gcd : Addr} {d__law_gcd : FuncData} (G__law_gcd : Cal P w K mg base CX0 1 2 sp__law_gcd "_law_gcd" f__law_gcd d__law_gcd ["a", "b"])
    {f__law_draw : Addr} {d__law_draw : FuncData} (G__law_draw : Cal P w K mg base CX0 1 2 sp__law_draw "_law_draw" f__law_draw d__law_draw ["bag", "limit"])
    {f__law_grown : Addr} {d__law_grown : FuncData} (G__law_grown : Cal P w K mg base CX0 4 4 sp__law_grown "_law_grown" f__law_grown d__law_grown ["some", "form", "n", "d"])
    {f__law_told : Addr} {d__law_told : FuncData} (G__law_told : Cal P w K mg base CX0 6 2 (sp__law_told C) "_law_told" f__law_told d__law_told ["some", "form"])
    {f__law_form : Addr} {d__law_form : FuncData} (G__law_form : Cal P w K mg base CX0 4 1 sp__law_form "_law_form" f__law_form d__law_form ["bag"])
    {f__law_plane_points : Addr} {d__law_plane_points : FuncData} (G__law_plane_points : Cal P w K mg base CX0 4 1 sp__law_plane_points "_law_plane_points" f__law_plane_points d__law_plane_points ["bag"])
    {f__law_bag : Addr} {d__law_bag : FuncData} (G__law_bag : Cal P w K mg base CX0 1 1 sp__law_bag "_law_bag" f__law_bag d__law_bag ["script"])
    (m_list : mg "list" = none)
    (m_range : mg "range" = none)
    (m_tuple : mg "tuple" = none) : FnOk P w K mg base CX0 7 f fd ["script"] (lSp K 1 sp_law) := by
  refine fn_vs F sc_law rfl (fun cdv A outer s H E hr => ?_)
  exact ⟨T_law C, (dss_cut (ds_set (i := 1) sc_law.nd rfl (Or.inl rfl) (dc G__law_bag hr (da_cons (dv 0) da_nil)))
  (dss_cut (ds_setV (i := 2) sc_law.nd rfl (Or.inl rfl) (de_tup (da_cons de_int (da_cons de_int (da_cons de_int da_nil)))))
  (dss_cut (ds_forR1 m_range PassesOwn.never rfl (da_cons de_int da_nil) (dg_name (i := 3) sc_law.nd rfl (Or.inl rfl)) (dss_cut (ds_setV (i := 4) sc_law.nd rfl (Or.inl rfl) (de_slL (dc G__law_plane_points hr (da_cons (dv 1) da_nil)) do_none (do_some de_int)))
  (dss_cut (ds_if (dt_eq hr.units (dc G__law_draw hr (da_cons (dv 1) (da_cons de_int da_nil))) de_int) (dss_cut (ds_asg (de_tup (da_cons (de_sub (dc G__law_draw hr (da_cons (dv 1) (da_cons de_int da_nil))) de_int) (da_cons (de_sub (dc G__law_draw hr (da_cons (dv 1) (da_cons de_int da_nil))) de_int) da_nil))) (dg_tup rfl (dgs_cons (dg_name (i := 5) sc_law.nd rfl (Or.inr rfl)) (dgs_cons (dg_name (i := 6) sc_law.nd rfl (Or.inr rfl)) dgs_nil))))
  (dss_one (ds_setVlcL (own := [("p", 17)]) rfl sc_law.nd rfl rfl (sw_true rfl rfl rfl (by decide +kernel)) (dv 4) (blkOk_by (N := N_law) (sc := defScope s_law) (own := [("p", 17)]) (by decide +kernel)) (fun _ _ _ _ _ => (dg_name (i := 17) sc_law.nd rfl (Or.inl rfl))) (fun _ _ _ _ _ => dts_nil) (fun _ _ _ _ _ => (de_tup (da_cons (de_addA (de_item (dv 17) de_int) (de_mulA (dv 5) (de_item (dv 17) de_int))) (da_cons (de_addA (de_item (dv 17) de_int) (de_mulA (dv 6) (de_item (dv 17) de_int))) (da_cons (de_item (dv 17) de_int) da_nil)))))))) dss_nil)
  (dss_cut (ds_setV (i := 7) sc_law.nd rfl (Or.inl rfl) (dc G__law_form hr (da_cons (dv 1) da_nil)))
  (dss_cut (ds_par (i := 8) (j := 9) rfl sc_law.nd rfl rfl (by decide) rfl rfl (da_cons (de_listc m_list (da_cons (dv 4) da_nil)) (da_cons (de_listc m_list (da_cons (dv 7) da_nil)) da_nil)))
  (dss_frz 9 (dss_frz 8 (dss_cut (ds_setV (i := 10) sc_law.nd rfl (Or.inl rfl) (dc G__law_told hr (da_cons (dv 8) (da_cons (dv 9) da_nil))))
  (dss_cut (ds_if (dt_w (dw_or (dt_not (dt_val (dc G__law_like hr (da_cons (dv 8) (da_cons (dv 4) da_nil))))) (dw_or1 (dt_not (dt_val (dc G__law_like hr (da_cons (dv 9) (da_cons (dv 7) da_nil)))))))) (dss_one (ds_ret de_bl)) dss_nil)
  (dss_one (ds_if (dt_w (dw_or (dt_eq hr.units (dv 7) (de_lst da_nil)) (dw_or1 (dt_lt (dc G__law_where hr (da_cons (dc G__law_hull hr (da_cons (dv 7) da_nil)) (da_cons (dv 2) da_nil))) de_int)))) (dss_one (ds_if (dt_not (dt_val (dc G__law_like hr (da_cons (dv 10) (da_cons (de_lst (da_cons de_str (da_cons de_str (da_cons de_bl da_nil)))) da_nil))))) (dss_one (ds_ret de_bl)) dss_nil)) (dss_one (ds_if (dt_not (dt_val (dc G__law_number hr (da_cons (dv 10) da_nil)))) (dss_one (ds_ret de_bl)) (dss_one (ds_if (dt_ge (dc G__law_where hr (da_cons (dc G__law_hull hr (da_cons (dv 4) da_nil)) (da_cons (dv 2) da_nil))) de_int) (dss_one (ds_if (dt_not (dt_val (dc G__law_like hr (da_cons (dv 10) (da_cons (de_tup (da_cons de_int (da_cons de_int da_nil))) da_nil))))) (dss_one (ds_ret de_bl)) dss_nil)) (dss_cut (ds_asg (dv 10) (dg_tup rfl (dgs_cons (dg_name (i := 11) sc_law.nd rfl (Or.inl rfl)) (dgs_cons (dg_name (i := 12) sc_law.nd rfl (Or.inl rfl)) dgs_nil))))
  (dss_cut (ds_if (dt_w (dw_or (dt_eq hr.units (dv 11) de_int) (dw_or1 (dt_ne hr.units (dc G__law_where hr (da_cons (dc G__law_grown hr (da_cons (dv 4) (da_cons (dv 7) (da_cons (dv 11) (da_cons (dv 12) da_nil))))) (da_cons (dv 2) da_nil))) de_int)))) (dss_one (ds_ret de_bl)) dss_nil)
  (dss_cut (ds_par (i := 13) (j := 14) rfl sc_law.nd rfl rfl (by decide) rfl rfl (da_cons (de_addA de_int (dc G__law_draw hr (da_cons (dv 1) (da_cons de_int da_nil)))) (da_cons (de_addA de_int (dc G__law_draw hr (da_cons (dv 1) (da_cons de_int da_nil)))) da_nil)))
  (dss_cut (ds_par (i := 15) (j := 16) rfl sc_law.nd rfl rfl (by decide) rfl rfl (da_cons (dc G__law_gcd hr (da_cons (de_mulA (dv 11) (dv 13)) (da_cons (de_mulA (dv 12) (dv 14)) da_nil))) (da_cons (dc G__law_gcd hr (da_cons (de_mulA (dv 11) (dv 14)) (da_cons (de_mulA (dv 12) (dv 13)) da_nil))) da_nil)))
  (dss_cut (ds_if (dt_not (dt_val (dc G__law_like hr (da_cons (dcQ G_gauge hr (da_cons (dc G__law_times hr (da_cons (dv 4) (da_cons (dv 13) (da_cons (dv 14) da_nil)))) (da_cons (de_tupc m_tuple (da_cons (dv 7) da_nil)) da_nil))) (da_cons (de_tup (da_cons (de_fdiv (de_mulA (dv 11) (dv 13)) (dv 15)) (da_cons (de_fdiv (de_mulA (dv 12) (dv 14)) (dv 15)) da_nil))) da_nil))))) (dss_one (ds_ret de_bl)) dss_nil)
  (dss_one (ds_if (dt_not (dt_val (dc G__law_like hr (da_cons (dcK2Q G_gauge kc_gauge hr (dk_cons (dc G__law_times hr (da_cons (dv 7) (da_cons (dv 13) (da_cons (dv 14) da_nil)))) (dk_cons (dv 4) dk_nil))) (da_cons (de_tup (da_cons (de_fdiv (de_mulA (dv 11) (dv 14)) (dv 16)) (da_cons (de_fdiv (de_mulA (dv 12) (dv 13)) (dv 16)) da_nil))) da_nil))))) (dss_one (ds_ret de_bl)) dss_nil))))))))))))))))))))))
  (dss_one (ds_ret de_bl))))), fun args Φ hl h => rd_law h⟩
end
/-! ### what the top has written; the law's own head -/
theorem exm_own {K : PySem.W.Frag} {S : Addr} (h1 : PySem.W.subIn K (.ref S) (.type "BaseException") = some true) (h2 : PySem.W.isClsIn K S = true) (h3 : PySem.W.typeIn K (.ref S) = some (.type "type")) (h4 : PySem.W.subIn K (.ref S) (.ref S) = some true) : PySem.W.exmOne K (.ref S) (.ref S) = some true := by
  have e1 : (PySem.W.subIn K (.ref S) (.type "BaseException") == some true) = true := by rw [h1] <;> rfl
  have e2 : ((PySem.W.clsIn K S).isSome && PySem.W.typeIn K (.ref S) == some (.type "type")) = true := by
    have h5 : (PySem.W.clsIn K S).isSome = true := h2
    rw [h5, h3] <;> rfl
  show (if (PySem.W.subIn K (.ref S) (.type "BaseException") == some true) = true then (if ((PySem.W.clsIn K S).isSome && PySem.W.typeIn K (.ref S) == some (.type "type")) = true then PySem.W.subIn K (.ref S) (.ref S) else none) else none) = some true
  rw [if_pos e1, if_pos e2]
  exact h4
set_option maxHeartbeats 0 in
theorem all_mk {l : PySem.W.OpenLaw} {w : World} {K : PySem.W.Frag} {h : Heap} {mg : Str → Option Value} {fa : Addr} (X : K.In h) (G : h.Ns mainGlobals mg) (hfa : mg "law" = some (.ref fa))
    {oc1 kV1 dc1 pm1 cd1 ct1 : Value} {od1 an1 : Option Addr} {sl1 : Array (Option Value)} {f1 : Addr}
    (a1 : PySem.W.nsIn K mainGlobals "lowest" = some (some (.ref f1)))
    (l1 : K.lookup f1 = some ⟨oc1, od1, .func (PySem.W.fnOf "lowest" "lowest" (defArgs s_lowest) (defBody s_lowest) (defScope s_lowest) .none kV1 dc1 pm1 an1 cd1 ct1), sl1⟩)
    (c1 : PySem.W.codeIn K cd1 "lowest" = true) (k1 : PySem.W.keepIn K (.ref f1) = true)
    {oc2 kV2 dc2 pm2 cd2 ct2 : Value} {od2 an2 : Option Addr} {sl2 : Array (Option Value)} {f2 : Addr}
    (a2 : PySem.W.nsIn K mainGlobals "point_of" = some (some (.ref f2)))
    (l2 : K.lookup f2 = some ⟨oc2, od2, .func (PySem.W.fnOf "point_of" "point_of" (defArgs s_point_of) (defBody s_point_of) (defScope s_point_of) .none kV2 dc2 pm2 an2 cd2 ct2), sl2⟩)
    (c2 : PySem.W.codeIn K cd2 "point_of" = true) (k2 : PySem.W.keepIn K (.ref f2) = true)
    {oc3 kV3 dc3 pm3 cd3 ct3 : Value} {od3 an3 : Option Addr} {sl3 : Array (Option Value)} {f3 : Addr}
    (a3 : PySem.W.nsIn K mainGlobals "left_turn" = some (some (.ref f3)))
    (l3 : K.lookup f3 = some ⟨oc3, od3, .func (PySem.W.fnOf "left_turn" "left_turn" (defArgs s_left_turn) (defBody s_left_turn) (defScope s_left_turn) .none kV3 dc3 pm3 an3 cd3 ct3), sl3⟩)
    (c3 : PySem.W.codeIn K cd3 "left_turn" = true) (k3 : PySem.W.keepIn K (.ref f3) = true)
    {oc4 kV4 dc4 pm4 cd4 ct4 : Value} {od4 an4 : Option Addr} {sl4 : Array (Option Value)} {f4 : Addr}
    (a4 : PySem.W.nsIn K mainGlobals "is_before" = some (some (.ref f4)))
    (l4 : K.lookup f4 = some ⟨oc4, od4, .func (PySem.W.fnOf "is_before" "is_before" (defArgs s_is_before) (defBody s_is_before) (defScope s_is_before) .none kV4 dc4 pm4 an4 cd4 ct4), sl4⟩)
    (c4 : PySem.W.codeIn K cd4 "is_before" = true) (k4 : PySem.W.keepIn K (.ref f4) = true)
    {oc5 kV5 dc5 pm5 cd5 ct5 : Value} {od5 an5 : Option Addr} {sl5 : Array (Option Value)} {f5 : Addr}
    (a5 : PySem.W.nsIn K mainGlobals "in_order" = some (some (.ref f5)))
    (l5 : K.lookup f5 = some ⟨oc5, od5, .func (PySem.W.fnOf "in_order" "in_order" (defArgs s_in_order) (defBody s_in_order) (defScope s_in_order) .none kV5 dc5 pm5 an5 cd5 ct5), sl5⟩)
    (c5 : PySem.W.codeIn K cd5 "in_order" = true) (k5 : PySem.W.keepIn K (.ref f5) = true)
    {oc6 kV6 dc6 pm6 cd6 ct6 : Value} {od6 an6 : Option Addr} {sl6 : Array (Option Value)} {f6 : Addr}
    (a6 : PySem.W.nsIn K mainGlobals "rim_along" = some (some (.ref f6)))
    (l6 : K.lookup f6 = some ⟨oc6, od6, .func (PySem.W.fnOf "rim_along" "rim_along" (defArgs s_rim_along) (defBody s_rim_along) (defScope s_rim_along) .none kV6 dc6 pm6 an6 cd6 ct6), sl6⟩)
    (c6 : PySem.W.codeIn K cd6 "rim_along" = true) (k6 : PySem.W.keepIn K (.ref f6) = true)
    {oc7 kV7 dc7 pm7 cd7 ct7 : Value} {od7 an7 : Option Addr} {sl7 : Array (Option Value)} {f7 : Addr}
    (a7 : PySem.W.nsIn K mainGlobals "hull_corners" = some (some (.ref f7)))
    (l7 : K.lookup f7 = some ⟨oc7, od7, .func (PySem.W.fnOf "hull_corners" "hull_corners" (defArgs s_hull_corners) (defBody s_hull_corners) (defScope s_hull_corners) .none kV7 dc7 pm7 an7 cd7 ct7), sl7⟩)
    (c7 : PySem.W.codeIn K cd7 "hull_corners" = true) (k7 : PySem.W.keepIn K (.ref f7) = true)
    {oc8 kV8 dc8 pm8 cd8 ct8 : Value} {od8 an8 : Option Addr} {sl8 : Array (Option Value)} {f8 : Addr}
    (a8 : PySem.W.nsIn K mainGlobals "step_along" = some (some (.ref f8)))
    (l8 : K.lookup f8 = some ⟨oc8, od8, .func (PySem.W.fnOf "step_along" "step_along" (defArgs s_step_along) (defBody s_step_along) (defScope s_step_along) .none kV8 dc8 pm8 an8 cd8 ct8), sl8⟩)
    (c8 : PySem.W.codeIn K cd8 "step_along" = true) (k8 : PySem.W.keepIn K (.ref f8) = true)
    {oc9 kV9 dc9 pm9 cd9 ct9 : Value} {od9 an9 : Option Addr} {sl9 : Array (Option Value)} {f9 : Addr}
    (a9 : PySem.W.nsIn K mainGlobals "directions" = some (some (.ref f9)))
    (l9 : K.lookup f9 = some ⟨oc9, od9, .func (PySem.W.fnOf "directions" "directions" (defArgs s_directions) (defBody s_directions) (defScope s_directions) .none kV9 dc9 pm9 an9 cd9 ct9), sl9⟩)
    (c9 : PySem.W.codeIn K cd9 "directions" = true) (k9 : PySem.W.keepIn K (.ref f9) = true)
    {oc10 kV10 dc10 pm10 cd10 ct10 : Value} {od10 an10 : Option Addr} {sl10 : Array (Option Value)} {f10 : Addr}
    (a10 : PySem.W.nsIn K mainGlobals "cross" = some (some (.ref f10)))
    (l10 : K.lookup f10 = some ⟨oc10, od10, .func (PySem.W.fnOf "cross" "cross" (defArgs s_cross) (defBody s_cross) (defScope s_cross) .none kV10 dc10 pm10 an10 cd10 ct10), sl10⟩)
    (c10 : PySem.W.codeIn K cd10 "cross" = true) (k10 : PySem.W.keepIn K (.ref f10) = true)
    {oc11 kV11 dc11 pm11 cd11 ct11 : Value} {od11 an11 : Option Addr} {sl11 : Array (Option Value)} {f11 : Addr}
    (a11 : PySem.W.nsIn K mainGlobals "rightmost" = some (some (.ref f11)))
    (l11 : K.lookup f11 = some ⟨oc11, od11, .func (PySem.W.fnOf "rightmost" "rightmost" (defArgs s_rightmost) (defBody s_rightmost) (defScope s_rightmost) .none kV11 dc11 pm11 an11 cd11 ct11), sl11⟩)
    (c11 : PySem.W.codeIn K cd11 "rightmost" = true) (k11 : PySem.W.keepIn K (.ref f11) = true)
    {oc12 kV12 dc12 pm12 cd12 ct12 : Value} {od12 an12 : Option Addr} {sl12 : Array (Option Value)} {f12 : Addr}
    (a12 : PySem.W.nsIn K mainGlobals "side_found" = some (some (.ref f12)))
    (l12 : K.lookup f12 = some ⟨oc12, od12, .func (PySem.W.fnOf "side_found" "side_found" (defArgs s_side_found) (defBody s_side_found) (defScope s_side_found) .none kV12 dc12 pm12 an12 cd12 ct12), sl12⟩)
    (c12 : PySem.W.codeIn K cd12 "side_found" = true) (k12 : PySem.W.keepIn K (.ref f12) = true)
    {oc13 kV13 dc13 pm13 cd13 ct13 : Value} {od13 an13 : Option Addr} {sl13 : Array (Option Value)} {f13 : Addr}
    (a13 : PySem.W.nsIn K mainGlobals "touches_zero" = some (some (.ref f13)))
    (l13 : K.lookup f13 = some ⟨oc13, od13, .func (PySem.W.fnOf "touches_zero" "touches_zero" (defArgs s_touches_zero) (defBody s_touches_zero) (defScope s_touches_zero) .none kV13 dc13 pm13 an13 cd13 ct13), sl13⟩)
    (c13 : PySem.W.codeIn K cd13 "touches_zero" = true) (k13 : PySem.W.keepIn K (.ref f13) = true)
    {oc14 kV14 dc14 pm14 cd14 ct14 : Value} {od14 an14 : Option Addr} {sl14 : Array (Option Value)} {f14 : Addr}
    (a14 : PySem.W.nsIn K mainGlobals "normals" = some (some (.ref f14)))
    (l14 : K.lookup f14 = some ⟨oc14, od14, .func (PySem.W.fnOf "normals" "normals" (defArgs s_normals) (defBody s_normals) (defScope s_normals) .none kV14 dc14 pm14 an14 cd14 ct14), sl14⟩)
    (c14 : PySem.W.codeIn K cd14 "normals" = true) (k14 : PySem.W.keepIn K (.ref f14) = true)
    {oc15 kV15 dc15 pm15 cd15 ct15 : Value} {od15 an15 : Option Addr} {sl15 : Array (Option Value)} {f15 : Addr}
    (a15 : PySem.W.nsIn K mainGlobals "least_value" = some (some (.ref f15)))
    (l15 : K.lookup f15 = some ⟨oc15, od15, .func (PySem.W.fnOf "least_value" "least_value" (defArgs s_least_value) (defBody s_least_value) (defScope s_least_value) .none kV15 dc15 pm15 an15 cd15 ct15), sl15⟩)
    (c15 : PySem.W.codeIn K cd15 "least_value" = true) (k15 : PySem.W.keepIn K (.ref f15) = true)
    {oc16 kV16 dc16 pm16 cd16 ct16 : Value} {od16 an16 : Option Addr} {sl16 : Array (Option Value)} {f16 : Addr}
    (a16 : PySem.W.nsIn K mainGlobals "gauge_of" = some (some (.ref f16)))
    (l16 : K.lookup f16 = some ⟨oc16, od16, .func (PySem.W.fnOf "gauge_of" "gauge_of" (defArgs s_gauge_of) (defBody s_gauge_of) (defScope s_gauge_of) .none kV16 dc16 pm16 an16 cd16 ct16), sl16⟩)
    (c16 : PySem.W.codeIn K cd16 "gauge_of" = true) (k16 : PySem.W.keepIn K (.ref f16) = true)
    {oc17 kV17 dc17 pm17 cd17 ct17 : Value} {od17 an17 : Option Addr} {sl17 : Array (Option Value)} {f17 : Addr}
    (a17 : PySem.W.nsIn K mainGlobals "gauge" = some (some (.ref f17)))
    (l17 : K.lookup f17 = some ⟨oc17, od17, .func (PySem.W.fnOf "gauge" "gauge" (defArgs s_gauge) (defBody s_gauge) (defScope s_gauge) .none kV17 dc17 pm17 an17 cd17 ct17), sl17⟩)
    (c17 : PySem.W.codeIn K cd17 "gauge" = true) (k17 : PySem.W.keepIn K (.ref f17) = true)
    {oc18 kV18 dc18 pm18 cd18 ct18 : Value} {od18 an18 : Option Addr} {sl18 : Array (Option Value)} {f18 : Addr}
    (a18 : PySem.W.nsIn K mainGlobals "_law_bag" = some (some (.ref f18)))
    (l18 : K.lookup f18 = some ⟨oc18, od18, .func (PySem.W.fnOf "_law_bag" "_law_bag" (defArgs s__law_bag) (defBody s__law_bag) (defScope s__law_bag) .none kV18 dc18 pm18 an18 cd18 ct18), sl18⟩)
    (c18 : PySem.W.codeIn K cd18 "_law_bag" = true) (k18 : PySem.W.keepIn K (.ref f18) = true)
    {oc19 kV19 dc19 pm19 cd19 ct19 : Value} {od19 an19 : Option Addr} {sl19 : Array (Option Value)} {f19 : Addr}
    (a19 : PySem.W.nsIn K mainGlobals "_law_draw" = some (some (.ref f19)))
    (l19 : K.lookup f19 = some ⟨oc19, od19, .func (PySem.W.fnOf "_law_draw" "_law_draw" (defArgs s__law_draw) (defBody s__law_draw) (defScope s__law_draw) .none kV19 dc19 pm19 an19 cd19 ct19), sl19⟩)
    (c19 : PySem.W.codeIn K cd19 "_law_draw" = true) (k19 : PySem.W.keepIn K (.ref f19) = true)
    {oc20 kV20 dc20 pm20 cd20 ct20 : Value} {od20 an20 : Option Addr} {sl20 : Array (Option Value)} {f20 : Addr}
    (a20 : PySem.W.nsIn K mainGlobals "_law_of" = some (some (.ref f20)))
    (l20 : K.lookup f20 = some ⟨oc20, od20, .func (PySem.W.fnOf "_law_of" "_law_of" (defArgs s__law_of) (defBody s__law_of) (defScope s__law_of) .none kV20 dc20 pm20 an20 cd20 ct20), sl20⟩)
    (c20 : PySem.W.codeIn K cd20 "_law_of" = true) (k20 : PySem.W.keepIn K (.ref f20) = true)
    {oc21 kV21 dc21 pm21 cd21 ct21 : Value} {od21 an21 : Option Addr} {sl21 : Array (Option Value)} {f21 : Addr}
    (a21 : PySem.W.nsIn K mainGlobals "_law_shuffled" = some (some (.ref f21)))
    (l21 : K.lookup f21 = some ⟨oc21, od21, .func (PySem.W.fnOf "_law_shuffled" "_law_shuffled" (defArgs s__law_shuffled) (defBody s__law_shuffled) (defScope s__law_shuffled) .none kV21 dc21 pm21 an21 cd21 ct21), sl21⟩)
    (c21 : PySem.W.codeIn K cd21 "_law_shuffled" = true) (k21 : PySem.W.keepIn K (.ref f21) = true)
    {oc22 kV22 dc22 pm22 cd22 ct22 : Value} {od22 an22 : Option Addr} {sl22 : Array (Option Value)} {f22 : Addr}
    (a22 : PySem.W.nsIn K mainGlobals "_law_like" = some (some (.ref f22)))
    (l22 : K.lookup f22 = some ⟨oc22, od22, .func (PySem.W.fnOf "_law_like" "_law_like" (defArgs s__law_like) (defBody s__law_like) (defScope s__law_like) .none kV22 dc22 pm22 an22 cd22 ct22), sl22⟩)
    (c22 : PySem.W.codeIn K cd22 "_law_like" = true) (k22 : PySem.W.keepIn K (.ref f22) = true)
    {oc23 kV23 dc23 pm23 cd23 ct23 : Value} {od23 an23 : Option Addr} {sl23 : Array (Option Value)} {f23 : Addr}
    (a23 : PySem.W.nsIn K mainGlobals "_law_gcd" = some (some (.ref f23)))
    (l23 : K.lookup f23 = some ⟨oc23, od23, .func (PySem.W.fnOf "_law_gcd" "_law_gcd" (defArgs s__law_gcd) (defBody s__law_gcd) (defScope s__law_gcd) .none kV23 dc23 pm23 an23 cd23 ct23), sl23⟩)
    (c23 : PySem.W.codeIn K cd23 "_law_gcd" = true) (k23 : PySem.W.keepIn K (.ref f23) = true)
    {oc24 kV24 dc24 pm24 cd24 ct24 : Value} {od24 an24 : Option Addr} {sl24 : Array (Option Value)} {f24 : Addr}
    (a24 : PySem.W.nsIn K mainGlobals "_law_lowest" = some (some (.ref f24)))
    (l24 : K.lookup f24 = some ⟨oc24, od24, .func (PySem.W.fnOf "_law_lowest" "_law_lowest" (defArgs s__law_lowest) (defBody s__law_lowest) (defScope s__law_lowest) .none kV24 dc24 pm24 an24 cd24 ct24), sl24⟩)
    (c24 : PySem.W.codeIn K cd24 "_law_lowest" = true) (k24 : PySem.W.keepIn K (.ref f24) = true)
    {oc25 kV25 dc25 pm25 cd25 ct25 : Value} {od25 an25 : Option Addr} {sl25 : Array (Option Value)} {f25 : Addr}
    (a25 : PySem.W.nsIn K mainGlobals "_law_turn" = some (some (.ref f25)))
    (l25 : K.lookup f25 = some ⟨oc25, od25, .func (PySem.W.fnOf "_law_turn" "_law_turn" (defArgs s__law_turn) (defBody s__law_turn) (defScope s__law_turn) .none kV25 dc25 pm25 an25 cd25 ct25), sl25⟩)
    (c25 : PySem.W.codeIn K cd25 "_law_turn" = true) (k25 : PySem.W.keepIn K (.ref f25) = true)
    {oc26 kV26 dc26 pm26 cd26 ct26 : Value} {od26 an26 : Option Addr} {sl26 : Array (Option Value)} {f26 : Addr}
    (a26 : PySem.W.nsIn K mainGlobals "_law_far" = some (some (.ref f26)))
    (l26 : K.lookup f26 = some ⟨oc26, od26, .func (PySem.W.fnOf "_law_far" "_law_far" (defArgs s__law_far) (defBody s__law_far) (defScope s__law_far) .none kV26 dc26 pm26 an26 cd26 ct26), sl26⟩)
    (c26 : PySem.W.codeIn K cd26 "_law_far" = true) (k26 : PySem.W.keepIn K (.ref f26) = true)
    {oc27 kV27 dc27 pm27 cd27 ct27 : Value} {od27 an27 : Option Addr} {sl27 : Array (Option Value)} {f27 : Addr}
    (a27 : PySem.W.nsIn K mainGlobals "_law_hull" = some (some (.ref f27)))
    (l27 : K.lookup f27 = some ⟨oc27, od27, .func (PySem.W.fnOf "_law_hull" "_law_hull" (defArgs s__law_hull) (defBody s__law_hull) (defScope s__law_hull) .none kV27 dc27 pm27 an27 cd27 ct27), sl27⟩)
    (c27 : PySem.W.codeIn K cd27 "_law_hull" = true) (k27 : PySem.W.keepIn K (.ref f27) = true)
    {oc28 kV28 dc28 pm28 cd28 ct28 : Value} {od28 an28 : Option Addr} {sl28 : Array (Option Value)} {f28 : Addr}
    (a28 : PySem.W.nsIn K mainGlobals "_law_where" = some (some (.ref f28)))
    (l28 : K.lookup f28 = some ⟨oc28, od28, .func (PySem.W.fnOf "_law_where" "_law_where" (defArgs s__law_where) (defBody s__law_where) (defScope s__law_where) .none kV28 dc28 pm28 an28 cd28 ct28), sl28⟩)
    (c28 : PySem.W.codeIn K cd28 "_law_where" = true) (k28 : PySem.W.keepIn K (.ref f28) = true)
    {oc29 kV29 dc29 pm29 cd29 ct29 : Value} {od29 an29 : Option Addr} {sl29 : Array (Option Value)} {f29 : Addr}
    (a29 : PySem.W.nsIn K mainGlobals "_law_point" = some (some (.ref f29)))
    (l29 : K.lookup f29 = some ⟨oc29, od29, .func (PySem.W.fnOf "_law_point" "_law_point" (defArgs s__law_point) (defBody s__law_point) (defScope s__law_point) .none kV29 dc29 pm29 an29 cd29 ct29), sl29⟩)
    (c29 : PySem.W.codeIn K cd29 "_law_point" = true) (k29 : PySem.W.keepIn K (.ref f29) = true)
    {oc30 kV30 dc30 pm30 cd30 ct30 : Value} {od30 an30 : Option Addr} {sl30 : Array (Option Value)} {f30 : Addr}
    (a30 : PySem.W.nsIn K mainGlobals "_law_plane_points" = some (some (.ref f30)))
    (l30 : K.lookup f30 = some ⟨oc30, od30, .func (PySem.W.fnOf "_law_plane_points" "_law_plane_points" (defArgs s__law_plane_points) (defBody s__law_plane_points) (defScope s__law_plane_points) .none kV30 dc30 pm30 an30 cd30 ct30), sl30⟩)
    (c30 : PySem.W.codeIn K cd30 "_law_plane_points" = true) (k30 : PySem.W.keepIn K (.ref f30) = true)
    {oc31 kV31 dc31 pm31 cd31 ct31 : Value} {od31 an31 : Option Addr} {sl31 : Array (Option Value)} {f31 : Addr}
    (a31 : PySem.W.nsIn K mainGlobals "_law_form" = some (some (.ref f31)))
    (l31 : K.lookup f31 = some ⟨oc31, od31, .func (PySem.W.fnOf "_law_form" "_law_form" (defArgs s__law_form) (defBody s__law_form) (defScope s__law_form) .none kV31 dc31 pm31 an31 cd31 ct31), sl31⟩)
    (c31 : PySem.W.codeIn K cd31 "_law_form" = true) (k31 : PySem.W.keepIn K (.ref f31) = true)
    {oc32 kV32 dc32 pm32 cd32 ct32 : Value} {od32 an32 : Option Addr} {sl32 : Array (Option Value)} {f32 : Addr}
    (a32 : PySem.W.nsIn K mainGlobals "_law_told" = some (some (.ref f32)))
    (l32 : K.lookup f32 = some ⟨oc32, od32, .func (PySem.W.fnOf "_law_told" "_law_told" (defArgs s__law_told) (defBody s__law_told) (defScope s__law_told) .none kV32 dc32 pm32 an32 cd32 ct32), sl32⟩)
    (c32 : PySem.W.codeIn K cd32 "_law_told" = true) (k32 : PySem.W.keepIn K (.ref f32) = true)
    {oc33 kV33 dc33 pm33 cd33 ct33 : Value} {od33 an33 : Option Addr} {sl33 : Array (Option Value)} {f33 : Addr}
    (a33 : PySem.W.nsIn K mainGlobals "_law_grown" = some (some (.ref f33)))
    (l33 : K.lookup f33 = some ⟨oc33, od33, .func (PySem.W.fnOf "_law_grown" "_law_grown" (defArgs s__law_grown) (defBody s__law_grown) (defScope s__law_grown) .none kV33 dc33 pm33 an33 cd33 ct33), sl33⟩)
    (c33 : PySem.W.codeIn K cd33 "_law_grown" = true) (k33 : PySem.W.keepIn K (.ref f33) = true)
    {oc34 kV34 dc34 pm34 cd34 ct34 : Value} {od34 an34 : Option Addr} {sl34 : Array (Option Value)} {f34 : Addr}
    (a34 : PySem.W.nsIn K mainGlobals "_law_times" = some (some (.ref f34)))
    (l34 : K.lookup f34 = some ⟨oc34, od34, .func (PySem.W.fnOf "_law_times" "_law_times" (defArgs s__law_times) (defBody s__law_times) (defScope s__law_times) .none kV34 dc34 pm34 an34 cd34 ct34), sl34⟩)
    (c34 : PySem.W.codeIn K cd34 "_law_times" = true) (k34 : PySem.W.keepIn K (.ref f34) = true)
    {oc35 kV35 dc35 pm35 cd35 ct35 : Value} {od35 an35 : Option Addr} {sl35 : Array (Option Value)} {f35 : Addr}
    (a35 : PySem.W.nsIn K mainGlobals "_law_number" = some (some (.ref f35)))
    (l35 : K.lookup f35 = some ⟨oc35, od35, .func (PySem.W.fnOf "_law_number" "_law_number" (defArgs s__law_number) (defBody s__law_number) (defScope s__law_number) .none kV35 dc35 pm35 an35 cd35 ct35), sl35⟩)
    (c35 : PySem.W.codeIn K cd35 "_law_number" = true) (k35 : PySem.W.keepIn K (.ref f35) = true)
    {oc36 kV36 dc36 pm36 cd36 ct36 : Value} {od36 an36 : Option Addr} {sl36 : Array (Option Value)} {f36 : Addr}
    (a36 : PySem.W.nsIn K mainGlobals "law" = some (some (.ref f36)))
    (l36 : K.lookup f36 = some ⟨oc36, od36, .func (PySem.W.fnOf "law" "law" (defArgs s_law) (defBody s_law) (defScope s_law) .none kV36 dc36 pm36 an36 cd36 ct36), sl36⟩)
    (c36 : PySem.W.codeIn K cd36 "law" = true) (k36 : PySem.W.keepIn K (.ref f36) = true)
    {nm q : Str} {N C fI : Addr} {bs : List Value} {sn : List Str} {sub : List Value} {ab : Bool} {col : Option Bool} {dd : Option Addr} {m0 m1 m2 m3 m5 : Option Value} {odE anE : Option Addr} {slE : Array (Option Value)} {ocE dcE pmE cdE ctE : Value} {p1 p2 q1 q2 q3 q4 : Pos}
    (eA : PySem.W.nsIn K mainGlobals "Flat" = some (some (.ref C)))
    (eX : K.lookup C = some (excClassObj nm q C N bs [.type "ValueError", .type "Exception", .type "BaseException", .type "object"] true sn sub ab col dd m0 m1 m2 m3 m5 "ValueError.__new__"))
    (eS : PySem.W.findIn K (.ref C) "__setattr__" = some (some (.builtin "object.__setattr__"))) (eG : PySem.W.findIn K (.ref C) "__getattribute__" = some (some (.builtin "BaseException.__getattribute__"))) (eH : PySem.W.findIn K (.ref C) "__getattr__" = some none) (eN : PySem.W.findIn K (.ref C) "corner" = some none)
    (eI : PySem.W.findIn K (.ref C) "__init__" = some (some (.ref fI))) (eT : PySem.W.typeIn K (.ref fI) = some (.type "function"))
    (eL : K.lookup fI = some ⟨ocE, odE, .func (PySem.W.fnOf "__init__" "Flat.__init__" (PySem.FlatX.iA p1 p2) (PySem.FlatX.iB q1 q2 q3 q4) PySem.FlatX.iS .none .none dcE pmE anE cdE ctE), slE⟩) (eC : PySem.W.codeIn K cdE "Flat.__init__" = true)
    (eK : PySem.W.keepIn K (.ref C) = true) (eE : PySem.W.subIn K (.ref C) (.type "BaseException") = some true) (eY : PySem.W.typeIn K (.ref C) = some (.type "type")) (eD : PySem.W.hasDictIn K C = true) (eO : PySem.W.isClsIn K C = true) (eU : PySem.W.subIn K (.ref C) (.ref C) = some true)
    (j1 : PySem.W.findIn K (.ref C) "__class__" = some (some (.builtin "object.__class__"))) (j2 : PySem.W.specialIn K (.builtin "object.__class__") "__get__" = some (some (.builtin "getset_descriptor.__get__")))
    (j3 : PySem.W.takesIn K (.builtin "object.__class__") = some true) (j4 : PySem.W.mroIn K C (.type "object") = some true)
    (i_ValueError : PySem.W.kitOne K (.ref C) (.type "ValueError") = some true)
    {C_TooMany : Addr} (g_TooMany : PySem.W.nsIn K mainGlobals "TooMany" = some (some (.ref C_TooMany))) (o_TooMany : PySem.W.kitOne K (.ref C) (.ref C_TooMany) = some false)
    (z_ValueError : PySem.W.nsIn K mainGlobals "ValueError" = some none)
    (z_abs : PySem.W.nsIn K mainGlobals "abs" = some none)
    (z_all : PySem.W.nsIn K mainGlobals "all" = some none)
    (z_bool : PySem.W.nsIn K mainGlobals "bool" = some none)
    (z_dict : PySem.W.nsIn K mainGlobals "dict" = some none)
    (z_gcd : PySem.W.nsIn K mainGlobals "gcd" = some (some (.builtin "math.gcd")))
    (z_int : PySem.W.nsIn K mainGlobals "int" = some none)
    (z_isinstance : PySem.W.nsIn K mainGlobals "isinstance" = some none)
    (z_len : PySem.W.nsIn K mainGlobals "len" = some none)
    (z_list : PySem.W.nsIn K mainGlobals "list" = some none)
    (z_min : PySem.W.nsIn K mainGlobals "min" = some none)
    (z_range : PySem.W.nsIn K mainGlobals "range" = some none)
    (z_str : PySem.W.nsIn K mainGlobals "str" = some none)
    (z_tuple : PySem.W.nsIn K mainGlobals "tuple" = some none)
    (z_zip : PySem.W.nsIn K mainGlobals "zip" = some none) :
    ∃ fd : FuncData, (∀ (s : Shared) (v : Value), BindsTo s fd ⟨[v], []⟩ [("script", v)]) ∧ ∀ base : Heap, K.In base → base.Ns mainGlobals mg → FnOk l.prog w K mg base CX0 7 fa fd ["script"] (lSp K 1 sp_law) := by
  have e := hfa.symm.trans (PySem.W.mg_of X G a36)
  cases e
  have F1 := fun_mk (st := s_lowest) l1 c1 k1
  have b1 := F1.binds (ps := ["top", "bottom"]) fun _ _ _ _ _ _ us hl => match us, hl with | [_, _], _ => rfl
  have F2 := fun_mk (st := s_point_of) l2 c2 k2
  have b2 := F2.binds (ps := ["x", "y", "w"]) fun _ _ _ _ _ _ us hl => match us, hl with | [_, _, _], _ => rfl
  have F3 := fun_mk (st := s_left_turn) l3 c3 k3
  have b3 := F3.binds (ps := ["p", "q", "r"]) fun _ _ _ _ _ _ us hl => match us, hl with | [_, _, _], _ => rfl
  have F4 := fun_mk (st := s_is_before) l4 c4 k4
  have b4 := F4.binds (ps := ["p", "q"]) fun _ _ _ _ _ _ us hl => match us, hl with | [_, _], _ => rfl
  have F5 := fun_mk (st := s_in_order) l5 c5 k5
  have b5 := F5.binds (ps := ["points"]) fun _ _ _ _ _ _ us hl => match us, hl with | [_], _ => rfl
  have F6 := fun_mk (st := s_rim_along) l6 c6 k6
  have b6 := F6.binds (ps := ["row"]) fun _ _ _ _ _ _ us hl => match us, hl with | [_], _ => rfl
  have F7 := fun_mk (st := s_hull_corners) l7 c7 k7
  have b7 := F7.binds (ps := ["points"]) fun _ _ _ _ _ _ us hl => match us, hl with | [_], _ => rfl
  have F8 := fun_mk (st := s_step_along) l8 c8 k8
  have b8 := F8.binds (ps := ["p", "q"]) fun _ _ _ _ _ _ us hl => match us, hl with | [_, _], _ => rfl
  have F9 := fun_mk (st := s_directions) l9 c9 k9
  have b9 := F9.binds (ps := ["corners"]) fun _ _ _ _ _ _ us hl => match us, hl with | [_], _ => rfl
  have F10 := fun_mk (st := s_cross) l10 c10 k10
  have b10 := F10.binds (ps := ["p", "q"]) fun _ _ _ _ _ _ us hl => match us, hl with | [_, _], _ => rfl
  have F11 := fun_mk (st := s_rightmost) l11 c11 k11
  have b11 := F11.binds (ps := ["points"]) fun _ _ _ _ _ _ us hl => match us, hl with | [_], _ => rfl
  have F12 := fun_mk (st := s_side_found) l12 c12 k12
  have b12 := F12.binds (ps := ["points"]) fun _ _ _ _ _ _ us hl => match us, hl with | [_], _ => rfl
  have F13 := fun_mk (st := s_touches_zero) l13 c13 k13
  have b13 := F13.binds (ps := ["points"]) fun _ _ _ _ _ _ us hl => match us, hl with | [_], _ => rfl
  have F14 := fun_mk (st := s_normals) l14 c14 k14
  have b14 := F14.binds (ps := ["corners"]) fun _ _ _ _ _ _ us hl => match us, hl with | [_], _ => rfl
  have F15 := fun_mk (st := s_least_value) l15 c15 k15
  have b15 := F15.binds (ps := ["normal", "points"]) fun _ _ _ _ _ _ us hl => match us, hl with | [_, _], _ => rfl
  have F16 := fun_mk (st := s_gauge_of) l16 c16 k16
  have b16 := F16.binds (ps := ["points", "shape"]) fun _ _ _ _ _ _ us hl => match us, hl with | [_, _], _ => rfl
  have F17 := fun_mk (st := s_gauge) l17 c17 k17
  have b17 := F17.binds (ps := ["points", "shape"]) fun _ _ _ _ _ _ us hl => match us, hl with | [_, _], _ => rfl
  have F18 := fun_mk (st := s__law_bag) l18 c18 k18
  have b18 := F18.binds (ps := ["script"]) fun _ _ _ _ _ _ us hl => match us, hl with | [_], _ => rfl
  have F19 := fun_mk (st := s__law_draw) l19 c19 k19
  have b19 := F19.binds (ps := ["bag", "limit"]) fun _ _ _ _ _ _ us hl => match us, hl with | [_, _], _ => rfl
  have F20 := fun_mk (st := s__law_of) l20 c20 k20
  have b20 := F20.binds (ps := ["bag", "things"]) fun _ _ _ _ _ _ us hl => match us, hl with | [_, _], _ => rfl
  have F21 := fun_mk (st := s__law_shuffled) l21 c21 k21
  have b21 := F21.binds (ps := ["bag", "things"]) fun _ _ _ _ _ _ us hl => match us, hl with | [_, _], _ => rfl
  have F22 := fun_mk (st := s__law_like) l22 c22 k22
  have b22 := F22.binds (ps := ["told", "due"]) fun _ _ _ _ _ _ us hl => match us, hl with | [_, _], _ => rfl
  have F23 := fun_mk (st := s__law_gcd) l23 c23 k23
  have b23 := F23.binds (ps := ["a", "b"]) fun _ _ _ _ _ _ us hl => match us, hl with | [_, _], _ => rfl
  have F24 := fun_mk (st := s__law_lowest) l24 c24 k24
  have b24 := F24.binds (ps := ["x", "y", "w"]) fun _ _ _ _ _ _ us hl => match us, hl with | [_, _, _], _ => rfl
  have F25 := fun_mk (st := s__law_turn) l25 c25 k25
  have b25 := F25.binds (ps := ["p", "q", "r"]) fun _ _ _ _ _ _ us hl => match us, hl with | [_, _, _], _ => rfl
  have F26 := fun_mk (st := s__law_far) l26 c26 k26
  have b26 := F26.binds (ps := ["c", "p"]) fun _ _ _ _ _ _ us hl => match us, hl with | [_, _], _ => rfl
  have F27 := fun_mk (st := s__law_hull) l27 c27 k27
  have b27 := F27.binds (ps := ["some"]) fun _ _ _ _ _ _ us hl => match us, hl with | [_], _ => rfl
  have F28 := fun_mk (st := s__law_where) l28 c28 k28
  have b28 := F28.binds (ps := ["corners", "v"]) fun _ _ _ _ _ _ us hl => match us, hl with | [_, _], _ => rfl
  have F29 := fun_mk (st := s__law_point) l29 c29 k29
  have b29 := F29.binds (ps := ["bag", "wide"]) fun _ _ _ _ _ _ us hl => match us, hl with | [_, _], _ => rfl
  have F30 := fun_mk (st := s__law_plane_points) l30 c30 k30
  have b30 := F30.binds (ps := ["bag"]) fun _ _ _ _ _ _ us hl => match us, hl with | [_], _ => rfl
  have F31 := fun_mk (st := s__law_form) l31 c31 k31
  have b31 := F31.binds (ps := ["bag"]) fun _ _ _ _ _ _ us hl => match us, hl with | [_], _ => rfl
  have F32 := fun_mk (st := s__law_told) l32 c32 k32
  have b32 := F32.binds (ps := ["some", "form"]) fun _ _ _ _ _ _ us hl => match us, hl with | [_, _], _ => rfl
  have F33 := fun_mk (st := s__law_grown) l33 c33 k33
  have b33 := F33.binds (ps := ["some", "form", "n", "d"]) fun _ _ _ _ _ _ us hl => match us, hl with | [_, _, _, _], _ => rfl
  have F34 := fun_mk (st := s__law_times) l34 c34 k34
  have b34 := F34.binds (ps := ["some", "n", "d"]) fun _ _ _ _ _ _ us hl => match us, hl with | [_, _, _], _ => rfl
  have F35 := fun_mk (st := s__law_number) l35 c35 k35
  have b35 := F35.binds (ps := ["told"]) fun _ _ _ _ _ _ us hl => match us, hl with | [_], _ => rfl
  have F36 := fun_mk (st := s_law) l36 c36 k36
  have b36 := F36.binds (ps := ["script"]) fun _ _ _ _ _ _ us hl => match us, hl with | [_], _ => rfl
  have XE : PySem.FlatX.FlatTxt K mg C fI :=
    { gC := PySem.W.mg_of X G eA, cls := ⟨nm, q, N, bs, _, sn, sub, ab, col, dd, m0, m1, m2, m3, m5, eX, by decide +kernel⟩, sa := eS, ga := eG, gg := eH, noN := eN, iC := eI, tC := eT, kC := eK, exC := eE, tyC := eY, hdC := eD, te := exm_own eE eO eY eU,
      fn := ⟨_, _, _, _, _, _, _, _, _, _, _, _, _, _, eL, eC⟩ }
  have EI : ExI K C := ⟨eG, eH, eE, eO, j1, j2, j3, j4⟩
  have kc17 : KwB2 (PySem.W.fnOf "gauge" "gauge" (defArgs s_gauge) (defBody s_gauge) (defScope s_gauge) .none kV17 dc17 pm17 an17 cd17 ct17) "points" "shape" := fun s u1 u2 => .of_eq rfl
  refine ⟨PySem.W.fnOf "law" "law" (defArgs s_law) (defBody s_law) (defScope s_law) .none kV36 dc36 pm36 an36 cd36 ct36, fun s v => .of_eq rfl, fun base _ _ => ?_⟩
  have G1 : Cal l.prog w K mg base CX0 1 2 sp_lowest "lowest" f1 _ ["top", "bottom"] := ⟨ok_lowest F1  (PySem.W.mg_of X G z_gcd), PySem.W.mg_of X G a1, F1.kp, b1⟩
  have G2 : Cal l.prog w K mg base CX0 1 3 sp_point_of "point_of" f2 _ ["x", "y", "w"] := ⟨ok_point_of F2  (PySem.W.mg_of X G z_gcd), PySem.W.mg_of X G a2, F2.kp, b2⟩
  have G3 : Cal l.prog w K mg base CX0 1 3 sp_left_turn "left_turn" f3 _ ["p", "q", "r"] := ⟨ok_left_turn F3  , PySem.W.mg_of X G a3, F3.kp, b3⟩
  have G4 : Cal l.prog w K mg base CX0 1 2 sp_is_before "is_before" f4 _ ["p", "q"] := ⟨ok_is_before F4  , PySem.W.mg_of X G a4, F4.kp, b4⟩
  have G5 : Cal l.prog w K mg base CX0 2 1 sp_in_order "in_order" f5 _ ["points"] := ⟨ok_in_order F5 G4 (PySem.W.mg_none_of X G z_len), PySem.W.mg_of X G a5, F5.kp, b5⟩
  have G6 : Cal l.prog w K mg base CX0 2 1 sp_rim_along "rim_along" f6 _ ["row"] := ⟨ok_rim_along F6 G3 (PySem.W.mg_none_of X G z_len), PySem.W.mg_of X G a6, F6.kp, b6⟩
  have G7 : Cal l.prog w K mg base CX0 3 1 sp_hull_corners "hull_corners" f7 _ ["points"] := ⟨ok_hull_corners F7 G6 G5 G2 (PySem.W.mg_none_of X G z_len), PySem.W.mg_of X G a7, F7.kp, b7⟩
  have G8 : Cal l.prog w K mg base CX0 1 2 sp_step_along "step_along" f8 _ ["p", "q"] := ⟨ok_step_along F8  , PySem.W.mg_of X G a8, F8.kp, b8⟩
  have G9 : Cal l.prog w K mg base CX0 2 1 sp_directions "directions" f9 _ ["corners"] := ⟨ok_directions F9 G8 (PySem.W.mg_none_of X G z_len) (PySem.W.mg_none_of X G z_zip), PySem.W.mg_of X G a9, F9.kp, b9⟩
  have G10 : Cal l.prog w K mg base CX0 1 2 sp_cross "cross" f10 _ ["p", "q"] := ⟨ok_cross F10  , PySem.W.mg_of X G a10, F10.kp, b10⟩
  have G11 : Cal l.prog w K mg base CX0 2 1 sp_rightmost "rightmost" f11 _ ["points"] := ⟨ok_rightmost F11 G10 (PySem.W.mg_none_of X G z_list), PySem.W.mg_of X G a11, F11.kp, b11⟩
  have G12 : Cal l.prog w K mg base CX0 3 1 sp_side_found "side_found" f12 _ ["points"] := ⟨ok_side_found F12 G10 G11 , PySem.W.mg_of X G a12, F12.kp, b12⟩
  have G13 : Cal l.prog w K mg base CX0 3 1 sp_touches_zero "touches_zero" f13 _ ["points"] := ⟨ok_touches_zero F13 G10 G11 , PySem.W.mg_of X G a13, F13.kp, b13⟩
  have G14 : Cal l.prog w K mg base CX0 3 1 sp_normals "normals" f14 _ ["corners"] := ⟨ok_normals F14 G9 , PySem.W.mg_of X G a14, F14.kp, b14⟩
  have G15 : Cal l.prog w K mg base CX0 1 2 sp_least_value "least_value" f15 _ ["normal", "points"] := ⟨ok_least_value F15  , PySem.W.mg_of X G a15, F15.kp, b15⟩
  have G16 : Cal l.prog w K mg base CX0 4 2 sp_gauge_of "gauge_of" f16 _ ["points", "shape"] := ⟨ok_gauge_of F16 G1 G15 G14 G13 G7 , PySem.W.mg_of X G a16, F16.kp, b16⟩
  have G17 : Cal l.prog w K mg base (L2.CX l.prog w) 5 2 (sp_gauge C) "gauge" f17 _ ["points", "shape"] := ⟨ok_gauge F17 XE G16 G7 G12 , PySem.W.mg_of X G a17, F17.kp, b17⟩
  have G18 : Cal l.prog w K mg base CX0 1 1 sp__law_bag "_law_bag" f18 _ ["script"] := ⟨ok__law_bag F18  (PySem.W.mg_none_of X G z_int) (PySem.W.mg_none_of X G z_list), PySem.W.mg_of X G a18, F18.kp, b18⟩
  have G19 : Cal l.prog w K mg base CX0 1 2 sp__law_draw "_law_draw" f19 _ ["bag", "limit"] := ⟨ok__law_draw F19  (PySem.W.mg_none_of X G z_int) (PySem.W.mg_none_of X G z_len), PySem.W.mg_of X G a19, F19.kp, b19⟩
  have G20 : Cal l.prog w K mg base CX0 2 2 sp__law_of "_law_of" f20 _ ["bag", "things"] := ⟨ok__law_of F20 G19 (PySem.W.mg_none_of X G z_len), PySem.W.mg_of X G a20, F20.kp, b20⟩
  have G21 : Cal l.prog w K mg base CX0 2 2 sp__law_shuffled "_law_shuffled" f21 _ ["bag", "things"] := ⟨ok__law_shuffled F21 G19 (PySem.W.mg_none_of X G z_len) (PySem.W.mg_none_of X G z_list) (PySem.W.mg_none_of X G z_range), PySem.W.mg_of X G a21, F21.kp, b21⟩
  have G22 : Cal l.prog w K mg base CX0 4 2 (sp__law_like 3) "_law_like" f22 _ ["told", "due"] := ⟨all__law_like F22 (PySem.W.mg_of X G a22) b22 (PySem.W.mg_none_of X G z_all) (PySem.W.mg_none_of X G z_bool) (PySem.W.mg_none_of X G z_dict) (PySem.W.mg_none_of X G z_int) (PySem.W.mg_none_of X G z_isinstance) (PySem.W.mg_none_of X G z_len) (PySem.W.mg_none_of X G z_list) (PySem.W.mg_none_of X G z_str) (PySem.W.mg_none_of X G z_tuple) (PySem.W.mg_none_of X G z_zip) 3, PySem.W.mg_of X G a22, F22.kp, b22⟩
  have G23 : Cal l.prog w K mg base CX0 1 2 sp__law_gcd "_law_gcd" f23 _ ["a", "b"] := ⟨ok__law_gcd F23  (PySem.W.mg_none_of X G z_abs) (PySem.W.mg_none_of X G z_int), PySem.W.mg_of X G a23, F23.kp, b23⟩
  have G24 : Cal l.prog w K mg base CX0 2 3 sp__law_lowest "_law_lowest" f24 _ ["x", "y", "w"] := ⟨ok__law_lowest F24 G23 , PySem.W.mg_of X G a24, F24.kp, b24⟩
  have G25 : Cal l.prog w K mg base CX0 1 3 sp__law_turn "_law_turn" f25 _ ["p", "q", "r"] := ⟨ok__law_turn F25  , PySem.W.mg_of X G a25, F25.kp, b25⟩
  have G26 : Cal l.prog w K mg base CX0 1 2 sp__law_far "_law_far" f26 _ ["c", "p"] := ⟨ok__law_far F26  (PySem.W.mg_none_of X G z_abs), PySem.W.mg_of X G a26, F26.kp, b26⟩
  have G27 : Cal l.prog w K mg base CX0 3 1 sp__law_hull "_law_hull" f27 _ ["some"] := ⟨ok__law_hull F27 G26 G25 G24 (PySem.W.mg_none_of X G z_len) (PySem.W.mg_none_of X G z_list) (PySem.W.mg_none_of X G z_range), PySem.W.mg_of X G a27, F27.kp, b27⟩
  have G28 : Cal l.prog w K mg base CX0 2 2 sp__law_where "_law_where" f28 _ ["corners", "v"] := ⟨ok__law_where F28 G25 (PySem.W.mg_none_of X G z_len) (PySem.W.mg_none_of X G z_min) (PySem.W.mg_none_of X G z_zip), PySem.W.mg_of X G a28, F28.kp, b28⟩
  have G29 : Cal l.prog w K mg base CX0 3 2 sp__law_point "_law_point" f29 _ ["bag", "wide"] := ⟨ok__law_point F29 G19 G20 , PySem.W.mg_of X G a29, F29.kp, b29⟩
  have G30 : Cal l.prog w K mg base CX0 4 1 sp__law_plane_points "_law_plane_points" f30 _ ["bag"] := ⟨ok__law_plane_points F30 G21 G20 G19 G29 (PySem.W.mg_none_of X G z_int) (PySem.W.mg_none_of X G z_range), PySem.W.mg_of X G a30, F30.kp, b30⟩
  have G31 : Cal l.prog w K mg base CX0 4 1 sp__law_form "_law_form" f31 _ ["bag"] := ⟨ok__law_form F31 G21 G19 G20 G29 (PySem.W.mg_none_of X G z_range), PySem.W.mg_of X G a31, F31.kp, b31⟩
  have G32 : Cal l.prog w K mg base CX0 6 2 (sp__law_told C) "_law_told" f32 _ ["some", "form"] := ⟨ok__law_told F32 XE EI (PySem.W.mg_of X G g_TooMany) o_TooMany i_ValueError G17 (PySem.W.mg_none_of X G z_ValueError) (PySem.W.mg_none_of X G z_isinstance), PySem.W.mg_of X G a32, F32.kp, b32⟩
  have G33 : Cal l.prog w K mg base CX0 4 4 sp__law_grown "_law_grown" f33 _ ["some", "form", "n", "d"] := ⟨ok__law_grown F33 G27 , PySem.W.mg_of X G a33, F33.kp, b33⟩
  have G34 : Cal l.prog w K mg base CX0 1 3 sp__law_times "_law_times" f34 _ ["some", "n", "d"] := ⟨ok__law_times F34  , PySem.W.mg_of X G a34, F34.kp, b34⟩
  have G35 : Cal l.prog w K mg base CX0 2 1 sp__law_number "_law_number" f35 _ ["told"] := ⟨ok__law_number F35 G23 (PySem.W.mg_none_of X G z_all) (PySem.W.mg_none_of X G z_bool) (PySem.W.mg_none_of X G z_int) (PySem.W.mg_none_of X G z_isinstance) (PySem.W.mg_none_of X G z_len) (PySem.W.mg_none_of X G z_tuple), PySem.W.mg_of X G a35, F35.kp, b35⟩
  exact ok_law F36 XE G28 G27 G22 G35 G17 kc17 G34 G23 G19 G33 G32 G31 G30 G18 (PySem.W.mg_none_of X G z_list) (PySem.W.mg_none_of X G z_range) (PySem.W.mg_none_of X G z_tuple)
theorem of_seq {K : PySem.W.Frag} {M : Ms} {H : Hp} {a : Addr} {xs : List V} (h : SqL K H a xs) (hM : ¬ M a) : SLx K M H a xs := by
  rcases h with h | h
  · exact .inl ⟨hM, h⟩
  · exact .inr (.inr h)
theorem start_law {K : PySem.W.Frag} {H : Hp} {a : Addr} {ns : List Int} {Q : VK} {E : XK} (hS : SqL K H a (ns.map V.int)) (hQ : ∀ H', Q (.bl true) H') : lSp K 1 sp_law [.ref a] H Q E :=
  ⟨rfl, { M := fun _ => False, F := fun _ => False, H := H }, [.val (.lst (ns.map D.int))], fun r _ => r = .val (.bl true), fun _ _ => False,
    ⟨.cons (.lst (of_seq hS (by simp [mm, oas])) (RpA.of_ints ns)) .nil, by simp [oas], by simp [oas], fun a u q _ => q, fun a xs w => w.elim False.elim False.elim⟩, rfl, by simp [oas], ⟨ns, rfl, rfl⟩, fun r ds v H' _ hr _ hv => by
      subst hr
      cases hv
      exact hQ _, fun x ds cls d H' z => z.elim⟩
end VS
open PySem PySem.W PyProof.Rows
set_option maxHeartbeats 0 in
theorem PySem.Challenge.cw_surelycrossed_k04_whole_gauge_from_both_holds : PySem.Challenge.rw_surelycrossed_k04_whole_gauge_from_both.Holds := by
  w_on; o_law; k_head; (case hw => w_witness2)
  k_fill
  refine L2.walk_of (l := PySem.Challenge.rw_surelycrossed_k04_whole_gauge_from_both) (n := 63) (k := 7) (x := "script") (CX := fun _ => L2.CX0) (sp := fun w => VS.lSp _ 1 VS.sp_law) rfl (by decide) rfl ⟨rfl, by decide, by decide⟩ (fun w h Y => PySem.W.kIn_of Y) ?F (fun _ _ a ns hl _ hS => VS.start_law hS fun _ => rfl) (fun _ _ _ _ _ h => h)
  case F =>
    intro w mg fa h KX G hmg

    refine' VS.all_mk KX G hmg ?a1 ?l1 ?c1 ?k1 ?a2 ?l2 ?c2 ?k2 ?a3 ?l3 ?c3 ?k3 ?a4 ?l4 ?c4 ?k4 ?a5 ?l5 ?c5 ?k5 ?a6 ?l6 ?c6 ?k6 ?a7 ?l7 ?c7 ?k7 ?a8 ?l8 ?c8 ?k8 ?a9 ?l9 ?c9 ?k9 ?a10 ?l10 ?c10 ?k10 ?a11 ?l11 ?c11 ?k11 ?a12 ?l12 ?c12 ?k12 ?a13 ?l13 ?c13 ?k13 ?a14 ?l14 ?c14 ?k14 ?a15 ?l15 ?c15 ?k15 ?a16 ?l16 ?c16 ?k16 ?a17 ?l17 ?c17 ?k17 ?a18 ?l18 ?c18 ?k18 ?a19 ?l19 ?c19 ?k19 ?a20 ?l20 ?c20 ?k20 ?a21 ?l21 ?c21 ?k21 ?a22 ?l22 ?c22 ?k22 ?a23 ?l23 ?c23 ?k23 ?a24 ?l24 ?c24 ?k24 ?a25 ?l25 ?c25 ?k25 ?a26 ?l26 ?c26 ?k26 ?a27 ?l27 ?c27 ?k27 ?a28 ?l28 ?c28 ?k28 ?a29 ?l29 ?c29 ?k29 ?a30 ?l30 ?c30 ?k30 ?a31 ?l31 ?c31 ?k31 ?a32 ?l32 ?c32 ?k32 ?a33 ?l33 ?c33 ?k33 ?a34 ?l34 ?c34 ?k34 ?a35 ?l35 ?c35 ?k35 ?a36 ?l36 ?c36 ?k36 ?eA ?eX ?eS ?eG ?eH ?eN ?eI ?eT ?eL ?eC ?eK ?eE ?eY ?eD ?eO ?eU ?j1 ?j2 ?j3 ?j4 ?i_ValueError ?g_TooMany ?o_TooMany ?z_ValueError ?z_abs ?z_all ?z_bool ?z_dict ?z_gcd ?z_int ?z_isinstance ?z_len ?z_list ?z_min ?z_range ?z_str ?z_tuple ?z_zip
    (case a1 => k_is); (case l1 => k_is); (case c1 => k_is); (case k1 => k_is); (case a2 => k_is); (case l2 => k_is)
    (case c2 => k_is); (case k2 => k_is); (case a3 => k_is); (case l3 => k_is); (case c3 => k_is); (case k3 => k_is)
    (case a4 => k_is); (case l4 => k_is); (case c4 => k_is); (case k4 => k_is); (case a5 => k_is); (case l5 => k_is)
    (case c5 => k_is); (case k5 => k_is); (case a6 => k_is); (case l6 => k_is); (case c6 => k_is); (case k6 => k_is)
    (case a7 => k_is); (case l7 => k_is); (case c7 => k_is); (case k7 => k_is); (case a8 => k_is); (case l8 => k_is)
    (case c8 => k_is); (case k8 => k_is); (case a9 => k_is); (case l9 => k_is); (case c9 => k_is); (case k9 => k_is)
    (case a10 => k_is); (case l10 => k_is); (case c10 => k_is); (case k10 => k_is); (case a11 => k_is); (case l11 => k_is)
    (case c11 => k_is); (case k11 => k_is); (case a12 => k_is); (case l12 => k_is); (case c12 => k_is); (case k12 => k_is)
    (case a13 => k_is); (case l13 => k_is); (case c13 => k_is); (case k13 => k_is); (case a14 => k_is); (case l14 => k_is)
    (case c14 => k_is); (case k14 => k_is); (case a15 => k_is); (case l15 => k_is); (case c15 => k_is); (case k15 => k_is)
    (case a16 => k_is); (case l16 => k_is); (case c16 => k_is); (case k16 => k_is); (case a17 => k_is); (case l17 => k_is)
    (case c17 => k_is); (case k17 => k_is); (case a18 => k_is); (case l18 => k_is); (case c18 => k_is); (case k18 => k_is)
    (case a19 => k_is); (case l19 => k_is); (case c19 => k_is); (case k19 => k_is); (case a20 => k_is); (case l20 => k_is)
    (case c20 => k_is); (case k20 => k_is); (case a21 => k_is); (case l21 => k_is); (case c21 => k_is); (case k21 => k_is)
    (case a22 => k_is); (case l22 => k_is); (case c22 => k_is); (case k22 => k_is); (case a23 => k_is); (case l23 => k_is)
    (case c23 => k_is); (case k23 => k_is); (case a24 => k_is); (case l24 => k_is); (case c24 => k_is); (case k24 => k_is)
    (case a25 => k_is); (case l25 => k_is); (case c25 => k_is); (case k25 => k_is); (case a26 => k_is); (case l26 => k_is)
    (case c26 => k_is); (case k26 => k_is); (case a27 => k_is); (case l27 => k_is); (case c27 => k_is); (case k27 => k_is)
    (case a28 => k_is); (case l28 => k_is); (case c28 => k_is); (case k28 => k_is); (case a29 => k_is); (case l29 => k_is)
    (case c29 => k_is); (case k29 => k_is); (case a30 => k_is); (case l30 => k_is); (case c30 => k_is); (case k30 => k_is)
    (case a31 => k_is); (case l31 => k_is); (case c31 => k_is); (case k31 => k_is); (case a32 => k_is); (case l32 => k_is)
    (case c32 => k_is); (case k32 => k_is); (case a33 => k_is); (case l33 => k_is); (case c33 => k_is); (case k33 => k_is)
    (case a34 => k_is); (case l34 => k_is); (case c34 => k_is); (case k34 => k_is); (case a35 => k_is); (case l35 => k_is)
    (case c35 => k_is); (case k35 => k_is); (case a36 => k_is); (case l36 => k_is); (case c36 => k_is); (case k36 => k_is)
    (case eA => k_is); (case eX => k_is); (case eS => k_is); (case eG => k_is); (case eH => k_is); (case eN => k_is)
    (case eI => k_is); (case eT => k_is); (case eL => k_is); (case eC => k_is); (case eK => k_is); (case eE => k_is)
    (case eY => k_is); (case eD => k_is); (case eO => k_is); (case eU => first | rfl | k_is); (case j1 => k_is); (case j2 => k_is)
    (case j3 => k_is); (case j4 => k_is); (case i_ValueError => first | k_is | kit_is); (case g_TooMany => k_is); (case o_TooMany => first | k_is | kit_is); (case z_ValueError => k_is)
    (case z_abs => k_is); (case z_all => k_is); (case z_bool => k_is); (case z_dict => k_is); (case z_gcd => k_is); (case z_int => k_is)
    (case z_isinstance => k_is); (case z_len => k_is); (case z_list => k_is); (case z_min => k_is); (case z_range => k_is); (case z_str => k_is)
    (case z_tuple => k_is); (case z_zip => k_is)
