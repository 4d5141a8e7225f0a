import PyProof.Rows.All
import Wide.All
import OpenK.AllK
import Wide.FinOn
import HandS.ForMost
import HandS.ForExc
import HandS.Wide
import HandS.Gcd
import HandS.IsInst
import HandS.Style
import HandS.Zip
import PyProof.Rows.FactsN_isinstance
import HandS.NoneIn
import HandS.More
import PyProof.EqAt
import PyProof.EqKinds
import PyProof.TupleCall
import Open.SpecLaws
import KE.OsGo
import HandS.ForSpec
import KE.KExcIs
import KE.KMathG
import HandS.TupLe
import HandS.Conv
import PySem.Challenge.RW_surelycrossed_k02_whole_inner_or_side
set_option Elab.async false
set_option linter.all false
set_option maxRecDepth 100000
/-! Value semantics over the hand layer: data D, who owns what, readings without a heap. -/
namespace VS
open PySem L2

/-! ### data -/
inductive D where
  | non | bl (b : Bool) | int (i : Int) | str (x : Str) | tup (xs : List D) | lst (xs : List D) | dct (t : Bool) (ks : List D) (xs : List D)
/-- a key as data; what a dict holds -/
def kD : Key → D
  | .inl i => .int i
  | .inr x => .str x
inductive Dk where
  | k (kvs : List (Key × V)) | t (kvs : List (List Key × V))
def Dk.ho : Dk → HO
  | .k kvs => .dK kvs
  | .t kvs => .dT kvs
def Dk.sig : Dk → Bool × List D
  | .k kvs => (false, kvs.map fun p => kD p.1)
  | .t kvs => (true, kvs.map fun p => .tup (p.1.map kD))
def Dk.vals : Dk → List V
  | .k kvs => kvs.map (·.2)
  | .t kvs => kvs.map (·.2)

def Dk.Rd (H : Hp) (a : Addr) : Dk → Prop
  | .k kvs => L2.Rd H a (.dK kvs)
  | .t kvs => H a = some (.dT kvs)
abbrev Ms := Addr → Prop
def SLx (K : PySem.W.Frag) (M : Ms) (H : Hp) (a : Addr) (xs : List V) : Prop := (¬ M a ∧ Rd H a (.lst xs)) ∨ SqL K (fun _ => none) a xs
def STx (K : PySem.W.Frag) (M : Ms) (H : Hp) (a : Addr) (xs : List V) : Prop := ¬ M a ∧ H a = some (.tup xs)
mutual
/-- v is d, by what stands in H outside of M -/
inductive Rp (K : PySem.W.Frag) (M : Ms) (H : Hp) : V → D → Prop
  | non : Rp K M H .non .non
  | bl (b : Bool) : Rp K M H (.bl b) (.bl b)
  | int (i : Int) : Rp K M H (.int i) (.int i)
  | str (x : Str) : Rp K M H (.str x) (.str x)
  | lst {a : Addr} {xs : List V} {ds : List D} : SLx K M H a xs → RpA K M H xs ds → Rp K M H (.ref a) (.lst ds)
  | tup {a : Addr} {xs : List V} {ds : List D} : STx K M H a xs → RpA K M H xs ds → Rp K M H (.ref a) (.tup ds)
  | dct {a : Addr} {c : Dk} {t : Bool} {ks ds : List D} : ¬ M a → c.Rd H a → (t, ks) = c.sig → RpA K M H c.vals ds → Rp K M H (.ref a) (.dct t ks ds)
inductive RpA (K : PySem.W.Frag) (M : Ms) (H : Hp) : List V → List D → Prop
  | nil : RpA K M H [] []
  | cons {v : V} {vs : List V} {d : D} {ds : List D} : Rp K M H v d → RpA K M H vs ds → RpA K M H (v :: vs) (d :: ds)
end
/-- what is to be read there is to be read here -/
def Le (M : Ms) (H : Hp) (M' : Ms) (H' : Hp) : Prop := ∀ a u, ¬ M a → H a = some u → ¬ M' a ∧ H' a = some u
section
variable {K : PySem.W.Frag} {M M' : Ms} {H H' : Hp} {a : Addr} {xs : List V}
theorem Le.rd {u : HO} (e : Le M H M' H') (n : ¬ M a) (h : Rd H a u) : ¬ M' a ∧ Rd H' a u := by
  rcases h with h | ⟨o, h⟩
  · exact ⟨(e a _ n h).1, .inl (e a _ n h).2⟩
  · exact ⟨(e a _ n h).1, .inr ⟨o, (e a _ n h).2⟩⟩
theorem Dk.Rd.of {c : Dk} (h : H a = some c.ho) : c.Rd H a := by
  cases c with
  | k kvs => exact .inl h
  | t kvs => exact h
theorem Dk.Rd.mono {c : Dk} (h : c.Rd H a) (e : Le M H M' H') (n : ¬ M a) : ¬ M' a ∧ c.Rd H' a := by
  cases c with
  | k kvs => exact e.rd n h
  | t kvs => exact e a _ n h
theorem Dk.Rd.all {c : Dk} (h : c.Rd H a) (e : ∀ u, H a = some u → H' a = some u) : c.Rd H' a := by
  cases c with
  | k kvs => exact h.imp (e _) fun ⟨o, q⟩ => ⟨o, e _ q⟩
  | t kvs => exact e _ h
theorem SLx.mono (e : Le M H M' H') (h : SLx K M H a xs) : SLx K M' H' a xs := h.imp (fun h => e.rd h.1 h.2) id
theorem STx.mono (e : Le M H M' H') (h : STx K M H a xs) : STx K M' H' a xs := e a _ h.1 h.2
theorem no_rd {a : Addr} {u : HO} (h : Rd (fun _ => none) a u) : False := by
  rcases h with h | ⟨o, h⟩ <;> cases h
theorem SLx.sq (h : SLx K M H a xs) : SqL K H a xs := by
  rcases h with h | h | h
  · exact .inl h.2
  · exact (no_rd h).elim
  · exact .inr h
theorem STx.sq (h : STx K M H a xs) : SqT K H a xs := .inl (.inl h.2)
mutual
theorem Rp.mono (e : Le M H M' H') : ∀ (d : D) (v : V), Rp K M H v d → Rp K M' H' v d
  | .non, _, h => by cases h; exact .non
  | .bl b, _, h => by cases h; exact .bl b
  | .int i, _, h => by cases h; exact .int i
  | .str x, _, h => by cases h; exact .str x
  | .lst ds, v, h => by
    cases h with
    | lst h1 h2 => exact .lst (h1.mono e) (RpA.mono e ds _ h2)
  | .tup ds, v, h => by
    cases h with
    | tup h1 h2 => exact .tup (h1.mono e) (RpA.mono e ds _ h2)
  | .dct t ks ds, v, h => by
    cases h with
    | dct h1 h2 h3 h4 => exact .dct (h2.mono e h1).1 (h2.mono e h1).2 h3 (RpA.mono e ds _ h4)
theorem RpA.mono (e : Le M H M' H') : ∀ (ds : List D) (vs : List V), RpA K M H vs ds → RpA K M' H' vs ds
  | [], _, h => by cases h; exact .nil
  | d :: ds, _, h => by
    cases h with
    | cons h1 h2 => exact .cons (Rp.mono e d _ h1) (RpA.mono e ds _ h2)
end
theorem RpA.length : ∀ {vs : List V} {ds : List D}, RpA K M H vs ds → vs.length = ds.length
  | _, _, .nil => rfl
  | _, _, .cons _ t => by rw [List.length_cons, List.length_cons, RpA.length t]
theorem RpA.get : ∀ {vs : List V} {ds : List D} {i : Nat} {d : D}, RpA K M H vs ds → ds[i]? = some d → ∃ v, vs[i]? = some v ∧ Rp K M H v d
  | _, _, _, _, .nil, e => by simp at e
  | _, _, 0, _, .cons h _, e => by simp at e; subst e; exact ⟨_, rfl, h⟩
  | _, _, i + 1, d, .cons _ t, e => by
    obtain ⟨v, h1, h2⟩ := RpA.get (i := i) (d := d) t (by simpa using e)
    exact ⟨v, by simpa using h1, h2⟩
theorem RpA.get' : ∀ {vs : List V} {ds : List D} {i : Nat} {v : V}, RpA K M H vs ds → vs[i]? = some v → ∃ d, ds[i]? = some d ∧ Rp K M H v d
  | _, _, _, _, .nil, e => by simp at e
  | _, _, 0, _, .cons h _, e => by simp at e; subst e; exact ⟨_, rfl, h⟩
  | _, _, i + 1, d, .cons _ t, e => by
    obtain ⟨v, h1, h2⟩ := RpA.get' (i := i) (v := d) t (by simpa using e)
    exact ⟨v, by simpa using h1, h2⟩
theorem RpA.append : ∀ {vs ws : List V} {ds es : List D}, RpA K M H vs ds → RpA K M H ws es → RpA K M H (vs ++ ws) (ds ++ es)
  | _, _, _, _, .nil, h => h
  | _, _, _, _, .cons h t, k => .cons h (RpA.append t k)
theorem RpA.take : ∀ {vs : List V} {ds : List D} (n : Nat), RpA K M H vs ds → RpA K M H (vs.take n) (ds.take n)
  | _, _, 0, _ => .nil
  | _, _, _ + 1, .nil => .nil
  | _, _, n + 1, .cons h t => .cons h (RpA.take n t)
theorem RpA.drop : ∀ {vs : List V} {ds : List D} (n : Nat), RpA K M H vs ds → RpA K M H (vs.drop n) (ds.drop n)
  | _, _, 0, h => h
  | _, _, _ + 1, .nil => .nil
  | _, _, n + 1, .cons _ t => RpA.drop n t
theorem RpA.set {v : V} {d : D} (r : Rp K M H v d) : ∀ {vs : List V} {ds : List D} (i : Nat), RpA K M H vs ds → RpA K M H (vs.set i v) (ds.set i d)
  | _, _, _, .nil => .nil
  | _, _, 0, .cons _ t => .cons r t
  | _, _, i + 1, .cons q t => .cons q (RpA.set r i t)
theorem RpA.reverse : ∀ {vs : List V} {ds : List D}, RpA K M H vs ds → RpA K M H vs.reverse ds.reverse
  | _, _, .nil => .nil
  | _, _, .cons h t => by
    rw [List.reverse_cons, List.reverse_cons]
    exact RpA.append (RpA.reverse t) (.cons h .nil)
theorem RpA.ints : ∀ {vs : List V} (ns : List Int), RpA K M H vs (ns.map D.int) → vs = ns.map V.int
  | _, [], h => by cases h; rfl
  | _, n :: ns, h => by
    cases h with
    | cons h1 h2 =>
      cases h1
      rw [RpA.ints ns h2]
      rfl
theorem RpA.of_ints : ∀ (ns : List Int), RpA K M H (ns.map V.int) (ns.map D.int)
  | [] => .nil
  | n :: ns => .cons (.int n) (RpA.of_ints ns)
end

/-! ### what an error carries; the slots -/
structure Xc where
  cls : Value
  fld : Option (Str × D)
inductive Sl where
  | no | val (d : D) | own (a : Addr) (d : D) | exc (a : Addr) (cls : Value) (d : Option Addr) (x : Xc)
abbrev En := List Sl
def oas : En → List Addr
  | [] => []
  | .own a _ :: r => a :: oas r
  | _ :: r => oas r
def shp : Sl → Sl
  | .own a _ => .own a .non
  | s => s
def Shape (en en' : En) : Prop := en.map shp = en'.map shp
structure Cc where
  M : Ms
  F : Ms
  H : Hp
def Cc.add (C : Cc) (a : Addr) : Cc := { C with M := fun x => C.M x ∨ x = a }
def mm (C : Cc) (l : List Addr) : Ms := fun a => C.M a ∨ a ∈ l
def Cell (K : PySem.W.Frag) (M : Ms) (H : Hp) (a : Addr) : D → Prop
  | .lst ds => ∃ vs, H a = some (.lst vs) ∧ RpA K M H vs ds
  | .dct t ks ds => ∃ c : Dk, H a = some c.ho ∧ (t, ks) = c.sig ∧ RpA K M H c.vals ds
  | _ => False
def XcR (K : PySem.W.Frag) (M : Ms) (H : Hp) (x : Xc) (cls : Value) (d : Option Addr) : Prop :=
  cls = x.cls ∧ match x.fld with
    | none => True
    | some (f, dv) => ∃ dd v, d = some dd ∧ ¬ M dd ∧ H dd = some (.xd [(f, v)]) ∧ Rp K M H v dv
def SlR (K : PySem.W.Frag) (C : Cc) (M : Ms) (H : Hp) : Option V → Sl → Prop
  | _, .no => True
  | some v, .val d => Rp K M H v d
  | some v, .own a d => v = .ref a ∧ ¬ C.M a ∧ (C.F a ∨ C.H a = none) ∧ Cell K M H a d
  | some v, .exc a cls d x => v = .ref a ∧ XcR K M H x cls d
  | none, _ => False
structure R (K : PySem.W.Frag) (C : Cc) (σ : L2.St) (H : Hp) (en : En) : Prop where
  sl : Paired (SlR K C (mm C (oas en)) H) σ en
  inj : (oas en).Nodup
  dom : ∀ a, C.M a ∨ C.F a → ∃ u, H a = some u
  keep : ∀ a u, C.H a = some u → ¬ C.F a → H a = some u
  nt : ∀ a xs, C.M a ∨ C.F a → H a ≠ some (.tup xs)
/-- what stands is kept but at the own addresses -/
def Keep (en : En) (H H' : Hp) : Prop := ∀ a u, a ∉ oas en → H a = some u → H' a = some u

section
variable {K : PySem.W.Frag} {C : Cc} {σ : L2.St} {H H' : Hp} {en en' : En} {a : Addr} {d : D} {v : V}
theorem Pget {α β : Type} {F : α → β → Prop} : ∀ {xs : List α} {ys : List β} {i : Nat} {y : β}, Paired F xs ys → ys[i]? = some y → ∃ x, xs[i]? = some x ∧ F x y
  | _, _, _, _, .nil, e => by simp at e
  | _, _, 0, _, .cons h _, e => by simp at e; subst e; exact ⟨_, rfl, h⟩
  | _, _, i + 1, y, .cons _ t, e => by
    obtain ⟨x, h1, h2⟩ := Pget (i := i) (y := y) t (by simpa using e)
    exact ⟨x, by simpa using h1, h2⟩
theorem Pset {α β : Type} {F : α → β → Prop} {x : α} {y : β} (r : F x y) : ∀ {xs : List α} {ys : List β} (i : Nat), Paired F xs ys → Paired F (xs.set i x) (ys.set i y)
  | _, _, _, .nil => .nil
  | _, _, 0, .cons _ t => .cons r t
  | _, _, i + 1, .cons q t => .cons q (Pset r i t)
theorem Pmap {α β : Type} {F G : α → β → Prop} : ∀ {xs : List α} {ys : List β}, Paired F xs ys → (∀ (i : Nat) (x : α) (y : β), xs[i]? = some x → ys[i]? = some y → F x y → G x y) → Paired G xs ys
  | _, _, .nil, _ => .nil
  | _, _, .cons h t, k => .cons (k 0 _ _ rfl rfl h) (Pmap t fun i x y e1 e2 => k (i + 1) x y (by simpa using e1) (by simpa using e2))
theorem Plen {α β : Type} {F : α → β → Prop} : ∀ {xs : List α} {ys : List β}, Paired F xs ys → xs.length = ys.length
  | _, _, .nil => rfl
  | _, _, .cons _ t => by rw [List.length_cons, List.length_cons, Plen t]
theorem oas_mem : ∀ {en : En} {a : Addr}, a ∈ oas en ↔ ∃ (i : Nat) (d : D), en[i]? = some (.own a d)
  | [], a => by simp [oas]
  | s :: r, a => by
    have ih := oas_mem (en := r) (a := a)
    have key : a ∈ oas (s :: r) ↔ (∃ d, s = .own a d) ∨ a ∈ oas r := by
      cases s with
      | own b e =>
        simp only [oas, List.mem_cons]
        constructor
        · rintro (rfl | h)
          · exact .inl ⟨e, rfl⟩
          · exact .inr h
        · rintro (⟨d, h⟩ | h)
          · cases h; exact .inl rfl
          · exact .inr h
      | _ => simp [oas]
    rw [key, ih]
    constructor
    · rintro (⟨d, rfl⟩ | ⟨i, d, h⟩)
      · exact ⟨0, d, rfl⟩
      · exact ⟨i + 1, d, by simpa using h⟩
    · rintro ⟨i, d, h⟩
      cases i with
      | zero => exact .inl ⟨d, by simpa using h⟩
      | succ i => exact .inr ⟨i, d, by simpa using h⟩
theorem oas_shape : ∀ {en en' : En}, Shape en en' → oas en = oas en'
  | [], [], _ => rfl
  | [], _ :: _, h => by simp [Shape] at h
  | _ :: _, [], h => by simp [Shape] at h
  | s :: r, s' :: r', h => by
    unfold Shape at h
    rw [List.map_cons, List.map_cons, List.cons.injEq] at h
    have ih := oas_shape (en := r) (en' := r') h.2
    have h1 := h.1
    cases s <;> cases s' <;> simp only [shp] at h1 <;> first | (cases h1; simp only [oas, ih]) | (cases h1)
theorem Shape.refl (en : En) : Shape en en := rfl
theorem Shape.trans {e1 e2 e3 : En} (a : Shape e1 e2) (b : Shape e2 e3) : Shape e1 e3 := Eq.trans a b
theorem Shape.symm {e1 e2 : En} (a : Shape e1 e2) : Shape e2 e1 := Eq.symm a
theorem Shape.at {i : Nat} {s : Sl} (h : Shape en en') (e : en[i]? = some s) : ∃ s', en'[i]? = some s' ∧ shp s = shp s' := by
  have h1 : (en.map shp)[i]? = some (shp s) := by rw [List.getElem?_map, e]; rfl
  have h' : en.map shp = en'.map shp := h
  rw [h', List.getElem?_map] at h1
  cases e' : en'[i]? with
  | none => rw [e'] at h1; cases h1
  | some s' =>
    rw [e'] at h1
    exact ⟨s', rfl, (Option.some.inj h1).symm⟩
theorem Shape.val {i : Nat} (h : Shape en en') (e : en[i]? = some (.val d)) : en'[i]? = some (.val d) := by
  obtain ⟨s', h1, h2⟩ := h.at e
  cases s' <;> simp only [shp] at h2 <;> cases h2
  exact h1
theorem Shape.own {i : Nat} (h : Shape en en') (e : en[i]? = some (.own a d)) : ∃ d', en'[i]? = some (.own a d') := by
  obtain ⟨s', h1, h2⟩ := h.at e
  cases s' <;> simp only [shp] at h2 <;> cases h2
  exact ⟨_, h1⟩
theorem Shape.set {i : Nat} {s s' : Sl} (e : en[i]? = some s) (h : shp s = shp s') : Shape en (en.set i s') := by
  unfold Shape
  rw [List.map_set, ← h]
  refine List.ext_getElem? fun j => ?_
  rw [List.getElem?_set]
  have hi : i < en.length := (List.getElem?_eq_some_iff.mp e).1
  by_cases hj : i = j
  · subst hj
    rw [if_pos rfl, List.length_map, if_pos hi, List.getElem?_map, e]
    rfl
  · rw [if_neg hj]
theorem Keep.refl : Keep en H H := fun _ _ _ h => h
theorem Keep.trans {H1 : Hp} (s : Shape en en') (a : Keep en H H1) (b : Keep en' H1 H') : Keep en H H' := fun x u n h => b x u (by rw [← oas_shape s]; exact n) (a x u n h)
theorem Keep.same (e : Same H H') : Keep en H H' := fun a u _ h => e a u h
theorem Keep.le (k : Keep en H H') (s : Shape en en') : Le (mm C (oas en)) H (mm C (oas en')) H' := fun a u n h => by
  rw [← oas_shape s]
  exact ⟨n, k a u (fun z => n (.inr z)) h⟩
theorem XcR.mono {M M' : Ms} {x : Xc} {cls : Value} {dx : Option Addr} (e : Le M H M' H') (h : XcR K M H x cls dx) : XcR K M' H' x cls dx := by
  obtain ⟨h1, h2⟩ := h
  refine ⟨h1, ?_⟩
  obtain ⟨c, f⟩ := x
  cases f with
  | none => trivial
  | some p =>
    obtain ⟨dd, v, e1, e2, e3, e4⟩ := h2
    exact ⟨dd, v, e1, (e dd _ e2 e3).1, (e dd _ e2 e3).2, Rp.mono e _ _ e4⟩
theorem Cell.mono {M M' : Ms} (e : Le M H M' H') (ha : ∀ u, H a = some u → H' a = some u) : ∀ {d : D}, Cell K M H a d → Cell K M' H' a d
  | .lst ds, ⟨vs, h1, h2⟩ => ⟨vs, ha _ h1, RpA.mono e _ _ h2⟩
  | .dct _ _ _, ⟨c, h1, h2, h3⟩ => ⟨c, ha _ h1, h2, RpA.mono e _ _ h3⟩
theorem SlR.mono {M M' : Ms} {s : Sl} {o : Option V} (e : Le M H M' H') (ha : ∀ a d, s = .own a d → ∀ u, H a = some u → H' a = some u) (h : SlR K C M H o s) : SlR K C M' H' o s := by
  cases s with
  | no => trivial
  | val d =>
    cases o with
    | none => exact h
    | some v => exact Rp.mono e _ _ h
  | own a d =>
    cases o with
    | none => exact h
    | some v => exact ⟨h.1, h.2.1, h.2.2.1, h.2.2.2.mono e (ha a d rfl)⟩
  | exc a c dd x =>
    cases o with
    | none => exact h
    | some v => exact ⟨h.1, h.2.mono e⟩
theorem R.get {i : Nat} (r : R K C σ H en) (h : en[i]? = some (.val d)) : ∃ v, σ[i]? = some (some v) ∧ Rp K (mm C (oas en)) H v d := by
  obtain ⟨o, h1, h2⟩ := Pget r.sl h
  cases o with
  | none => exact h2.elim
  | some v => exact ⟨v, h1, h2⟩
theorem R.getO {i : Nat} (r : R K C σ H en) (h : en[i]? = some (.own a d)) : σ[i]? = some (some (.ref a)) ∧ ¬ C.M a ∧ (C.F a ∨ C.H a = none) ∧ Cell K (mm C (oas en)) H a d := by
  obtain ⟨o, h1, h2⟩ := Pget r.sl h
  cases o with
  | none => exact h2.elim
  | some v => obtain ⟨rfl, h3⟩ := h2; exact ⟨h1, h3⟩
theorem R.oM (r : R K C σ H en) (h : a ∈ oas en) : ¬ C.M a := by
  obtain ⟨i, d, e⟩ := oas_mem.mp h
  exact (r.getO e).2.1
theorem R.oF (r : R K C σ H en) (h : a ∈ oas en) : C.F a ∨ C.H a = none := by
  obtain ⟨i, d, e⟩ := oas_mem.mp h
  exact (r.getO e).2.2.1
theorem Cell.dom {M : Ms} : ∀ {d : D}, Cell K M H a d → ∃ u, H a = some u
  | .lst _, ⟨_, h, _⟩ => ⟨_, h⟩
  | .dct _ _ _, ⟨_, h, _⟩ => ⟨_, h⟩
theorem R.oD (r : R K C σ H en) (h : a ∈ oas en) : ∃ u, H a = some u := by
  obtain ⟨i, d, e⟩ := oas_mem.mp h
  exact (r.getO e).2.2.2.dom
theorem R.mD (r : R K C σ H en) (h : mm C (oas en) a) : ∃ u, H a = some u := by
  rcases h with h | h
  · exact r.dom a (.inl h)
  · exact r.oD h
/-- what is new is not tracked at the entry -/
theorem R.new (r : R K C σ H en) (h : H a = none) : C.H a = none := by
  cases e : C.H a with
  | none => rfl
  | some u =>
    by_cases f : C.F a
    · obtain ⟨u', e'⟩ := r.dom a (.inr f)
      rw [h] at e'; cases e'
    · have := r.keep a u e f
      rw [h] at this; cases this
/-- the heap grows -/
theorem R.grow (r : R K C σ H en) (e : Same H H') : R K C σ H' en where
  sl := Pmap r.sl fun i x y _ _ h => h.mono (fun a u n q => ⟨n, e a u q⟩) fun a d _ u q => e a u q
  inj := r.inj
  dom := fun a h => let ⟨u, q⟩ := r.dom a h; ⟨u, e a u q⟩
  keep := fun a u h n => e a u (r.keep a u h n)
  nt := fun a xs w z => by
    obtain ⟨u, q⟩ := r.dom a w
    have q' := e a u q
    rw [z] at q'
    cases q'
    exact r.nt a xs w q
theorem same_new {p : Addr} {o : HO} (h : H p = none) : Same H (upd H p o) := fun b x e => by
  rw [upd_ne (ne_of_none e h)]
  exact e
/-- a new object is held aside -/
theorem R.hold {p : Addr} {o : HO} (r : R K C σ H en) (h : H p = none) (no : ∀ xs, o ≠ .tup xs := by exact fun _ z => nomatch z) : R K (C.add p) σ (upd H p o) en where
  sl := Pmap r.sl fun i x y _ hy q => by
    have q' : SlR K C (mm (C.add p) (oas en)) (upd H p o) x y := q.mono (fun a u n z => ⟨fun w => by
      rcases w with (w | w) | w
      · exact n (.inl w)
      · rw [w, h] at z; cases z
      · exact n (.inr w), same_new h a u z⟩) fun a d _ u z => same_new h a u z
    cases y with
    | own b d =>
      cases x with
      | none => exact q'.elim
      | some v =>
        refine ⟨q'.1, fun w => ?_, q'.2.2⟩
        rcases w with w | w
        · exact q'.2.1 w
        · obtain ⟨u, z⟩ := r.oD (oas_mem.mpr ⟨i, d, hy⟩)
          rw [w, h] at z; cases z
    | no => exact q'
    | val d => cases x <;> exact q'
    | exc a1 c1 d1 x1 => cases x <;> exact q'
  inj := r.inj
  dom := fun a w => by
    rcases w with (w | w) | w
    · obtain ⟨u, q⟩ := r.dom a (.inl w); exact ⟨u, same_new h a u q⟩
    · exact ⟨o, by rw [w]; exact upd_same⟩
    · obtain ⟨u, q⟩ := r.dom a (.inr w); exact ⟨u, same_new h a u q⟩
  keep := fun a u q n => same_new h a u (r.keep a u q n)
  nt := fun a xs w z => by
    by_cases e : a = p
    · rw [e, upd_same] at z
      exact no xs (Option.some.inj z)
    · rw [upd_ne e] at z
      rcases w with (w | w) | w
      · exact r.nt a xs (.inl w) z
      · exact e w
      · exact r.nt a xs (.inr w) z
theorem le_add {l : List Addr} : Le (mm (C.add a) l) H (mm C l) H := fun b u n q => ⟨fun w => n (w.imp .inl id), q⟩
/-- .. and let go -/
theorem R.drop (r : R K (C.add a) σ H en) : R K C σ H en where
  sl := Pmap r.sl fun i x y _ hy q => by
    have q' : SlR K (C.add a) (mm C (oas en)) H x y := q.mono le_add fun _ _ _ _ z => z
    cases y with
    | own b d =>
      cases x with
      | none => exact q'.elim
      | some v => exact ⟨q'.1, fun w => q'.2.1 (.inl w), q'.2.2⟩
    | no => exact q'
    | val d => cases x <;> exact q'
    | exc a1 c1 d1 x1 => cases x <;> exact q'
  inj := r.inj
  dom := fun a w => r.dom a (w.imp .inl id)
  keep := r.keep
  nt := fun a xs w => r.nt a xs (w.imp .inl id)
/-- an own list is no tuple -/
theorem Cell.nt {M : Ms} : ∀ {d : D}, Cell K M H a d → ∀ xs, H a ≠ some (.tup xs)
  | .lst _, ⟨_, h, _⟩, xs, z => by rw [h] at z; cases z
  | .dct _ _ _, ⟨c, h, _⟩, xs, z => by rw [h] at z; cases c <;> cases z
theorem R.mN (r : R K C σ H en) (h : mm C (oas en) a) (xs : List V) : H a ≠ some (.tup xs) := by
  rcases h with h | h
  · exact r.nt a xs (.inl h)
  · obtain ⟨i, d, e⟩ := oas_mem.mp h
    exact (r.getO e).2.2.2.nt xs
end
end VS

namespace VS
open PySem L2

/-! ### results -/
inductive Res where
  | val (d : D) | own (a : Addr) (d : D) | bor (i : Nat)
def Cc.ext (C : Cc) : Res → Cc
  | .own a _ => C.add a
  | _ => C
def Hold (K : PySem.W.Frag) (C : Cc) (r : Res) (en : En) (H : Hp) (v : V) : Prop :=
  match r with
  | .val d => Rp K (mm C (oas en)) H v d
  | .own a d => v = .ref a ∧ ¬ C.M a ∧ (C.F a ∨ C.H a = none) ∧ Cell K (mm (C.add a) (oas en)) H a d
  | .bor i => ∃ a d, en[i]? = some (.own a d) ∧ v = .ref a
def Cc.exts (C : Cc) : List Res → Cc
  | [] => C
  | r :: rs => (C.ext r).exts rs
def HoldA (K : PySem.W.Frag) : Cc → List Res → En → Hp → List V → Prop
  | _, [], _, _, vs => vs = []
  | C, r :: rs, en, H, vs => ∃ v ws, vs = v :: ws ∧ Hold K (C.exts rs) r en H v ∧ HoldA K (C.ext r) rs en H ws
/-- a new list is new -/
def NewR (H : Hp) : Res → Prop
  | .own p _ => H p = none
  | _ => True
theorem ext_ext {C : Cc} {r1 r2 : Res} : (C.ext r1).ext r2 = (C.ext r2).ext r1 := by
  cases r1 <;> cases r2 <;> simp [Cc.ext, Cc.add]
  funext x
  exact propext ⟨fun z => z.elim (fun z => z.elim (fun z => .inl (.inl z)) .inr) fun z => .inl (.inr z), fun z => z.elim (fun z => z.elim (fun z => .inl (.inl z)) .inr) fun z => .inl (.inr z)⟩
theorem exts_ext : ∀ {rs : List Res} {C : Cc} {r : Res}, (C.exts rs).ext r = (C.ext r).exts rs
  | [], _, _ => rfl
  | r' :: rs, C, r => by
    show ((C.ext r').exts rs).ext r = ((C.ext r).ext r').exts rs
    rw [exts_ext (rs := rs), ext_ext]
/-- what is seen of a result -/
def rd (en : En) : Res → Option D
  | .val d => some d
  | .own _ d => some d
  | .bor i => match en[i]? with
    | some (.own _ d) => some d
    | _ => none
section
variable {K : PySem.W.Frag} {C : Cc} {σ : L2.St} {H H' : Hp} {en en' : En} {a : Addr} {d : D} {v : V} {r : Res}
theorem R.dropX : ∀ {r : Res}, R K (C.ext r) σ H en → R K C σ H en
  | .val _, h => h
  | .own _ _, h => h.drop
  | .bor _, h => h
theorem R.dropA : ∀ {rs : List Res} {C : Cc}, R K (C.exts rs) σ H en → R K C σ H en
  | [], _, h => h
  | r :: rs, C, h => (R.dropA (rs := rs) (C := C.ext r) h).dropX
theorem mm_ext (x : Addr) : ∀ {r : Res}, mm C (oas en) x → mm (C.ext r) (oas en) x
  | .val _, h => h
  | .own _ _, h => h.imp .inl id
  | .bor _, h => h
theorem mm_exts (x : Addr) : ∀ {rs : List Res} {C : Cc}, mm C (oas en) x → mm (C.exts rs) (oas en) x
  | [], _, h => h
  | r :: rs, C, h => mm_exts x (rs := rs) (C := C.ext r) (mm_ext x h)
theorem le_ext : Le (mm (C.ext r) (oas en)) H (mm C (oas en)) H := fun a u n h => ⟨fun z => n (mm_ext a z), h⟩
theorem le_exts {rs : List Res} : Le (mm (C.exts rs) (oas en)) H (mm C (oas en)) H := fun a u n h => ⟨fun z => n (mm_exts a z), h⟩
theorem ext_F : ∀ {r : Res}, (C.ext r).F = C.F
  | .val _ => rfl
  | .own _ _ => rfl
  | .bor _ => rfl
theorem ext_H : ∀ {r : Res}, (C.ext r).H = C.H
  | .val _ => rfl
  | .own _ _ => rfl
  | .bor _ => rfl
/-- a result stays through what follows -/
theorem Hold.stay (h : Hold K C r en H v) (R2 : R K (C.ext r) σ H' en') (s : Shape en en') (k : Keep en H H') : Hold K C r en' H' v := by
  cases r with
  | val d => exact Rp.mono (k.le s) _ _ h
  | own a d =>
    obtain ⟨h1, h2, h3, h4⟩ := h
    refine ⟨h1, h2, h3, Cell.mono (k.le s) (fun u q => k a u (fun z => ?_) q) h4⟩
    rw [oas_shape s] at z
    exact R2.oM z (.inr rfl)
  | bor i =>
    obtain ⟨a, d, h1, h2⟩ := h
    obtain ⟨d', h3⟩ := s.own h1
    exact ⟨a, d', h3, h2⟩
theorem HoldA.stay : ∀ {rs : List Res} {C : Cc} {vs : List V}, HoldA K C rs en H vs → R K (C.exts rs) σ H' en' → Shape en en' → Keep en H H' → HoldA K C rs en' H' vs
  | [], _, _, h, _, _, _ => h
  | r :: rs, C, _, ⟨v, ws, e, h1, h2⟩, R2, s, k => ⟨v, ws, e, h1.stay (by rw [exts_ext]; exact R2) s k, HoldA.stay (rs := rs) h2 R2 s k⟩
/-- what a reading sees: elements that no one may change -/
def Sq (K : PySem.W.Frag) (C : Cc) (en : En) (H : Hp) (v : V) : D → Prop
  | .lst ds => ∃ a vs, v = .ref a ∧ SqL K H a vs ∧ RpA K (mm C (oas en)) H vs ds
  | .tup ds => ∃ a vs, v = .ref a ∧ SqT K H a vs ∧ RpA K (mm C (oas en)) H vs ds
  | .dct t ks ds => ∃ a, ∃ c : Dk, v = .ref a ∧ c.Rd H a ∧ (t, ks) = c.sig ∧ RpA K (mm C (oas en)) H c.vals ds
  | d => Rp K (mm C (oas en)) H v d
theorem Rp.sq : ∀ {d : D}, Rp K (mm C (oas en)) H v d → Sq K C en H v d
  | .lst _, .lst h1 h2 => ⟨_, _, rfl, h1.sq, h2⟩
  | .tup _, .tup h1 h2 => ⟨_, _, rfl, h1.sq, h2⟩
  | .dct _ _ _, .dct _ h2 h3 h4 => ⟨_, _, rfl, h2, h3, h4⟩
  | .non, h => h
  | .bl _, h => h
  | .int _, h => h
  | .str _, h => h
theorem Cell.sq {M : Ms} (e : Le M H (mm C (oas en)) H) : ∀ {d : D}, Cell K M H a d → Sq K C en H (.ref a) d
  | .lst _, ⟨vs, h1, h2⟩ => ⟨a, vs, rfl, SqL.of h1, RpA.mono e _ _ h2⟩
  | .dct _ _ _, ⟨c, h1, h2, h3⟩ => ⟨a, c, rfl, .of h1, h2, RpA.mono e _ _ h3⟩
/-- a result is seen -/
theorem Hold.sq (h : Hold K C r en H v) (R1 : R K (C.ext r) σ H en) (e : rd en r = some d) : Sq K C en H v d := by
  cases r with
  | val d' => cases e; exact Rp.sq h
  | own a d' => cases e; obtain ⟨rfl, _, _, h⟩ := h; exact h.sq le_add
  | bor i =>
    obtain ⟨a, d', h1, rfl⟩ := h
    have e' : some d' = some d := by simpa [rd, h1] using e
    cases e'
    exact ((R1.dropX (r := .bor i)).getO h1).2.2.2.sq (fun _ _ n q => ⟨n, q⟩)
/-- a result as a value: a new list is let go -/
def vl : Res → Option D
  | .val d => some d
  | .own _ d => some d
  | .bor _ => none
theorem Cell.rp {M M' : Ms} (e : Le M H M' H) (n : ¬ M' a) : ∀ {d : D}, Cell K M H a d → Rp K M' H (.ref a) d
  | .lst _, ⟨vs, h1, h2⟩ => .lst (.inl ⟨n, .inl h1⟩) (RpA.mono e _ _ h2)
  | .dct _ _ _, ⟨c, h1, h2, h3⟩ => .dct n (.of h1) h2 (RpA.mono e _ _ h3)
theorem Hold.rp (h : Hold K C r en H v) (R1 : R K (C.ext r) σ H en) (e : vl r = some d) : Rp K (mm C (oas en)) H v d := by
  cases r with
  | val d' => cases e; exact h
  | own a d' =>
    cases e
    obtain ⟨rfl, h1, _, h⟩ := h
    refine h.rp le_add fun z => ?_
    rcases z with z | z
    · exact h1 z
    · exact R1.oM z (.inr rfl)
  | bor i => cases e
def vls : List Res → Option (List D)
  | [] => some []
  | r :: rs => match vl r, vls rs with
    | some d, some ds => some (d :: ds)
    | _, _ => none
theorem HoldA.rp : ∀ {rs : List Res} {C : Cc} {vs : List V} {ds : List D}, HoldA K C rs en H vs → R K (C.exts rs) σ H en → vls rs = some ds → RpA K (mm C (oas en)) H vs ds
  | [], _, _, _, h, _, e => by cases h; cases e; exact .nil
  | r :: rs, C, _, ds, ⟨v, ws, e, h1, h2⟩, R1, e' => by
    subst e
    unfold vls at e'
    cases e1 : vl r with
    | none => rw [e1] at e'; cases e'
    | some d =>
      cases e2 : vls rs with
      | none => rw [e1, e2] at e'; cases e'
      | some ds' =>
        rw [e1, e2] at e'
        cases e'
        refine .cons (Rp.mono le_exts _ _ (h1.rp (by rw [exts_ext]; exact R1) e1)) ?_
        exact RpA.mono le_ext _ _ (HoldA.rp (rs := rs) h2 R1 e2)
end

/-! ### readings without a heap -/
abbrev Px := Xc → En → Prop
abbrev TDe := Px → En → (Res → En → Prop) → Prop
abbrev TDt := Px → En → (Bool → En → Prop) → Prop
abbrev TDa := Px → En → (List Res → En → Prop) → Prop
def XOk (K : PySem.W.Frag) (C : Cc) (W : WX) (σ : L2.St) (Ψ : Px) : Prop :=
  ∀ x en cls d H, Ψ x en → R K C σ H en → XcR K (mm C (oas en)) H x cls d → W cls d σ H
def lE (K : PySem.W.Frag) (W : WX) (T : TDe) : TE := fun σ H Q => ∃ (C : Cc) (en : En) (Φ : Res → En → Prop) (Ψ : Px), R K C σ H en ∧ T Ψ en Φ ∧ XOk K C W σ Ψ ∧
  ∀ r en' v H', Φ r en' → R K (C.ext r) σ H' en' → Hold K C r en' H' v → Shape en en' → Keep en H H' → NewR H r → Q v H'
def lT (K : PySem.W.Frag) (W : WX) (T : TDt) : TT := fun σ H Q => ∃ (C : Cc) (en : En) (Φ : Bool → En → Prop) (Ψ : Px), R K C σ H en ∧ T Ψ en Φ ∧ XOk K C W σ Ψ ∧
  ∀ b en' H', Φ b en' → R K C σ H' en' → Shape en en' → Keep en H H' → Q b H'
def lA (K : PySem.W.Frag) (W : WX) (T : TDa) : TA := fun σ H Q => ∃ (C : Cc) (en : En) (Φ : List Res → En → Prop) (Ψ : Px), R K C σ H en ∧ T Ψ en Φ ∧ XOk K C W σ Ψ ∧
  ∀ rs en' vs H', Φ rs en' → R K (C.exts rs) σ H' en' → HoldA K C rs en' H' vs → Shape en en' → Keep en H H' → (∀ r, r ∈ rs → NewR H r) → Q vs H'
abbrev DE (X : Cx) (W : WX) (e : Expr) (T : TDe) : Prop := PE X e (lE X.K W T)
abbrev DT (X : Cx) (W : WX) (e : Expr) (T : TDt) : Prop := PT X e (lT X.K W T)
abbrev DA (X : Cx) (W : WX) (es : List Expr) (T : TDa) : Prop := PA X es (lA X.K W T)
theorem PEi {X : Cx} {e : Expr} {t t' : TE} (h : PE X e t) (i : ∀ σ H Q, t' σ H Q → t σ H Q) : PE X e t' := ⟨fun pins s σ H Q I q => h.run pins s σ H Q I (i σ H Q q)⟩
theorem PTi {X : Cx} {e : Expr} {t t' : TT} (h : PT X e t) (i : ∀ σ H Q, t' σ H Q → t σ H Q) : PT X e t' := ⟨fun pins s σ H Q I q => h.run pins s σ H Q I (i σ H Q q)⟩
theorem PAi {X : Cx} {e : List Expr} {t t' : TA} (h : PA X e t) (i : ∀ σ H Q, t' σ H Q → t σ H Q) : PA X e t' := ⟨fun pos pins s σ H Q I q => h.run pos pins s σ H Q I (i σ H Q q)⟩
theorem PSi {X : Cx} {st : Stmt} {t t' : TS} (h : PS X st t) (i : ∀ D σ H, t' D σ H → t D σ H) : PS X st t' := ⟨fun pins s σ H D I q => h.run pins s σ H D I (i D σ H q)⟩
theorem PSsi {X : Cx} {st : List Stmt} {t t' : TS} (h : PSs X st t) (i : ∀ D σ H, t' D σ H → t D σ H) : PSs X st t' := ⟨fun pins s σ H D I q => h.run pins s σ H D I (i D σ H q)⟩
theorem Keep.new {K : PySem.W.Frag} {C : Cc} {σ : L2.St} {H H1 : Hp} {en en1 : En} {p : Addr} (k : Keep en H H1) (s : Shape en en1) (R1 : R K C σ H1 en1) (h : H1 p = none) : H p = none := by
  cases e : H p with
  | none => rfl
  | some u =>
    by_cases m : p ∈ oas en
    · rw [oas_shape s] at m
      obtain ⟨u', e'⟩ := R1.oD m
      rw [h] at e'; cases e'
    · rw [k p u m e] at h; cases h
theorem NewR.back {K : PySem.W.Frag} {C : Cc} {σ : L2.St} {H H1 : Hp} {en en1 : En} {r : Res} (n : NewR H1 r) (k : Keep en H H1) (s : Shape en en1) (R1 : R K C σ H1 en1) : NewR H r := by
  cases r with
  | own p d => exact k.new s R1 n
  | _ => trivial
section
variable {K : PySem.W.Frag} {C : Cc} {σ : L2.St} {W : WX} {Ψ : Px}
theorem XOk.ext {r : Res} (h : XOk K C W σ Ψ) : XOk K (C.ext r) W σ Ψ := fun x en cls d H q R1 hx => h x en cls d H q R1.dropX (hx.mono le_ext)
theorem XOk.exts {rs : List Res} (h : XOk K C W σ Ψ) : XOk K (C.exts rs) W σ Ψ := fun x en cls d H q R1 hx => h x en cls d H q R1.dropA (hx.mono le_exts)
end

/-! ### expressions -/
def tVarD (i : Nat) : TDe := fun _ en Φ => match en[i]? with
  | some (.val d) => Φ (.val d) en
  | some (.own _ _) => Φ (.bor i) en
  | _ => False
def tConD (d : D) : TDe := fun _ en Φ => Φ (.val d) en
/-- two parts, what both are seen as -/
def tOpD (g : D → D → (Res → Prop) → Prop) (ta tb : TDe) : TDe := fun Ψ en Φ => ta Ψ en fun ra en1 => tb Ψ en1 fun rb en2 =>
  match rd en2 ra, rd en2 rb with
  | some x, some y => g x y fun r => Φ r en2
  | _, _ => False
def tUnD (g : D → (Res → Prop) → Prop) (ta : TDe) : TDe := fun Ψ en Φ => ta Ψ en fun ra en1 =>
  match rd en1 ra with
  | some x => g x fun r => Φ r en1
  | _ => False
/-- a value's operator, its meaning on data -/
def OpD (X : Cx) (r : R2) (g : D → D → (Res → Prop) → Prop) : Prop :=
  ∀ (C : Cc) (σ : L2.St) (H : Hp) (en : En) (x y : D) (v w : V) (Φ : Res → Prop) (Q : VK), R X.K C σ H en → Sq X.K C en H v x → Sq X.K C en H w y → g x y Φ →
    (∀ z v' H', Φ z → R X.K (C.ext z) σ H' en → Hold X.K C z en H' v' → Same H H' → NewR H z → Q v' H') → r v w H Q
def UnD (X : Cx) (r : V → Hp → VK → Prop) (g : D → (Res → Prop) → Prop) : Prop :=
  ∀ (C : Cc) (σ : L2.St) (H : Hp) (en : En) (x : D) (v : V) (Φ : Res → Prop) (Q : VK), R X.K C σ H en → Sq X.K C en H v x → g x Φ →
    (∀ z v' H', Φ z → R X.K (C.ext z) σ H' en → Hold X.K C z en H' v' → Same H H' → NewR H z → Q v' H') → r v H Q
section
variable {X : Cx} {W : WX} {a b c e : Expr} {ta tb tc te : TDe} {pos : Pos} {i : Nat} {es : List Expr}
theorem de_var' {i : Nat} {e : Expr} (h : PE X e (tVar i)) : DE X W e (tVarD i) := PEi h fun σ H Q h => by
  obtain ⟨C, en, Φ, Ψ, R1, hT, hX, k⟩ := h
  unfold tVarD at hT
  cases e : en[i]? with
  | none => rw [e] at hT; exact hT.elim
  | some s =>
    rw [e] at hT
    cases s with
    | no => exact hT.elim
    | val d =>
      obtain ⟨v, h1, h2⟩ := R1.get e
      exact ⟨v, h1, k _ _ v H hT R1 h2 rfl Keep.refl trivial⟩
    | own a d => exact ⟨_, (R1.getO e).1, k _ _ _ H hT R1 ⟨a, d, e, rfl⟩ rfl Keep.refl trivial⟩
    | exc => exact hT.elim
theorem de_con' {v : V} {d : D} {e : Expr} (h : PE X e (tC v)) (r : ∀ K M H, Rp K M H v d) : DE X W e (tConD d) := PEi h fun σ H Q h => by
  obtain ⟨C, en, Φ, Ψ, R1, hT, hX, k⟩ := h
  exact k _ _ v H hT R1 (r _ _ _) rfl Keep.refl trivial
theorem dv (i : Nat) {x : Str} {pos : Pos} (hN : X.N[i]? = some x := by rfl) (hv : Vis X.env.scope x := by first | exact Or.inl rfl | exact Or.inr (Or.inl rfl) | exact Or.inr (Or.inr rfl)) (hd : (x == ("__debug__" : Str)) = false := by decide)
    (hcd : (x == ("__classdict__" : Str)) = false := by decide) : DE X W (.Name x pos) (tVarD i) := de_var' (pe_var hN hv hd hcd)
theorem de_int {i : Int} {j pos} : DE X W (.Constant (.int i) j pos) (tConD (.int i)) := de_con' pe_int fun _ _ _ => .int i
theorem de_bl {b : Bool} {j pos} : DE X W (.Constant (.bool b) j pos) (tConD (.bl b)) := de_con' pe_bl fun _ _ _ => .bl b
theorem de_non {j pos} : DE X W (.Constant .none j pos) (tConD .non) := de_con' pe_non fun _ _ _ => .non
theorem de_str {x : Str} {j pos} : DE X W (.Constant (.str x) j pos) (tConD (.str x)) := de_con' pe_str fun _ _ _ => .str x
/-- two parts, one after the other -/
theorem two {K : PySem.W.Frag} {r : R2} {g : D → D → (Res → Prop) → Prop} {σ : L2.St} {H : Hp} {Q : VK}
    (ho : ∀ (C : Cc) (σ : L2.St) (H : Hp) (en : En) (x y : D) (v w : V) (Φ : Res → Prop) (Q : VK), R K C σ H en → Sq K C en H v x → Sq K C en H w y → g x y Φ →
      (∀ z v' H', Φ z → R K (C.ext z) σ H' en → Hold K C z en H' v' → Same H H' → NewR H z → Q v' H') → r v w H Q)
    (h : lE K W (tOpD g ta tb) σ H Q) : tOp r (lE K W ta) (lE K W tb) σ H Q := by
  obtain ⟨C, en, Φ, Ψ, R0, hT, hX, k⟩ := h
  refine ⟨C, en, _, Ψ, R0, hT, hX, fun ra en1 v1 H1 h1 R1 hold1 s1 k1 _ => ?_⟩
  refine ⟨C.ext ra, en1, _, Ψ, R1, h1, hX.ext, fun rb en2 v2 H2 h2 R2 hold2 s2 k2 _ => ?_⟩
  have R2' := R2.dropX
  have hold1' := hold1.stay R2' s2 k2
  cases ex : rd en2 ra with
  | none => simp only [ex] at h2
  | some x =>
    cases ey : rd en2 rb with
    | none => simp only [ex, ey] at h2
    | some y =>
      simp only [ex, ey] at h2
      refine ho C σ H2 en2 x y v1 v2 _ Q R2'.dropX (hold1'.sq R2' ex) ?_ h2 fun z v' H' hz R3 hold3 sm nw => k z en2 v' H' hz R3 hold3 (s1.trans s2) ((k1.trans s1 k2).trans (s1.trans s2) (Keep.same sm)) (nw.back (k1.trans s1 k2) (s1.trans s2) R2'.dropX)
      have q := hold2.sq R2 ey
      revert q
      cases y with
      | lst ds => rintro ⟨a, vs, e1, e2, e3⟩; exact ⟨a, vs, e1, e2, RpA.mono le_ext _ _ e3⟩
      | tup ds => rintro ⟨a, vs, e1, e2, e3⟩; exact ⟨a, vs, e1, e2, RpA.mono le_ext _ _ e3⟩
      | dct t ks ds => rintro ⟨a, c, e1, e2, e3, e4⟩; exact ⟨a, c, e1, e2, e3, RpA.mono le_ext _ _ e4⟩
      | non => exact fun q => Rp.mono le_ext _ _ q
      | bl => exact fun q => Rp.mono le_ext _ _ q
      | int => exact fun q => Rp.mono le_ext _ _ q
      | str => exact fun q => Rp.mono le_ext _ _ q
theorem de_op {op : Operator} {r : R2} {g : D → D → (Res → Prop) → Prop} (ho : OpR X (binaryOp op) r) (hg : OpD X r g) (ha : DE X W a ta) (hb : DE X W b tb) : DE X W (.BinOp a op b pos) (tOpD g ta tb) :=
  PEi (pe_op ho ha hb) fun σ H Q h => two hg h
theorem de_cmp {op : CmpOp} {r : R2} {g : D → D → (Res → Prop) → Prop} (ho : OpR X (compareOp op) r) (hg : OpD X r g) (ha : DE X W a ta) (hb : DE X W b tb) (hm : behindInMarks op b = false := by exact nomark _) : DE X W (.Compare a [op] [b] pos) (tOpD g ta tb) :=
  PEi (pe_cmpR ho ha hb hm) fun σ H Q h => two hg h
theorem de_ix {r : R2} {g : D → D → (Res → Prop) → Prop} (ho : IxR X r) (hg : OpD X r g) (ha : DE X W a ta) (hb : DE X W b tb) (hs : PlainIx b := by exact fun _ _ => rfl) : DE X W (.Subscript a b pos) (tOpD g ta tb) :=
  PEi (pe_ix ho ha hb hs) fun σ H Q h => two hg h
theorem de_un {op : UnaryOp} {r : V → Hp → VK → Prop} {g : D → (Res → Prop) → Prop} (ho : UnR X (unaryOp op) r) (hg : UnD X r g) (ha : DE X W a ta) : DE X W (.UnaryOp op a pos) (tUnD g ta) :=
  PEi (pe_un ho ha) fun σ H Q h => by
    obtain ⟨C, en, Φ, Ψ, R0, hT, hX, k⟩ := h
    refine ⟨C, en, _, Ψ, R0, hT, hX, fun ra en1 v1 H1 h1 R1 hold1 s1 k1 _ => ?_⟩
    cases ex : rd en1 ra with
    | none => simp only [ex] at h1
    | some x =>
      simp only [ex] at h1
      exact hg C σ H1 en1 x v1 _ Q R1.dropX (hold1.sq R1 ex) h1 fun z v' H' hz R3 hold3 sm nw => k z en1 v' H' hz R3 hold3 s1 (k1.trans s1 (Keep.same sm)) (nw.back k1 s1 R1.dropX)
end

/-! ### operators -/
def gII (Cd : Int → Int → Prop) (g : Int → Int → Int) : D → D → (Res → Prop) → Prop := fun x y Φ => match x, y with
  | .int i, .int j => Cd i j ∧ Φ (.val (.int (g i j)))
  | _, _ => False
def gI0 (g : Int → Int → Int) : D → D → (Res → Prop) → Prop := fun x y Φ => match x, y with
  | .int i, .int j => Φ (.val (.int (g i j)))
  | _, _ => False
def gIB (g : Int → Int → Bool) : D → D → (Res → Prop) → Prop := fun x y Φ => match x, y with
  | .int i, .int j => Φ (.val (.bl (g i j)))
  | _, _ => False
def gU (g : Int → Int) : D → (Res → Prop) → Prop := fun x Φ => match x with
  | .int i => Φ (.val (.int (g i)))
  | _ => False
section
variable {X : Cx}
theorem od_II {Cd : Int → Int → Prop} {g : Int → Int → Int} : OpD X (rI Cd fun i j => .int (g i j)) (gII Cd g) := by
  intro C σ H en x y v w Φ Q R1 hx hy h k
  cases x <;> cases y <;> first | exact h.elim | skip
  cases hx; cases hy
  exact ⟨_, _, rfl, rfl, h.1, k _ _ H h.2 R1 (.int _) (fun _ _ q => q) trivial⟩
theorem od_I0 {g : Int → Int → Int} : OpD X (rI0 fun i j => .int (g i j)) (gI0 g) := by
  intro C σ H en x y v w Φ Q R1 hx hy h k
  cases x <;> cases y <;> first | exact h.elim | skip
  cases hx; cases hy
  exact ⟨_, _, rfl, rfl, k _ _ H h R1 (.int _) (fun _ _ q => q) trivial⟩
theorem od_IB {g : Int → Int → Bool} : OpD X (rI0 fun i j => .bl (g i j)) (gIB g) := by
  intro C σ H en x y v w Φ Q R1 hx hy h k
  cases x <;> cases y <;> first | exact h.elim | skip
  cases hx; cases hy
  exact ⟨_, _, rfl, rfl, k _ _ H h R1 (.bl _) (fun _ _ q => q) trivial⟩
theorem ud_U {g : Int → Int} : UnD X (rU fun i => .int (g i)) (gU g) := by
  intro C σ H en x v Φ Q R1 hx h k
  cases x <;> first | exact h.elim | skip
  cases hx
  exact ⟨_, rfl, k _ _ H h R1 (.int _) (fun _ _ q => q) trivial⟩
end
section
variable {X : Cx} {W : WX} {a b c e : Expr} {ta tb tc te : TDe} {pos : Pos}
theorem de_add (ha : DE X W a ta) (hb : DE X W b tb) : DE X W (.BinOp a .Add b pos) (tOpD (gI0 (· + ·)) ta tb) := de_op op_add od_I0 ha hb
theorem de_sub (ha : DE X W a ta) (hb : DE X W b tb) : DE X W (.BinOp a .Sub b pos) (tOpD (gI0 (· - ·)) ta tb) := de_op op_sub od_I0 ha hb
theorem de_mul (ha : DE X W a ta) (hb : DE X W b tb) : DE X W (.BinOp a .Mult b pos) (tOpD (gII CMulW (· * ·)) ta tb) := de_op op_mulW od_II ha hb
theorem de_fdiv (ha : DE X W a ta) (hb : DE X W b tb) : DE X W (.BinOp a .FloorDiv b pos) (tOpD (gII CDivW (· / ·)) ta tb) := de_op op_fdivW od_II ha hb
theorem de_mod (ha : DE X W a ta) (hb : DE X W b tb) : DE X W (.BinOp a .Mod b pos) (tOpD (gII (fun _ j => 0 < j) (· % ·)) ta tb) := de_op op_mod od_II ha hb
theorem de_pow (ha : DE X W a ta) (hb : DE X W b tb) : DE X W (.BinOp a .Pow b pos) (tOpD (gII CPow fun i j => i ^ j.toNat) ta tb) := de_op op_pow od_II ha hb
theorem de_neg (ha : DE X W a ta) : DE X W (.UnaryOp .USub a pos) (tUnD (gU fun i => -i) ta) := de_un un_neg ud_U ha
theorem de_lt (ha : DE X W a ta) (hb : DE X W b tb) : DE X W (.Compare a [.Lt] [b] pos) (tOpD (gIB fun i j => decide (i < j)) ta tb) := de_cmp op_lt od_IB ha hb
theorem de_le (ha : DE X W a ta) (hb : DE X W b tb) : DE X W (.Compare a [.LtE] [b] pos) (tOpD (gIB fun i j => decide (i ≤ j)) ta tb) := de_cmp op_le od_IB ha hb
theorem de_gt (ha : DE X W a ta) (hb : DE X W b tb) : DE X W (.Compare a [.Gt] [b] pos) (tOpD (gIB fun i j => decide (j < i)) ta tb) := de_cmp op_gt od_IB ha hb
theorem de_ge (ha : DE X W a ta) (hb : DE X W b tb) : DE X W (.Compare a [.GtE] [b] pos) (tOpD (gIB fun i j => decide (j ≤ i)) ta tb) := de_cmp op_ge od_IB ha hb
end
end VS

namespace VS
open PySem L2

/-! ### == of data -/
mutual
def py : D → PyData
  | .non => .none
  | .bl b => .bool b
  | .int i => .int i
  | .str x => .str x
  | .tup xs => .tuple (pys xs)
  | .lst xs => .list (pys xs)
  | .dct _ _ _ => .dict []
def pys : List D → List PyData
  | [] => []
  | d :: ds => py d :: pys ds
end
section
variable {K : PySem.W.Frag} {M : Ms} {H : Hp}
mutual
theorem Rp.dp : ∀ (d : D) (v : V), (py d).canLay0 = true → Rp K M H v d → Dp K H v (py d)
  | .non, _, _, h => by cases h; exact .non
  | .bl b, _, _, h => by cases h; exact .bl b
  | .int i, _, _, h => by cases h; exact .int i
  | .str x, _, _, h => by cases h; exact .str x
  | .lst ds, v, c, h => by
    cases h with
    | lst h1 h2 =>
      simp only [py, PyData.canLay0] at c ⊢
      exact .lst h1.sq (RpA.dp ds _ c h2)
  | .tup ds, v, c, h => by
    cases h with
    | tup h1 h2 =>
      simp only [py, PyData.canLay0] at c ⊢
      exact .tup h1.sq (RpA.dp ds _ c h2)
  | .dct _ _ _, _, c, _ => by simp [py, PyData.canLay0] at c
theorem RpA.dp : ∀ (ds : List D) (vs : List V), PyData.canLayAll0 (pys ds) = true → RpA K M H vs ds → DpAll K H vs (pys ds)
  | [], _, _, h => by cases h; simp only [pys]; exact .nil
  | d :: ds, _, c, h => by
    simp only [pys, PyData.canLayAll0, Bool.and_eq_true] at c
    cases h with
    | cons h1 h2 => simp only [pys]; exact .cons (Rp.dp d _ c.1 h1) (RpA.dp ds _ c.2 h2)
end
theorem Sq.dp {C : Cc} {en : En} {v : V} : ∀ {d : D}, (py d).canLay0 = true → Sq K C en H v d → Dp K H v (py d)
  | .lst ds, c, ⟨a, vs, e, h1, h2⟩ => by subst e; simp only [py, PyData.canLay0] at c ⊢; exact .lst h1 (RpA.dp ds _ c h2)
  | .tup ds, c, ⟨a, vs, e, h1, h2⟩ => by subst e; simp only [py, PyData.canLay0] at c ⊢; exact .tup h1 (RpA.dp ds _ c h2)
  | .non, c, h => Rp.dp _ _ c h
  | .bl _, c, h => Rp.dp _ _ c h
  | .int _, c, h => Rp.dp _ _ c h
  | .str _, c, h => Rp.dp _ _ c h
  | .dct _ _ _, c, _ => by simp [py, PyData.canLay0] at c
end
theorem lay_sh {d : PyData} (h : SeqAt.shaped d = true) : d.canLay0 = true := by
  unfold SeqAt.shaped at h
  exact (Bool.and_eq_true_iff.mp h).1
def eqD : D → D → Bool
  | .int i, .int j => decide (i = j)
  | .bl a, .bl b => a == b
  | x, y => PyData.eqv (py x) (py y)
def shD : D → Prop
  | .int _ => True
  | .bl _ => True
  | .non => True
  | d => SeqAt.shaped (py d) = true
theorem shD_is : ∀ {d : D}, shD d → SeqAt.shaped (py d) = true
  | .int _, _ => by simp [py, SeqAt.shaped, PyData.canLay0, PyData.depth]
  | .bl _, _ => by simp [py, SeqAt.shaped, PyData.canLay0, PyData.depth]
  | .non, _ => by simp [py, SeqAt.shaped, PyData.canLay0, PyData.depth]
  | .str _, h => h
  | .lst _, h => h
  | .tup _, h => h
  | .dct _ _ _, h => h
theorem eqD_is (x y : D) : eqD x y = PyData.eqv (py x) (py y) := by
  cases x <;> cases y <;> simp [eqD, py, PyData.eqv]
  rename_i i j
  by_cases h : i = j <;> simp [h]
def gEq (f : Bool → Bool) : D → D → (Res → Prop) → Prop := fun x y Φ => shD x ∧ shD y ∧ Φ (.val (.bl (f (eqD x y))))
/-- the item at i -/
def gIx : D → D → (Res → Prop) → Prop := fun x y Φ => match x, y with
  | .lst ds, .int i => (match atI ds i with
    | some d => Φ (.val d)
    | none => False)
  | .tup ds, .int i => (match atI ds i with
    | some d => Φ (.val d)
    | none => False)
  | .str z, .int i => z.length ≤ sizeLine ∧ (match atI z.cps.toList i with
    | some c => Φ (.val (.str ⟨#[c]⟩))
    | none => False)
  | _, _ => False
theorem RpA.atI {K : PySem.W.Frag} {M : Ms} {H : Hp} {vs : List V} {ds : List D} {i : Int} {d : D} (h : RpA K M H vs ds) (e : L2.atI ds i = some d) : ∃ v, L2.atI vs i = some v ∧ Rp K M H v d := by
  unfold L2.atI at e ⊢
  rw [h.length]
  cases e1 : ixN ds.length i with
  | none => rw [e1] at e; cases e
  | some j =>
    rw [e1] at e
    exact h.get e
section
variable {X : Cx}
theorem od_eq : OpD X (rEqD X.K) (gEq id) := fun C σ H en x y v w Φ Q R1 hx hy ⟨s1, s2, h⟩ k =>
  ⟨_, _, hx.dp (lay_sh (shD_is s1)), hy.dp (lay_sh (shD_is s2)), shD_is s1, shD_is s2, by rw [← eqD_is]; exact k _ _ H h R1 (.bl _) (fun _ _ q => q) trivial⟩
theorem od_ne : OpD X (rNeD X.K) (gEq not) := fun C σ H en x y v w Φ Q R1 hx hy ⟨s1, s2, h⟩ k =>
  ⟨_, _, hx.dp (lay_sh (shD_is s1)), hy.dp (lay_sh (shD_is s2)), shD_is s1, shD_is s2, by rw [← eqD_is]; exact k _ _ H h R1 (.bl _) (fun _ _ q => q) trivial⟩
theorem od_ix : OpD X (rIx X.K) gIx := by
  intro C σ H en x y v w Φ Q R1 hx hy h k
  cases y <;> try (cases x <;> exact h.elim)
  rename_i i
  cases hy
  cases x <;> try exact h.elim
  · rename_i z
    cases hx
    obtain ⟨hz, h⟩ := h
    cases e : atI z.cps.toList i with
    | none => rw [e] at h; exact h.elim
    | some c =>
      rw [e] at h
      exact .inr (.inr ⟨z, i, c, rfl, rfl, hz, e, k _ _ H h R1 (.str _) (fun _ _ q => q) trivial⟩)
  · rename_i ds
    obtain ⟨a, vs, rfl, h1, h2⟩ := hx
    have h' : (match atI ds i with
      | some d => Φ (.val d)
      | none => False) := h
    cases e : atI ds i with
    | none => rw [e] at h'; exact h'.elim
    | some d =>
      rw [e] at h'
      obtain ⟨v, e1, e2⟩ := h2.atI e
      exact .inr (.inl ⟨a, vs, i, v, rfl, rfl, h1, e1, k _ _ H h' R1 e2 (fun _ _ q => q) trivial⟩)
  · rename_i ds
    obtain ⟨a, vs, rfl, h1, h2⟩ := hx
    have h' : (match atI ds i with
      | some d => Φ (.val d)
      | none => False) := h
    cases e : atI ds i with
    | none => rw [e] at h'; exact h'.elim
    | some d =>
      rw [e] at h'
      obtain ⟨v, e1, e2⟩ := h2.atI e
      exact .inl ⟨a, vs, i, v, rfl, rfl, h1, e1, k _ _ H h' R1 e2 (fun _ _ q => q) trivial⟩
end
section
variable {X : Cx} {W : WX} {a b c e : Expr} {ta tb tc te : TDe} {pos : Pos}
theorem de_eq (hu : X.A.units + 64 < cLine) (ha : DE X W a ta) (hb : DE X W b tb) : DE X W (.Compare a [.Eq] [b] pos) (tOpD (gEq id) ta tb) := de_cmp (op_eqD hu) od_eq ha hb
theorem de_ne (hu : X.A.units + 64 < cLine) (ha : DE X W a ta) (hb : DE X W b tb) : DE X W (.Compare a [.NotEq] [b] pos) (tOpD (gEq not) ta tb) := de_cmp (op_neD hu) od_ne ha hb
theorem de_item (ha : DE X W a ta) (hb : DE X W b tb) (hs : PlainIx b := by exact fun _ _ => rfl) : DE X W (.Subscript a b pos) (tOpD gIx ta tb) := de_ix ix_seq od_ix ha hb hs
end

/-! ### arguments, displays -/
def tNilD : TDa := fun _ en Φ => Φ [] en
def tConsD (ta : TDe) (tr : TDa) : TDa := fun Ψ en Φ => ta Ψ en fun r en1 => tr Ψ en1 fun rs en2 => Φ (r :: rs) en2
def tTupD (ta : TDa) : TDe := fun Ψ en Φ => ta Ψ en fun rs en1 => match vls rs with
  | some ds => ds.length ≤ sizeLine ∧ Φ (.val (.tup ds)) en1
  | none => False
def tLstD (ta : TDa) : TDe := fun Ψ en Φ => ta Ψ en fun rs en1 => match vls rs with
  | some ds => ds.length ≤ sizeLine ∧ ∀ p, Φ (.own p (.lst ds)) en1
  | none => False
theorem exts_M {b : Addr} : ∀ {rs : List Res} {C : Cc}, (C.exts rs).M b → C.M b ∨ ∃ p d, Res.own p d ∈ rs ∧ b = p
  | [], _, h => .inl h
  | r :: rs, C, h => by
    rcases exts_M (rs := rs) (C := C.ext r) h with z | ⟨p, d, m, e⟩
    · cases r with
      | own p d =>
        rcases z with z | z
        · exact .inl z
        · exact .inr ⟨p, d, List.mem_cons_self, z⟩
      | val _ => exact .inl z
      | bor _ => exact .inl z
    · exact .inr ⟨p, d, List.mem_cons_of_mem _ m, e⟩
theorem exts_F : ∀ {rs : List Res} {C : Cc}, (C.exts rs).F = C.F
  | [], _ => rfl
  | r :: rs, C => (exts_F (rs := rs) (C := C.ext r)).trans ext_F
theorem exts_H : ∀ {rs : List Res} {C : Cc}, (C.exts rs).H = C.H
  | [], _ => rfl
  | r :: rs, C => (exts_H (rs := rs) (C := C.ext r)).trans ext_H
/-- a result, behind others that came later -/
theorem Hold.later {K : PySem.W.Frag} {C : Cc} {σ : L2.St} {H H' : Hp} {en en' : En} {r : Res} {rs : List Res} {v : V} (h : Hold K C r en H v) (R1 : R K (C.ext r) σ H en) (R2 : R K ((C.ext r).exts rs) σ H' en') (s : Shape en en') (k : Keep en H H')
    (n : ∀ r, r ∈ rs → NewR H r) : Hold K (C.exts rs) r en' H' v := by
  have le : ∀ C0 : Cc, Le (mm C0 (oas en)) H (mm (C0.exts rs) (oas en')) H' := fun C0 b u nb q => by
    rw [← oas_shape s]
    refine ⟨fun z => ?_, k b u (fun z => nb (.inr z)) q⟩
    rcases z with z | z
    · rcases exts_M z with z | ⟨p, d, m, e⟩
      · exact nb (.inl z)
      · have e0 : H p = none := n _ m
        rw [e, e0] at q; cases q
    · exact nb (.inr z)
  cases r with
  | val d => exact Rp.mono (le C) _ _ h
  | own a d =>
    obtain ⟨h1, h2, h3, h4⟩ := h
    obtain ⟨u, hu⟩ := h4.dom
    have na : a ∉ oas en := fun z => R1.oM z (.inr rfl)
    refine ⟨h1, fun z => ?_, by rw [exts_F, exts_H]; exact h3, ?_⟩
    · rcases exts_M z with z | ⟨p, dp, m, e⟩
      · exact h2 z
      · have e0 : H p = none := n _ m
        rw [e, e0] at hu; cases hu
    · have e1 : (C.exts rs).add a = (C.add a).exts rs := exts_ext (r := .own a d)
      rw [e1]
      exact Cell.mono (le (C.add a)) (fun u q => k a u na q) h4
  | bor i =>
    obtain ⟨a, d, h1, h2⟩ := h
    obtain ⟨d', h3⟩ := s.own h1
    exact ⟨a, d', h3, h2⟩
section
variable {X : Cx} {W : WX} {a b c e : Expr} {ta tb tc te : TDe} {pos : Pos} {es : List Expr} {t : TDa}
theorem da_nil : DA X W [] tNilD := PAi pa_nil fun σ H Q h => by
  obtain ⟨C, en, Φ, Ψ, R1, hT, hX, k⟩ := h
  exact k _ _ [] H hT R1 rfl rfl Keep.refl (fun _ z => by cases z)
theorem da_cons (ha : DE X W e te) (hb : DA X W es t) (hs : starEach (e :: es) X.env = (false, eval e X.env) :: starEach es X.env := by rfl) : DA X W (e :: es) (tConsD te t) := PAi (pa_cons ha hb hs) fun σ H Q h => by
  obtain ⟨C, en, Φ, Ψ, R0, hT, hX, k⟩ := h
  refine ⟨C, en, _, Ψ, R0, hT, hX, fun ra en1 v1 H1 h1 R1 hold1 s1 k1 n1 => ?_⟩
  refine ⟨C.ext ra, en1, _, Ψ, R1, h1, hX.ext, fun rs en2 vs H2 h2 R2 hold2 s2 k2 n2 => ?_⟩
  refine k (ra :: rs) en2 (v1 :: vs) H2 h2 R2 ⟨v1, vs, rfl, hold1.later R1 R2 s2 k2 n2, hold2⟩ (s1.trans s2) (k1.trans s1 k2) fun r hr => ?_
  rcases List.mem_cons.mp hr with rfl | hr
  · exact n1
  · exact (n2 r hr).back k1 s1 R1
theorem de_tup {x1 : _} (ha : DA X W es t) : DE X W (.Tuple es x1 pos) (tTupD t) := PEi (pe_tup ha) fun σ H Q h => by
  obtain ⟨C, en, Φ, Ψ, R0, hT, hX, k⟩ := h
  refine ⟨C, en, _, Ψ, R0, hT, hX, fun rs en1 vs H1 h1 R1 hold1 s1 k1 _ => ?_⟩
  cases e : vls rs with
  | none => simp only [e] at h1
  | some ds =>
    simp only [e] at h1
    have hr := hold1.rp R1 e
    refine ⟨by rw [hr.length]; exact h1.1, fun p hp => ?_⟩
    refine k (.val (.tup ds)) en1 (.ref p) _ h1.2 (R1.dropA.grow (same_new hp)) ?_ s1 (k1.trans s1 (Keep.same (same_new hp))) trivial
    refine .tup ⟨fun z => ?_, upd_same⟩ (RpA.mono (fun b u n q => ⟨n, same_new hp b u q⟩) _ _ hr)
    obtain ⟨u, q⟩ := R1.dropA.mD z
    rw [hp] at q; cases q
theorem own_new {K : PySem.W.Frag} {C : Cc} {σ : L2.St} {H : Hp} {en : En} {p : Addr} {vs : List V} {ds : List D} (R1 : R K C σ H en) (hp : H p = none) (hr : RpA K (mm C (oas en)) H vs ds) :
    R K (C.add p) σ (upd H p (.lst vs)) en ∧ Hold K C (.own p (.lst ds)) en (upd H p (.lst vs)) (.ref p) := by
  refine ⟨R1.hold hp, rfl, fun z => ?_, .inr (R1.new hp), vs, upd_same, RpA.mono (fun b u n q => ⟨fun z => ?_, same_new hp b u q⟩) _ _ hr⟩
  · obtain ⟨u, q⟩ := R1.dom p (.inl z)
    rw [hp] at q; cases q
  · rcases z with (z | z) | z
    · exact n (.inl z)
    · rw [z, hp] at q; cases q
    · exact n (.inr z)
theorem de_lst (ha : DA X W es t) : DE X W (.List es pos) (tLstD t) := PEi (pe_lst ha) fun σ H Q h => by
  obtain ⟨C, en, Φ, Ψ, R0, hT, hX, k⟩ := h
  refine ⟨C, en, _, Ψ, R0, hT, hX, fun rs en1 vs H1 h1 R1 hold1 s1 k1 _ => ?_⟩
  cases e : vls rs with
  | none => simp only [e] at h1
  | some ds =>
    simp only [e] at h1
    have hr := hold1.rp R1 e
    refine ⟨by rw [hr.length]; exact h1.1, fun p hp => ?_⟩
    obtain ⟨q1, q2⟩ := own_new R1.dropA hp hr
    exact k _ en1 (.ref p) _ (h1.2 p) q1 q2 s1 (k1.trans s1 (Keep.same (same_new hp))) (k1.new s1 R1.dropA hp)
end

/-! ### calls of what is built in -/
def rds (en : En) : List Res → Option (List D)
  | [] => some []
  | r :: rs => match rd en r, rds en rs with
    | some d, some ds => some (d :: ds)
    | _, _ => none
def SqA (K : PySem.W.Frag) (C : Cc) (en : En) (H : Hp) : List V → List D → Prop := Paired (Sq K C en H)
theorem Sq.ext {K : PySem.W.Frag} {C : Cc} {en : En} {H : Hp} {r : Res} {v : V} : ∀ {d : D}, Sq K (C.ext r) en H v d → Sq K C en H v d
  | .lst ds, ⟨a, vs, e1, e2, e3⟩ => ⟨a, vs, e1, e2, RpA.mono le_ext _ _ e3⟩
  | .tup ds, ⟨a, vs, e1, e2, e3⟩ => ⟨a, vs, e1, e2, RpA.mono le_ext _ _ e3⟩
  | .dct _ _ _, ⟨a, c, e1, e2, e3, e4⟩ => ⟨a, c, e1, e2, e3, RpA.mono le_ext _ _ e4⟩
  | .non, q => Rp.mono le_ext _ _ q
  | .bl _, q => Rp.mono le_ext _ _ q
  | .int _, q => Rp.mono le_ext _ _ q
  | .str _, q => Rp.mono le_ext _ _ q
theorem Sq.exts {K : PySem.W.Frag} {en : En} {H : Hp} {v : V} {d : D} : ∀ {rs : List Res} {C : Cc}, Sq K (C.exts rs) en H v d → Sq K C en H v d
  | [], _, h => h
  | r :: rs, C, h => (Sq.exts (rs := rs) (C := C.ext r) h).ext
theorem Paired.mp {α β : Type} {F G : α → β → Prop} : ∀ {xs : List α} {ys : List β}, Paired F xs ys → (∀ x y, F x y → G x y) → Paired G xs ys
  | _, _, .nil, _ => .nil
  | _, _, .cons h t, k => .cons (k _ _ h) (Paired.mp t k)
theorem HoldA.sq {K : PySem.W.Frag} {σ : L2.St} {H : Hp} {en : En} : ∀ {rs : List Res} {C : Cc} {vs : List V} {ds : List D}, HoldA K C rs en H vs → R K (C.exts rs) σ H en → rds en rs = some ds → SqA K C en H vs ds
  | [], _, _, _, h, _, e => by cases h; cases e; exact .nil
  | r :: rs, C, _, ds, ⟨v, ws, e, h1, h2⟩, R1, e' => by
    subst e
    unfold rds at e'
    cases e1 : rd en r with
    | none => rw [e1] at e'; cases e'
    | some d =>
      cases e2 : rds en rs with
      | none => rw [e1, e2] at e'; cases e'
      | some ds' =>
        rw [e1, e2] at e'
        cases e'
        refine .cons (Sq.exts (h1.sq (by rw [exts_ext]; exact R1) e1)) ?_
        exact Paired.mp (HoldA.sq (rs := rs) h2 R1 e2) fun _ _ q => q.ext
def CaD (X : Cx) (r : List V → Hp → VK → Prop) (g : List D → (Res → Prop) → Prop) : Prop :=
  ∀ (C : Cc) (σ : L2.St) (H : Hp) (en : En) (ds : List D) (vs : List V) (Φ : Res → Prop) (Q : VK), R X.K C σ H en → SqA X.K C en H vs ds → g ds Φ →
    (∀ z v' H', Φ z → R X.K (C.ext z) σ H' en → Hold X.K C z en H' v' → Same H H' → NewR H z → Q v' H') → r vs H Q
def tCaD (g : List D → (Res → Prop) → Prop) (ta : TDa) : TDe := fun Ψ en Φ => ta Ψ en fun rs en1 => match rds en1 rs with
  | some ds => g ds fun r => Φ r en1
  | none => False
section
variable {X : Cx} {W : WX} {a b c e : Expr} {ta tb tc te : TDe} {p pos : Pos} {es : List Expr} {t : TDa} {x : Str} {id T : String} {r : List V → Hp → VK → Prop} {g : List D → (Res → Prop) → Prop}
theorem ca_go {σ : L2.St} {H : Hp} {Q : VK} (hg : CaD X r g) (h : lE X.K W (tCaD g t) σ H Q) : tCB r (lA X.K W t) σ H Q := by
  obtain ⟨C, en, Φ, Ψ, R0, hT, hX, k⟩ := h
  refine ⟨C, en, _, Ψ, R0, hT, hX, fun rs en1 vs H1 h1 R1 hold1 s1 k1 _ => ?_⟩
  cases e : rds en1 rs with
  | none => simp only [e] at h1
  | some ds =>
    simp only [e] at h1
    exact hg C σ H1 en1 ds vs _ Q R1.dropA (hold1.sq R1 e) h1 fun z v' H' hz R3 hold3 sm nw => k z en1 v' H' hz R3 hold3 s1 (k1.trans s1 (Keep.same sm)) (nw.back k1 s1 R1.dropA)
theorem de_callB (hc : CallR X (.builtin id) r) (hd : CaD X r g) (hg : Gl X x) (hm : X.mg x = none) (hv : bootBuiltins x = some (.builtin id)) (ha : DA X W (e :: es) t) (hn : x ≠ "__name__" := by decide) (hdb : (x == ("__debug__" : Str)) = false := by decide)
    (he : starEach (e :: es) X.env = (false, eval e X.env) :: starEach es X.env := by rfl) (hpl : (backTo pos (starEach es X.env)).any (·.1) = false := by rfl) : DE X W (.Call (.Name x p) (e :: es) [] pos) (tCaD g t) :=
  PEi (pe_callB hc hg hm hv ha hn hdb he hpl) fun _ _ _ h => ca_go hd h
theorem de_callTy (hc : CallR X (.type T) r) (hd : CaD X r g) (hg : Gl X x) (hm : X.mg x = none) (hv : bootBuiltins x = some (.type T)) (ha : DA X W (e :: es) t) (hn : x ≠ "__name__" := by decide) (hdb : (x == ("__debug__" : Str)) = false := by decide)
    (he : starEach (e :: es) X.env = (false, eval e X.env) :: starEach es X.env := by rfl) (hpl : (backTo pos (starEach es X.env)).any (·.1) = false := by rfl) : DE X W (.Call (.Name x p) (e :: es) [] pos) (tCaD g t) :=
  PEi (pe_callTy hc hg hm hv ha hn hdb he hpl) fun _ _ _ h => ca_go hd h
theorem de_callF (hc : CallR X (.builtin id) r) (hd : CaD X r g) (hg : Gl X x) (hm : X.mg x = some (.builtin id)) (ha : DA X W (e :: es) t) (hdb : (x == ("__debug__" : Str)) = false := by decide)
    (he : starEach (e :: es) X.env = (false, eval e X.env) :: starEach es X.env := by rfl) (hpl : (backTo pos (starEach es X.env)).any (·.1) = false := by rfl) : DE X W (.Call (.Name x p) (e :: es) [] pos) (tCaD g t) :=
  PEi (pe_callBfun hc hg hm ha hdb he hpl) fun _ _ _ h => ca_go hd h
end
def gLen : List D → (Res → Prop) → Prop
  | [.lst ds], Φ => Φ (.val (.int ds.length))
  | [.tup ds], Φ => Φ (.val (.int ds.length))
  | _, _ => False
def gAbs : List D → (Res → Prop) → Prop
  | [.int i], Φ => Φ (.val (.int (if i < 0 then -i else i)))
  | _, _ => False
def gInt : List D → (Res → Prop) → Prop
  | [.int i], Φ => Φ (.val (.int i))
  | [.bl b], Φ => Φ (.val (.int (if b then 1 else 0)))
  | _, _ => False
def gBool : List D → (Res → Prop) → Prop
  | [.int i], Φ => Φ (.val (.bl (i != 0)))
  | [.bl b], Φ => Φ (.val (.bl b))
  | _, _ => False
def gList : List D → (Res → Prop) → Prop
  | [.lst ds], Φ => ∀ p, Φ (.own p (.lst ds))
  | [.tup ds], Φ => ∀ p, Φ (.own p (.lst ds))
  | _, _ => False
def gGcd : List D → (Res → Prop) → Prop
  | [.int a, .int b], Φ => Φ (.val (.int (Int.gcd a b : Nat)))
  | _, _ => False
section
variable {X : Cx} {W : WX} {a b c e : Expr} {ta tb tc te : TDe} {p pos : Pos} {es : List Expr} {t : TDa}
theorem ca_len : CaD X (fun xs H Q => ∃ p ys, xs = [.ref p] ∧ (SqL X.K H p ys ∨ SqT X.K H p ys) ∧ Q (.int ys.length) H) gLen := by
  intro C σ H en ds vs Φ Q R1 hs h k
  unfold gLen at h
  split at h
  · cases hs with
    | cons h1 h2 =>
      cases h2
      obtain ⟨a, ws, rfl, q1, q2⟩ := h1
      exact ⟨a, ws, rfl, .inl q1, by rw [q2.length]; exact k _ _ H h R1 (.int _) (fun _ _ q => q) trivial⟩
  · cases hs with
    | cons h1 h2 =>
      cases h2
      obtain ⟨a, ws, rfl, q1, q2⟩ := h1
      exact ⟨a, ws, rfl, .inr q1, by rw [q2.length]; exact k _ _ H h R1 (.int _) (fun _ _ q => q) trivial⟩
  · exact h.elim
theorem ca_abs : CaD X (fun xs H Q => ∃ i, xs = [.int i] ∧ Q (.int (if i < 0 then -i else i)) H) gAbs := by
  intro C σ H en ds vs Φ Q R1 hs h k
  unfold gAbs at h
  split at h
  · cases hs with
    | cons h1 h2 =>
      cases h2
      cases h1
      exact ⟨_, rfl, k _ _ H h R1 (.int _) (fun _ _ q => q) trivial⟩
  · exact h.elim
theorem ca_int : CaD X (fun xs H Q => (∃ i, xs = [.int i] ∧ Q (.int i) H) ∨ ∃ k, xs = [.bl k] ∧ Q (.int (if k then 1 else 0)) H) gInt := by
  intro C σ H en ds vs Φ Q R1 hs h k
  unfold gInt at h
  split at h
  · cases hs with
    | cons h1 h2 =>
      cases h2
      cases h1
      exact .inl ⟨_, rfl, k _ _ H h R1 (.int _) (fun _ _ q => q) trivial⟩
  · cases hs with
    | cons h1 h2 =>
      cases h2
      cases h1
      exact .inr ⟨_, rfl, k _ _ H h R1 (.int _) (fun _ _ q => q) trivial⟩
  · exact h.elim
theorem ca_bool : CaD X (fun xs H Q => (∃ i, xs = [.int i] ∧ Q (.bl (i != 0)) H) ∨ ∃ k, xs = [.bl k] ∧ Q (.bl k) H) gBool := by
  intro C σ H en ds vs Φ Q R1 hs h k
  unfold gBool at h
  split at h
  · cases hs with
    | cons h1 h2 =>
      cases h2
      cases h1
      exact .inl ⟨_, rfl, k _ _ H h R1 (.bl _) (fun _ _ q => q) trivial⟩
  · cases hs with
    | cons h1 h2 =>
      cases h2
      cases h1
      exact .inr ⟨_, rfl, k _ _ H h R1 (.bl _) (fun _ _ q => q) trivial⟩
  · exact h.elim
theorem ca_list : CaD X (fun xs H Q => ∃ p ys, xs = [.ref p] ∧ (SqL X.K H p ys ∨ SqT X.K H p ys) ∧ ∀ l, H l = none → Q (.ref l) (upd H l (.lst ys))) gList := by
  intro C σ H en ds vs Φ Q R1 hs h k
  unfold gList at h
  split at h
  · cases hs with
    | cons h1 h2 =>
      cases h2
      obtain ⟨a, ws, rfl, q1, q2⟩ := h1
      refine ⟨a, ws, rfl, .inl q1, fun l hl => ?_⟩
      obtain ⟨z1, z2⟩ := own_new R1 hl q2
      exact k _ _ _ (h l) z1 z2 (same_new hl) hl
  · cases hs with
    | cons h1 h2 =>
      cases h2
      obtain ⟨a, ws, rfl, q1, q2⟩ := h1
      refine ⟨a, ws, rfl, .inr q1, fun l hl => ?_⟩
      obtain ⟨z1, z2⟩ := own_new R1 hl q2
      exact k _ _ _ (h l) z1 z2 (same_new hl) hl
  · exact h.elim
theorem ca_gcd : CaD X rGcd gGcd := by
  intro C σ H en ds vs Φ Q R1 hs h k
  unfold gGcd at h
  split at h
  · cases hs with
    | cons h1 h2 =>
      cases h2 with
      | cons h2 h3 =>
        cases h3
        cases h1
        cases h2
        exact ⟨_, _, rfl, k _ _ H h R1 (.int _) (fun _ _ q => q) trivial⟩
  · exact h.elim
theorem de_len (hm : X.mg "len" = none) (ha : DA X W (e :: es) t) (hg : Gl X "len" := by rfl) (he : starEach (e :: es) X.env = (false, eval e X.env) :: starEach es X.env := by rfl) (hpl : (backTo pos (starEach es X.env)).any (·.1) = false := by rfl) :
    DE X W (.Call (.Name "len" p) (e :: es) [] pos) (tCaD gLen t) := de_callB call_len_seq ca_len hg hm PySem.boot_len ha (by decide) (by decide) he hpl
theorem de_abs (hm : X.mg "abs" = none) (ha : DA X W (e :: es) t) (hg : Gl X "abs" := by rfl) (he : starEach (e :: es) X.env = (false, eval e X.env) :: starEach es X.env := by rfl) (hpl : (backTo pos (starEach es X.env)).any (·.1) = false := by rfl) :
    DE X W (.Call (.Name "abs" p) (e :: es) [] pos) (tCaD gAbs t) := de_callB call_abs ca_abs hg hm (by decide +kernel) ha (by decide) (by decide) he hpl
theorem de_intc (hm : X.mg "int" = none) (ha : DA X W (e :: es) t) (hg : Gl X "int" := by rfl) (he : starEach (e :: es) X.env = (false, eval e X.env) :: starEach es X.env := by rfl) (hpl : (backTo pos (starEach es X.env)).any (·.1) = false := by rfl) :
    DE X W (.Call (.Name "int" p) (e :: es) [] pos) (tCaD gInt t) := de_callTy call_int1 ca_int hg hm (by decide +kernel) ha (by decide) (by decide) he hpl
theorem de_boolc (hm : X.mg "bool" = none) (ha : DA X W (e :: es) t) (hg : Gl X "bool" := by rfl) (he : starEach (e :: es) X.env = (false, eval e X.env) :: starEach es X.env := by rfl) (hpl : (backTo pos (starEach es X.env)).any (·.1) = false := by rfl) :
    DE X W (.Call (.Name "bool" p) (e :: es) [] pos) (tCaD gBool t) := de_callTy call_bool1 ca_bool hg hm (by decide +kernel) ha (by decide) (by decide) he hpl
theorem de_listc (hm : X.mg "list" = none) (ha : DA X W (e :: es) t) (hg : Gl X "list" := by rfl) (he : starEach (e :: es) X.env = (false, eval e X.env) :: starEach es X.env := by rfl) (hpl : (backTo pos (starEach es X.env)).any (·.1) = false := by rfl) :
    DE X W (.Call (.Name "list" p) (e :: es) [] pos) (tCaD gList t) := de_callTy call_list_of ca_list hg hm (by decide +kernel) ha (by decide) (by decide) he hpl
theorem de_gcd (hm : X.mg "gcd" = some (.builtin "math.gcd")) (ha : DA X W (e :: es) t) (hg : Gl X "gcd" := by rfl) (he : starEach (e :: es) X.env = (false, eval e X.env) :: starEach es X.env := by rfl) (hpl : (backTo pos (starEach es X.env)).any (·.1) = false := by rfl) :
    DE X W (.Call (.Name "gcd" p) (e :: es) [] pos) (tCaD gGcd t) := de_callF cr_gcd ca_gcd hg hm ha (by decide) he hpl
end

/-! ### tests, choices -/
def tValD (ta : TDe) : TDt := fun Ψ en Φ => ta Ψ en fun r en1 => match r with
  | .val (.bl b) => Φ b en1
  | _ => False
def tAndD (t u : TDt) : TDt := fun Ψ en Φ => t Ψ en fun b en1 => if b = true then u Ψ en1 Φ else Φ false en1
def tOrD (t u : TDt) : TDt := fun Ψ en Φ => t Ψ en fun b en1 => if b = true then Φ true en1 else u Ψ en1 Φ
def tNotD (t : TDt) : TDt := fun Ψ en Φ => t Ψ en fun b en1 => Φ (!b) en1
def tIfD (t : TDt) (ta tb : TDe) : TDe := fun Ψ en Φ => t Ψ en fun b en1 => if b = true then ta Ψ en1 Φ else tb Ψ en1 Φ
/-- a bool's and, or, not as values -/
def tAndDV (ta tb : TDe) : TDe := fun Ψ en Φ => ta Ψ en fun r en1 => match r with
  | .val (.bl b) => if b = true then tb Ψ en1 Φ else Φ (.val (.bl false)) en1
  | _ => False
def tOrDV (ta tb : TDe) : TDe := fun Ψ en Φ => ta Ψ en fun r en1 => match r with
  | .val (.bl b) => if b = true then Φ (.val (.bl true)) en1 else tb Ψ en1 Φ
  | _ => False
def tNotDV (ta : TDe) : TDe := fun Ψ en Φ => ta Ψ en fun r en1 => match r with
  | .val (.bl b) => Φ (.val (.bl (!b))) en1
  | _ => False
section
variable {X : Cx} {W : WX} {a b c e : Expr} {ta tb tc te : TDe} {tA tB' : TDt} {p pos : Pos} {es rest : List Expr} {t : TDa}
theorem val_bl {K : PySem.W.Frag} {C : Cc} {en : En} {H : Hp} {v : V} {b : Bool} (h : Hold K C (.val (.bl b)) en H v) : v = .bl b := by
  cases h; rfl
theorem dt_ptval (h : ∀ tE : TE, PE X e tE → PT X e (tB tE)) (ha : DE X W e te) : DT X W e (tValD te) := PTi (h _ ha) fun σ H Q h => by
  obtain ⟨C, en, Φ, Ψ, R0, hT, hX, k⟩ := h
  refine ⟨C, en, _, Ψ, R0, hT, hX, fun r en1 v1 H1 h1 R1 hold1 s1 k1 _ => ?_⟩
  cases r with
  | val d =>
    cases d <;> try exact (show False from h1).elim
    exact ⟨_, val_bl hold1, k _ en1 H1 h1 R1 s1 k1⟩
  | own => exact h1.elim
  | bor => exact h1.elim
theorem tTest_tB {te : TE} : tTest te = tB te := rfl
theorem dt_cmp {op : CmpOp} {r : R2} {g : D → D → (Res → Prop) → Prop} (ho : OpR X (compareOp op) r) (hg : OpD X r g) (ha : DE X W a ta) (hb : DE X W b tb) (hm : behindInMarks op b = false := by exact nomark _) : DT X W (.Compare a [op] [b] pos) (tValD (tOpD g ta tb)) :=
  PTi (pt_cmpR ho ha hb hm) fun σ H Q h => by
    obtain ⟨C, en, Φ, Ψ, R0, hT, hX, k⟩ := h
    refine two hg ⟨C, en, _, Ψ, R0, hT, hX, fun r en1 v1 H1 h1 R1 hold1 s1 k1 _ => ?_⟩
    cases r with
    | val d =>
      cases d <;> try exact (show False from h1).elim
      exact ⟨_, val_bl hold1, k _ en1 H1 h1 R1 s1 k1⟩
    | own => exact (show False from h1).elim
    | bor => exact (show False from h1).elim
theorem dt_lt (ha : DE X W a ta) (hb : DE X W b tb) : DT X W (.Compare a [.Lt] [b] pos) (tValD (tOpD (gIB fun i j => decide (i < j)) ta tb)) := dt_cmp op_lt od_IB ha hb
theorem dt_le (ha : DE X W a ta) (hb : DE X W b tb) : DT X W (.Compare a [.LtE] [b] pos) (tValD (tOpD (gIB fun i j => decide (i ≤ j)) ta tb)) := dt_cmp op_le od_IB ha hb
theorem dt_gt (ha : DE X W a ta) (hb : DE X W b tb) : DT X W (.Compare a [.Gt] [b] pos) (tValD (tOpD (gIB fun i j => decide (j < i)) ta tb)) := dt_cmp op_gt od_IB ha hb
theorem dt_ge (ha : DE X W a ta) (hb : DE X W b tb) : DT X W (.Compare a [.GtE] [b] pos) (tValD (tOpD (gIB fun i j => decide (j ≤ i)) ta tb)) := dt_cmp op_ge od_IB ha hb
theorem dt_eq (hu : X.A.units + 64 < cLine) (ha : DE X W a ta) (hb : DE X W b tb) : DT X W (.Compare a [.Eq] [b] pos) (tValD (tOpD (gEq id) ta tb)) := dt_cmp (op_eqD hu) od_eq ha hb
theorem dt_ne (hu : X.A.units + 64 < cLine) (ha : DE X W a ta) (hb : DE X W b tb) : DT X W (.Compare a [.NotEq] [b] pos) (tValD (tOpD (gEq not) ta tb)) := dt_cmp (op_neD hu) od_ne ha hb
end
end VS

namespace VS
open PySem L2

/-! ### and, or, not, choices -/
abbrev DW (X : Cx) (W : WX) (e : Expr) (T : TDt) : Prop := PW X e (lT X.K W T)
theorem PWi {X : Cx} {e : Expr} {t t' : TT} (h : PW X e t) (i : ∀ σ H Q, t' σ H Q → t σ H Q) : PW X e t' := ⟨fun wh pins s σ H Q I q => h.run wh pins s σ H Q I (i σ H Q q)⟩
section
variable {X : Cx} {W : WX} {a b c e : Expr} {ta tb tc te : TDe} {tA tB' : TDt} {p pos : Pos} {es rest : List Expr} {t : TDa}
theorem dw_and1 (ha : DT X W a tA) : DW X W (.BoolOp .And [a] pos) tA := pw_and1 ha
theorem dw_or1 (ha : DT X W a tA) : DW X W (.BoolOp .Or [a] pos) tA := pw_or1 ha
theorem tAnd_go {σ : L2.St} {H : Hp} {Q : Bool → Hp → Prop} {K : PySem.W.Frag} (h : lT K W (tAndD tA tB') σ H Q) : tAnd (lT K W tA) (lT K W tB') σ H Q := by
  obtain ⟨C, en, Φ, Ψ, R0, hT, hX, k⟩ := h
  refine ⟨C, en, _, Ψ, R0, hT, hX, fun b en1 H1 h1 R1 s1 k1 => ?_⟩
  cases b with
  | true => exact ⟨C, en1, Φ, Ψ, R1, h1, hX, fun b' en2 H2 h2 R2 s2 k2 => k b' en2 H2 h2 R2 (s1.trans s2) (k1.trans s1 k2)⟩
  | false => exact k false en1 H1 h1 R1 s1 k1
theorem tOr_go {σ : L2.St} {H : Hp} {Q : Bool → Hp → Prop} {K : PySem.W.Frag} (h : lT K W (tOrD tA tB') σ H Q) : tOr (lT K W tA) (lT K W tB') σ H Q := by
  obtain ⟨C, en, Φ, Ψ, R0, hT, hX, k⟩ := h
  refine ⟨C, en, _, Ψ, R0, hT, hX, fun b en1 H1 h1 R1 s1 k1 => ?_⟩
  cases b with
  | true => exact k true en1 H1 h1 R1 s1 k1
  | false => exact ⟨C, en1, Φ, Ψ, R1, h1, hX, fun b' en2 H2 h2 R2 s2 k2 => k b' en2 H2 h2 R2 (s1.trans s2) (k1.trans s1 k2)⟩
theorem dw_and (ha : DT X W a tA) (hb : DW X W (.BoolOp .And (b :: rest) pos) tB') : DW X W (.BoolOp .And (a :: b :: rest) pos) (tAndD tA tB') := PWi (pw_and ha hb) fun _ _ _ h => tAnd_go h
theorem dw_or (ha : DT X W a tA) (hb : DW X W (.BoolOp .Or (b :: rest) pos) tB') : DW X W (.BoolOp .Or (a :: b :: rest) pos) (tOrD tA tB') := PWi (pw_or ha hb) fun _ _ _ h => tOr_go h
theorem dt_w (h : DW X W e tA) : DT X W e tA := PW.pt h
theorem dt_not (ha : DT X W a tA) : DT X W (.UnaryOp .Not a pos) (tNotD tA) := PTi (pt_not ha) fun σ H Q h => by
  obtain ⟨C, en, Φ, Ψ, R0, hT, hX, k⟩ := h
  exact ⟨C, en, _, Ψ, R0, hT, hX, fun b en1 H1 h1 R1 s1 k1 => k (!b) en1 H1 h1 R1 s1 k1⟩
theorem dt_val (ha : DE X W e te) (he : ∀ whole, isTrue e X.env whole = (do let v ← whole; standAt e.pos; holding [v] (truthy v)) := by intro _; rfl) : DT X W e (tValD te) := dt_ptval (fun _ h => pt_val h he) ha
theorem de_if (hc : DT X W c tA) (ha : DE X W a ta) (hb : DE X W b tb) : DE X W (.IfExp c a b pos) (tIfD tA ta tb) := PEi (pe_ifExp hc ha hb) fun σ H Q h => by
  obtain ⟨C, en, Φ, Ψ, R0, hT, hX, k⟩ := h
  refine ⟨C, en, _, Ψ, R0, hT, hX, fun b en1 H1 h1 R1 s1 k1 => ?_⟩
  cases b with
  | true => exact ⟨C, en1, Φ, Ψ, R1, h1, hX, fun r en2 v H2 h2 R2 o2 s2 k2 n2 => k r en2 v H2 h2 R2 o2 (s1.trans s2) (k1.trans s1 k2) (n2.back k1 s1 R1)⟩
  | false => exact ⟨C, en1, Φ, Ψ, R1, h1, hX, fun r en2 v H2 h2 R2 o2 s2 k2 n2 => k r en2 v H2 h2 R2 o2 (s1.trans s2) (k1.trans s1 k2) (n2.back k1 s1 R1)⟩
theorem de_one {op : BoolOp} (ha : DE X W a ta) : DE X W (.BoolOp op [a] pos) ta := pe_one ha
theorem de_and (ha : DE X W a ta) (hb : DE X W (.BoolOp .And (b :: rest) pos) tb) : DE X W (.BoolOp .And (a :: b :: rest) pos) (tAndDV ta tb) := PEi (pe_and ha hb) fun σ H Q h => by
  obtain ⟨C, en, Φ, Ψ, R0, hT, hX, k⟩ := h
  refine ⟨C, en, _, Ψ, R0, hT, hX, fun r en1 v H1 h1 R1 o1 s1 k1 n1 => ?_⟩
  cases r with
  | val d =>
    cases d <;> try exact (show False from h1).elim
    rename_i b
    refine ⟨b, val_bl o1, ?_⟩
    cases b with
    | true => exact ⟨C, en1, Φ, Ψ, R1, h1, hX, fun r en2 v H2 h2 R2 o2 s2 k2 n2 => k r en2 v H2 h2 R2 o2 (s1.trans s2) (k1.trans s1 k2) (n2.back k1 s1 R1)⟩
    | false => exact k _ en1 _ H1 h1 R1 (.bl false) s1 k1 trivial
  | own => exact (show False from h1).elim
  | bor => exact (show False from h1).elim
theorem de_or (ha : DE X W a ta) (hb : DE X W (.BoolOp .Or (b :: rest) pos) tb) : DE X W (.BoolOp .Or (a :: b :: rest) pos) (tOrDV ta tb) := PEi (pe_or ha hb) fun σ H Q h => by
  obtain ⟨C, en, Φ, Ψ, R0, hT, hX, k⟩ := h
  refine ⟨C, en, _, Ψ, R0, hT, hX, fun r en1 v H1 h1 R1 o1 s1 k1 n1 => ?_⟩
  cases r with
  | val d =>
    cases d <;> try exact (show False from h1).elim
    rename_i b
    refine ⟨b, val_bl o1, ?_⟩
    cases b with
    | true => exact k _ en1 _ H1 h1 R1 (.bl true) s1 k1 trivial
    | false => exact ⟨C, en1, Φ, Ψ, R1, h1, hX, fun r en2 v H2 h2 R2 o2 s2 k2 n2 => k r en2 v H2 h2 R2 o2 (s1.trans s2) (k1.trans s1 k2) (n2.back k1 s1 R1)⟩
  | own => exact (show False from h1).elim
  | bor => exact (show False from h1).elim
theorem de_not (ha : DE X W a ta) : DE X W (.UnaryOp .Not a pos) (tNotDV ta) := PEi (pe_not ha) fun σ H Q h => by
  obtain ⟨C, en, Φ, Ψ, R0, hT, hX, k⟩ := h
  refine ⟨C, en, _, Ψ, R0, hT, hX, fun r en1 v H1 h1 R1 o1 s1 k1 n1 => ?_⟩
  cases r with
  | val d =>
    cases d <;> try exact (show False from h1).elim
    exact ⟨_, val_bl o1, k _ en1 _ H1 h1 R1 (.bl _) s1 k1 trivial⟩
  | own => exact (show False from h1).elim
  | bor => exact (show False from h1).elim
end

/-! ### changes of the slots -/
section
variable {K : PySem.W.Frag} {C : Cc} {σ : L2.St} {H H' : Hp} {en en' : En} {a : Addr} {d : D} {v : V} {s : Sl}
theorem oas_set_sub : ∀ {en : En} (i : Nat) {s : Sl}, oas [s] = [] → (oas (en.set i s)).Sublist (oas en)
  | [], _, _, _ => by simp [oas]
  | s0 :: r, 0, s, h => by
    have e : oas (s :: r) = oas r := by cases s <;> simp [oas] at h ⊢
    show (oas (s :: r)).Sublist (oas (s0 :: r))
    rw [e]
    cases s0 <;> simp [oas]
  | s0 :: r, i + 1, s, h => by
    have ih := oas_set_sub (en := r) i h
    show (oas (s0 :: r.set i s)).Sublist (oas (s0 :: r))
    cases s0 <;> simp only [oas] <;> first | exact ih | exact ih.cons₂ _
theorem oas_set_own : ∀ {en : En} (i : Nat) {a : Addr} {d : D}, ∀ x ∈ oas (en.set i (.own a d)), x = a ∨ x ∈ oas en
  | [], _, _, _, x, h => by simp [oas] at h
  | s0 :: r, 0, a, d, x, h => by
    have h' : x ∈ a :: oas r := h
    rcases List.mem_cons.mp h' with h' | h'
    · exact .inl h'
    · right
      cases s0 <;> simp only [oas] <;> first | exact h' | exact List.mem_cons_of_mem _ h'
  | s0 :: r, i + 1, a, d, x, h => by
    have ih := oas_set_own (en := r) i (a := a) (d := d) x
    cases s0 with
    | own b e =>
      have h' : x ∈ b :: oas (r.set i (.own a d)) := h
      rcases List.mem_cons.mp h' with h' | h'
      · exact .inr (by simp only [oas]; exact List.mem_cons.mpr (.inl h'))
      · exact (ih h').imp id fun z => by simp only [oas]; exact List.mem_cons_of_mem _ z
    | _ => exact ih h
theorem oas_set_nodup : ∀ {en : En} (i : Nat) {a : Addr} {d : D}, (oas en).Nodup → a ∉ oas en → (oas (en.set i (.own a d))).Nodup
  | [], _, _, _, h, _ => h
  | s0 :: r, 0, a, d, h, n => by
    show (a :: oas r).Nodup
    cases s0 with
    | own b e =>
      simp only [oas] at h n
      exact List.nodup_cons.mpr ⟨fun z => n (List.mem_cons_of_mem _ z), (List.nodup_cons.mp h).2⟩
    | _ => exact List.nodup_cons.mpr ⟨n, h⟩
  | s0 :: r, i + 1, a, d, h, n => by
    cases s0 with
    | own b e =>
      simp only [oas] at h n
      have ih := oas_set_nodup (en := r) i (a := a) (d := d) (List.nodup_cons.mp h).2 (fun z => n (List.mem_cons_of_mem _ z))
      show (b :: oas (r.set i (.own a d))).Nodup
      refine List.nodup_cons.mpr ⟨fun z => ?_, ih⟩
      rcases oas_set_own i b z with q | q
      · exact n (by rw [q]; exact List.mem_cons_self)
      · exact (List.nodup_cons.mp h).1 q
    | _ => exact oas_set_nodup (en := r) i (a := a) (d := d) h n
/-- a slot that owns nothing is stored -/
theorem R.setS {i : Nat} (r : R K C σ H en) (hs : oas [s] = []) {o : Option V} (h : SlR K C (mm C (oas en)) H o s) : R K C (σ.set i o) H (en.set i s) where
  sl := by
    have le : Le (mm C (oas en)) H (mm C (oas (en.set i s))) H := fun a u n q => ⟨fun z => n (z.imp id fun z => (oas_set_sub i hs).subset z), q⟩
    exact Pset (h.mono le fun _ _ _ _ q => q) i (Paired.mp r.sl fun x y q => q.mono le fun _ _ _ _ q => q)
  inj := List.Nodup.sublist (oas_set_sub i hs) r.inj
  dom := r.dom
  keep := r.keep
  nt := r.nt
theorem R.setV {i : Nat} (r : R K C σ H en) (h : Rp K (mm C (oas en)) H v d) : R K C (σ.set i (some v)) H (en.set i (.val d)) := r.setS rfl h
theorem R.setO {i : Nat} (r : R K (C.add a) σ H en) (n : ¬ C.M a) (f : C.F a ∨ C.H a = none) (c : Cell K (mm (C.add a) (oas en)) H a d) : R K C (σ.set i (some (.ref a))) H (en.set i (.own a d)) where
  sl := by
    have le : Le (mm (C.add a) (oas en)) H (mm C (oas (en.set i (.own a d)))) H := fun b u n q => ⟨fun z => n (by
      rcases z with z | z
      · exact .inl (.inl z)
      · rcases oas_set_own i b z with z | z
        · exact .inl (.inr z)
        · exact .inr z), q⟩
    refine Pset (show SlR K C _ H (some (V.ref a)) (.own a d) from ⟨rfl, n, f, c.mono le fun _ q => q⟩) i (Paired.mp r.sl fun x y q => ?_)
    have q' := q.mono le fun _ _ _ _ q => q
    cases y with
    | own b e =>
      cases x with
      | none => exact q'.elim
      | some v => exact ⟨q'.1, fun w => q'.2.1 (.inl w), q'.2.2⟩
    | no => exact q'
    | val d => cases x <;> exact q'
    | exc => cases x <;> exact q'
  inj := oas_set_nodup i r.inj fun z => r.oM z (.inr rfl)
  dom := fun b w => r.dom b (w.imp .inl id)
  keep := r.keep
  nt := fun b xs w => r.nt b xs (w.imp .inl id)
/-- what an own slot holds is changed -/
theorem R.put {i : Nat} {d0 d1 : D} {o : HO} (r : R K C σ H en) (e : en[i]? = some (.own a d0)) (c : Cell K (mm C (oas en)) (upd H a o) a d1) : R K C σ (upd H a o) (en.set i (.own a d1)) := by
  have sh : Shape en (en.set i (.own a d1)) := Shape.set e rfl
  have g := r.getO e
  have ma : a ∈ oas en := oas_mem.mpr ⟨i, d0, e⟩
  have le : Le (mm C (oas en)) H (mm C (oas (en.set i (.own a d1)))) (upd H a o) := fun b u n q => by
    rw [← oas_shape sh]
    exact ⟨n, by rw [upd_ne (fun z => n (.inr (by rw [z]; exact ma)))]; exact q⟩
  refine ⟨?_, by rw [← oas_shape sh]; exact r.inj, fun b w => ?_, fun b u q n => ?_, fun b xs w z => ?_⟩
  rotate_right
  · by_cases hb : b = a
    · rw [hb] at z
      exact c.nt xs z
    · rw [upd_ne hb] at z
      exact r.nt b xs w z
  · -- slot by slot
    have all : ∀ (j : Nat) (x : Option V) (y : Sl), σ[j]? = some x → en[j]? = some y → SlR K C (mm C (oas en)) H x y → j ≠ i → SlR K C (mm C (oas (en.set i (.own a d1)))) (upd H a o) x y := fun j x y _ hy q nj =>
      q.mono le fun b d hb u z => by
        subst hb
        rw [upd_ne fun w => ?_]
        · exact z
        · subst w
          have : i = j := by
            have h1 : ∀ (l : En) (i j : Nat) (d d' : D), (oas l).Nodup → l[i]? = some (.own b d) → l[j]? = some (.own b d') → i = j := by
              intro l
              induction l with
              | nil => intro i j d d' _ h; simp at h
              | cons s l ih =>
                intro i j d d' nd hi hj
                cases i with
                | zero =>
                  cases j with
                  | zero => rfl
                  | succ j =>
                    have hs : s = .own b d := by simpa using hi
                    subst hs
                    simp only [oas] at nd
                    exact absurd (oas_mem.mpr ⟨j, d', by simpa using hj⟩) (List.nodup_cons.mp nd).1
                | succ i =>
                  cases j with
                  | zero =>
                    have hs : s = .own b d' := by simpa using hj
                    subst hs
                    simp only [oas] at nd
                    exact absurd (oas_mem.mpr ⟨i, d, by simpa using hi⟩) (List.nodup_cons.mp nd).1
                  | succ j =>
                    have nd' : (oas l).Nodup := by
                      cases s <;> simp only [oas] at nd <;> first | exact nd | exact (List.nodup_cons.mp nd).2
                    rw [ih i j d d' nd' (by simpa using hi) (by simpa using hj)]
            exact h1 en i j d0 d r.inj e hy
          exact absurd this.symm nj
    have own : SlR K C (mm C (oas (en.set i (.own a d1)))) (upd H a o) (some (V.ref a)) (.own a d1) := ⟨rfl, g.2.1, g.2.2.1, by rw [← oas_shape sh]; exact c⟩
    have hl := Plen r.sl
    have go : ∀ (xs : L2.St) (ys : En) (k : Nat), Paired (SlR K C (mm C (oas en)) H) xs ys → (∀ j, xs[j]? = σ[k + j]?) → (∀ j, ys[j]? = en[k + j]?) →
        Paired (SlR K C (mm C (oas (en.set i (.own a d1)))) (upd H a o)) xs (if k ≤ i then ys.set (i - k) (.own a d1) else ys) := by
      intro xs ys k hp
      induction hp generalizing k with
      | nil => intro _ _; split <;> exact .nil
      | @cons x y xs ys h1 h2 ih =>
        intro ex ey
        have ex0 : σ[k]? = some x := by have := ex 0; simpa using this.symm
        have ey0 : en[k]? = some y := by have := ey 0; simpa using this.symm
        have ih' := ih (k + 1) (fun j => by have := ex (j + 1); simp only [List.getElem?_cons_succ] at this; rw [this]; congr 1; omega) (fun j => by have := ey (j + 1); simp only [List.getElem?_cons_succ] at this; rw [this]; congr 1; omega)
        by_cases hk : k ≤ i
        · rw [if_pos hk]
          by_cases hki : k = i
          · subst hki
            rw [Nat.sub_self, List.set_cons_zero]
            rw [if_neg (by omega)] at ih'
            have hx : x = some (V.ref a) := by have := g.1; rw [ex0] at this; exact Option.some.inj this
            rw [hx]
            exact .cons own ih'
          · rw [if_pos (by omega)] at ih'
            have : i - k = (i - (k + 1)) + 1 := by omega
            rw [this, List.set_cons_succ]
            exact .cons (all k x y ex0 ey0 h1 hki) ih'
        · rw [if_neg hk]
          rw [if_neg (by omega)] at ih'
          exact .cons (all k x y ex0 ey0 h1 (by omega)) ih'
    have := go σ en 0 r.sl (fun j => by simp) (fun j => by simp)
    simpa using this
  · by_cases hb : b = a
    · exact ⟨o, by rw [hb]; exact upd_same⟩
    · obtain ⟨u, q⟩ := r.dom b w
      exact ⟨u, by rw [upd_ne hb]; exact q⟩
  · have q' := r.keep b u q n
    by_cases hb : b = a
    · subst hb
      rcases g.2.2.1 with z | z
      · exact absurd z n
      · rw [z] at q; cases q
    · rw [upd_ne hb]; exact q'
theorem Keep.put {i : Nat} {d0 : D} {o : HO} (e : en[i]? = some (.own a d0)) : Keep en H (upd H a o) := fun b u n q => by
  rw [upd_ne fun z => n (by rw [z]; exact oas_mem.mpr ⟨i, d0, e⟩)]
  exact q
/-- an own slot's list is taken out -/
theorem R.take {i : Nat} (r : R K C σ H en) (e : en[i]? = some (.own a d)) : R K (C.add a) σ H (en.set i .no) ∧ Hold K C (.own a d) (en.set i .no) H (.ref a) := by
  have g := r.getO e
  have ma : a ∈ oas en := oas_mem.mpr ⟨i, d, e⟩
  have r0 : R K C σ H (en.set i .no) := by
    have h := r.setS (i := i) (s := .no) (o := some (.ref a)) rfl trivial
    have hσ : σ.set i (some (V.ref a)) = σ := by
      refine List.ext_getElem? fun j => ?_
      rw [List.getElem?_set]
      by_cases hj : i = j
      · subst hj
        rw [if_pos rfl, if_pos (List.getElem?_eq_some_iff.mp g.1).1, g.1]
      · rw [if_neg hj]
    rw [hσ] at h
    exact h
  have na : a ∉ oas (en.set i .no) := by
    have : ∀ (l : En) (i : Nat), (oas l).Nodup → l[i]? = some (.own a d) → a ∉ oas (l.set i .no) := by
      intro l
      induction l with
      | nil => intro i _ h; simp at h
      | cons s l ih =>
        intro i nd hi
        cases i with
        | zero =>
          have hs : s = .own a d := by simpa using hi
          subst hs
          simp only [oas] at nd
          exact (List.nodup_cons.mp nd).1
        | succ i =>
          have hi' : l[i]? = some (.own a d) := by simpa using hi
          cases s with
          | own b e' =>
            simp only [oas] at nd
            show a ∉ b :: oas (l.set i .no)
            intro z
            rcases List.mem_cons.mp z with z | z
            · exact (List.nodup_cons.mp nd).1 (by rw [← z]; exact oas_mem.mpr ⟨i, d, hi'⟩)
            · exact ih i (List.nodup_cons.mp nd).2 hi' z
          | _ => exact ih i nd hi'
    exact this en i r.inj e
  have sub := oas_set_sub (en := en) i (s := .no) rfl
  have le : Le (mm C (oas en)) H (mm (C.add a) (oas (en.set i .no))) H := fun b u n q => ⟨fun z => n (by
    rcases z with (z | z) | z
    · exact .inl z
    · rw [z]; exact .inr ma
    · exact .inr (sub.subset z)), q⟩
  refine ⟨⟨?_, r0.inj, fun b w => ?_, r0.keep, fun b xs w => ?_⟩, rfl, g.2.1, g.2.2.1, g.2.2.2.mono le fun _ q => q⟩
  · have hp := Pset (F := SlR K C (mm (C.add a) (oas (en.set i .no))) H) (show SlR K C (mm (C.add a) (oas (en.set i .no))) H (some (V.ref a)) .no from trivial) i (Paired.mp r.sl fun x y q => q.mono le fun _ _ _ _ q => q)
    have hσ : σ.set i (some (V.ref a)) = σ := by
      refine List.ext_getElem? fun j => ?_
      rw [List.getElem?_set]
      by_cases hj : i = j
      · subst hj
        rw [if_pos rfl, if_pos (List.getElem?_eq_some_iff.mp g.1).1, g.1]
      · rw [if_neg hj]
    rw [hσ] at hp
    refine Pmap hp fun j x y _ hy q => ?_
    cases y with
    | own b e' =>
      cases x with
      | none => exact q.elim
      | some v =>
        refine ⟨q.1, fun w => ?_, q.2.2⟩
        rcases w with w | w
        · exact q.2.1 w
        · subst w; exact na (oas_mem.mpr ⟨j, e', hy⟩)
    | no => exact q
    | val d => cases x <;> exact q
    | exc => cases x <;> exact q
  · rcases w with (w | w) | w
    · exact r.dom b (.inl w)
    · rw [w]; exact r.oD ma
    · exact r.dom b (.inr w)
  · rcases w with (w | w) | w
    · exact r.nt b xs (.inl w)
    · rw [w]; exact g.2.2.2.nt xs
    · exact r.nt b xs (.inr w)
/-- a slot that is let go (σ as it stands) -/
theorem R.forget {i : Nat} (r : R K C σ H en) : R K C σ H (en.set i .no) := by
  by_cases hi : i < σ.length
  · have h := r.setS (i := i) (s := .no) (o := σ[i]) rfl (by cases σ[i] <;> trivial)
    have hσ : σ.set i σ[i] = σ := by simp
    rw [hσ] at h
    exact h
  · have hl := Plen r.sl
    have : en.set i .no = en := List.set_eq_of_length_le (by omega)
    rw [this]
    exact r
end
end VS

namespace VS
open PySem L2

/-! ### promises of defs -/
abbrev Spc := En → (Res → List D → Prop) → (Xc → List D → Prop) → Prop
def setOwns : En → List D → En
  | [], _ => []
  | .own a _ :: r, d :: ds => .own a d :: setOwns r ds
  | s :: r, ds => s :: setOwns r ds
def outsP : En → En → (List D → Prop) → Prop
  | [], _, k => k []
  | .own a _ :: as, .own b d :: bs, k => a = b ∧ outsP as bs fun ds => k (d :: ds)
  | .own _ _ :: _, _, _ => False
  | _ :: as, _ :: bs, k => outsP as bs k
  | _ :: _, [], _ => False
def lSp (K : PySem.W.Frag) (n : Nat) (sp : Spc) : Sp := fun vs H Q E => vs.length = n ∧ ∃ (C : Cc) (args : En) (Φ : Res → List D → Prop) (Ψ : Xc → List D → Prop),
  R K C (vs.map some) H args ∧ C.H = H ∧ (∀ a, C.F a ↔ a ∈ oas args) ∧ sp args Φ Ψ ∧
  (∀ r ds v H', (∀ i, r ≠ .bor i) → Φ r ds → R K (C.ext r) (vs.map some) H' (setOwns args ds) → Hold K C r (setOwns args ds) H' v → Q v H') ∧
  (∀ x ds cls d H', Ψ x ds → R K C (vs.map some) H' (setOwns args ds) → XcR K (mm C (oas args)) H' x cls d → E cls d H')
section
variable {K : PySem.W.Frag} {C : Cc} {σ : L2.St} {H H' : Hp} {en en' : En} {a : Addr} {d : D} {v : V} {s : Sl}
theorem Pof {α β : Type} {F : α → β → Prop} : ∀ {xs : List α} {ys : List β}, xs.length = ys.length → (∀ (i : Nat) (x : α) (y : β), xs[i]? = some x → ys[i]? = some y → F x y) → Paired F xs ys
  | [], [], _, _ => .nil
  | [], _ :: _, h, _ => by simp at h
  | _ :: _, [], h, _ => by simp at h
  | x :: xs, y :: ys, h, k => .cons (k 0 x y rfl rfl) (Pof (by simpa using h) fun i x y e1 e2 => k (i + 1) x y (by simpa using e1) (by simpa using e2))
theorem Pat {α β : Type} {F : α → β → Prop} {xs : List α} {ys : List β} (h : Paired F xs ys) {i : Nat} {x : α} {y : β} (e1 : xs[i]? = some x) (e2 : ys[i]? = some y) : F x y := by
  obtain ⟨x', e, f⟩ := Pget h e2
  rw [e1] at e
  cases e
  exact f
theorem own_inj : ∀ (l : En) (i j : Nat) (d d' : D), (oas l).Nodup → l[i]? = some (.own a d) → l[j]? = some (.own a d') → i = j := by
  intro l
  induction l with
  | nil => intro i j d d' _ h; simp at h
  | cons s l ih =>
    intro i j d d' nd hi hj
    cases i with
    | zero =>
      cases j with
      | zero => rfl
      | succ j =>
        have hs : s = .own a d := by simpa using hi
        subst hs
        simp only [oas] at nd
        exact absurd (oas_mem.mpr ⟨j, d', by simpa using hj⟩) (List.nodup_cons.mp nd).1
    | succ i =>
      cases j with
      | zero =>
        have hs : s = .own a d' := by simpa using hj
        subst hs
        simp only [oas] at nd
        exact absurd (oas_mem.mpr ⟨i, d, by simpa using hi⟩) (List.nodup_cons.mp nd).1
      | succ j =>
        have nd' : (oas l).Nodup := by
          cases s <;> simp only [oas] at nd <;> first | exact nd | exact (List.nodup_cons.mp nd).2
        rw [ih i j d d' nd' (by simpa using hi) (by simpa using hj)]
theorem setOwns_shape : ∀ (en : En) (ds : List D), Shape en (setOwns en ds)
  | [], _ => by simp [setOwns, Shape]
  | .own a d0 :: r, d :: ds => by
    have ih := setOwns_shape r ds
    unfold Shape at ih ⊢
    simp only [setOwns, List.map_cons, shp, ih]
  | .own a d0 :: r, [] => by
    have ih := setOwns_shape r []
    unfold Shape at ih ⊢
    simp only [setOwns, List.map_cons, shp, ih]
  | .no :: r, ds => by
    have ih := setOwns_shape r ds
    unfold Shape at ih ⊢
    simp only [setOwns, List.map_cons, shp, ih]
  | .val _ :: r, ds => by
    have ih := setOwns_shape r ds
    unfold Shape at ih ⊢
    simp only [setOwns, List.map_cons, shp, ih]
  | .exc .. :: r, ds => by
    have ih := setOwns_shape r ds
    unfold Shape at ih ⊢
    simp only [setOwns, List.map_cons, shp, ih]
/-- what outsP tells -/
theorem outs_of : ∀ {as en : En} {k : List D → Prop}, outsP as en k → ∃ ds, k ds ∧ as.length ≤ en.length ∧ ∀ (i : Nat) (a : Addr) (d : D), (setOwns as ds)[i]? = some (.own a d) → en[i]? = some (.own a d)
  | [], en, k, h => ⟨[], h, Nat.zero_le _, fun i a d e => by simp [setOwns] at e⟩
  | .own a d0 :: as, [], k, h => h.elim
  | .own a d0 :: as, .own b d :: bs, k, ⟨e, h⟩ => by
    subst e
    obtain ⟨ds, h1, h2, h3⟩ := outs_of h
    refine ⟨d :: ds, h1, by simpa using h2, fun i a' d' q => ?_⟩
    cases i with
    | zero => simpa [setOwns] using q
    | succ i => simpa using h3 i a' d' (by simpa [setOwns] using q)
  | .own a d0 :: as, .no :: bs, k, h => h.elim
  | .own a d0 :: as, .val _ :: bs, k, h => h.elim
  | .own a d0 :: as, .exc .. :: bs, k, h => h.elim
  | .no :: as, [], k, h => h.elim
  | .val _ :: as, [], k, h => h.elim
  | .exc .. :: as, [], k, h => h.elim
  | .no :: as, _ :: bs, k, h => by
    obtain ⟨ds, h1, h2, h3⟩ := outs_of (as := as) (en := bs) h
    refine ⟨ds, h1, by simpa using h2, fun i a' d' q => ?_⟩
    cases i with
    | zero => simp [setOwns] at q
    | succ i => simpa using h3 i a' d' (by simpa [setOwns] using q)
  | .val _ :: as, _ :: bs, k, h => by
    obtain ⟨ds, h1, h2, h3⟩ := outs_of (as := as) (en := bs) h
    refine ⟨ds, h1, by simpa using h2, fun i a' d' q => ?_⟩
    cases i with
    | zero => simp [setOwns] at q
    | succ i => simpa using h3 i a' d' (by simpa [setOwns] using q)
  | .exc .. :: as, _ :: bs, k, h => by
    obtain ⟨ds, h1, h2, h3⟩ := outs_of (as := as) (en := bs) h
    refine ⟨ds, h1, by simpa using h2, fun i a' d' q => ?_⟩
    cases i with
    | zero => simp [setOwns] at q
    | succ i => simpa using h3 i a' d' (by simpa [setOwns] using q)
theorem SlR.val_of {C : Cc} {M : Ms} {o : Option V} {s : Sl} (h : SlR K C M H o s) {M' : Ms} {C' : Cc} (e : Le M H M' H') (n : ∀ a d, s ≠ .own a d) : SlR K C' M' H' o s := by
  cases s with
  | no => trivial
  | val d =>
    cases o with
    | none => exact h
    | some v => exact Rp.mono e _ _ h
  | own a d => exact (n a d rfl).elim
  | exc a c dd x =>
    cases o with
    | none => exact h
    | some v => exact ⟨h.1, h.2.mono e⟩
theorem mm_split {r : Res} {l l' : List Addr} {b : Addr} (hp : ∀ p dp, r = .own p dp → b ≠ p) (hl : b ∈ l → mm C l' b) (z : mm (C.ext r) l b) : mm C l' b := by
  rcases z with z | z
  · cases r with
    | own p dp =>
      rcases z with z | z
      · exact .inl z
      · exact absurd z (hp p dp rfl)
    | val _ => exact .inl z
    | bor _ => exact .inl z
  · exact hl z
/-- a def's end, seen by its caller -/
theorem fin_R {vs : List V} {args : En} {r : Res} {ds : List D} (R0 : R K C (vs.map some) H args) (eH : C.H = H) (eF : ∀ a, C.F a ↔ a ∈ oas args) (R1 : R K (C.ext r) σ H' en') (hv : Hold K C r en' H' v)
    (nb : ∀ i, r ≠ .bor i) (sub : ∀ (i : Nat) (a : Addr) (d : D), (setOwns args ds)[i]? = some (.own a d) → en'[i]? = some (.own a d)) : R K (C.ext r) (vs.map some) H' (setOwns args ds) ∧ Hold K C r (setOwns args ds) H' v := by
  have sh := setOwns_shape args ds
  have eo : oas (setOwns args ds) = oas args := (oas_shape sh).symm
  have hsub : ∀ a, a ∈ oas args → a ∈ oas en' := fun a h => by
    rw [oas_shape sh] at h
    obtain ⟨i, d, e⟩ := oas_mem.mp h
    exact oas_mem.mpr ⟨i, d, sub i a d e⟩
  have keep : ∀ a u, a ∉ oas args → H a = some u → H' a = some u := fun a u n e => R1.keep a u (by rw [ext_H, eH]; exact e) (by rw [ext_F]; exact fun z => n ((eF a).mp z))
  have hn : ∀ p dp, r = .own p dp → H p = none := fun p dp e => by
    subst e
    obtain ⟨_, _, f, _⟩ := hv
    rcases f with f | f
    · exact absurd (.inr rfl) (R1.oM (hsub p ((eF p).mp f)))
    · rw [← eH]; exact f
  have le0 : Le (mm C (oas args)) H (mm (C.ext r) (oas args)) H' := fun b u n q => ⟨fun z => n (mm_split (fun p dp e w => by rw [w, hn p dp e] at q; cases q) .inr z), keep b u (fun z => n (.inr z)) q⟩
  have leE : ∀ r', Le (mm (C.ext r') (oas en')) H' (mm (C.ext r') (oas args)) H' := fun r' b u n q => ⟨fun z => n (z.imp id (hsub b)), q⟩
  refine ⟨⟨?_, by rw [eo]; exact R0.inj, R1.dom, R1.keep, R1.nt⟩, ?_⟩
  · have hl : (vs.map some).length = (setOwns args ds).length := by
      have h1 := Plen R0.sl
      have h2 : (args.map shp).length = ((setOwns args ds).map shp).length := congrArg List.length sh
      rw [List.length_map, List.length_map] at h2
      rw [h1, h2]
    rw [eo]
    refine Pof hl fun i x y hx hy => ?_
    obtain ⟨y0, hy0, hs⟩ := sh.symm.at hy
    have f0 := Pat R0.sl hx hy0
    cases y with
    | own a d =>
      have g := R1.getO (sub i a d hy)
      have hx0 : x = some (.ref a) := by
        cases y0 <;> simp only [shp] at hs <;> cases hs
        cases x with
        | none => exact f0.elim
        | some v => rw [f0.1]
      subst hx0
      exact ⟨rfl, g.2.1, g.2.2.1, g.2.2.2.mono (leE r) fun _ q => q⟩
    | no => trivial
    | val d =>
      have ey : y0 = .val d := by cases y0 <;> simp only [shp] at hs <;> cases hs <;> rfl
      subst ey
      exact f0.val_of le0 fun _ _ z => by cases z
    | exc a c dd xx =>
      have ey : y0 = .exc a c dd xx := by cases y0 <;> simp only [shp] at hs <;> cases hs <;> rfl
      subst ey
      exact f0.val_of le0 fun _ _ z => by cases z
  · cases r with
    | val d =>
      show Rp K (mm C (oas (setOwns args ds))) H' v d
      rw [eo]
      exact Rp.mono (leE (.val d)) _ _ hv
    | own p dp =>
      obtain ⟨h1, h2, h3, h4⟩ := hv
      refine ⟨h1, h2, h3, ?_⟩
      rw [eo]
      exact h4.mono (leE (.own p dp)) fun _ q => q
    | bor i => exact absurd rfl (nb i)
theorem fin_X {vs : List V} {args : En} {ds : List D} {x : Xc} {cls : Value} {dx : Option Addr} (R0 : R K C (vs.map some) H args) (eH : C.H = H) (eF : ∀ a, C.F a ↔ a ∈ oas args) (R1 : R K C σ H' en') (hx : XcR K (mm C (oas en')) H' x cls dx)
    (sub : ∀ (i : Nat) (a : Addr) (d : D), (setOwns args ds)[i]? = some (.own a d) → en'[i]? = some (.own a d)) : R K C (vs.map some) H' (setOwns args ds) ∧ XcR K (mm C (oas args)) H' x cls dx := by
  refine ⟨(fin_R (r := .val .non) (v := .non) R0 eH eF R1 .non (fun _ z => by cases z) sub).1, hx.mono fun b u n q => ⟨fun z => n (z.imp id fun h => ?_), q⟩⟩
  rw [oas_shape (setOwns_shape args ds)] at h
  obtain ⟨i, d, e⟩ := oas_mem.mp h
  exact oas_mem.mpr ⟨i, d, sub i b d e⟩
end

/-! ### statements -/
structure Ed where
  nx : En → Prop
  rt : Res → En → Prop
  bk : En → Prop := fun _ => False
  ct : En → Prop := fun _ => False
  ex : Xc → En → Prop
abbrev TDs := Ed → En → Prop
structure SOk (K : PySem.W.Frag) (C : Cc) (W : WX) (Ds : Ends) (De : Ed) : Prop where
  nx : ∀ σ en H, De.nx en → R K C σ H en → Ds.nx σ H
  rt : ∀ r en σ v H, De.rt r en → R K (C.ext r) σ H en → Hold K C r en H v → Ds.rt v H
  bk : ∀ σ en H, De.bk en → R K C σ H en → Ds.bk σ H
  ct : ∀ σ en H, De.ct en → R K C σ H en → Ds.ct σ H
  ex : ∀ x en σ cls d H, De.ex x en → R K C σ H en → XcR K (mm C (oas en)) H x cls d → W cls d σ H
def lS (K : PySem.W.Frag) (W : WX) (T : TDs) : TS := fun Ds σ H => ∃ (C : Cc) (en : En) (De : Ed), R K C σ H en ∧ T De en ∧ SOk K C W Ds De
abbrev DS (X : Cx) (W : WX) (st : Stmt) (T : TDs) : Prop := PS X st (lS X.K W T)
abbrev DSs (X : Cx) (W : WX) (st : List Stmt) (T : TDs) : Prop := PSs X st (lS X.K W T)
theorem SOk.x {K : PySem.W.Frag} {C : Cc} {W : WX} {Ds : Ends} {De : Ed} (h : SOk K C W Ds De) (σ : L2.St) : XOk K C W σ De.ex := fun x en cls d H q r z => h.ex x en σ cls d H q r z
/-- a body's ends as the promise wants them -/
def edOf (args : En) (Φ : Res → List D → Prop) (Ψ : Xc → List D → Prop) : Ed where
  nx := fun en => outsP args en (Φ (.val .non))
  rt := fun r en => match r with
    | .bor _ => False
    | r => outsP args en (Φ r)
  ex := fun x en => outsP args en (Ψ x)
def tNextD : TDs := fun De en => De.nx en
def tSeqD (t u : TDs) : TDs := fun De en => t { De with nx := fun en' => u De en' } en
def tDropD (ta : TDe) : TDs := fun De en => ta De.ex en fun _ en1 => De.nx en1
def retD (De : Ed) (r : Res) (en : En) : Prop := match r with
  | .bor i => (match en[i]? with
    | some (.own a d) => De.rt (.own a d) (en.set i .no)
    | _ => False)
  | r => De.rt r en
def tRetD (ta : TDe) : TDs := fun De en => ta De.ex en fun r en1 => retD De r en1
def tRetND : TDs := fun De en => De.rt (.val .non) en
def tIfSD (t : TDt) (u v : TDs) : TDs := fun De en => t De.ex en fun b en1 => if b = true then u De en1 else v De en1
/-- x = e, kept as it is | a new list let go at once -/
def tSetD (i : Nat) (ta : TDe) : TDs := fun De en => ta De.ex en fun r en1 => match r with
  | .val d => De.nx (en1.set i (.val d))
  | .own a d => De.nx (en1.set i (.own a d))
  | .bor _ => False
def tSetV (i : Nat) (ta : TDe) : TDs := fun De en => ta De.ex en fun r en1 => match vl r with
  | some d => De.nx (en1.set i (.val d))
  | none => False
/-- what was an own list is from now on a value -/
def tFrzD (i : Nat) (t : TDs) : TDs := fun De en => match en[i]? with
  | some (.own _ d) => t De (en.set i (.val d))
  | _ => False
def tBrkD : TDs := fun De en => De.bk en
def tCntD : TDs := fun De en => De.ct en
/-- the rest is shown once, from Mid -/
def tCutD (t u : TDs) : TDs := fun De en => ∃ Mid : En → Prop, t { De with nx := Mid } en ∧ ∀ en', Mid en' → u De en'
section
variable {X : Cx} {W : WX} {a b c e : Expr} {ta tb tc te : TDe} {tA tB' : TDt} {p pos : Pos} {st : Stmt} {rest body ab bb : List Stmt} {t u v : TDs}
theorem dss_nil : DSs X W [] tNextD := PSsi pss_nil fun D σ H ⟨C, en, De, R1, h, k⟩ => k.nx σ en H h R1
theorem dss_cons (h1 : DS X W st t) (h2 : DSs X W rest u) : DSs X W (st :: rest) (tSeqD t u) := PSsi (pss_cons h1 h2) fun D σ H ⟨C, en, De, R1, h, k⟩ =>
  ⟨C, en, { De with nx := fun en' => u De en' }, R1, h, ⟨fun σ' en' H' q R' => ⟨C, en', De, R', q, k⟩, k.rt, k.bk, k.ct, k.ex⟩⟩
theorem dss_one (h1 : DS X W st t) : DSs X W [st] t := pss_one h1
theorem dss_cut (h1 : DS X W st t) (h2 : DSs X W rest u) : DSs X W (st :: rest) (tCutD t u) := PSsi (pss_cons h1 h2) fun D σ H ⟨C, en, De, R1, ⟨Mid, h, hm⟩, k⟩ =>
  ⟨C, en, { De with nx := Mid }, R1, h, ⟨fun σ' en' H' q R' => ⟨C, en', De, R', hm en' q, k⟩, k.rt, k.bk, k.ct, k.ex⟩⟩
/-- ahead of a statement an own slot becomes a value -/
theorem dss_frz (i : Nat) (h2 : DSs X W rest u) : DSs X W rest (tFrzD i u) := PSsi h2 fun D σ H ⟨C, en, De, R1, h, k⟩ => by
  unfold tFrzD at h
  cases e : en[i]? with
  | none => simp only [e] at h
  | some s =>
    cases s <;> simp only [e] at h
    rename_i a d
    refine ⟨C, _, De, ?_, h, k⟩
    obtain ⟨q1, q2⟩ := R1.take e
    have q3 := q2.rp q1 rfl
    have q4 := q1.drop.setV (i := i) q3
    have g := (R1.getO e).1
    have hσ : σ.set i (some (V.ref a)) = σ := by
      refine List.ext_getElem? fun j => ?_
      rw [List.getElem?_set]
      by_cases hj : i = j
      · subst hj
        rw [if_pos rfl, if_pos (List.getElem?_eq_some_iff.mp g).1, g]
      · rw [if_neg hj]
    rw [hσ, List.set_set] at q4
    exact q4
theorem ds_expr (he : DE X W e te) (hs : swapsWith e none pos.line X.env = pure false := by rfl) : DS X W (.Expr e pos) (tDropD te) := PSi (ps_expr he hs) fun D σ H ⟨C, en, De, R1, h, k⟩ =>
  ⟨C, en, _, De.ex, R1, h, k.x σ, fun r en' v H' q R' _ _ _ _ => k.nx σ en' H' q R'.dropX⟩
theorem ds_doc {x : Str} {j : _} {pos' : Pos} : DS X W (.Expr (.Constant (.str x) j pos) pos') tNextD := PSi ps_doc fun D σ H ⟨C, en, De, R1, h, k⟩ => k.nx σ en H h R1
theorem ret_go {K : PySem.W.Frag} {C : Cc} {Ds : Ends} {De : Ed} {r : Res} {en : En} {σ : L2.St} {H : Hp} {v : V} (k : SOk K C W Ds De) (h : retD De r en) (R1 : R K (C.ext r) σ H en) (hv : Hold K C r en H v) : Ds.rt v H := by
  cases r with
  | val d => exact k.rt _ _ σ v H h R1 hv
  | own a d => exact k.rt _ _ σ v H h R1 hv
  | bor i =>
    obtain ⟨a, d, e, rfl⟩ := hv
    simp only [retD, e] at h
    obtain ⟨q1, q2⟩ := (show R K C σ H en from R1).take e
    exact k.rt _ _ σ _ H h q1 q2
theorem ds_ret (he : DE X W e te) : DS X W (.Return (some e) pos) (tRetD te) := PSi (ps_ret he) fun D σ H ⟨C, en, De, R1, h, k⟩ =>
  ⟨C, en, _, De.ex, R1, h, k.x σ, fun r en' v H' q R' o' _ _ _ => ret_go k q R' o'⟩
theorem ds_retN : DS X W (.Return none pos) tRetND := PSi ps_retN fun D σ H ⟨C, en, De, R1, h, k⟩ => k.rt (.val .non) en σ .non H h R1 .non
theorem ds_if (hc : DT X W c tA) (ha : DSs X W ab t) (hb : DSs X W bb u) : DS X W (.If c ab bb pos) (tIfSD tA t u) := PSi (ps_if hc ha hb) fun D σ H ⟨C, en, De, R1, h, k⟩ =>
  ⟨C, en, _, De.ex, R1, h, k.x σ, fun b en' H' q R' _ _ => by
    cases b with
    | true => exact ⟨C, en', De, R', q, k⟩
    | false => exact ⟨C, en', De, R', q, k⟩⟩
theorem ds_pass : DS X W (.Pass pos) tNextD := PSi ps_pass fun D σ H ⟨C, en, De, R1, h, k⟩ => k.nx σ en H h R1
theorem ds_break : DS X W (.Break pos) tBrkD := PSi ps_break fun D σ H ⟨C, en, De, R1, h, k⟩ => k.bk σ en H h R1
theorem ds_continue : DS X W (.Continue pos) tCntD := PSi ps_continue fun D σ H ⟨C, en, De, R1, h, k⟩ => k.ct σ en H h R1
theorem ds_set {i : Nat} {x : Str} {pos' : Pos} (hN : X.N.Nodup) (hi : X.N[i]? = some x) (hx : Loc X.env.scope x) (he : DE X W e te) (hs : swapsWith e (some (.Name x pos')) pos.line X.env = pure false := by rfl)
    (hf : X.fn x = true ∨ X.env.scope.names.lookup x = some .local := by first | exact .inl rfl | exact .inr rfl | assumption) : DS X W (.Assign [.Name x pos'] e pos) (tSetD i te) := PSi (ps_set hN hi hx he hs hf) fun D σ H ⟨C, en, De, R1, h, k⟩ =>
  ⟨C, en, _, De.ex, R1, h, k.x σ, fun r en' v H' q R' o' _ _ _ => by
    cases r with
    | val d => exact k.nx _ _ H' q (R.setV R' o')
    | own a d =>
      obtain ⟨rfl, h1, h2, h3⟩ := o'
      exact k.nx _ _ H' q (R.setO R' h1 h2 h3)
    | bor i => exact (show False from q).elim⟩
theorem ds_setV {i : Nat} {x : Str} {pos' : Pos} (hN : X.N.Nodup) (hi : X.N[i]? = some x) (hx : Loc X.env.scope x) (he : DE X W e te) (hs : swapsWith e (some (.Name x pos')) pos.line X.env = pure false := by rfl)
    (hf : X.fn x = true ∨ X.env.scope.names.lookup x = some .local := by first | exact .inl rfl | exact .inr rfl | assumption) : DS X W (.Assign [.Name x pos'] e pos) (tSetV i te) := PSi (ps_set hN hi hx he hs hf) fun D σ H ⟨C, en, De, R1, h, k⟩ =>
  ⟨C, en, _, De.ex, R1, h, k.x σ, fun r en' v H' q R' o' _ _ _ => by
    cases e : vl r with
    | none => simp only [e] at q
    | some d =>
      simp only [e] at q
      exact k.nx _ _ H' q (R'.dropX.setV (o'.rp R' e))⟩
end
end VS

namespace VS
open PySem L2 PySem.Spec PyProof.Rows

/-! ### a def's promise by its body -/
def noR (N : List Str) (args : En) : En := args ++ List.replicate (N.length - args.length) .no
section
variable {P : Program} {w : World} {K : PySem.W.Frag} {mg : Str → Option Value} {base : Heap}
theorem R.start {C : Cc} {vs : List V} {H : Hp} {args : En} {N : List Str} (r : R K C (vs.map some) H args) : R K C (L2.start N vs) H (noR N args) := by
  have hl := Plen r.sl
  rw [List.length_map] at hl
  have ho : oas (noR N args) = oas args := by
    have h1 : ∀ n, oas (List.replicate n Sl.no) = [] := fun n => by
      induction n with
      | zero => rfl
      | succ n ih => rw [List.replicate_succ]; exact ih
    have h2 : ∀ l : En, ∀ m : En, oas (l ++ m) = oas l ++ oas m := fun l m => by
      induction l with
      | nil => rfl
      | cons s l ih => cases s <;> simp [oas, ih]
    unfold noR
    rw [h2, h1, List.append_nil]
  refine ⟨?_, by rw [ho]; exact r.inj, r.dom, r.keep, r.nt⟩
  rw [ho]
  unfold L2.start noR
  rw [hl]
  have h3 : ∀ (xs xs' : L2.St) (ys ys' : En), Paired (SlR K C (mm C (oas args)) H) xs ys → Paired (SlR K C (mm C (oas args)) H) xs' ys' → Paired (SlR K C (mm C (oas args)) H) (xs ++ xs') (ys ++ ys') := by
    intro xs xs' ys ys' h1 h2
    induction h1 with
    | nil => exact h2
    | cons h _ ih => exact .cons h ih
  refine h3 _ _ _ _ r.sl ?_
  generalize N.length - args.length = n
  induction n with
  | zero => exact .nil
  | succ n ih => rw [List.replicate_succ, List.replicate_succ]; exact .cons trivial ih
theorem done_nx {C : Cc} {vs : List V} {args : En} {H : Hp} {Φ : Res → List D → Prop} {Ψ : Xc → List D → Prop} {Q : VK} {E : XK} (R0 : R K C (vs.map some) H args) (eH : C.H = H) (eF : ∀ a, C.F a ↔ a ∈ oas args)
    (hΦ : ∀ r ds v H', (∀ i, r ≠ .bor i) → Φ r ds → R K (C.ext r) (vs.map some) H' (setOwns args ds) → Hold K C r (setOwns args ds) H' v → Q v H')
    (hΨ : ∀ x ds cls d H', Ψ x ds → R K C (vs.map some) H' (setOwns args ds) → XcR K (mm C (oas args)) H' x cls d → E cls d H') :
    SOk K C (fun cls d _ H => E cls d H) { nx := fun _ H' => Q .non H', rt := Q } (edOf args Φ Ψ) where
  nx := fun σ en H' q R1 => by
    obtain ⟨ds, h1, h2, h3⟩ := outs_of q
    obtain ⟨q1, q2⟩ := fin_R (r := .val .non) (v := .non) R0 eH eF R1 .non (fun _ z => by cases z) h3
    exact hΦ _ ds _ H' (fun _ z => by cases z) h1 q1 q2
  rt := fun r en σ v H' q R1 hv => by
    cases r with
    | bor i => exact q.elim
    | val d =>
      obtain ⟨ds, h1, h2, h3⟩ := outs_of q
      obtain ⟨q1, q2⟩ := fin_R R0 eH eF R1 hv (fun _ z => by cases z) h3
      exact hΦ _ ds _ H' (fun _ z => by cases z) h1 q1 q2
    | own a d =>
      obtain ⟨ds, h1, h2, h3⟩ := outs_of q
      obtain ⟨q1, q2⟩ := fin_R R0 eH eF R1 hv (fun _ z => by cases z) h3
      exact hΦ _ ds _ H' (fun _ z => by cases z) h1 q1 q2
  bk := fun _ _ _ q => q.elim
  ct := fun _ _ _ q => q.elim
  ex := fun x en σ cls d H' q R1 hx => by
    obtain ⟨ds, h1, h2, h3⟩ := outs_of q
    obtain ⟨q1, q2⟩ := fin_X R0 eH eF R1 hx h3
    exact hΨ x ds cls d H' h1 q1 q2
abbrev W0 : WX := fun _ _ _ _ => False
/-- a def that lets nothing out -/
theorem fn_vs {x qual : Str} {st : Stmt} {f : Addr} {fd : FuncData} {N ps : List Str} {k n : Nat} {sp : Spc} (F : Fun K x qual st f fd) (S : FnScope N ps (defScope st)) (hn : ps.length = n)
    (hb : ∀ (cdv : Value) (A : Around) (outer : List Env) (s : Shared) (H : Hp) (E : XK), Room k (A.deeper (envOfC qual (defScope st) s.heap.objs.size f cdv)) →
      ∃ T : TDs, DSs (cxOf CX0 P w K mg base N qual (defScope st) f cdv A outer s H E).nox W0 (defBody st) T ∧ ∀ args Φ, args.length = n → sp args Φ (fun _ _ => False) → T (edOf args Φ fun _ _ => False) (noR N args))
    (hm : ∀ args Φ Ψ, sp args Φ Ψ → sp args Φ (fun _ _ => False) := by exact fun _ _ _ h => h) : FnOk P w K mg base CX0 (k + 1) f fd ps (lSp K n sp) :=
  F.ok S (fun vs H Q E h => h.1.trans hn.symm) fun cdv A outer s H vs Q E hr h => by
    obtain ⟨hl, C, args, Φ, Ψ, R0, eH, eF, hsp, hΦ, hΨ⟩ := h
    obtain ⟨T, hd, ht⟩ := hb cdv A outer s H E hr
    have ha : args.length = n := by
      have := Plen R0.sl
      rw [List.length_map] at this
      omega
    have ok := done_nx (Ψ := fun _ _ => False) (E := E0) R0 eH eF hΦ (fun _ _ _ _ _ z => z.elim)
    exact ⟨_, hd, C, noR N args, edOf args Φ fun _ _ => False, R0.start, ht args Φ ha (hm _ _ _ hsp), ⟨ok.nx, ok.rt, ok.bk, ok.ct, fun x en σ cls d H' q r z => ok.ex x en σ cls d H' q r z⟩⟩
/-- a def that may raise -/
theorem fn_vsX {x qual : Str} {st : Stmt} {f : Addr} {fd : FuncData} {N ps : List Str} {k n : Nat} {sp : Spc} (F : Fun K x qual st f fd) (S : FnScope N ps (defScope st)) (hn : ps.length = n)
    (hb : ∀ (cdv : Value) (A : Around) (outer : List Env) (s : Shared) (H : Hp) (E : XK), Room k (A.deeper (envOfC qual (defScope st) s.heap.objs.size f cdv)) →
      ∃ T : TDs, DSs (cxOf (L2.CX P w) P w K mg base N qual (defScope st) f cdv A outer s H E) (fun cls d _ H => E cls d H) (defBody st) T ∧ ∀ args Φ Ψ, args.length = n → sp args Φ Ψ → T (edOf args Φ Ψ) (noR N args)) :
    FnOk P w K mg base (L2.CX P w) (k + 1) f fd ps (lSp K n sp) :=
  F.okX S (fun vs H Q E h => h.1.trans hn.symm) fun cdv A outer s H vs Q E hr h => by
    obtain ⟨hl, C, args, Φ, Ψ, R0, eH, eF, hsp, hΦ, hΨ⟩ := h
    obtain ⟨T, hd, ht⟩ := hb cdv A outer s H E hr
    have ha : args.length = n := by
      have := Plen R0.sl
      rw [List.length_map] at this
      omega
    exact ⟨_, hd, C, noR N args, edOf args Φ Ψ, R0.start, ht args Φ Ψ ha hsp, done_nx R0 eH eF hΦ hΨ⟩
end

/-! ### calls of defs -/
def mkArgs (en : En) : List Res → Option En
  | [] => some []
  | r :: rs => match mkArgs en rs with
    | none => none
    | some as => match r with
      | .val d => some (.val d :: as)
      | .own _ d => some (.val d :: as)
      | .bor i => match en[i]? with
        | some (.own a d) => some (.own a d :: as)
        | _ => none
def bors : List Res → List Nat
  | [] => []
  | .bor i :: rs => i :: bors rs
  | _ :: rs => bors rs
def putOwns : En → List Res → List D → En
  | en, [], _ => en
  | en, .bor i :: rs, d' :: ds => match en[i]? with
    | some (.own a _) => putOwns (en.set i (.own a d')) rs ds
    | _ => en
  | en, .bor _ :: rs, [] => en
  | en, _ :: rs, ds => putOwns en rs ds
def tCallD (n : Nat) (sp : Spc) (ta : TDa) : TDe := fun Ψ en Φ => ta Ψ en fun rs en1 => match mkArgs en1 rs with
  | some args => args.length = n ∧ (bors rs).Nodup ∧ sp args (fun r ds => Φ r (putOwns en1 rs ds)) (fun x ds => Ψ x (putOwns en1 rs ds))
  | none => False
section
variable {K : PySem.W.Frag} {C : Cc} {σ : L2.St} {H H' : Hp} {en en' : En} {a : Addr} {d : D} {v : V} {s : Sl}
/-- what mkArgs gives -/
theorem mk_slots : ∀ {rs : List Res} {C : Cc} {vs : List V} {args : En}, HoldA K C rs en H vs → R K (C.exts rs) σ H en → mkArgs en rs = some args →
    vs.length = args.length ∧ (∀ (k : Nat) (d : D), args[k]? = some (.val d) → ∃ v, vs[k]? = some v ∧ Rp K (mm C (oas en)) H v d) ∧
    (∀ (k : Nat) (s : Sl), args[k]? = some s → (∃ d, s = .val d) ∨ ∃ (a : Addr) (d : D) (i : Nat), s = .own a d ∧ i ∈ bors rs ∧ en[i]? = some (.own a d) ∧ vs[k]? = some (.ref a)) ∧
    (∀ i, i ∈ bors rs → ∃ (a : Addr) (d : D), en[i]? = some (.own a d) ∧ Sl.own a d ∈ args)
  | [], _, _, args, h, _, e => by
    cases h; cases e
    exact ⟨rfl, fun k d h => by simp at h, fun k s h => by simp at h, fun i h => by simp [bors] at h⟩
  | r :: rs, C, _, args, ⟨v, ws, e, h1, h2⟩, R1, e' => by
    subst e
    unfold mkArgs at e'
    cases e2 : mkArgs en rs with
    | none => rw [e2] at e'; cases e'
    | some as =>
      rw [e2] at e'
      obtain ⟨l, p1, p2, p3⟩ := mk_slots (rs := rs) h2 R1 e2
      have Rr := R.dropA (rs := rs) (C := C.ext r) R1
      have low : ∀ v d, Rp K (mm (C.ext r) (oas en)) H v d → Rp K (mm C (oas en)) H v d := fun v d h => Rp.mono le_ext _ _ h
      cases r with
      | val d0 =>
        cases e'
        refine ⟨by simp [l], fun k d h => ?_, fun k s h => ?_, fun i h => ?_⟩
        · cases k with
          | zero => simp at h; subst h; exact ⟨v, rfl, Rp.mono le_exts _ _ h1⟩
          | succ k => obtain ⟨v', q1, q2⟩ := p1 k d (by simpa using h); exact ⟨v', by simpa using q1, low _ _ q2⟩
        · cases k with
          | zero => simp at h; exact .inl ⟨d0, h.symm⟩
          | succ k =>
            rcases p2 k s (by simpa using h) with q | ⟨a, d, i, q1, q2, q3, q4⟩
            · exact .inl q
            · exact .inr ⟨a, d, i, q1, q2, q3, by simpa using q4⟩
        · obtain ⟨a, d, q1, q2⟩ := p3 i h
          exact ⟨a, d, q1, List.mem_cons_of_mem _ q2⟩
      | own a0 d0 =>
        cases e'
        refine ⟨by simp [l], fun k d h => ?_, fun k s h => ?_, fun i h => ?_⟩
        · cases k with
          | zero => simp at h; subst h; exact ⟨v, rfl, Rp.mono le_exts _ _ (h1.rp (by rw [exts_ext]; exact R1) rfl)⟩
          | succ k => obtain ⟨v', q1, q2⟩ := p1 k d (by simpa using h); exact ⟨v', by simpa using q1, low _ _ q2⟩
        · cases k with
          | zero => simp at h; exact .inl ⟨d0, h.symm⟩
          | succ k =>
            rcases p2 k s (by simpa using h) with q | ⟨a, d, i, q1, q2, q3, q4⟩
            · exact .inl q
            · exact .inr ⟨a, d, i, q1, q2, q3, by simpa using q4⟩
        · obtain ⟨a, d, q1, q2⟩ := p3 i h
          exact ⟨a, d, q1, List.mem_cons_of_mem _ q2⟩
      | bor i0 =>
        obtain ⟨a0, d0, q0, rfl⟩ := h1
        have e3 : some (Sl.own a0 d0 :: as) = some args := by simpa [q0] using e'
        cases e3
        refine ⟨by simp [l], fun k d h => ?_, fun k s h => ?_, fun i h => ?_⟩
        · cases k with
          | zero => simp at h
          | succ k => obtain ⟨v', q1, q2⟩ := p1 k d (by simpa using h); exact ⟨v', by simpa using q1, low _ _ q2⟩
        · cases k with
          | zero => simp at h; exact .inr ⟨a0, d0, i0, h.symm, by simp [bors], q0, rfl⟩
          | succ k =>
            rcases p2 k s (by simpa using h) with q | ⟨a, d, i, q1, q2, q3, q4⟩
            · exact .inl q
            · exact .inr ⟨a, d, i, q1, by simp [bors, q2], q3, by simpa using q4⟩
        · simp only [bors, List.mem_cons] at h
          rcases h with rfl | h
          · exact ⟨a0, d0, q0, List.mem_cons_self⟩
          · obtain ⟨a, d, q1, q2⟩ := p3 i h
            exact ⟨a, d, q1, List.mem_cons_of_mem _ q2⟩
theorem mkArgs_set : ∀ {rs : List Res} {i : Nat} {s : Sl}, i ∉ bors rs → mkArgs (en.set i s) rs = mkArgs en rs
  | [], _, _, _ => rfl
  | .val d :: rs, i, s, h => by simp only [mkArgs, mkArgs_set (rs := rs) (s := s) (show i ∉ bors rs from h)]
  | .own a d :: rs, i, s, h => by simp only [mkArgs, mkArgs_set (rs := rs) (s := s) (show i ∉ bors rs from h)]
  | .bor j :: rs, i, s, h => by
    have h1 : i ≠ j := fun z => h (by rw [z]; simp [bors])
    have h2 : i ∉ bors rs := fun z => h (by simp [bors, z])
    simp only [mkArgs, mkArgs_set (rs := rs) (s := s) h2, List.getElem?_set_ne h1]
/-- the args' owners, apart -/
theorem mk_nodup : ∀ {rs : List Res} {args : En}, (oas en).Nodup → (bors rs).Nodup → mkArgs en rs = some args → (oas args).Nodup ∧ ∀ a, a ∈ oas args → ∃ i d, i ∈ bors rs ∧ en[i]? = some (.own a d)
  | [], args, _, _, e => by cases e; exact ⟨List.nodup_nil, fun a h => by simp [oas] at h⟩
  | r :: rs, args, nd, nb, e' => by
    unfold mkArgs at e'
    cases e2 : mkArgs en rs with
    | none => rw [e2] at e'; cases e'
    | some as =>
      rw [e2] at e'
      cases r with
      | val d0 =>
        cases e'
        exact mk_nodup (rs := rs) (args := as) nd nb e2
      | own a0 d0 =>
        cases e'
        exact mk_nodup (rs := rs) (args := as) nd nb e2
      | bor i0 =>
        have nb' : i0 ∉ bors rs ∧ (bors rs).Nodup := List.nodup_cons.mp nb
        obtain ⟨h1, h2⟩ := mk_nodup (rs := rs) nd nb'.2 e2
        cases q : en[i0]? with
        | none => simp [q] at e'
        | some s =>
          cases s <;> simp only [q] at e' <;> try cases e'
          rename_i a0 d0
          refine ⟨List.nodup_cons.mpr ⟨fun z => ?_, h1⟩, fun a z => ?_⟩
          · obtain ⟨i, d, m, qi⟩ := h2 a0 z
            rw [own_inj en i0 i d0 d nd q qi] at nb'
            exact nb'.1 m
          · rcases List.mem_cons.mp z with rfl | z
            · exact ⟨i0, d0, by simp [bors], q⟩
            · obtain ⟨i, d, m, qi⟩ := h2 a z
              exact ⟨i, d, by simp [bors, m], qi⟩
/-- the slots behind a call -/
theorem put_at : ∀ {rs : List Res} {en : En} {args : En} {ds : List D}, mkArgs en rs = some args → (bors rs).Nodup →
    Shape en (putOwns en rs ds) ∧ ∀ (j : Nat), (j ∉ bors rs → (putOwns en rs ds)[j]? = en[j]?) ∧
      (j ∈ bors rs → ∃ (a : Addr) (d0 d' : D) (k : Nat), en[j]? = some (.own a d0) ∧ (putOwns en rs ds)[j]? = some (.own a d') ∧ (setOwns args ds)[k]? = some (.own a d'))
  | [], en, args, ds, e, _ => by
    cases e
    exact ⟨Shape.refl _, fun j => ⟨fun _ => by simp [putOwns], fun h => by simp [bors] at h⟩⟩
  | r :: rs, en, args, ds, e', nb => by
    unfold mkArgs at e'
    cases e2 : mkArgs en rs with
    | none => rw [e2] at e'; cases e'
    | some as =>
      rw [e2] at e'
      cases r with
      | val d0 =>
        cases e'
        obtain ⟨h1, h2⟩ := put_at (rs := rs) (ds := ds) e2 nb
        refine ⟨by simpa [putOwns] using h1, fun j => ⟨fun m => by simpa [putOwns] using (h2 j).1 m, fun m => ?_⟩⟩
        obtain ⟨a, d0, d', k, q1, q2, q3⟩ := (h2 j).2 m
        exact ⟨a, d0, d', k + 1, q1, by simpa [putOwns] using q2, by simpa [setOwns] using q3⟩
      | own a0 d0 =>
        cases e'
        obtain ⟨h1, h2⟩ := put_at (rs := rs) (ds := ds) e2 nb
        refine ⟨by simpa [putOwns] using h1, fun j => ⟨fun m => by simpa [putOwns] using (h2 j).1 m, fun m => ?_⟩⟩
        obtain ⟨a, d0, d', k, q1, q2, q3⟩ := (h2 j).2 m
        exact ⟨a, d0, d', k + 1, q1, by simpa [putOwns] using q2, by simpa [setOwns] using q3⟩
      | bor i0 =>
        have nb' : i0 ∉ bors rs ∧ (bors rs).Nodup := List.nodup_cons.mp nb
        cases q : en[i0]? with
        | none => simp [q] at e'
        | some s =>
          cases s <;> simp only [q] at e' <;> try cases e'
          rename_i a0 d0
          cases ds with
          | nil =>
            have ep : ∀ l : List Res, putOwns en (.bor i0 :: l) [] = en := fun l => by simp [putOwns]
            have es : ∀ l : En, setOwns l [] = l := fun l => by
              induction l with
              | nil => simp [setOwns]
              | cons s l ih => cases s <;> simp [setOwns, ih]
            rw [ep, es]
            refine ⟨Shape.refl _, fun j => ⟨fun _ => rfl, fun m => ?_⟩⟩
            simp only [bors, List.mem_cons] at m
            rcases m with rfl | m
            · exact ⟨a0, d0, d0, 0, q, q, rfl⟩
            · obtain ⟨_, h2⟩ := put_at (rs := rs) (ds := []) e2 nb'.2
              obtain ⟨a, d1, d', k, q1, q2, q3⟩ := (h2 j).2 m
              rw [es] at q3
              -- the old content
              have hm : ∀ (rs : List Res) (as : En), mkArgs en rs = some as → ∀ j, j ∈ bors rs → ∃ (a : Addr) (d : D) (k : Nat), en[j]? = some (Sl.own a d) ∧ as[k]? = some (Sl.own a d) := by
                intro rs
                induction rs with
                | nil => intro as _ j m; simp [bors] at m
                | cons r rs ih =>
                  intro as e j m
                  unfold mkArgs at e
                  cases e3 : mkArgs en rs with
                  | none => rw [e3] at e; cases e
                  | some as' =>
                    rw [e3] at e
                    cases r with
                    | val d =>
                      cases e
                      obtain ⟨a, d, k, z1, z2⟩ := ih as' e3 j m
                      exact ⟨a, d, k + 1, z1, by simpa using z2⟩
                    | own a d =>
                      cases e
                      obtain ⟨a, d, k, z1, z2⟩ := ih as' e3 j m
                      exact ⟨a, d, k + 1, z1, by simpa using z2⟩
                    | bor i =>
                      cases q' : en[i]? with
                      | none => simp [q'] at e
                      | some s =>
                        cases s <;> simp only [q'] at e <;> try cases e
                        rename_i a d
                        simp only [bors, List.mem_cons] at m
                        rcases m with rfl | m
                        · exact ⟨a, d, 0, q', rfl⟩
                        · obtain ⟨a, d, k, z1, z2⟩ := ih as' e3 j m
                          exact ⟨a, d, k + 1, z1, by simpa using z2⟩
              obtain ⟨a, d, k, z1, z2⟩ := hm rs as e2 j m
              exact ⟨a, d, d, k + 1, z1, z1, by simpa using z2⟩
          | cons d' ds =>
            have e4 := (mkArgs_set (en := en) (rs := rs) (s := Sl.own a0 d') nb'.1).trans e2
            obtain ⟨h1, h2⟩ := put_at (rs := rs) (ds := ds) e4 nb'.2
            have ep : putOwns en (.bor i0 :: rs) (d' :: ds) = putOwns (en.set i0 (.own a0 d')) rs ds := by simp [putOwns, q]
            rw [ep]
            refine ⟨Shape.trans (Shape.set (s' := .own a0 d') q rfl) h1, fun j => ⟨fun m => ?_, fun m => ?_⟩⟩
            · have m1 : j ≠ i0 := fun z => m (by rw [z]; simp [bors])
              have m2 : j ∉ bors rs := fun z => m (by simp [bors, z])
              rw [(h2 j).1 m2, List.getElem?_set_ne (Ne.symm m1)]
            · simp only [bors, List.mem_cons] at m
              rcases m with rfl | m
              · refine ⟨a0, d0, d', 0, q, ?_, rfl⟩
                rw [(h2 j).1 nb'.1, List.getElem?_set_self (List.getElem?_eq_some_iff.mp q).1]
              · obtain ⟨a, d1, d2, k, q1, q2, q3⟩ := (h2 j).2 m
                have m1 : i0 ≠ j := fun z => nb'.1 (by rw [z]; exact m)
                rw [List.getElem?_set_ne m1] at q1
                exact ⟨a, d1, d2, k + 1, q1, q2, by simpa [setOwns] using q3⟩
/-- the caller's slots behind a call -/
theorem call_R {rs : List Res} {vs : List V} {args : En} (hA : HoldA K C rs en H vs) (R1 : R K (C.exts rs) σ H en) (e : mkArgs en rs = some args) (nb : (bors rs).Nodup) :
    ∃ C' : Cc, R K C' (vs.map some) H args ∧ C'.H = H ∧ (∀ a, C'.F a ↔ a ∈ oas args) ∧
      (∀ (r : Res) (ds : List D) (v : V) (H' : Hp), R K (C'.ext r) (vs.map some) H' (setOwns args ds) → Hold K C' r (setOwns args ds) H' v → (∀ i, r ≠ .bor i) →
        R K (C.ext r) σ H' (putOwns en rs ds) ∧ Hold K C r (putOwns en rs ds) H' v ∧ Shape en (putOwns en rs ds) ∧ Keep en H H' ∧ NewR H r) ∧
      (∀ x cls d H', XcR K (mm C' (oas args)) H' x cls d → XcR K (mm C (oas en)) H' x cls d) := by
  obtain ⟨l, p1, p2, p3⟩ := mk_slots hA R1 e
  obtain ⟨nd, q1⟩ := mk_nodup R1.inj nb e
  have sub : ∀ a, a ∈ oas args → a ∈ oas en := fun a h => by
    obtain ⟨i, d, _, z⟩ := q1 a h
    exact oas_mem.mpr ⟨i, d, z⟩
  have R0 := R1.dropA
  let C' : Cc := { M := fun x => mm C (oas en) x ∧ x ∉ oas args, F := fun x => x ∈ oas args, H := H }
  have mmE : ∀ x, mm C' (oas args) x ↔ mm C (oas en) x := fun x => ⟨fun z => z.elim (·.1) fun z => .inr (sub x z), fun z => (Classical.em (x ∈ oas args)).elim .inr fun w => .inl ⟨z, w⟩⟩
  have leI : ∀ Hx, Le (mm C (oas en)) Hx (mm C' (oas args)) Hx := fun _ b u n z => ⟨fun w => n ((mmE b).mp w), z⟩
  refine ⟨C', ⟨?_, nd, fun a w => ?_, fun a u h _ => h, fun a xs w => ?_⟩, rfl, fun a => Iff.rfl, fun r ds v H' R2 hv nbr => ?_, fun x cls d H' h => h.mono fun b u n z => ⟨fun w => n ((mmE b).mpr w), z⟩⟩
  · -- the args
    refine Pof (by rw [List.length_map]; exact l) fun k x y hx hy => ?_
    rcases p2 k y hy with ⟨d, rfl⟩ | ⟨a, d, i, rfl, hi, z1, z2⟩
    · obtain ⟨v, w1, w2⟩ := p1 k d hy
      rw [List.getElem?_map, w1] at hx
      cases hx
      exact Rp.mono (leI H) _ _ w2
    · rw [List.getElem?_map, z2] at hx
      cases hx
      have g := R0.getO z1
      exact ⟨rfl, fun w => w.2 (oas_mem.mpr ⟨k, d, hy⟩), .inl (oas_mem.mpr ⟨k, d, hy⟩), g.2.2.2.mono (leI H) fun _ q => q⟩
  · rcases w with w | w
    · exact R0.mD w.1
    · exact R0.oD (sub a w)
  · rcases w with w | w
    · exact R0.mN w.1 xs
    · exact R0.mN (.inr (sub a w)) xs
  · -- behind it
    obtain ⟨sh, at_⟩ := put_at (ds := ds) e nb
    have eo : oas (putOwns en rs ds) = oas en := (oas_shape sh).symm
    have ea : oas (setOwns args ds) = oas args := (oas_shape (setOwns_shape args ds)).symm
    have kp : ∀ a u, a ∉ oas args → H a = some u → H' a = some u := fun a u n z => R2.keep a u (by rw [ext_H]; exact z) (by rw [ext_F]; exact n)
    have keep : Keep en H H' := fun a u n z => kp a u (fun w => n (sub a w)) z
    have hn : ∀ p dp, r = .own p dp → H p = none := fun p dp er => by
      subst er
      obtain ⟨_, _, f, _⟩ := hv
      rcases f with f | f
      · exact absurd (.inr rfl) (R2.oM (by rw [ea]; exact f))
      · exact f
    have le2 : ∀ r', (∀ p dp, r' = .own p dp → r = .own p dp) → Le (mm (C'.ext r') (oas (setOwns args ds))) H' (mm (C.ext r') (oas en)) H' := fun r' hr' b u n z => ⟨fun w => n (by
      rw [ea]
      rcases w with w | w
      · cases r' with
        | own p dp =>
          rcases w with w | w
          · rcases (mmE b).mpr (.inl w) with w | w
            · exact .inl (.inl w)
            · exact .inr w
          · exact .inl (.inr w)
        | val _ =>
          rcases (mmE b).mpr (.inl w) with w | w
          · exact .inl w
          · exact .inr w
        | bor _ =>
          rcases (mmE b).mpr (.inl w) with w | w
          · exact .inl w
          · exact .inr w
      · rcases (mmE b).mpr (.inr w) with w | w
        · cases r' with
          | own p dp => exact .inl (.inl w)
          | val _ => exact .inl w
          | bor _ => exact .inl w
        · exact .inr w), z⟩
    have le3 : Le (mm C (oas en)) H (mm (C.ext r) (oas en)) H' := fun b u n z => ⟨fun w => n (mm_split (fun p dp er wb => by rw [wb, hn p dp er] at z; cases z) .inr w), kp b u (fun w => n (.inr (sub b w))) z⟩
    refine ⟨⟨?_, by rw [eo]; exact R0.inj, fun a w => ?_, fun a u z n => ?_, fun a xs w zt => ?_⟩, ?_, sh, keep, ?_⟩
    rotate_right
    · cases r with
      | own p dp => exact hn p dp rfl
      | _ => trivial
    · rw [eo]
      have hl : σ.length = (putOwns en rs ds).length := by
        have h1 := Plen R0.sl
        have h2 := congrArg List.length sh
        rw [List.length_map, List.length_map] at h2
        rw [h1, h2]
      refine Pof hl fun j x y hx hy => ?_
      by_cases hj : j ∈ bors rs
      · obtain ⟨a, d0, d', k, z1, z2, z3⟩ := (at_ j).2 hj
        rw [z2] at hy
        cases hy
        have g := R2.getO z3
        have g0 := R0.getO z1
        have hxx : x = some (.ref a) := by rw [g0.1] at hx; exact (Option.some.inj hx).symm
        subst hxx
        refine ⟨rfl, fun w => ?_, by rw [ext_F, ext_H]; exact g0.2.2.1, g.2.2.2.mono (le2 r fun _ _ q => q) fun _ q => q⟩
        cases r with
        | own p dp =>
          rcases w with w | w
          · exact g0.2.1 w
          · exact g.2.1 (.inr w)
        | val _ => exact g0.2.1 w
        | bor _ => exact g0.2.1 w
      · rw [(at_ j).1 hj] at hy
        have f0 := Pat R0.sl hx hy
        cases y with
        | own a d =>
          cases x with
          | none => exact f0.elim
          | some w =>
            obtain ⟨rfl, g1, g2, g3⟩ := f0
            have na : a ∉ oas args := fun z => by
              obtain ⟨i, d1, m, z1⟩ := q1 a z
              exact hj (by rw [own_inj en j i d d1 R0.inj hy z1]; exact m)
            have ha : ∀ u, H a = some u → H' a = some u := fun u z => kp a u na z
            refine ⟨rfl, fun w => ?_, by rw [ext_F, ext_H]; exact g2, g3.mono le3 ha⟩
            cases r with
            | own p dp =>
              rcases w with w | w
              · exact g1 w
              · obtain ⟨u, z⟩ := g3.dom
                rw [w, hn p dp rfl] at z
                cases z
            | val _ => exact g1 w
            | bor _ => exact g1 w
        | no => trivial
        | val d => exact f0.val_of le3 fun _ _ z => by cases z
        | exc => exact f0.val_of le3 fun _ _ z => by cases z
    · -- what stood stands
      have hm : mm C (oas en) a ∨ C.F a → ∃ u, H' a = some u := fun z => by
        by_cases ha : a ∈ oas args
        · exact R2.oD (by rw [ea]; exact ha)
        · have : ∃ u, H a = some u := by
            rcases z with z | z
            · exact R0.mD z
            · exact R0.dom a (.inr z)
          obtain ⟨u, z⟩ := this
          exact ⟨u, kp a u ha z⟩
      rcases w with w | w
      · cases r with
        | own p dp =>
          rcases w with w | w
          · exact hm (.inl (.inl w))
          · exact R2.dom a (.inl (.inr w))
        | val _ => exact hm (.inl (.inl w))
        | bor _ => exact hm (.inl (.inl w))
      · rw [ext_F] at w
        exact hm (.inr w)
    · rw [ext_H] at z
      rw [ext_F] at n
      have z' := R0.keep a u z n
      refine kp a u (fun w => ?_) z'
      rcases R0.oF (sub a w) with f | f
      · exact n f
      · rw [f] at z; cases z
    · have hm : mm C (oas en) a ∨ C.F a → False := fun z => by
        by_cases ha : a ∈ oas args
        · exact R2.mN (.inr (by rw [ea]; exact ha)) xs zt
        · have dd : ∃ u, H a = some u := by
            rcases z with z | z
            · exact R0.mD z
            · exact R0.dom a (.inr z)
          obtain ⟨u, q⟩ := dd
          have q' := kp a u ha q
          rw [zt] at q'
          cases q'
          rcases z with z | z
          · exact R0.mN z xs q
          · exact R0.nt a xs (.inr z) q
      rcases w with w | w
      · cases r with
        | own p dp =>
          rcases w with w | w
          · exact hm (.inl (.inl w))
          · exact R2.nt a xs (.inl (.inr w)) zt
        | val _ => exact hm (.inl (.inl w))
        | bor _ => exact hm (.inl (.inl w))
      · rw [ext_F] at w
        exact hm (.inr w)
    · cases r with
      | val d =>
        show Rp K (mm C (oas (putOwns en rs ds))) H' v d
        rw [eo]
        exact Rp.mono (le2 (.val d) fun _ _ q => q) _ _ hv
      | own p dp =>
        obtain ⟨h1, h2, h3, h4⟩ := hv
        have hp := hn p dp rfl
        refine ⟨h1, fun w => ?_, .inr (R0.new hp), ?_⟩
        · obtain ⟨u, z⟩ := R0.dom p (.inl w)
          rw [hp] at z; cases z
        · rw [eo]
          exact h4.mono (le2 (.own p dp) fun _ _ q => q) fun _ q => q
      | bor i => exact absurd rfl (nbr i)
end
section
variable {X : Cx} {W : WX} {CX : CXT} {k n : Nat} {f : Addr} {fd : FuncData} {ps : List Str} {sp : Spc} {x : Str} {p pos : Pos} {e : Expr} {es : List Expr} {t : TDa}
theorem call_go {E : L2.St → XK} (hE : ∀ cls d σ H, W cls d σ H → E σ cls d H) {σ : L2.St} {H : Hp} {Q : VK} (h : lE X.K W (tCallD n sp t) σ H Q) : tCallS (lSp X.K n sp) E (lA X.K W t) σ H Q := by
  obtain ⟨C, en, Φ, Ψ, R0, hT, hX, kk⟩ := h
  refine ⟨C, en, _, Ψ, R0, hT, hX, fun rs en1 vs H1 h1 R1 hold1 s1 k1 _ => ?_⟩
  cases e : mkArgs en1 rs with
  | none => simp only [e] at h1
  | some args =>
    simp only [e] at h1
    obtain ⟨hl, nb, hs⟩ := h1
    obtain ⟨C', R', eH, eF, back, backX⟩ := call_R hold1 R1 e nb
    refine ⟨(mk_slots hold1 R1 e).1.trans hl, C', args, _, _, R', eH, eF, hs, fun r ds v H' nr q R2 hv => ?_, fun x ds cls d H' q R2 hx => ?_⟩
    · obtain ⟨z1, z2, z3, z4, z5⟩ := back r ds v H' R2 hv nr
      exact kk r _ v H' q z1 z2 (s1.trans z3) (k1.trans s1 z4) (z5.back k1 s1 R1.dropA)
    · obtain ⟨z1, z2, z3, z4, _⟩ := back (.val .non) ds .non H' R2 .non fun _ z => by cases z
      refine hE _ _ _ _ (hX x _ cls d H' q z1 ?_)
      rw [← oas_shape z3]
      exact backX x cls d H' hx
theorem call_go0 {σ : L2.St} {H : Hp} {Q : VK} (h : lE X.K W (tCallD n (fun a Φ _ => sp a Φ fun _ _ => False) t) σ H Q) : tCallS (lSp X.K n sp) (fun _ => E0) (lA X.K W t) σ H Q := by
  obtain ⟨C, en, Φ, Ψ, R0, hT, hX, kk⟩ := h
  refine ⟨C, en, _, Ψ, R0, hT, hX, fun rs en1 vs H1 h1 R1 hold1 s1 k1 _ => ?_⟩
  cases e : mkArgs en1 rs with
  | none => simp only [e] at h1
  | some args =>
    simp only [e] at h1
    obtain ⟨hl, nb, hs⟩ := h1
    obtain ⟨C', R', eH, eF, back, backX⟩ := call_R hold1 R1 e nb
    refine ⟨(mk_slots hold1 R1 e).1.trans hl, C', args, _, _, R', eH, eF, hs, fun r ds v H' nr q R2 hv => ?_, fun x ds cls d H' q R2 hx => q.elim⟩
    obtain ⟨z1, z2, z3, z4, z5⟩ := back r ds v H' R2 hv nr
    exact kk r _ v H' q z1 z2 (s1.trans z3) (k1.trans s1 z4) (z5.back k1 s1 R1.dropA)
/-- f(..), f lets nothing out | what it lets out cannot be here -/
theorem de_call (F : FnOk X.prog X.w X.K X.mg X.base CX0 k f fd ps (lSp X.K n sp)) (hr : Room k X.A) (hg : Gl X x) (hm : X.mg x = some (.ref f)) (hk : PySem.W.keepIn X.K (.ref f) = true) (hb : Binds X.K fd ps [])
    (ha : DA X W (e :: es) t) (hdb : (x == ("__debug__" : Str)) = false := by decide) (he : starEach (e :: es) X.env = (false, eval e X.env) :: starEach es X.env := by rfl) (hpl : (backTo pos (starEach es X.env)).any (·.1) = false := by rfl) :
    DE X W (.Call (.Name x p) (e :: es) [] pos) (tCallD n (fun a Φ _ => sp a Φ fun _ _ => False) t) :=
  PEi (pe_callS F hr hg hm hk hb (E := fun _ => E0) (fun σ _ _ _ _ _ _ z => z.elim) ha hdb he hpl) fun σ H Q h => call_go0 h
theorem de_callQ (F : FnOk X.prog X.w X.K X.mg X.base (L2.CX X.prog X.w) k f fd ps (lSp X.K n sp)) (hr : Room k X.A) (hg : Gl X x) (hm : X.mg x = some (.ref f)) (hk : PySem.W.keepIn X.K (.ref f) = true) (hb : Binds X.K fd ps [])
    (ha : DA X W (e :: es) t) (hdb : (x == ("__debug__" : Str)) = false := by decide) (he : starEach (e :: es) X.env = (false, eval e X.env) :: starEach es X.env := by rfl) (hpl : (backTo pos (starEach es X.env)).any (·.1) = false := by rfl) :
    DE X W (.Call (.Name x p) (e :: es) [] pos) (tCallD n (fun a Φ _ => sp a Φ fun _ _ => False) t) :=
  PEi (pe_callS F hr hg hm hk hb (E := fun _ => E0) (fun σ pins H s e s' I z => passL pins σ H s e s' I z) ha hdb he hpl) fun σ H Q h => call_go0 h
/-- f(..), f may raise -/
theorem de_callX (F : FnOk X.prog X.w X.K X.mg X.base (L2.CX X.prog X.w) k f fd ps (lSp X.K n sp)) (hr : Room k X.A) (hg : Gl X x) (hm : X.mg x = some (.ref f)) (hk : PySem.W.keepIn X.K (.ref f) = true) (hb : Binds X.K fd ps []) (tk : Takes X W)
    (ha : DA X W (e :: es) t) (hdb : (x == ("__debug__" : Str)) = false := by decide) (he : starEach (e :: es) X.env = (false, eval e X.env) :: starEach es X.env := by rfl) (hpl : (backTo pos (starEach es X.env)).any (·.1) = false := by rfl) :
    DE X W (.Call (.Name x p) (e :: es) [] pos) (tCallD n sp t) :=
  PEi (pe_callS F hr hg hm hk hb (E := fun σ => WE W σ) (fun σ => passAt tk σ) ha hdb he hpl) fun σ H Q h => call_go (fun _ _ _ _ z => z) h
end
end VS

namespace VS
open PySem L2 PySem.Spec PyProof.Rows

/-! ### targets -/
abbrev TDg := D → En → (En → Prop) → Prop
abbrev TDgs := List D → En → (En → Prop) → Prop
/-- what a target leaves as it was: all slots but S -/
def Only (S : List Nat) (σ σ' : L2.St) (en en' : En) : Prop := (∀ j, j ∉ S → σ'[j]? = σ[j]?) ∧ (∀ j, j ∉ S → en'[j]? = en[j]?) ∧ σ'.length = σ.length ∧ en'.length = en.length
def lG (K : PySem.W.Frag) (S : List Nat) (T : TDg) : TG := fun v σ H Q => ∃ (C : Cc) (en : En) (d : D) (Φ : En → Prop), R K C σ H en ∧ Rp K (mm C (oas en)) H v d ∧ T d en Φ ∧
  ∀ σ' en', Φ en' → R K C σ' H en' → Le (mm C (oas en)) H (mm C (oas en')) H → Only S σ σ' en en' → Q σ' H
def lGs (K : PySem.W.Frag) (S : List Nat) (T : TDgs) : TGs := fun vs σ H Q => ∃ (C : Cc) (en : En) (ds : List D) (Φ : En → Prop), R K C σ H en ∧ RpA K (mm C (oas en)) H vs ds ∧ T ds en Φ ∧
  ∀ σ' en', Φ en' → R K C σ' H en' → Le (mm C (oas en)) H (mm C (oas en')) H → Only S σ σ' en en' → Q σ' H
abbrev DG (X : Cx) (S : List Nat) (tg : Expr) (T : TDg) : Prop := PG X tg (lG X.K S T)
abbrev DGs (X : Cx) (S : List Nat) (tg : List Expr) (T : TDgs) : Prop := PGs X tg (lGs X.K S T)
theorem PGi {X : Cx} {tg : Expr} {t t' : TG} (h : PG X tg t) (i : ∀ v σ H Q, t' v σ H Q → t v σ H Q) : PG X tg t' := ⟨fun pins s σ H v u Q I r q => h.run pins s σ H v u Q I r (i v σ H Q q)⟩
theorem PGsi {X : Cx} {tg : List Expr} {t t' : TGs} (h : PGs X tg t) (i : ∀ v σ H Q, t' v σ H Q → t v σ H Q) : PGs X tg t' := ⟨fun pins s σ H v u Q I r q => h.run pins s σ H v u Q I r (i v σ H Q q)⟩
def tNamG (i : Nat) : TDg := fun d en Φ => Φ (en.set i (.val d))
def tTupG (n : Nat) (t : TDgs) : TDg := fun d en Φ => match d with
  | .tup ds => ds.length = n ∧ t ds en Φ
  | _ => False
def tNilG : TDgs := fun ds en Φ => match ds with
  | [] => Φ en
  | _ => False
def tConsG (t : TDg) (u : TDgs) : TDgs := fun ds en Φ => match ds with
  | d :: r => t d en fun en1 => u r en1 Φ
  | [] => False
theorem Le.trans {M M1 M2 : Ms} {H H1 H2 : Hp} (a : Le M H M1 H1) (b : Le M1 H1 M2 H2) : Le M H M2 H2 := fun x u n h => b x u (a x u n h).1 (a x u n h).2
theorem le_set {C : Cc} {en : En} {H : Hp} {i : Nat} {s : Sl} (hs : oas [s] = []) : Le (mm C (oas en)) H (mm C (oas (en.set i s))) H := fun a u n q => ⟨fun z => n (z.imp id fun z => (oas_set_sub i hs).subset z), q⟩
section
variable {X : Cx} {S S' : List Nat} {tg : Expr} {tgs : List Expr} {t : TDg} {u : TDgs} {pos : Pos}
theorem dg_name {i : Nat} {x : Str} (hN : X.N.Nodup) (hi : X.N[i]? = some x) (hx : Loc X.env.scope x) (hf : X.fn x = true ∨ X.env.scope.names.lookup x = some .local := by first | exact .inl rfl | exact .inr rfl | assumption) : DG X [i] (.Name x pos) (tNamG i) :=
  PGi (pg_name hN hi hx hf) fun v σ H Q ⟨C, en, d, Φ, R1, hv, h, k⟩ => k _ _ h (R1.setV hv) (le_set rfl)
    ⟨fun j hj => by rw [List.getElem?_set_ne (fun z => hj (by simp [z]))], fun j hj => by rw [List.getElem?_set_ne (fun z => hj (by simp [z]))], by simp, by simp⟩
theorem dgs_nil : DGs X [] [] tNilG := PGsi pgs_nil fun vs σ H Q ⟨C, en, ds, Φ, R1, hv, h, k⟩ => by
  cases ds with
  | nil => cases hv; exact ⟨rfl, k _ _ h R1 (fun _ _ n q => ⟨n, q⟩) ⟨fun _ _ => rfl, fun _ _ => rfl, rfl, rfl⟩⟩
  | cons => exact (show False from h).elim
theorem dgs_cons (h1 : DG X S tg t) (h2 : DGs X S' tgs u) (hs : (assignEach (tg :: tgs) X.env).map (·.2) = assign tg X.env :: (assignEach tgs X.env).map (·.2) := by rfl) : DGs X (S ++ S') (tg :: tgs) (tConsG t u) :=
  PGsi (pgs_cons h1 h2 hs) fun vs σ H Q ⟨C, en, ds, Φ, R1, hv, h, k⟩ => by
    cases ds with
    | nil => exact (show False from h).elim
    | cons d ds =>
      cases hv with
      | cons q1 q2 =>
        refine ⟨_, _, rfl, C, en, d, _, R1, q1, h, fun σ1 en1 g1 R2 l1 o1 => ?_⟩
        refine ⟨C, en1, ds, Φ, R2, RpA.mono l1 _ _ q2, g1, fun σ2 en2 g2 R3 l2 o2 => ?_⟩
        refine k _ _ g2 R3 (l1.trans l2) ⟨fun j hj => ?_, fun j hj => ?_, o2.2.2.1.trans o1.2.2.1, o2.2.2.2.trans o1.2.2.2⟩
        · rw [o2.1 j (fun z => hj (List.mem_append_right _ z)), o1.1 j (fun z => hj (List.mem_append_left _ z))]
        · rw [o2.2.1 j (fun z => hj (List.mem_append_right _ z)), o1.2.1 j (fun z => hj (List.mem_append_left _ z))]
theorem dg_tup {k n : Nat} (hc : X.calm = true) (h : DGs X S tgs u) (hn : (assignEach tgs X.env).length = n := by rfl) (hst : (assignEach tgs X.env).findIdx? (·.1) = none := by rfl) : DG X S (.Tuple tgs k pos) (tTupG n u) :=
  PGi (pg_tup hc h hn hst) fun v σ H Q ⟨C, en, d, Φ, R1, hv, h, k⟩ => by
    cases d <;> try exact (show False from h).elim
    rename_i ds
    obtain ⟨hl, h⟩ := h
    cases hv with
    | tup h1 h2 => exact ⟨_, _, rfl, h1.sq, h2.length.trans hl, C, en, ds, Φ, R1, h2, h, k⟩
end

/-! ### further statements -/
def tAsgD (ta : TDe) (tg : TDg) : TDs := fun De en => ta De.ex en fun r en1 => match vl r with
  | some d => tg d en1 De.nx
  | none => False
def slR : Res → Sl
  | .val d => .val d
  | .own a d => .own a d
  | .bor _ => .no
def nob : Res → Prop
  | .bor _ => False
  | _ => True
def tParD (i j : Nat) (ta : TDa) : TDs := fun De en => ta De.ex en fun rs en1 => match rs with
  | [a, b] => nob a ∧ nob b ∧ De.nx ((en1.set i (slR a)).set j (slR b))
  | _ => False
def tPar3D (i j l : Nat) (ta : TDa) : TDs := fun De en => ta De.ex en fun rs en1 => match rs with
  | [a, b, c] => nob a ∧ nob b ∧ nob c ∧ De.nx (((en1.set i (slR a)).set j (slR b)).set l (slR c))
  | _ => False
/-- xs[k] = e, xs an own list in slot i -/
def tStoD (i : Nat) (te ti : TDe) : TDs := fun De en => te De.ex en fun r en1 => match vl r, en1[i]? with
  | some d, some (.own _ _) => ti De.ex en1 fun rj en2 => (match rj, en2[i]? with
    | .val (.int k), some (.own a (.lst ds)) => (match ixN ds.length k with
      | some j => De.nx (en2.set i (.own a (.lst (ds.set j d))))
      | none => False)
    | _, _ => False)
  | _, _ => False
def tWhileD (t : TDt) (tb : TDs) : TDs := fun De en => ∃ J : Nat → En → Prop, (∃ m, J m en) ∧ ∀ m en, J m en → t De.ex en fun b en1 => if b = true then tb { De with nx := fun e => ∃ m', m' < m ∧ J m' e, ct := fun e => ∃ m', m' < m ∧ J m' e, bk := De.nx } en1 else De.nx en1
section
variable {K : PySem.W.Frag} {C : Cc} {σ : L2.St} {H H' : Hp} {en en' : En} {a : Addr} {d : D} {v : V} {s : Sl} {r : Res}
theorem R.setR {i : Nat} (R1 : R K (C.ext r) σ H en) (h : Hold K C r en H v) (n : nob r) : R K C (σ.set i (some v)) H (en.set i (slR r)) := by
  cases r with
  | val d => exact R.setV R1 h
  | own a d =>
    obtain ⟨rfl, h1, h2, h3⟩ := h
    exact R.setO R1 h1 h2 h3
  | bor i => exact n.elim
theorem stored_le {i : Nat} {r : Res} (n : nob r) : Le (mm (C.ext r) (oas en)) H (mm C (oas (en.set i (slR r)))) H := fun b u m q => ⟨fun z => m (by
  rcases z with z | z
  · cases r with
    | own p d => exact .inl (.inl z)
    | val _ => exact .inl z
    | bor _ => exact n.elim
  · cases r with
    | own p d =>
      rcases oas_set_own i b z with z | z
      · exact .inl (.inr z)
      · exact .inr z
    | val _ => exact .inr ((oas_set_sub i rfl).subset z)
    | bor _ => exact n.elim), q⟩
theorem Hold.stored {i : Nat} {r1 r2 : Res} (h : Hold K (C.ext r1) r2 en H v) (n1 : nob r1) (n2 : nob r2) : Hold K C r2 (en.set i (slR r1)) H v := by
  cases r2 with
  | val d => exact Rp.mono (stored_le n1) _ _ h
  | own p d =>
    obtain ⟨h1, h2, h3, h4⟩ := h
    refine ⟨h1, fun z => h2 ?_, by rw [ext_F, ext_H] at h3; exact h3, ?_⟩
    · cases r1 with
      | own _ _ => exact .inl z
      | val _ => exact z
      | bor _ => exact z
    · have e : (C.ext r1).add p = (C.add p).ext r1 := ext_ext (r2 := .own p d)
      rw [e] at h4
      exact h4.mono (stored_le n1) fun _ q => q
  | bor _ => exact n2.elim
theorem HoldA.stored {i : Nat} {r1 : Res} (n1 : nob r1) : ∀ {rs : List Res} {C : Cc} {vs : List V}, HoldA K (C.ext r1) rs en H vs → (∀ r, r ∈ rs → nob r) → HoldA K C rs (en.set i (slR r1)) H vs
  | [], _, _, h, _ => h
  | r :: rs, C, _, ⟨v, ws, e, h1, h2⟩, n => ⟨v, ws, e, Hold.stored (by rw [exts_ext]; exact h1) n1 (n r List.mem_cons_self), HoldA.stored n1 (rs := rs) (C := C.ext r) (by rw [ext_ext]; exact h2) fun r' h => n r' (List.mem_cons_of_mem _ h)⟩
end
section
variable {X : Cx} {W : WX} {a b c e : Expr} {ta tb tc te ti : TDe} {tA tB' : TDt} {p pos : Pos} {st : Stmt} {rest body : List Stmt} {t u v : TDs} {tg : Expr} {S : List Nat} {tG : TDg} {tR : TDa}
theorem ds_asg (he : DE X W e te) (hg : DG X S tg tG) (hs : swapsWithSole [tg] e pos.line X.env = pure false := by rfl) (hw : swappedStores [tg] e X.env = pure none := by rfl)
    (h1 : (assignEach [tg] X.env).map (·.2) = [assign tg X.env] := by rfl) : DS X W (.Assign [tg] e pos) (tAsgD te tG) := PSi (ps_asg he hg hs hw h1) fun D σ H ⟨C, en, De, R1, h, k⟩ =>
  ⟨C, en, _, De.ex, R1, h, k.x σ, fun r en' v H' q R' o' _ _ _ => by
    cases e : vl r with
    | none => simp only [e] at q
    | some d =>
      simp only [e] at q
      exact ⟨C, en', d, _, R'.dropX, o'.rp R' e, q, fun σ2 en2 g R2 _ _ => k.nx σ2 en2 H' g R2⟩⟩
theorem ds_par {i j : Nat} {x y : Str} {px py pt : Pos} {kt k2 pt2} (hc : X.calm = true) (hN : X.N.Nodup) (hi : X.N[i]? = some x) (hj : X.N[j]? = some y) (hij : i ≠ j)
    (hx : X.env.scope.names.lookup x = some .local) (hy : X.env.scope.names.lookup y = some .local) (ha : DA X W [a, b] tR)
    (hw : swappedStores [.Tuple [.Name x px, .Name y py] kt pt] (.Tuple [a, b] k2 pt2) X.env = pure (some [x, y]) := by rfl)
    (hs : swapsWithSole [.Tuple [.Name x px, .Name y py] kt pt] (.Tuple [a, b] k2 pt2) pos.line X.env = pure false := by rfl) :
    DS X W (.Assign [.Tuple [.Name x px, .Name y py] kt pt] (.Tuple [a, b] k2 pt2) pos) (tParD i j tR) := PSi (ps_par hc hN hi hj hij hx hy ha hw hs) fun D σ H ⟨C, en, De, R1, h, k⟩ =>
  ⟨C, en, _, De.ex, R1, h, k.x σ, fun rs en' vs H' q R' o' _ _ _ => by
    match rs, q, R', o' with
    | [r1, r2], ⟨n1, n2, q⟩, R', ⟨v1, ws, e1, h1, v2, ws', e2, h2, e3⟩ =>
      subst e1 e2 e3
      refine ⟨v1, v2, rfl, k.nx _ _ H' q ?_⟩
      have R'' : R X.K ((C.ext r2).ext r1) σ H' en' := by rw [ext_ext]; exact R'
      exact R.setR (R.setR R'' h1 n1) (Hold.stored h2 n1 n2) n2⟩
theorem ds_par3 {i j l : Nat} {x y z : Str} {px py pz pt : Pos} {kt k2 pt2} (hc : X.calm = true) (hN : X.N.Nodup) (hi : X.N[i]? = some x) (hj : X.N[j]? = some y) (hl : X.N[l]? = some z) (hij : i ≠ j) (hil : i ≠ l) (hjl : j ≠ l)
    (hx : X.env.scope.names.lookup x = some .local) (hy : X.env.scope.names.lookup y = some .local) (hz : X.env.scope.names.lookup z = some .local) (ha : DA X W [a, b, c] tR)
    (hw : swappedStores [.Tuple [.Name x px, .Name y py, .Name z pz] kt pt] (.Tuple [a, b, c] k2 pt2) X.env = pure (some [x, y, z]) := by rfl)
    (hs : swapsWithSole [.Tuple [.Name x px, .Name y py, .Name z pz] kt pt] (.Tuple [a, b, c] k2 pt2) pos.line X.env = pure false := by rfl) :
    DS X W (.Assign [.Tuple [.Name x px, .Name y py, .Name z pz] kt pt] (.Tuple [a, b, c] k2 pt2) pos) (tPar3D i j l tR) := PSi (ps_par3 hc hN hi hj hl hij hil hjl hx hy hz ha hw hs) fun D σ H ⟨C, en, De, R1, h, k⟩ =>
  ⟨C, en, _, De.ex, R1, h, k.x σ, fun rs en' vs H' q R' o' _ _ _ => by
    match rs, q, R', o' with
    | [r1, r2, r3], ⟨n1, n2, n3, q⟩, R', ⟨v1, ws, e1, h1, v2, ws', e2, h2, v3, ws'', e3, h3, e4⟩ =>
      subst e1 e2 e3 e4
      refine ⟨v1, v2, v3, rfl, k.nx _ _ H' q ?_⟩
      have Ra : R X.K (((C.ext r2).ext r3).ext r1) σ H' en' := by
        have : ((C.ext r2).ext r3).ext r1 = ((C.ext r1).ext r2).ext r3 := by rw [ext_ext (C := C.ext r2), ext_ext (C := C) (r1 := r2)]
        rw [this]; exact R'
      have R1' := R.setR (i := i) Ra h1 n1
      have R2' : R X.K ((C.ext r3).ext r2) (σ.set i (some v1)) H' (en'.set i (slR r1)) := by rw [ext_ext]; exact R1'
      have h2' : Hold X.K (C.ext r3) r2 (en'.set i (slR r1)) H' v2 := Hold.stored (by rw [ext_ext]; exact h2) n1 n2
      have R3' := R.setR (i := j) R2' h2' n2
      have h3' : Hold X.K (C.ext r2) r3 (en'.set i (slR r1)) H' v3 := Hold.stored (by rw [ext_ext]; exact h3) n1 n3
      exact R.setR R3' (Hold.stored h3' n2 n3) n3⟩
theorem ds_while (hp : PassesOwn (model X.prog X.w) X.A X.env X.xe) (hc : DT X W c tA) (hb : DSs X W body t) : DS X W (.While c body [] pos) (tWhileD tA t) := PSi (ps_while hp hc hb) fun D σ H ⟨C, en, De, R1, ⟨J, ⟨m0, h0⟩, step⟩, k⟩ => by
  refine ⟨fun m σ H => ∃ en, R X.K C σ H en ∧ J m en, ⟨m0, en, R1, h0⟩, fun m σ1 H1 ⟨en1, R2, i1⟩ => ?_⟩
  refine ⟨C, en1, _, De.ex, R2, step m en1 i1, k.x σ1, fun b en2 H2 q R3 _ _ => ?_⟩
  cases b with
  | true =>
    have q' : t { De with nx := fun e => ∃ m', m' < m ∧ J m' e, ct := fun e => ∃ m', m' < m ∧ J m' e, bk := De.nx } en2 := q
    refine ⟨fun σ' H' => ∃ m' en', m' < m ∧ R X.K C σ' H' en' ∧ J m' en', fun σ' H' ⟨m', en', l, r, i⟩ => ⟨m', l, en', r, i⟩, C, en2, _, R3, q', ⟨?_, k.rt, k.nx, ?_, k.ex⟩⟩
    · rintro σ' en' H' ⟨m', l, i⟩ r
      exact ⟨m', en', l, r, i⟩
    · rintro σ' en' H' ⟨m', l, i⟩ r
      exact ⟨m', en', l, r, i⟩
  | false => exact k.nx σ1 en2 H2 q R3
/-- xs[k] = e -/
theorem ds_sto {i : Nat} {o ix : Expr} {spos : Pos} (he : DE X W e te) (ho : PE X o (tVar i)) (hi : DE X W ix ti) (ha : ∀ v, assign (.Subscript o ix spos) X.env v = (do
      let ov ← holding [v] (eval o X.env)
      let iv ← holding [v, ov] (eval ix X.env)
      standAt spos
      holding [v, ov, iv] (setItem ov iv v)
      release [v, ov, iv] []) := by intro _; rfl) (hs : swapsWithSole [.Subscript o ix spos] e pos.line X.env = pure false := by rfl) (hw : swappedStores [.Subscript o ix spos] e X.env = pure none := by rfl)
    (h1 : (assignEach [.Subscript o ix spos] X.env).map (·.2) = [assign (.Subscript o ix spos) X.env] := by rfl) : DS X W (.Assign [.Subscript o ix spos] e pos) (tStoD i te ti) :=
  PSi (ps_asg he (pg_sub ho hi set_list ha) hs hw h1) fun D σ H ⟨C, en, De, R1, h, k⟩ =>
  ⟨C, en, _, De.ex, R1, h, k.x σ, fun r en1 v H1 q R2 o1 s1 k1 _ => by
    have R2' := R2.dropX
    cases e1 : vl r with
    | none => simp only [e1] at q
    | some d =>
      cases e2 : en1[i]? with
      | none => simp only [e1, e2] at q
      | some s0 =>
        cases s0 <;> simp only [e1, e2] at q
        rename_i a d0
        have hv := o1.rp R2 e1
        refine ⟨.ref a, (R2'.getO e2).1, C, en1, _, De.ex, R2', q, k.x σ, fun rj en2 v2 H2 q2 R3 o2 s2 k2 n2 => ?_⟩
        obtain ⟨d1, e3⟩ := s2.own e2
        cases rj with
        | own => exact (show False from by simpa using q2).elim
        | bor => exact (show False from by simpa using q2).elim
        | val dj =>
          cases dj <;> try exact (show False from by simpa using q2).elim
          rename_i kk
          rw [e3] at q2
          cases d1 <;> try exact (show False from by simpa using q2).elim
          rename_i ds
          cases e4 : ixN ds.length kk with
          | none => simp only [e4] at q2
          | some j =>
            simp only [e4] at q2
            cases o2
            have g := (show R X.K C σ H2 en2 from R3).getO e3
            obtain ⟨vs, g1, g2⟩ := g.2.2.2
            refine ⟨a, vs, kk, j, rfl, rfl, g1, by rw [g2.length]; exact e4, ?_⟩
            have hv2 : Rp X.K (mm C (oas en2)) H2 v d := Rp.mono (k2.le s2) _ _ hv
            have le : Le (mm C (oas en2)) H2 (mm C (oas en2)) (upd H2 a (.lst (vs.set j v))) := fun b u n z => ⟨n, by rw [upd_ne (fun w => n (.inr (by rw [w]; exact oas_mem.mpr ⟨i, _, e3⟩)))]; exact z⟩
            exact k.nx σ _ _ q2 (R.put R3 e3 ⟨_, upd_same, RpA.mono le _ _ (RpA.set hv2 j g2)⟩)⟩
end

/-! ### methods of an own list -/
/-- m: what the method asks of the list and the args, what it gives and leaves -/
def tMetD (i : Nat) (m : D → List D → (D → D → Prop) → Prop) (ta : TDa) : TDe := fun Ψ en Φ => match en[i]? with
  | some (.own _ (.lst _)) => ta Ψ en fun rs en1 => (match vls rs, en1[i]? with
    | some ds, some (.own a d) => m d ds fun z d' => Φ (.val z) (en1.set i (.own a d'))
    | _, _ => False)
  | _ => False
def MeD (X : Cx) (r : V → List V → Hp → VK → Prop) (m : D → List D → (D → D → Prop) → Prop) : Prop :=
  ∀ (M : Ms) (H : Hp) (a : Addr) (d : D) (ds : List D) (vs : List V) (Φ : D → D → Prop) (Q : VK), M a → Cell X.K M H a d → RpA X.K M H vs ds → m d ds Φ →
    (∀ z d' v' o, Φ z d' → Rp X.K M (upd H a o) v' z → Cell X.K M (upd H a o) a d' → Q v' (upd H a o)) → r (.ref a) vs H Q
section
variable {X : Cx} {W : WX} {e : Expr} {es : List Expr} {tR : TDa} {i : Nat} {o : Expr} {name : Str} {apos cpos : Pos} {id : String} {r : V → List V → Hp → VK → Prop} {m : D → List D → (D → D → Prop) → Prop}
theorem met_go {σ : L2.St} {H : Hp} {Q : VK} {to : TDe} (hm : MeD X r m) (h : lE X.K W (tMetD i m tR) σ H Q) : tBM X.K "list" r (tVar i) (lA X.K W tR) σ H Q := by
  obtain ⟨C, en, Φ, Ψ, R0, hT, hX, k⟩ := h
  unfold tMetD at hT
  cases e0 : en[i]? with
  | none => simp only [e0] at hT
  | some s0 =>
    rw [e0] at hT
    cases s0 <;> try exact hT.elim
    rename_i a d0
    cases d0 <;> try exact hT.elim
    rename_i ds0
    have g0 := R0.getO e0
    refine ⟨.ref a, g0.1, .inl ⟨rfl, ?_⟩, C, en, _, Ψ, R0, hT, hX, fun rs en1 vs H1 h1 R1 hold1 s1 k1 _ => ?_⟩
    · obtain ⟨ws, g, _⟩ := g0.2.2.2
      exact ⟨ws, SqL.of g⟩
    · obtain ⟨d1, e1⟩ := s1.own e0
      cases e2 : vls rs with
      | none => simp only [e2] at h1
      | some ds =>
        simp only [e2, e1] at h1
        have g := R1.dropA.getO e1
        have ma : a ∈ oas en1 := oas_mem.mpr ⟨i, d1, e1⟩
        refine hm (mm C (oas en1)) H1 a d1 ds vs _ Q (.inr ma) g.2.2.2 (hold1.rp R1 e2) h1 fun z d' v' o hz q1 q2 => ?_
        have sh : Shape en1 (en1.set i (.own a d')) := Shape.set e1 rfl
        refine k (.val z) _ v' _ hz (R.put R1.dropA e1 q2) ?_ (s1.trans sh) (k1.trans s1 (Keep.put e1)) trivial
        show Rp X.K (mm C (oas (en1.set i (.own a d')))) _ v' z
        rw [← oas_shape sh]
        exact q1
theorem met_go0 {σ : L2.St} {H : Hp} {Q : VK} (hm : MeD X r m) (h : lE X.K W (tMetD i m tNilD) σ H Q) : tBM0 X.K "list" r (tVar i) σ H Q := by
  obtain ⟨C, en, Φ, Ψ, R0, hT, hX, k⟩ := h
  unfold tMetD at hT
  cases e0 : en[i]? with
  | none => simp only [e0] at hT
  | some s0 =>
    rw [e0] at hT
    cases s0 <;> try exact hT.elim
    rename_i a d0
    cases d0 <;> try exact hT.elim
    rename_i ds0
    have g0 := R0.getO e0
    refine ⟨.ref a, g0.1, .inl ⟨rfl, ?_⟩, ?_⟩
    · obtain ⟨ws, g, _⟩ := g0.2.2.2
      exact ⟨ws, SqL.of g⟩
    · simp only [tNilD, vls, e0] at hT
      have ma : a ∈ oas en := oas_mem.mpr ⟨i, _, e0⟩
      refine hm (mm C (oas en)) H a _ [] [] _ Q (.inr ma) g0.2.2.2 .nil hT fun z d' v' o hz q1 q2 => ?_
      have sh : Shape en (en.set i (.own a d')) := Shape.set e0 rfl
      refine k (.val z) _ v' _ hz (R.put R0 e0 q2) ?_ sh (Keep.put e0) trivial
      show Rp X.K (mm C (oas (en.set i (.own a d')))) _ v' z
      rw [← oas_shape sh]
      exact q1
theorem de_met (slot : Slot "list" name id) (hty : typeOf (.builtin id) = pure (.type "method_descriptor")) (hm : MtR X id r) (hd : MeD X r m) (ho : PE X o (tVar i)) (ha : DA X W (e :: es) tR)
    (hbase : attributeBase o name X.env (eval o X.env) = eval o X.env := by rfl)
    (hfew : ((backTo cpos (starEach (e :: es) X.env)).all (fun x => !x.1) && (backToKw cpos (keywordEach [] X.env)).all (fun x => x.1.isSome)
      && decide ((e :: es).length + ([] : List Keyword).length + (if ([] : List Keyword).isEmpty then 0 else 1) < 30)) = true := by rfl)
    (hline : (apos.endLine == cpos.line) = true := by rfl) (hs : starEach (e :: es) X.env = (false, eval e X.env) :: starEach es X.env := by rfl) (hplain : (backTo cpos (starEach es X.env)).any (·.1) = false := by rfl) :
    DE X W (.Call (.Attribute o name apos) (e :: es) [] cpos) (tMetD i m tR) := PEi (pe_bm PySem.F.plainAttrs_list slot hty hm ho ha hbase hfew hline hs hplain) fun σ H Q h => met_go (to := tVarD 0) hd h
theorem de_met0 (slot : Slot "list" name id) (hty : typeOf (.builtin id) = pure (.type "method_descriptor")) (hm : MtR X id r) (hd : MeD X r m) (ho : PE X o (tVar i))
    (hbase : attributeBase o name X.env (eval o X.env) = eval o X.env := by rfl) (hline : (apos.endLine == cpos.line) = true := by rfl) :
    DE X W (.Call (.Attribute o name apos) [] [] cpos) (tMetD i m tNilD) := PEi (pe_bm0 PySem.F.plainAttrs_list slot hty hm ho hbase hline) fun σ H Q h => met_go0 hd h
end
def mAppend : D → List D → (D → D → Prop) → Prop := fun d ds k => match d, ds with
  | .lst xs, [y] => xs.length < sizeLine ∧ k .non (.lst (xs ++ [y]))
  | _, _ => False
def mPop : D → List D → (D → D → Prop) → Prop := fun d ds k => match d, ds with
  | .lst xs, [] => (match xs[xs.length - 1]? with
    | some y => k y (.lst xs.dropLast)
    | none => False)
  | _, _ => False
def mPopAt : D → List D → (D → D → Prop) → Prop := fun d ds k => match d, ds with
  | .lst xs, [.int i] => 0 ≤ i ∧ i < 2 ^ 63 ∧ (match xs[i.toNat]? with
    | some y => k y (.lst (xs.eraseIdx i.toNat))
    | none => False)
  | _, _ => False
def mInsert : D → List D → (D → D → Prop) → Prop := fun d ds k => match d, ds with
  | .lst xs, [.int i, y] => xs.length < sizeLine ∧ 0 ≤ i ∧ i < 2 ^ 63 ∧ k .non (.lst (xs.take i.toNat ++ [y] ++ xs.drop i.toNat))
  | _, _ => False
def mReverse : D → List D → (D → D → Prop) → Prop := fun d ds k => match d, ds with
  | .lst xs, [] => k .non (.lst xs.reverse)
  | _, _ => False
theorem le_upd {M : Ms} {H : Hp} {a : Addr} {o : HO} (h : M a) : Le M H M (upd H a o) := fun b u n z => ⟨n, by rw [upd_ne (fun w => n (by rw [w]; exact h))]; exact z⟩
section
variable {X : Cx}
theorem RpA.eraseIdx {K : PySem.W.Frag} {M : Ms} {H : Hp} {vs : List V} {ds : List D} (h : RpA K M H vs ds) (i : Nat) : RpA K M H (vs.eraseIdx i) (ds.eraseIdx i) := by
  rw [List.eraseIdx_eq_take_drop_succ, List.eraseIdx_eq_take_drop_succ]
  exact (h.take i).append (h.drop (i + 1))
theorem me_append : MeD X rAppend mAppend := by
  intro M H a d ds vs Φ Q ma hc hv h k
  unfold mAppend at h
  split at h
  · obtain ⟨ws, g1, g2⟩ := hc
    cases hv with
    | cons h1 h2 =>
      cases h2
      refine ⟨a, ws, _, rfl, rfl, g1, by rw [g2.length]; exact h.1, k _ _ _ _ h.2 .non ⟨_, upd_same, RpA.mono (le_upd ma) _ _ (g2.append (.cons h1 .nil))⟩⟩
  · exact h.elim
theorem me_pop : MeD X rPop mPop := by
  intro M H a d ds vs Φ Q ma hc hv h k
  unfold mPop at h
  split at h
  · rename_i xs
    obtain ⟨ws, g1, g2⟩ := hc
    cases hv
    split at h
    · rename_i y hy
      obtain ⟨v, e1, e2⟩ := g2.get hy
      refine ⟨a, ws, v, rfl, rfl, g1, by rw [g2.length]; exact e1, k _ _ _ _ h (Rp.mono (le_upd ma) _ _ e2) ⟨_, upd_same, ?_⟩⟩
      rw [List.dropLast_eq_take, List.dropLast_eq_take, g2.length]
      exact RpA.mono (le_upd ma) _ _ (g2.take _)
    · exact h.elim
  · exact h.elim
theorem me_popAt : MeD X rPopAt mPopAt := by
  intro M H a d ds vs Φ Q ma hc hv h k
  unfold mPopAt at h
  split at h
  · rename_i xs i
    obtain ⟨ws, g1, g2⟩ := hc
    cases hv with
    | cons h1 h2 =>
      cases h2
      cases h1
      obtain ⟨i0, i1, h⟩ := h
      split at h
      · rename_i y hy
        obtain ⟨v, e1, e2⟩ := g2.get hy
        have hl : i.toNat < xs.length := (List.getElem?_eq_some_iff.mp hy).1
        refine ⟨a, ws, i, i.toNat, v, rfl, rfl, g1, by omega, i1, ?_, e1, k _ _ _ _ h (Rp.mono (le_upd ma) _ _ e2) ⟨_, upd_same, RpA.mono (le_upd ma) _ _ (g2.eraseIdx _)⟩⟩
        have := g2.length
        simp only [seqIndex?, show ¬ i < 0 by omega, if_false]
        rw [if_pos (by simp; omega)]
      · exact h.elim
  · exact h.elim
theorem me_insert : MeD X (fun x vs H Q => ∃ (l : Addr) (xs : List V) (i : Int) (y : V), x = .ref l ∧ vs = [.int i, y] ∧ H l = some (.lst xs) ∧ xs.length < sizeLine ∧ 0 ≤ i ∧ i < 2 ^ 63 ∧ Q .non (upd H l (.lst (xs.take i.toNat ++ [y] ++ xs.drop i.toNat)))) mInsert := by
  intro M H a d ds vs Φ Q ma hc hv h k
  unfold mInsert at h
  split at h
  · obtain ⟨ws, g1, g2⟩ := hc
    cases hv with
    | cons h1 h2 =>
      cases h2 with
      | cons h2 h3 =>
        cases h3
        cases h1
        obtain ⟨l, i0, i1, h⟩ := h
        exact ⟨a, ws, _, _, rfl, rfl, g1, by rw [g2.length]; exact l, i0, i1, k _ _ _ _ h .non ⟨_, upd_same, RpA.mono (le_upd ma) _ _ (((g2.take _).append (.cons h2 .nil)).append (g2.drop _))⟩⟩
  · exact h.elim
theorem me_reverse : MeD X rReverse mReverse := by
  intro M H a d ds vs Φ Q ma hc hv h k
  unfold mReverse at h
  split at h
  · obtain ⟨ws, g1, g2⟩ := hc
    cases hv
    exact ⟨a, ws, rfl, rfl, g1, k _ _ _ _ h .non ⟨_, upd_same, RpA.mono (le_upd ma) _ _ g2.reverse⟩⟩
  · exact h.elim
end
end VS

namespace VS
open PySem L2 PySem.Spec PyProof.Rows

/-! ### from here on: the heap as it stands -/
def Cc.re (C : Cc) (en : En) (H : Hp) : Cc := { M := C.M, F := fun x => x ∈ oas en, H := H }
section
variable {K : PySem.W.Frag} {C : Cc} {σ σ' : L2.St} {H H' : Hp} {en en' : En} {a : Addr} {d : D} {v : V} {r : Res}
theorem R.re (R1 : R K C σ H en) : R K (C.re en H) σ H en where
  sl := Pmap R1.sl fun i x y _ hy q => by
    cases y with
    | own b e =>
      cases x with
      | none => exact q.elim
      | some v => exact ⟨q.1, q.2.1, .inl (oas_mem.mpr ⟨i, e, hy⟩), q.2.2.2⟩
    | no => trivial
    | val d => cases x <;> exact q
    | exc => cases x <;> exact q
  inj := R1.inj
  dom := fun b w => w.elim (fun w => R1.dom b (.inl w)) fun w => R1.oD w
  keep := fun b u q _ => q
  nt := fun b xs w => w.elim (fun w => R1.nt b xs (.inl w)) fun w => R1.mN (.inr w) xs
theorem ext_re : ((C.re en H).ext r).M = (C.ext r).M := by cases r <;> rfl
/-- .. and back: whatever was held aside -/
theorem R.un (R1 : R K C σ H en) {M' : Ms} (hM : ∀ x, C.M x → M' x) (R2 : R K { M := M', F := fun x => x ∈ oas en, H := H } σ' H' en') : R K { M := M', F := C.F, H := C.H } σ' H' en' where
  sl := Pmap R2.sl fun i x y _ hy q => by
    cases y with
    | own b e =>
      cases x with
      | none => exact q.elim
      | some v =>
        refine ⟨q.1, q.2.1, ?_, q.2.2.2⟩
        rcases q.2.2.1 with f | f
        · exact R1.oF f
        · exact .inr (R1.new f)
    | no => trivial
    | val d => cases x <;> exact q
    | exc => cases x <;> exact q
  inj := R2.inj
  dom := fun b w => by
    rcases w with w | w
    · exact R2.dom b (.inl w)
    · obtain ⟨u, z⟩ := R1.dom b (.inr w)
      by_cases m : b ∈ oas en
      · exact R2.dom b (.inr m)
      · exact ⟨u, R2.keep b u z m⟩
  keep := fun b u q n => by
    refine R2.keep b u (R1.keep b u q n) fun m => ?_
    rcases R1.oF m with f | f
    · exact n f
    · have q' : C.H b = some u := q
      rw [f] at q'; cases q'
  nt := fun b xs w z => by
    rcases w with w | w
    · exact R2.nt b xs (.inl w) z
    · obtain ⟨u, q⟩ := R1.dom b (.inr w)
      by_cases m : b ∈ oas en
      · exact R2.nt b xs (.inr m) z
      · have q' := R2.keep b u q m
        rw [z] at q'
        cases q'
        exact R1.nt b xs (.inr w) q
theorem R.unx (R1 : R K C σ H en) (R2 : R K ((C.re en H).ext r) σ' H' en') : R K (C.ext r) σ' H' en' := by
  have e1 : (C.re en H).ext r = { M := (C.ext r).M, F := fun x => x ∈ oas en, H := H } := by cases r <;> rfl
  have e2 : C.ext r = { M := (C.ext r).M, F := C.F, H := C.H } := by cases r <;> rfl
  rw [e1] at R2
  rw [e2]
  exact R1.un (fun x h => by cases r <;> first | exact h | exact .inl h) R2
theorem R.un0 (R1 : R K C σ H en) (R2 : R K (C.re en H) σ' H' en') : R K C σ' H' en' := R.unx (r := .val .non) R1 R2
theorem Hold.un (R1 : R K C σ H en) (h : Hold K (C.re en H) r en' H' v) : Hold K C r en' H' v := by
  cases r with
  | val d => exact h
  | own p d =>
    obtain ⟨h1, h2, h3, h4⟩ := h
    refine ⟨h1, h2, ?_, h4⟩
    rcases h3 with f | f
    · exact R1.oF f
    · exact .inr (R1.new f)
  | bor i => exact h
theorem SOk.re {W : WX} {Ds : Ends} {De : Ed} (k : SOk K C W Ds De) (R1 : R K C σ H en) : SOk K (C.re en H) W Ds De where
  nx := fun σ2 en2 H2 q R2 => k.nx σ2 en2 H2 q (R1.un0 R2)
  rt := fun r en2 σ2 v H2 q R2 h => k.rt r en2 σ2 v H2 q (R1.unx R2) (h.un R1)
  bk := fun σ2 en2 H2 q R2 => k.bk σ2 en2 H2 q (R1.un0 R2)
  ct := fun σ2 en2 H2 q R2 => k.ct σ2 en2 H2 q (R1.un0 R2)
  ex := fun x en2 σ2 cls d H2 q R2 h => k.ex x en2 σ2 cls d H2 q (R1.un0 R2) h
/-- what stood when the loop began stands -/
theorem R.stood (R1 : R K C σ H en) (R2 : R K (C.re en H) σ' H' en') : Le (mm C (oas en)) H (mm (C.re en H) (oas en')) H' := fun b u n q => by
  refine ⟨fun z => ?_, R2.keep b u q fun m => n (.inr m)⟩
  rcases z with z | z
  · exact n (.inl z)
  · rcases R2.oF z with f | f
    · exact n (.inr f)
    · have q' : H b = none := f
      rw [q] at q'; cases q'
end

/-! ### for -/
def tForLD (ta : TDe) (tg : TDg) (tb : TDs) : TDs := fun De en => ta De.ex en fun r en1 => match vl r with
  | some (.lst ds) => ∃ J : Nat → En → Prop, J 0 en1 ∧ (∀ i d en, ds[i]? = some d → J i en → tg d en fun en2 => tb { De with nx := J (i + 1), ct := J (i + 1), bk := De.nx } en2) ∧ ∀ en, J ds.length en → De.nx en
  | _ => False
def tForTD (ta : TDe) (tg : TDg) (tb : TDs) : TDs := fun De en => ta De.ex en fun r en1 => match vl r with
  | some (.tup ds) => ∃ J : Nat → En → Prop, J 0 en1 ∧ (∀ i d en, ds[i]? = some d → J i en → tg d en fun en2 => tb { De with nx := J (i + 1), ct := J (i + 1), bk := De.nx } en2) ∧ ∀ en, J ds.length en → De.nx en
  | _ => False
def tForR1 (ta : TDa) (tg : TDg) (tb : TDs) : TDs := fun De en => ta De.ex en fun rs en1 => match rs with
  | [.val (.int n)] => -(2 ^ 62) ≤ n ∧ n < 2 ^ 62 ∧ ∃ J : Nat → En → Prop, J 0 en1 ∧ (∀ (i : Nat) en, (i : Int) < n → J i en → tg (.int i) en fun en2 => tb { De with nx := J (i + 1), ct := J (i + 1), bk := De.nx } en2) ∧ ∀ en, J n.toNat en → De.nx en
  | _ => False
def tForR2 (ta : TDa) (tg : TDg) (tb : TDs) : TDs := fun De en => ta De.ex en fun rs en1 => match rs with
  | [.val (.int lo), .val (.int n)] => -(2 ^ 62) ≤ lo ∧ lo < 2 ^ 62 ∧ -(2 ^ 62) ≤ n ∧ n < 2 ^ 62 ∧
      ∃ J : Nat → En → Prop, J 0 en1 ∧ (∀ (i : Nat) en, lo + (i : Int) < n → J i en → tg (.int (lo + i)) en fun en2 => tb { De with nx := J (i + 1), ct := J (i + 1), bk := De.nx } en2) ∧ ∀ en, J (n - lo).toNat en → De.nx en
  | _ => False
section
variable {X : Cx} {W : WX} {a b c e iter : Expr} {ta tb tc te ti : TDe} {p pos : Pos} {body : List Stmt} {t : TDs} {tg : Expr} {S : List Nat} {tG : TDg} {tR : TDa}
theorem body_go {K : PySem.W.Frag} {C : Cc} {Ds : Ends} {De : Ed} {σ : L2.St} {H : Hp} {en : En} {d : VS.D} {v : V} {J : En → Prop} {N : L2.St → Hp → Prop} (k : SOk K C W Ds De) (R1 : R K C σ H en) (hv : Rp K (mm C (oas en)) H v d)
    (h : tG d en fun en2 => t { De with nx := J, ct := J, bk := De.nx } en2) (hN : ∀ σ' H' en', J en' → R K C σ' H' en' → N σ' H') :
    lG K S tG v σ H fun σ2 H2 => lS K W t { Ds with nx := N, ct := N, bk := Ds.nx } σ2 H2 :=
  ⟨C, en, d, _, R1, hv, h, fun σ' en' q R' _ _ => ⟨C, en', _, R', q, ⟨fun σ2 en2 H2 q2 R2 => hN σ2 H2 en2 q2 R2, k.rt, k.nx, fun σ2 en2 H2 q2 R2 => hN σ2 H2 en2 q2 R2, k.ex⟩⟩⟩
theorem ds_forL (hp : PassesOwn (model X.prog X.w) X.A X.env X.xe) (hc : X.calm = true) (hi : DE X W iter ti) (hg : DG X S tg tG) (hb : DSs X W body t) (hs : ∀ x, foldedSetIterable iter X.env x = pure x := by intro _; rfl) :
    DS X W (.For tg iter body [] pos) (tForLD ti tG t) := PSi (ps_for hp hc (pi_list hi) hg hb hs) fun D σ H ⟨C, en, De, R0, h, k⟩ =>
  ⟨C, en, _, De.ex, R0, h, k.x σ, fun r en1 v H1 q R1 o1 _ _ _ => by
    cases e1 : vl r with
    | none => simp only [e1] at q
    | some d =>
      cases d <;> simp only [e1] at q
      rename_i ds
      obtain ⟨J, j0, step, done⟩ := q
      have hv := o1.rp R1 e1
      have R1' := R1.dropX
      cases hv with
      | lst h1 h2 =>
        rename_i a vs
        refine ⟨a, rfl, ⟨vs, h1.sq⟩, for_list (xs := vs) (fun i σ H => ∃ en, R X.K (C.re en1 H1) σ H en ∧ J i en) ⟨en1, R1'.re, j0⟩ (fun i σ2 H2 _ ⟨en2, R2, _⟩ => (h1.mono (R1'.stood R2)).sq) ?_ ?_⟩
        · rintro i x σ2 H2 hx ⟨en2, R2, j2⟩
          obtain ⟨d, hd, hr⟩ := h2.get' hx
          have sok := k.re R1'
          exact body_go sok R2 (Rp.mono (R1'.stood R2) _ _ hr) (step i d en2 hd j2) fun σ' H' en' z R' => ⟨en', R', z⟩
        · rintro σ2 H2 ⟨en2, R2, j2⟩
          rw [h2.length] at j2
          exact k.nx _ _ _ (done en2 j2) (R1'.un0 R2)⟩
theorem ds_forT (hp : PassesOwn (model X.prog X.w) X.A X.env X.xe) (hc : X.calm = true) (hi : DE X W iter ti) (hg : DG X S tg tG) (hb : DSs X W body t) (hs : ∀ x, foldedSetIterable iter X.env x = pure x := by intro _; rfl) :
    DS X W (.For tg iter body [] pos) (tForTD ti tG t) := PSi (ps_for hp hc (pi_tup hi) hg hb hs) fun D σ H ⟨C, en, De, R0, h, k⟩ =>
  ⟨C, en, _, De.ex, R0, h, k.x σ, fun r en1 v H1 q R1 o1 _ _ _ => by
    cases e1 : vl r with
    | none => simp only [e1] at q
    | some d =>
      cases d <;> simp only [e1] at q
      rename_i ds
      obtain ⟨J, j0, step, done⟩ := q
      have hv := o1.rp R1 e1
      have R1' := R1.dropX
      cases hv with
      | tup h1 h2 =>
        rename_i a vs
        refine ⟨a, rfl, ⟨vs, h1.sq⟩, for_tup (xs := vs) (fun i σ H => ∃ en, R X.K (C.re en1 H1) σ H en ∧ J i en) ⟨en1, R1'.re, j0⟩ (fun i σ2 H2 _ ⟨en2, R2, _⟩ => (h1.mono (R1'.stood R2)).sq) ?_ ?_⟩
        · rintro i x σ2 H2 hx ⟨en2, R2, j2⟩
          obtain ⟨d, hd, hr⟩ := h2.get' hx
          have sok := k.re R1'
          exact body_go sok R2 (Rp.mono (R1'.stood R2) _ _ hr) (step i d en2 hd j2) fun σ' H' en' z R' => ⟨en', R', z⟩
        · rintro σ2 H2 ⟨en2, R2, j2⟩
          rw [h2.length] at j2
          exact k.nx _ _ _ (done en2 j2) (R1'.un0 R2)⟩
theorem ds_forR1 (hm : X.mg "range" = none) (hp : PassesOwn (model X.prog X.w) X.A X.env X.xe) (hc : X.calm = true) (ha : DA X W [a] tR) (hg : DG X S tg tG) (hb : DSs X W body t) (hG : Gl X "range" := by rfl)
    (h1 : starEach [a] X.env = [(false, eval a X.env)] := by rfl) {p2 : Pos} (hs : ∀ x, foldedSetIterable (.Call (.Name "range" p) [a] [] p2) X.env x = pure x := by intro _; rfl) : DS X W (.For tg (.Call (.Name "range" p) [a] [] p2) body [] pos) (tForR1 tR tG t) :=
  PSi (ps_for hp hc (pi_range1 hG hm ha h1) hg hb hs) fun D σ H ⟨C, en, De, R0, h, k⟩ =>
  ⟨C, en, _, De.ex, R0, h, k.x σ, fun rs en1 vs H1 q R1 o1 _ _ _ => by
    match rs, q, R1, o1 with
    | [.val (.int n)], ⟨b1, b2, J, j0, step, done⟩, R1, ⟨v, ws, e1, h1, e2⟩ =>
      subst e1 e2
      have hv : v = .int n := by cases h1; rfl
      subst hv
      refine ⟨n, rfl, b1, b2, for_range (fun i σ H => ∃ en, R X.K C σ H en ∧ J i en) ⟨en1, R1, j0⟩ ?_ ?_⟩
      · rintro i σ2 H2 hi ⟨en2, R2, j2⟩
        rw [Int.zero_add]
        exact body_go k R2 (.int _) (step i en2 (by omega) j2) fun σ' H' en' z R' => ⟨en', R', z⟩
      · rintro σ2 H2 ⟨en2, R2, j2⟩
        exact k.nx _ _ _ (done en2 j2) R2⟩
theorem ds_forR2 (hm : X.mg "range" = none) (hp : PassesOwn (model X.prog X.w) X.A X.env X.xe) (hc : X.calm = true) (ha : DA X W [a, b] tR) (hg : DG X S tg tG) (hb : DSs X W body t) (hG : Gl X "range" := by rfl)
    (h1 : starEach [a, b] X.env = [(false, eval a X.env), (false, eval b X.env)] := by rfl) (h2 : starEach [b] X.env = [(false, eval b X.env)] := by rfl) {p2 : Pos} (hs : ∀ x, foldedSetIterable (.Call (.Name "range" p) [a, b] [] p2) X.env x = pure x := by intro _; rfl) :
    DS X W (.For tg (.Call (.Name "range" p) [a, b] [] p2) body [] pos) (tForR2 tR tG t) :=
  PSi (ps_for hp hc (pi_range2 hG hm ha h1 h2) hg hb hs) fun D σ H ⟨C, en, De, R0, h, k⟩ =>
  ⟨C, en, _, De.ex, R0, h, k.x σ, fun rs en1 vs H1 q R1 o1 _ _ _ => by
    match rs, q, R1, o1 with
    | [.val (.int lo), .val (.int n)], ⟨a1, a2, b1, b2, J, j0, step, done⟩, R1, ⟨v, ws, e1, h1, v2, ws2, e2, h2, e3⟩ =>
      subst e1 e2 e3
      have hv : v = .int lo := by cases h1; rfl
      have hv2 : v2 = .int n := by cases h2; rfl
      subst hv hv2
      refine ⟨lo, n, rfl, ⟨a1, a2, b1, b2⟩, for_range (fun i σ H => ∃ en, R X.K C σ H en ∧ J i en) ⟨en1, R1, j0⟩ ?_ ?_⟩
      · rintro i σ2 H2 hi ⟨en2, R2, j2⟩
        exact body_go k R2 (.int _) (step i en2 (by omega) j2) fun σ' H' en' z R' => ⟨en', R', z⟩
      · rintro σ2 H2 ⟨en2, R2, j2⟩
        exact k.nx _ _ _ (done en2 j2) R2⟩
end
end VS

namespace VS
open PySem L2 PySem.Spec PyProof.Rows

/-! ### comprehensions -/
def wipeD (en : En) : List Nat → En
  | [] => en
  | i :: is => (wipeD en is).set i .no
section
variable {K : PySem.W.Frag} {C : Cc} {σ σ' : L2.St} {H H' : Hp} {en en' : En} {a : Addr} {d : D} {v : V} {r : Res} {vs : List Nat}
theorem R.wipe (R1 : R K C σ H en) : ∀ vs : List Nat, R K C (L2.wipe σ vs) H (wipeD en vs)
  | [] => R1
  | i :: is => (R.wipe R1 is).setS (i := i) (s := .no) (o := none) rfl trivial
theorem wipe_len : ∀ vs : List Nat, (L2.wipe σ vs).length = σ.length
  | [] => rfl
  | i :: is => by simp only [L2.wipe, List.length_set, wipe_len is]
theorem wipeD_len : ∀ vs : List Nat, (wipeD en vs).length = en.length
  | [] => rfl
  | i :: is => by simp only [wipeD, List.length_set, wipeD_len is]
theorem wipe_at : ∀ (vs : List Nat) (j : Nat), (L2.wipe σ vs)[j]? = if j ∈ vs then (if j < σ.length then some none else none) else σ[j]?
  | [], j => by simp [L2.wipe]
  | i :: is, j => by
    have ih := wipe_at is j
    simp only [L2.wipe, List.getElem?_set, wipe_len]
    by_cases h : i = j
    · subst h
      simp
    · rw [if_neg h, ih]
      have h' : (j ∈ i :: is) ↔ j ∈ is := by simp [Ne.symm h]
      simp only [h']
theorem wipeD_at : ∀ (vs : List Nat) (j : Nat), (wipeD en vs)[j]? = if j ∈ vs then (if j < en.length then some .no else none) else en[j]?
  | [], j => by simp [wipeD]
  | i :: is, j => by
    have ih := wipeD_at is j
    simp only [wipeD, List.getElem?_set, wipeD_len]
    by_cases h : i = j
    · subst h
      simp
    · rw [if_neg h, ih]
      have h' : (j ∈ i :: is) ↔ j ∈ is := by simp [Ne.symm h]
      simp only [h']
theorem wipe_same (h : ∀ (j : Nat), j ∉ vs → σ'[j]? = σ[j]?) (hl : σ'.length = σ.length) : L2.wipe σ' vs = L2.wipe σ vs := by
  refine List.ext_getElem? fun j => ?_
  rw [wipe_at, wipe_at, hl]
  by_cases hj : j ∈ vs
  · rw [if_pos hj, if_pos hj]
  · rw [if_neg hj, if_neg hj, h j hj]
theorem wipe_idem : L2.wipe (L2.wipe σ vs) vs = L2.wipe σ vs := wipe_same (fun j hj => by rw [wipe_at, if_neg hj]) (wipe_len vs)
theorem wipeD_same (h : ∀ (j : Nat), j ∉ vs → en'[j]? = en[j]?) (hl : en'.length = en.length) : wipeD en' vs = wipeD en vs := by
  refine List.ext_getElem? fun j => ?_
  rw [wipeD_at, wipeD_at, hl]
  by_cases hj : j ∈ vs
  · rw [if_pos hj, if_pos hj]
  · rw [if_neg hj, if_neg hj, h j hj]
theorem Shape.wipe (s : Shape en en') : ∀ vs : List Nat, Shape (wipeD en vs) (wipeD en' vs)
  | [] => s
  | i :: is => by
    have ih := Shape.wipe s is
    unfold Shape at ih ⊢
    simp only [wipeD, List.map_set, ih]
/-- slots that hold nothing may be anything -/
theorem R.rep (R1 : R K C σ H en) (h : ∀ (j : Nat), en[j]? = some Sl.no ∨ σ'[j]? = σ[j]?) (hl : σ'.length = σ.length) : R K C σ' H en where
  sl := Pof (by rw [hl]; exact Plen R1.sl) fun i x y hx hy => by
    rcases h i with z | z
    · rw [z] at hy
      cases hy
      trivial
    · rw [z] at hx
      exact Pat R1.sl hx hy
  inj := R1.inj
  dom := R1.dom
  keep := R1.keep
  nt := R1.nt
/-- what is held aside is changed -/
theorem R.poke {p : Addr} {o : HO} (R1 : R K (C.add p) σ H en) (h : C.H p = none) (no : ∀ xs, o ≠ .tup xs := by exact fun _ z => nomatch z) : R K (C.add p) σ (upd H p o) en where
  sl := Pmap R1.sl fun i x y _ hy q => q.mono (fun b u n z => ⟨n, by rw [upd_ne (fun w => n (.inl (.inr w)))]; exact z⟩) fun b d e u z => by
    subst e
    have : b ∈ oas en := oas_mem.mpr ⟨i, d, hy⟩
    rw [upd_ne (fun w => R1.oM this (.inr w))]
    exact z
  inj := R1.inj
  dom := fun b w => by
    by_cases e : b = p
    · exact ⟨o, by rw [e]; exact upd_same⟩
    · obtain ⟨u, z⟩ := R1.dom b w
      exact ⟨u, by rw [upd_ne e]; exact z⟩
  keep := fun b u q n => by
    rw [upd_ne (fun e => by rw [e] at q; have q' : C.H p = some u := q; rw [h] at q'; cases q')]
    exact R1.keep b u q n
  nt := fun b xs w z => by
    by_cases e : b = p
    · rw [e, upd_same] at z
      exact no xs (Option.some.inj z)
    · rw [upd_ne e] at z
      exact R1.nt b xs w z
end
def XF : Px := fun _ _ => False
def tYesD : TDt := fun _ en Φ => Φ true en
/-- a turn: the item stored, the test, the element -/
def lcStep (tG : TDg) (tt : TDt) (te : TDe) (vs : List Nat) (J : List D → En → Prop) (d : D) (acc : List D) (en : En) : Prop :=
  tG d en fun en2 => tt XF en2 fun b en3 => if b = true then te XF en3 fun r en4 => (match vl r with
    | some y => acc.length < sizeLine ∧ J (acc ++ [y]) (wipeD en4 vs)
    | none => False) else J acc (wipeD en3 vs)
def tLcL (ti : TDe) (tG : TDg) (tt : TDt) (te : TDe) (vs : List Nat) : TDe := fun Ψ en Φ => ti Ψ en fun r en1 => match vl r with
  | some (.lst ds) => wipeD en1 vs = en1 ∧ ∃ J : Nat → List D → En → Prop, J 0 [] en1 ∧ (∀ i d acc en, ds[i]? = some d → J i acc en → lcStep tG tt te vs (J (i + 1)) d acc en) ∧ ∀ acc en2 p, J ds.length acc en2 → Φ (.own p (.lst acc)) en2
  | _ => False
def tLcT (ti : TDe) (tG : TDg) (tt : TDt) (te : TDe) (vs : List Nat) : TDe := fun Ψ en Φ => ti Ψ en fun r en1 => match vl r with
  | some (.tup ds) => wipeD en1 vs = en1 ∧ ∃ J : Nat → List D → En → Prop, J 0 [] en1 ∧ (∀ i d acc en, ds[i]? = some d → J i acc en → lcStep tG tt te vs (J (i + 1)) d acc en) ∧ ∀ acc en2 p, J ds.length acc en2 → Φ (.own p (.lst acc)) en2
  | _ => False
def tLcR1 (ti : TDa) (tG : TDg) (tt : TDt) (te : TDe) (vs : List Nat) : TDe := fun Ψ en Φ => ti Ψ en fun rs en1 => match rs with
  | [.val (.int n)] => -(2 ^ 62) ≤ n ∧ n < 2 ^ 62 ∧ wipeD en1 vs = en1 ∧ ∃ J : Nat → List D → En → Prop, J 0 [] en1 ∧ (∀ (i : Nat) acc en, (i : Int) < n → J i acc en → lcStep tG tt te vs (J (i + 1)) (.int i) acc en) ∧ ∀ acc en2 p, J n.toNat acc en2 → Φ (.own p (.lst acc)) en2
  | _ => False
abbrev DTs (X : Cx) (W : WX) (ifs : List Expr) (T : TDt) : Prop := PTs X ifs (lT X.K W T)
theorem PTsi {X : Cx} {e : List Expr} {t t' : TT} (h : PTs X e t) (i : ∀ σ H Q, t' σ H Q → t σ H Q) : PTs X e t' := ⟨fun pins s σ H Q I q => h.run pins s σ H Q I (i σ H Q q)⟩
theorem dts_nil {X : Cx} {W : WX} : DTs X W [] tYesD := PTsi pts_nil fun σ H Q ⟨C, en, Φ, Ψ, R1, h, _, k⟩ => k true en H h R1 rfl Keep.refl
theorem dts_one {X : Cx} {W : WX} {c : Expr} {t : TDt} (h : DT X W c t) : DTs X W [c] t := pts_one h
section
variable {K : PySem.W.Frag} {C : Cc} {σ : L2.St} {H H1 : Hp} {en en1 : En} {Dl : Addr} {tG : TDg} {tt : TDt} {te : TDe} {vs : List Nat} {S : List Nat} {d : VS.D} {x : V}
/-- what holds between two turns -/
def LcP (K : PySem.W.Frag) (C : Cc) (σ : L2.St) (H1 : Hp) (en1 : En) (vs : List Nat) (Dl : Addr) (J : List D → En → Prop) (H : Hp) : Prop :=
  ∃ acc en ws, R K ((C.re en1 H1).add Dl) (L2.wipe σ vs) H en ∧ Shape en1 en ∧ H Dl = some (.lst ws) ∧ RpA K (mm ((C.re en1 H1).add Dl) (oas en)) H ws acc ∧ J acc en
theorem lc_start {J : List D → En → Prop} (R1 : R K C σ H1 en1) (hD : H1 Dl = none) (hw : wipeD en1 vs = en1) (j0 : J [] en1) : LcP K C σ H1 en1 vs Dl J (upd H1 Dl (.lst [])) := by
  refine ⟨[], en1, [], ?_, rfl, upd_same, .nil, j0⟩
  have h := (R1.re.hold (p := Dl) (o := .lst []) hD).wipe vs
  rw [hw] at h
  exact h
theorem lc_turn {J J' : List D → En → Prop} (R1 : R K C σ H1 en1) (hD : H1 Dl = none) (hw : wipeD en1 vs = en1) (hS : ∀ j, j ∈ S → j ∈ vs) (P : LcP K C σ H1 en1 vs Dl J H) (hx : ∀ acc en, J acc en → R K ((C.re en1 H1).add Dl) (L2.wipe σ vs) H en → Rp K (mm ((C.re en1 H1).add Dl) (oas en)) H x d)
    (step : ∀ acc en, J acc en → lcStep tG tt te vs J' d acc en) : lG K S tG x (L2.wipe σ vs) H fun σ2 H2 => L2.wipe σ2 vs = L2.wipe σ vs ∧ lT K W0 tt σ2 H2 fun b H3 =>
      if b = true then lE K W0 te σ2 H3 fun y H4 => ∃ acc, H4 Dl = some (.lst acc) ∧ acc.length < sizeLine ∧ LcP K C σ H1 en1 vs Dl J' (upd H4 Dl (.lst (acc ++ [y]))) else LcP K C σ H1 en1 vs Dl J' H3 := by
  obtain ⟨acc, en, ws, R2, sh, hd, hr, j⟩ := P
  have hst := step acc en j
  refine ⟨_, en, d, _, R2, hx acc en j R2, hst, fun σ2 en2 q2 R3 le3 o3 => ?_⟩
  have e1 : L2.wipe σ2 vs = L2.wipe σ vs := by
    rw [wipe_same (σ := L2.wipe σ vs) (fun j hj => o3.1 j fun z => hj (hS j z)) o3.2.2.1, wipe_idem]
  have e2 : wipeD en2 vs = wipeD en vs := wipeD_same (fun j hj => o3.2.1 j fun z => hj (hS j z)) o3.2.2.2
  have shw : ∀ en', Shape en2 en' → Shape en1 (wipeD en' vs) := fun en' s => by
    have h1 := s.wipe vs
    rw [e2] at h1
    have h2 := sh.wipe vs
    rw [hw] at h2
    exact h2.trans h1
  have hr2 : RpA K (mm ((C.re en1 H1).add Dl) (oas en2)) H ws acc := RpA.mono le3 _ _ hr
  refine ⟨e1, _, en2, _, XF, R3, q2, fun _ _ _ _ _ z => z.elim, fun b en3 H3 q3 R4 s4 k4 => ?_⟩
  have nD : ∀ {e : En} {s : L2.St} {Hx : Hp}, R K ((C.re en1 H1).add Dl) s Hx e → Dl ∉ oas e := fun r z => r.oM z (.inr rfl)
  have hd3 := k4 Dl _ (nD R3) hd
  have hr3 := RpA.mono (k4.le (C := (C.re en1 H1).add Dl) s4) _ _ hr2
  have le_w : ∀ (e : En) (Hx : Hp), Le (mm ((C.re en1 H1).add Dl) (oas e)) Hx (mm ((C.re en1 H1).add Dl) (oas (wipeD e vs))) Hx := fun e Hx b u n q => by
    refine ⟨fun z => n (z.imp id fun z => ?_), q⟩
    have : ∀ vs : List Nat, b ∈ oas (wipeD e vs) → b ∈ oas e := fun vs => by
      induction vs with
      | nil => exact id
      | cons i is ih => exact fun z => ih ((oas_set_sub i rfl).subset z)
    exact this vs z
  cases b with
  | false =>
    refine ⟨acc, _, ws, ?_, shw en3 s4, hd3, RpA.mono (le_w en3 H3) _ _ hr3, q3⟩
    have := R4.wipe vs
    rw [e1] at this
    exact this
  | true =>
    refine ⟨_, en3, _, XF, R4, q3, fun _ _ _ _ _ z => z.elim, fun r en4 y H4 q4 R5 o5 s5 k5 _ => ?_⟩
    cases ey : vl r with
    | none => simp only [ey] at q4
    | some yd =>
      simp only [ey] at q4
      obtain ⟨q5, q6⟩ := q4
      have hy := o5.rp R5 ey
      have R6 := R5.dropX
      have hd4 := k5 Dl _ (nD R4) hd3
      have hr4 := RpA.mono (k5.le (C := (C.re en1 H1).add Dl) s5) _ _ hr3
      have lp : ∀ l : List Addr, Le (mm ((C.re en1 H1).add Dl) l) H4 (mm ((C.re en1 H1).add Dl) l) (upd H4 Dl (.lst (ws ++ [y]))) := fun l => le_upd (.inl (.inr rfl))
      refine ⟨ws, hd4, by rw [hr4.length]; exact q5, acc ++ [yd], _, ws ++ [y], ?_, shw en4 (s4.trans s5), upd_same, ?_, q6⟩
      · have := (R6.poke (o := .lst (ws ++ [y])) hD).wipe vs
        rw [e1] at this
        exact this
      · exact RpA.mono (lp _) _ _ (RpA.mono (le_w en4 H4) _ _ (hr4.append (.cons hy .nil)))
theorem lc_end {J : List D → En → Prop} {Φ : Res → En → Prop} (R1 : R K C σ H1 en1) (hD : H1 Dl = none) (hw : wipeD en1 vs = en1) (P : LcP K C σ H1 en1 vs Dl J H) (done : ∀ acc en2 p, J acc en2 → Φ (.own p (.lst acc)) en2) :
    ∃ acc en2, Φ (.own Dl (.lst acc)) en2 ∧ R K (C.add Dl) σ H en2 ∧ Hold K C (.own Dl (.lst acc)) en2 H (.ref Dl) ∧ Shape en1 en2 ∧ Keep en1 H1 H := by
  obtain ⟨acc, en, ws, R2, sh, hd, hr, j⟩ := P
  have R3 : R K (C.add Dl) (L2.wipe σ vs) H en := R.unx (r := .own Dl .non) R1 R2
  refine ⟨acc, en, done acc en Dl j, R3.rep (fun j => ?_) (wipe_len vs).symm, ⟨rfl, fun z => ?_, .inr (R1.new hD), ws, hd, hr⟩, sh, fun a u n q => R2.keep a u q n⟩
  · rw [wipe_at]
    by_cases hj : j ∈ vs
    · by_cases hl : j < σ.length
      · left
        have hl' : j < en1.length := by rw [← Plen R1.sl]; exact hl
        have h0 : en1[j]? = some .no := by
          rw [← hw, wipeD_at, if_pos hj, if_pos hl']
        obtain ⟨s', h1, h2⟩ := sh.at h0
        cases s' <;> simp only [shp] at h2 <;> first | exact h1 | cases h2
      · right
        rw [if_pos hj, if_neg hl]
        exact List.getElem?_eq_none_iff.mpr (by omega)
    · right
      rw [if_neg hj]
  · obtain ⟨u, q⟩ := R1.dom Dl (.inl z)
    rw [hD] at q; cases q
end
section
variable {X : Cx} {W : WX} {elt tg iter a : Expr} {ifs : List Expr} {scope : Scope} {own : List (Str × Nat)} {p pos : Pos} {ti te : TDe} {tG : TDg} {tt : TDt} {S : List Nat} {tR : TDa}
theorem lcL_go {σ : L2.St} {H : Hp} {Q : VK} (hS : ∀ j, j ∈ S → j ∈ own.map (·.2)) (h : lE X.K W (tLcL ti tG tt te (own.map (·.2))) σ H Q) : tLc (iList X.K (lE X.K W ti)) (lG X.K S tG) (lT X.K W0 tt) (lE X.K W0 te) (own.map (·.2)) σ H Q := by
  obtain ⟨C, en, Φ, Ψ, R0, hT, hX, k⟩ := h
  refine ⟨C, en, _, Ψ, R0, hT, hX, fun r en1 v H1 q R1 o1 s1 k1 _ => ?_⟩
  cases e1 : vl r with
  | none => simp only [e1] at q
  | some d =>
    cases d <;> simp only [e1] at q
    rename_i ds
    obtain ⟨hw, J, j0, step, done⟩ := q
    have hv := o1.rp R1 e1
    have R1' := R1.dropX
    cases hv with
    | lst h1 h2 =>
      rename_i a vs0
      have stood : ∀ {Hx : Hp} {ex : En} {Dl : Addr}, R X.K ((C.re en1 H1).add Dl) (L2.wipe σ (own.map (·.2))) Hx ex → H1 Dl = none → Le (mm C (oas en1)) H1 (mm ((C.re en1 H1).add Dl) (oas ex)) Hx := fun {Hx ex Dl} r hD b u n z => by
        obtain ⟨q1, q2⟩ := R1'.stood r.drop b u n z
        refine ⟨fun w => ?_, q2⟩
        rcases w with (w | w) | w
        · exact q1 (.inl w)
        · rw [w, hD] at z; cases z
        · exact q1 (.inr w)
      refine ⟨a, rfl, ⟨vs0, h1.sq⟩, fun Dl hD => lc_list (xs := vs0) (fun i H => LcP X.K C σ H1 en1 (own.map (·.2)) Dl (J i) H) (lc_start R1' hD hw j0) (fun i Hx _ ⟨_, ex, _, r, _⟩ => (h1.mono (stood r hD)).sq) (fun i x Hx hx P => ?_) fun Hx P => ?_⟩
      · obtain ⟨d, hd, hr⟩ := h2.get' hx
        exact lc_turn R1' hD hw hS P (fun _ ex _ r => Rp.mono (stood r hD) _ _ hr) fun acc ex j => step i d acc ex hd j
      · rw [h2.length] at P
        obtain ⟨acc, en2, z1, z2, z3, z4, z5⟩ := lc_end R1' hD hw P done
        exact k _ en2 _ Hx z1 z2 z3 (s1.trans z4) (k1.trans s1 z5) (k1.new s1 R1' hD)
theorem de_lcL (hc : X.calm = true) (hN : X.N.Nodup) (hi : DE X W iter ti) (ok : BlkOk X.N X.env.scope scope own)
    (hg : ∀ (s : Shared) (H : Hp) (C : Addr) (cl : List (Str × Addr)) (fp : List Addr), DG (X.blk s H scope (compEnvC scope cl C X.env) fp) S tg tG) (ht : ∀ (s : Shared) (H : Hp) (C : Addr) (cl : List (Str × Addr)) (fp : List Addr), DTs (X.blk s H scope (compEnvC scope cl C X.env) fp) W0 ifs tt)
    (he : ∀ (s : Shared) (H : Hp) (C : Addr) (cl : List (Str × Addr)) (fp : List Addr), DE (X.blk s H scope (compEnvC scope cl C X.env) fp) W0 elt te) (hS : ∀ j, j ∈ S → j ∈ own.map (·.2) := by decide) (hs : ∀ x, foldedSetIterable iter X.env x = pure x := by intro _; rfl) :
    DE X W (.ListComp elt [⟨tg, iter, ifs, 0⟩] scope pos) (tLcL ti tG tt te (own.map (·.2))) := PEi (pe_lc (g := lG X.K S tG) (tt := lT X.K W0 tt) (te := lE X.K W0 te) hc hN (pi_list hi) ok hg ht he hs) fun σ H Q h => lcL_go hS h
theorem lcT_go {σ : L2.St} {H : Hp} {Q : VK} (hS : ∀ j, j ∈ S → j ∈ own.map (·.2)) (h : lE X.K W (tLcT ti tG tt te (own.map (·.2))) σ H Q) : tLc (iTup X.K (lE X.K W ti)) (lG X.K S tG) (lT X.K W0 tt) (lE X.K W0 te) (own.map (·.2)) σ H Q := by
  obtain ⟨C, en, Φ, Ψ, R0, hT, hX, k⟩ := h
  refine ⟨C, en, _, Ψ, R0, hT, hX, fun r en1 v H1 q R1 o1 s1 k1 _ => ?_⟩
  cases e1 : vl r with
  | none => simp only [e1] at q
  | some d =>
    cases d <;> simp only [e1] at q
    rename_i ds
    obtain ⟨hw, J, j0, step, done⟩ := q
    have hv := o1.rp R1 e1
    have R1' := R1.dropX
    cases hv with
    | tup h1 h2 =>
      rename_i a vs0
      have stood : ∀ {Hx : Hp} {ex : En} {Dl : Addr}, R X.K ((C.re en1 H1).add Dl) (L2.wipe σ (own.map (·.2))) Hx ex → H1 Dl = none → Le (mm C (oas en1)) H1 (mm ((C.re en1 H1).add Dl) (oas ex)) Hx := fun {Hx ex Dl} r hD b u n z => by
        obtain ⟨q1, q2⟩ := R1'.stood r.drop b u n z
        refine ⟨fun w => ?_, q2⟩
        rcases w with (w | w) | w
        · exact q1 (.inl w)
        · rw [w, hD] at z; cases z
        · exact q1 (.inr w)
      refine ⟨a, rfl, ⟨vs0, h1.sq⟩, fun Dl hD => lc_tup (xs := vs0) (fun i H => LcP X.K C σ H1 en1 (own.map (·.2)) Dl (J i) H) (lc_start R1' hD hw j0) (fun i Hx _ ⟨_, ex, _, r, _⟩ => (h1.mono (stood r hD)).sq) (fun i x Hx hx P => ?_) fun Hx P => ?_⟩
      · obtain ⟨d, hd, hr⟩ := h2.get' hx
        exact lc_turn R1' hD hw hS P (fun _ ex _ r => Rp.mono (stood r hD) _ _ hr) fun acc ex j => step i d acc ex hd j
      · rw [h2.length] at P
        obtain ⟨acc, en2, z1, z2, z3, z4, z5⟩ := lc_end R1' hD hw P done
        exact k _ en2 _ Hx z1 z2 z3 (s1.trans z4) (k1.trans s1 z5) (k1.new s1 R1' hD)
theorem de_lcT (hc : X.calm = true) (hN : X.N.Nodup) (hi : DE X W iter ti) (ok : BlkOk X.N X.env.scope scope own)
    (hg : ∀ (s : Shared) (H : Hp) (C : Addr) (cl : List (Str × Addr)) (fp : List Addr), DG (X.blk s H scope (compEnvC scope cl C X.env) fp) S tg tG) (ht : ∀ (s : Shared) (H : Hp) (C : Addr) (cl : List (Str × Addr)) (fp : List Addr), DTs (X.blk s H scope (compEnvC scope cl C X.env) fp) W0 ifs tt)
    (he : ∀ (s : Shared) (H : Hp) (C : Addr) (cl : List (Str × Addr)) (fp : List Addr), DE (X.blk s H scope (compEnvC scope cl C X.env) fp) W0 elt te) (hS : ∀ j, j ∈ S → j ∈ own.map (·.2) := by decide) (hs : ∀ x, foldedSetIterable iter X.env x = pure x := by intro _; rfl) :
    DE X W (.ListComp elt [⟨tg, iter, ifs, 0⟩] scope pos) (tLcT ti tG tt te (own.map (·.2))) := PEi (pe_lc (g := lG X.K S tG) (tt := lT X.K W0 tt) (te := lE X.K W0 te) hc hN (pi_tup hi) ok hg ht he hs) fun σ H Q h => lcT_go hS h
theorem lcR1_go {σ : L2.St} {H : Hp} {Q : VK} (hS : ∀ j, j ∈ S → j ∈ own.map (·.2)) (h : lE X.K W (tLcR1 tR tG tt te (own.map (·.2))) σ H Q) : tLc (iRng1 (lA X.K W tR)) (lG X.K S tG) (lT X.K W0 tt) (lE X.K W0 te) (own.map (·.2)) σ H Q := by
  obtain ⟨C, en, Φ, Ψ, R0, hT, hX, k⟩ := h
  refine ⟨C, en, _, Ψ, R0, hT, hX, fun rs en1 ws H1 q R1 o1 s1 k1 _ => ?_⟩
  match rs, q, R1, o1 with
  | [.val (.int n)], ⟨b1, b2, hw, J, j0, step, done⟩, R1, ⟨v, ws', e1, h1, e2⟩ =>
    subst e1 e2
    have hv : v = .int n := by cases h1; rfl
    subst hv
    refine ⟨n, rfl, b1, b2, fun Dl hD => lc_range (fun i H => LcP X.K C σ H1 en1 (own.map (·.2)) Dl (J i) H) (lc_start R1 hD hw j0) (fun i Hx hi P => ?_) fun Hx P => ?_⟩
    · rw [Int.zero_add]
      exact lc_turn R1 hD hw hS P (fun _ ex _ r => .int _) fun acc ex j => step i acc ex (by omega) j
    · obtain ⟨acc, en2, z1, z2, z3, z4, z5⟩ := lc_end R1 hD hw P done
      exact k _ en2 _ Hx z1 z2 z3 (s1.trans z4) (k1.trans s1 z5) (k1.new s1 R1 hD)
theorem de_lcR1 (hm : X.mg "range" = none) (hc : X.calm = true) (hN : X.N.Nodup) (ha : DA X W [a] tR) (ok : BlkOk X.N X.env.scope scope own)
    (hg : ∀ (s : Shared) (H : Hp) (C : Addr) (cl : List (Str × Addr)) (fp : List Addr), DG (X.blk s H scope (compEnvC scope cl C X.env) fp) S tg tG) (ht : ∀ (s : Shared) (H : Hp) (C : Addr) (cl : List (Str × Addr)) (fp : List Addr), DTs (X.blk s H scope (compEnvC scope cl C X.env) fp) W0 ifs tt)
    (he : ∀ (s : Shared) (H : Hp) (C : Addr) (cl : List (Str × Addr)) (fp : List Addr), DE (X.blk s H scope (compEnvC scope cl C X.env) fp) W0 elt te) (hS : ∀ j, j ∈ S → j ∈ own.map (·.2) := by decide) (hG : Gl X "range" := by rfl)
    (h1 : starEach [a] X.env = [(false, eval a X.env)] := by rfl) {p2 : Pos} (hs : ∀ x, foldedSetIterable (.Call (.Name "range" p) [a] [] p2) X.env x = pure x := by intro _; rfl) :
    DE X W (.ListComp elt [⟨tg, .Call (.Name "range" p) [a] [] p2, ifs, 0⟩] scope pos) (tLcR1 tR tG tt te (own.map (·.2))) := PEi (pe_lc (g := lG X.K S tG) (tt := lT X.K W0 tt) (te := lE X.K W0 te) hc hN (pi_range1 hG hm ha h1) ok hg ht he hs) fun σ H Q h => lcR1_go hS h
end
end VS

namespace VS
open PySem L2 PySem.Spec PyProof.Rows

/-! ### list + list -/
def rCatS (K : PySem.W.Frag) : R2 := fun x y H Q => ∃ l b xs zs, x = .ref l ∧ y = .ref b ∧ SqL K H l xs ∧ SqL K H b zs ∧ xs.length + zs.length ≤ sizeLine ∧ ∀ p, H p = none → Q (.ref p) (upd H p (.lst (xs ++ zs)))
theorem op_catS {X : Cx} : OpR X (binaryOp .Add) (rCatS X.K) := by
  intro pins s σ H x y v u Q I rx ry h
  obtain ⟨l, b, xs, zs, rfl, rfl, hH, hB, hz, q⟩ := h
  cases rx
  cases ry
  obtain ⟨its, r, p1, z1⟩ := I.list hH
  obtain ⟨its2, r2, p2, z2⟩ := I.list hB
  have l1 := r.length
  have l2 := r2.length
  obtain ⟨⟨cls, dd, data, sl⟩, ho, hc, n, hd⟩ := id p1.isList
  obtain ⟨⟨cls2, dd2, data2, sl2⟩, ho2, hc2, n2, hd2⟩ := id p2.isList
  simp only at hc hd hc2 hd2
  subst hc hd hc2 hd2
  refine concat_meets ⟨_, ho, rfl⟩ ⟨_, ho2, rfl⟩ noFill_list_add seq_list_add PySem.F.slot_list_add PySem.F.entry_list_add (PySem.F.args_list_add_2 _ _) (list_addW l b its.toArray its2.toArray n n2 dd dd2 sl sl2 (by simp; omega)) ⟨ho, ho2, ?_⟩
  have e : its.toArray ++ its2.toArray = (its ++ its2).toArray := by simp
  rw [e]
  exact ⟨.ref _, _, I.lnew (t' := s.toks) (r.append r2) (by rw [List.length_append]; omega), rfl, q _ I.fresh⟩
def gCat : D → D → (Res → Prop) → Prop := fun x y Φ => match x, y with
  | .lst ds, .lst es => ds.length + es.length ≤ sizeLine ∧ ∀ p, Φ (.own p (.lst (ds ++ es)))
  | _, _ => False
theorem od_cat {X : Cx} : OpD X (rCatS X.K) gCat := by
  intro C σ H en x y v w Φ Q R1 hx hy h k
  cases x <;> cases y <;> try exact (show False from h).elim
  obtain ⟨a, vs, rfl, h1, h2⟩ := hx
  obtain ⟨b, ws, rfl, g1, g2⟩ := hy
  refine ⟨a, b, vs, ws, rfl, rfl, h1, g1, by rw [h2.length, g2.length]; exact h.1, fun p hp => ?_⟩
  obtain ⟨z1, z2⟩ := own_new R1 hp (h2.append g2)
  exact k _ _ _ (h.2 p) z1 z2 (same_new hp) hp
/-! ### slices of lists -/
def cutD (ds : List D) (lo hi : Option Int) : List D := (ds.drop (HT.sIx ds.length 0 lo)).take (HT.sIx ds.length ds.length hi - HT.sIx ds.length 0 lo)
abbrev TDo := Px → En → (Option Int → En → Prop) → Prop
def lO (K : PySem.W.Frag) (W : WX) (T : TDo) : TO := fun σ H Q => ∃ (C : Cc) (en : En) (Φ : Option Int → En → Prop) (Ψ : Px), R K C σ H en ∧ T Ψ en Φ ∧ XOk K C W σ Ψ ∧
  ∀ b en' H', Φ b en' → R K C σ H' en' → Shape en en' → Keep en H H' → Q b H'
abbrev DO (X : Cx) (W : WX) (e : Option Expr) (T : TDo) : Prop := PO X e (lO X.K W T)
def tNoPartD : TDo := fun _ en Φ => Φ none en
def tPartD (te : TDe) : TDo := fun Ψ en Φ => te Ψ en fun r en1 => match r with
  | .val (.int i) => Φ (some i) en1
  | _ => False
def tSlLD (te : TDe) (tl th : TDo) : TDe := fun Ψ en Φ => te Ψ en fun r en1 => tl Ψ en1 fun lo en2 => th Ψ en2 fun hi en3 => match rd en3 r with
  | some (.lst ds) => ∀ p, Φ (.own p (.lst (cutD ds lo hi))) en3
  | _ => False
section
variable {X : Cx} {W : WX} {a b c e : Expr} {ta tb te : TDe} {tl th : TDo} {pos p2 : Pos} {lo hi : Option Expr}
theorem de_cat (ha : DE X W a ta) (hb : DE X W b tb) : DE X W (.BinOp a .Add b pos) (tOpD gCat ta tb) := de_op op_catS od_cat ha hb
theorem POi {t t' : TO} {o : Option Expr} (h : PO X o t) (i : ∀ σ H Q, t' σ H Q → t σ H Q) : PO X o t' := ⟨fun pins s σ H Q I q => h.run pins s σ H Q I (i σ H Q q)⟩
theorem do_none : DO X W none tNoPartD := POi po_none fun σ H Q ⟨C, en, Φ, Ψ, R1, h, _, k⟩ => k none en H h R1 rfl Keep.refl
theorem do_some (he : DE X W e te) : DO X W (some e) (tPartD te) := POi (po_some he) fun σ H Q ⟨C, en, Φ, Ψ, R0, h, hX, k⟩ => by
  refine ⟨C, en, _, Ψ, R0, h, hX, fun r en1 v H1 q R1 o1 s1 k1 n1 => ?_⟩
  cases r with
  | own => exact (show False from q).elim
  | bor => exact (show False from q).elim
  | val d =>
    cases d <;> try exact (show False from q).elim
    cases o1
    exact ⟨_, rfl, k _ en1 H1 q R1 s1 k1⟩
theorem de_slL (he : DE X W e te) (hl : DO X W lo tl) (hh : DO X W hi th) : DE X W (.Subscript e (.Slice lo hi none p2) pos) (tSlLD te tl th) := PEi (pe_slice sl_list he hl hh) fun σ H Q ⟨C, en, Φ, Ψ, R0, h, hX, k⟩ => by
  refine ⟨C, en, _, Ψ, R0, h, hX, fun r en1 v H1 q1 R1 o1 s1 k1 n1 => ?_⟩
  refine ⟨C.ext r, en1, _, Ψ, R1, q1, hX.ext, fun l en2 H2 q2 R2 s2 k2 => ?_⟩
  refine ⟨C.ext r, en2, _, Ψ, R2, q2, hX.ext, fun u en3 H3 q3 R3 s3 k3 => ?_⟩
  have o3 := (o1.stay R2 s2 k2).stay R3 s3 k3
  cases ed : rd en3 r with
  | none => simp only [ed] at q3
  | some d =>
    cases d <;> simp only [ed] at q3
    rename_i ds
    obtain ⟨a, vs, rfl, h1, h2⟩ := o3.sq R3 ed
    refine ⟨a, vs, rfl, h1, fun p hp => ?_⟩
    have hc : RpA X.K (mm C (oas en3)) H3 (cutV vs l u) (cutD ds l u) := by
      unfold cutV cutD
      rw [h2.length]
      exact (h2.drop _).take _
    obtain ⟨z1, z2⟩ := own_new R3.dropX hp hc
    have kk := (k1.trans s1 k2).trans (s1.trans s2) k3
    exact k _ en3 _ _ (q3 p) z1 z2 ((s1.trans s2).trans s3) (kk.trans ((s1.trans s2).trans s3) (Keep.same (same_new hp))) (kk.new ((s1.trans s2).trans s3) R3.dropX hp)
end
/-! ### sum, all -/
def gSum : List D → (Res → Prop) → Prop := fun xs Φ => match xs with
  | [.lst ds] => ∃ ns : List Int, ds = ns.map D.int ∧ Φ (.val (.int ns.sum))
  | _ => False
def gAll : List D → (Res → Prop) → Prop := fun xs Φ => match xs with
  | [.lst ds] => ∃ bs : List Bool, ds = bs.map D.bl ∧ Φ (.val (.bl (bs.all id)))
  | _ => False
theorem RpA.bls {K : PySem.W.Frag} {M : Ms} {H : Hp} : ∀ {vs : List V} (ns : List Bool), RpA K M H vs (ns.map D.bl) → vs = ns.map V.bl
  | _, [], h => by cases h; rfl
  | _, n :: ns, h => by
    cases h with
    | cons h1 h2 =>
      cases h1
      rw [RpA.bls ns h2]
      rfl
section
variable {X : Cx} {W : WX} {a b c e : Expr} {ta tb te : TDe} {p pos : Pos} {es : List Expr} {t : TDa}
theorem ca_sum : CaD X (rSum X.K) gSum := by
  intro C σ H en ds vs Φ Q R1 hs h k
  unfold gSum at h
  split at h
  · obtain ⟨ns, rfl, h⟩ := h
    cases hs with
    | cons h1 h2 =>
      cases h2
      obtain ⟨a, ws, rfl, q1, q2⟩ := h1
      rw [RpA.ints ns q2] at q1
      exact ⟨a, ns, rfl, q1, k _ _ H h R1 (.int _) (fun _ _ q => q) trivial⟩
  · exact h.elim
theorem ca_all : CaD X (rAll X.K) gAll := by
  intro C σ H en ds vs Φ Q R1 hs h k
  unfold gAll at h
  split at h
  · obtain ⟨ns, rfl, h⟩ := h
    cases hs with
    | cons h1 h2 =>
      cases h2
      obtain ⟨a, ws, rfl, q1, q2⟩ := h1
      rw [RpA.bls ns q2] at q1
      exact ⟨a, ns, rfl, q1, k _ _ H h R1 (.bl _) (fun _ _ q => q) trivial⟩
  · exact h.elim
theorem de_sum (hc : X.calm = true) (hm : X.mg "sum" = none) (ha : DA X W (e :: es) t) (hg : Gl X "sum" := by rfl) (he : starEach (e :: es) X.env = (false, eval e X.env) :: starEach es X.env := by rfl) (hpl : (backTo pos (starEach es X.env)).any (·.1) = false := by rfl) :
    DE X W (.Call (.Name "sum" p) (e :: es) [] pos) (tCaD gSum t) := de_callB (cr_sum hc) ca_sum hg hm (by decide +kernel) ha (by decide) (by decide) he hpl
theorem de_all (hc : X.calm = true) (hm : X.mg "all" = none) (ha : DA X W (e :: es) t) (hg : Gl X "all" := by rfl) (he : starEach (e :: es) X.env = (false, eval e X.env) :: starEach es X.env := by rfl) (hpl : (backTo pos (starEach es X.env)).any (·.1) = false := by rfl) :
    DE X W (.Call (.Name "all" p) (e :: es) [] pos) (tCaD gAll t) := de_callB (cr_all hc) ca_all hg hm (by decide +kernel) ha (by decide) (by decide) he hpl
end
/-! ### tuple(list), tuple(tuple) -/
def gTup1 : List D → (Res → Prop) → Prop
  | [.lst ds], Φ => Φ (.val (.tup ds))
  | [.tup ds], Φ => Φ (.val (.tup ds))
  | _, _ => False
/-! ### isinstance -/
def tyN : D → String
  | .non => "NoneType"
  | .bl _ => "bool"
  | .int _ => "int"
  | .str _ => "str"
  | .tup _ => "tuple"
  | .lst _ => "list"
  | .dct _ _ _ => "dict"
def isD (n : String) (d : D) : Bool := tyN d == n || (n == "int" && tyN d == "bool")
theorem Sq.ty {K : PySem.W.Frag} {C : Cc} {en : En} {H : Hp} {v : V} : ∀ {d : D}, Sq K C en H v d → TyX K H v (.type (tyN d))
  | .non, h => by cases h; exact .base .non
  | .bl _, h => by cases h; exact .base (.bl _)
  | .int _, h => by cases h; exact .base (.int _)
  | .str _, h => by cases h; exact .base (.str _)
  | .lst ds, ⟨a, vs, e, h, _⟩ => by
    subst e
    rcases h with (h | ⟨o, h⟩) | ⟨o, its, n, h1, h2, _⟩
    · exact .base (.lst h)
    · exact .base (.frz h)
    · exact .kList h1 h2
  | .tup ds, ⟨a, vs, e, h, _⟩ => by
    subst e
    rcases h with (h | ⟨o, h⟩) | ⟨o, its, n, h1, h2, _⟩
    · exact .base (.tup h)
    · exact .fTuple h
    · exact .kTuple h1 h2
  | .dct _ _ _, ⟨a, c, e, h, _⟩ => by
    subst e
    cases c with
    | k kvs =>
      rcases h with h | ⟨o, h⟩
      · exact .base (.dK h)
      · exact .fDict h
    | t kvs => exact .base (.dT h)
def tIsiD (n : String) (te : TDe) : TDe := fun Ψ en Φ => te Ψ en fun r en1 => match rd en1 r with
  | some d => Φ (.val (.bl (isD n d))) en1
  | none => False
def tIsi2D (n m : String) (te : TDe) : TDe := fun Ψ en Φ => te Ψ en fun r en1 => match rd en1 r with
  | some d => Φ (.val (.bl (isD n d || isD m d))) en1
  | none => False
section
variable {X : Cx} {W : WX} {e : Expr} {te : TDe} {p pos p2 p3 p4 : Pos} {n m : Str} {sn sm : String}
theorem de_isi (hm : X.mg "isinstance" = none) (he : DE X W e te) (gn : Gl X n) (mn : X.mg n = none) (vn : bootBuiltins n = some (.type sn)) (hk : ∀ d, kitB (tyN d) sn = some (isD sn d))
    (hg : Gl X "isinstance" := by rfl) (nn : n ≠ "__name__" := by decide) (nd : (n == ("__debug__" : Str)) = false := by decide)
    (h1 : starEach [e, .Name n p2] X.env = (false, eval e X.env) :: starEach [.Name n p2] X.env := by rfl) (h2 : starEach [.Name n p2] X.env = (false, eval (.Name n p2) X.env) :: starEach [] X.env := by rfl)
    (hpl : (backTo pos (starEach [.Name n p2] X.env)).any (·.1) = false := by rfl) : DE X W (.Call (.Name "isinstance" p) [e, .Name n p2] [] pos) (tIsiD sn te) :=
  PEi (pe_callB call_isi hg hm PyProof.Rows.boot_isinstance (pa_cons he (pa_cons (pe_bltn (v := .ty sn) gn mn vn rfl nn nd) pa_nil h2) h1) (by decide) (by decide) h1 hpl) fun σ H Q ⟨C, en, Φ, Ψ, R0, h, hX, k⟩ => by
    refine ⟨C, en, _, Ψ, R0, h, hX, fun r en1 v H1 q R1 o1 s1 k1 n1 => ?_⟩
    cases ed : rd en1 r with
    | none => simp only [ed] at q
    | some d =>
      simp only [ed] at q
      exact ⟨v, .ty sn, _, _, _, rfl, .ty sn, (o1.sq R1 ed).ty, kit_ty (hk d), k _ en1 _ H1 q R1.dropX (.bl _) s1 k1 trivial⟩
theorem de_isi2 (hm : X.mg "isinstance" = none) (he : DE X W e te) (gn : Gl X n) (mn : X.mg n = none) (vn : bootBuiltins n = some (.type sn)) (hk : ∀ d, kitB (tyN d) sn = some (isD sn d))
    (gm : Gl X m) (mm' : X.mg m = none) (vm : bootBuiltins m = some (.type sm)) (hk2 : ∀ d, kitB (tyN d) sm = some (isD sm d))
    (hg : Gl X "isinstance" := by rfl) (nn : n ≠ "__name__" := by decide) (nd : (n == ("__debug__" : Str)) = false := by decide) (nn' : m ≠ "__name__" := by decide) (nd' : (m == ("__debug__" : Str)) = false := by decide) {x1 : _}
    (h1 : starEach [e, .Tuple [.Name n p2, .Name m p3] x1 p4] X.env = (false, eval e X.env) :: starEach [.Tuple [.Name n p2, .Name m p3] x1 p4] X.env := by rfl)
    (h2 : starEach [.Tuple [.Name n p2, .Name m p3] x1 p4] X.env = (false, eval (.Tuple [.Name n p2, .Name m p3] x1 p4) X.env) :: starEach [] X.env := by rfl)
    (h3 : starEach [.Name n p2, .Name m p3] X.env = (false, eval (.Name n p2) X.env) :: starEach [.Name m p3] X.env := by rfl) (h4 : starEach [.Name m p3] X.env = (false, eval (.Name m p3) X.env) :: starEach [] X.env := by rfl)
    (hpl : (backTo pos (starEach [.Tuple [.Name n p2, .Name m p3] x1 p4] X.env)).any (·.1) = false := by rfl) : DE X W (.Call (.Name "isinstance" p) [e, .Tuple [.Name n p2, .Name m p3] x1 p4] [] pos) (tIsi2D sn sm te) :=
  PEi (pe_callB call_isiT hg hm PyProof.Rows.boot_isinstance (pa_cons he (pa_cons (pe_tup (pa_cons (pe_bltn (v := .ty sn) gn mn vn rfl nn nd) (pa_cons (pe_bltn (v := .ty sm) gm mm' vm rfl nn' nd') pa_nil h4) h3)) pa_nil h2) h1) (by decide) (by decide) h1 hpl) fun σ H Q ⟨C, en, Φ, Ψ, R0, h, hX, k⟩ => by
    refine ⟨C, en, _, Ψ, R0, h, hX, fun r en1 v H1 q R1 o1 s1 k1 n1 => ?_⟩
    cases ed : rd en1 r with
    | none => simp only [ed] at q
    | some d =>
      simp only [ed] at q
      refine ⟨by show 2 ≤ sizeLine; decide, fun tp htp => ?_⟩
      have R2 := R1.dropX.grow (same_new (o := HO.tup [V.ty sn, V.ty sm]) htp)
      have ty : TyX X.K (upd H1 tp (.tup [V.ty sn, V.ty sm])) v (.type (tyN d)) := by
        have h0 := o1.sq R1 ed
        have lift : ∀ {d : D}, Sq X.K C en1 H1 v d → Sq X.K C en1 (upd H1 tp (.tup [V.ty sn, V.ty sm])) v d := fun {d} h => by
          have le : Le (mm C (oas en1)) H1 (mm C (oas en1)) (upd H1 tp (.tup [V.ty sn, V.ty sm])) := fun b u n q => ⟨n, same_new htp b u q⟩
          have sq : ∀ a xs, SqL X.K H1 a xs → SqL X.K (upd H1 tp (.tup [V.ty sn, V.ty sm])) a xs := fun a xs h => by
            rcases h with (h | ⟨o, h⟩) | h
            · exact .inl (.inl (same_new htp _ _ h))
            · exact .inl (.inr ⟨o, same_new htp _ _ h⟩)
            · exact .inr h
          have sq2 : ∀ a xs, SqT X.K H1 a xs → SqT X.K (upd H1 tp (.tup [V.ty sn, V.ty sm])) a xs := fun a xs h => by
            rcases h with (h | ⟨o, h⟩) | h
            · exact .inl (.inl (same_new htp _ _ h))
            · exact .inl (.inr ⟨o, same_new htp _ _ h⟩)
            · exact .inr h
          cases d with
          | lst ds => obtain ⟨a, vs, e1, e2, e3⟩ := h; exact ⟨a, vs, e1, sq _ _ e2, RpA.mono le _ _ e3⟩
          | tup ds => obtain ⟨a, vs, e1, e2, e3⟩ := h; exact ⟨a, vs, e1, sq2 _ _ e2, RpA.mono le _ _ e3⟩
          | dct t ks ds => obtain ⟨a, c, e1, e2, e3, e4⟩ := h; exact ⟨a, c, e1, e2.all (same_new htp _), e3, RpA.mono le _ _ e4⟩
          | non => exact Rp.mono le _ _ h
          | bl => exact Rp.mono le _ _ h
          | int => exact Rp.mono le _ _ h
          | str => exact Rp.mono le _ _ h
        exact (lift h0).ty
      have kk : PySem.W.kitAny X.K (.type (tyN d)) [.type sn, .type sm] = some (isD sn d || isD sm d) := by
        refine kitAny_cons (kit_ty (hk d)) (fun e => ?_) (fun e => by rw [e, Bool.true_or])
        rw [e, Bool.false_or]
        refine kitAny_cons (kit_ty (hk2 d)) (fun e => ?_) (fun e => e)
        rw [e]
        exact kitAny_nil
      exact ⟨v, tp, _, _, _, _, rfl, upd_same, .cons (.ty sn) (.cons (.ty sm) .nil), ty, kk, k _ en1 _ _ q R2 (.bl _) s1 (k1.trans s1 (Keep.same (same_new htp))) trivial⟩
end
theorem isD_dict : ∀ d, kitB (tyN d) "dict" = some (isD "dict" d) := by intro d; cases d <;> (dsimp only [tyN, isD]; decide +kernel)
theorem isD_list : ∀ d, kitB (tyN d) "list" = some (isD "list" d) := by intro d; cases d <;> (dsimp only [tyN, isD]; decide +kernel)
theorem isD_tuple : ∀ d, kitB (tyN d) "tuple" = some (isD "tuple" d) := by intro d; cases d <;> (dsimp only [tyN, isD]; decide +kernel)
theorem isD_bool : ∀ d, kitB (tyN d) "bool" = some (isD "bool" d) := by intro d; cases d <;> (dsimp only [tyN, isD]; decide +kernel)
theorem isD_str : ∀ d, kitB (tyN d) "str" = some (isD "str" d) := by intro d; cases d <;> (dsimp only [tyN, isD]; decide +kernel)
theorem isD_int : ∀ d, kitB (tyN d) "int" = some (isD "int" d) := by intro d; cases d <;> (dsimp only [tyN, isD]; decide +kernel)
/-! ### is None -/
def gIsN (f : Bool → Bool) : D → D → (Res → Prop) → Prop := fun x y Φ => match y with
  | .non => (match x with
    | .non => Φ (.val (.bl (f true)))
    | _ => Φ (.val (.bl (f false))))
  | _ => False
section
variable {X : Cx} {W : WX} {a b : Expr} {ta tb : TDe} {pos : Pos}
theorem sq_non {K : PySem.W.Frag} {C : Cc} {en : En} {H : Hp} {v : V} {d : D} (h : Sq K C en H v d) : decide (v = .non) = (match d with
    | .non => true
    | _ => false) := by
  cases d with
  | non => cases h; rfl
  | bl => cases h; rfl
  | int => cases h; rfl
  | str => cases h; rfl
  | lst => obtain ⟨a, _, rfl, _⟩ := h; rfl
  | tup => obtain ⟨a, _, rfl, _⟩ := h; rfl
  | dct => obtain ⟨a, _, rfl, _⟩ := h; rfl
theorem od_isN : OpD X (fun x y H Q => y = .non ∧ Q (.bl (decide (x = .non))) H) (gIsN id) := by
  intro C σ H en x y v w Φ Q R1 hx hy h k
  cases y <;> try exact (show False from h).elim
  cases hy
  refine ⟨rfl, ?_⟩
  rw [sq_non hx]
  cases x <;> exact k _ _ H h R1 (.bl _) (fun _ _ q => q) trivial
theorem od_notN : OpD X (fun x y H Q => y = .non ∧ Q (.bl (!decide (x = .non))) H) (gIsN not) := by
  intro C σ H en x y v w Φ Q R1 hx hy h k
  cases y <;> try exact (show False from h).elim
  cases hy
  refine ⟨rfl, ?_⟩
  rw [sq_non hx]
  cases x <;> exact k _ _ H h R1 (.bl _) (fun _ _ q => q) trivial
theorem de_isN (ha : DE X W a ta) (hb : DE X W b tb) : DE X W (.Compare a [.Is] [b] pos) (tOpD (gIsN id) ta tb) := de_cmp op_isN od_isN ha hb
theorem de_notN (ha : DE X W a ta) (hb : DE X W b tb) : DE X W (.Compare a [.IsNot] [b] pos) (tOpD (gIsN not) ta tb) := de_cmp op_notN od_notN ha hb
theorem dt_isN (ha : DE X W a ta) (hb : DE X W b tb) : DT X W (.Compare a [.Is] [b] pos) (tValD (tOpD (gIsN id) ta tb)) := dt_cmp op_isN od_isN ha hb
theorem dt_notN (ha : DE X W a ta) (hb : DE X W b tb) : DT X W (.Compare a [.IsNot] [b] pos) (tValD (tOpD (gIsN not) ta tb)) := dt_cmp op_notN od_notN ha hb
end
/-! ### never reached -/
def tNeverD : TDs := fun _ _ => False
theorem ds_never {X : Cx} {W : WX} {st : Stmt} : DS X W st tNeverD := PSi ps_never fun D σ H ⟨C, en, De, R1, h, k⟩ => h
end VS

namespace VS
open PySem L2 PySem.Spec PyProof.Rows

/-! ### comprehensions over zip -/
def tLcZ (ti : TDa) (tG : TDg) (tt : TDt) (te : TDe) (vs : List Nat) : TDe := fun Ψ en Φ => ti Ψ en fun rs en1 => match vls rs with
  | some [x, y] => ∃ ds es : List D, (x = .lst ds ∧ y = .lst es ∨ x = .tup ds ∧ y = .tup es) ∧ wipeD en1 vs = en1 ∧
      ∃ J : Nat → List D → En → Prop, J 0 [] en1 ∧ (∀ i d e acc en, ds[i]? = some d → es[i]? = some e → J i acc en → lcStep tG tt te vs (J (i + 1)) (.tup [d, e]) acc en) ∧ ∀ acc en2 p, J (min ds.length es.length) acc en2 → Φ (.own p (.lst acc)) en2
  | _ => False
theorem LcP.grow {K : PySem.W.Frag} {C : Cc} {σ : L2.St} {H1 H H' : Hp} {en1 : En} {vs : List Nat} {Dl : Addr} {J : List D → En → Prop} (P : LcP K C σ H1 en1 vs Dl J H) (e : Same H H') : LcP K C σ H1 en1 vs Dl J H' := by
  obtain ⟨acc, en, ws, R2, sh, hd, hr, j⟩ := P
  exact ⟨acc, en, ws, R2.grow e, sh, e _ _ hd, RpA.mono (fun b u n q => ⟨n, e b u q⟩) _ _ hr, j⟩
section
variable {X : Cx} {W : WX} {elt tg e1 e2 : Expr} {elts : List Expr} {kk : Nat} {tpos : Pos} {ifs : List Expr} {scope : Scope} {own : List (Str × Nat)} {p pos : Pos} {te : TDe} {tG : TDg} {tt : TDt} {S : List Nat} {tR : TDa}
theorem de_lcZ (hm : X.mg "zip" = none) (hc : X.calm = true) (hN : X.N.Nodup) (ha : DA X W [e1, e2] tR) (ok : BlkOk X.N X.env.scope scope own)
    (hg : ∀ (s : Shared) (H : Hp) (C : Addr) (cl : List (Str × Addr)) (fp : List Addr), DG (X.blk s H scope (compEnvC scope cl C X.env) fp) S (.Tuple elts kk tpos) tG) (ht : ∀ (s : Shared) (H : Hp) (C : Addr) (cl : List (Str × Addr)) (fp : List Addr), DTs (X.blk s H scope (compEnvC scope cl C X.env) fp) W0 ifs tt)
    (he : ∀ (s : Shared) (H : Hp) (C : Addr) (cl : List (Str × Addr)) (fp : List Addr), DE (X.blk s H scope (compEnvC scope cl C X.env) fp) W0 elt te) (hS : ∀ j, j ∈ S → j ∈ own.map (·.2) := by decide) (hG : Gl X "zip" := by rfl)
    (h1 : starEach [e1, e2] X.env = (false, eval e1 X.env) :: starEach [e2] X.env := by rfl) {p2 : Pos} (hpl : (backTo p2 (starEach [e2] X.env)).any (·.1) = false := by rfl) (hs : ∀ x, foldedSetIterable (.Call (.Name "zip" p) [e1, e2] [] p2) X.env x = pure x := by intro _; rfl) :
    DE X W (.ListComp elt [⟨.Tuple elts kk tpos, .Call (.Name "zip" p) [e1, e2] [] p2, ifs, 0⟩] scope pos) (tLcZ tR tG tt te (own.map (·.2))) :=
  PEi (pe_lc (g := lG X.K S tG) (tt := lT X.K W0 tt) (te := lE X.K W0 te) hc hN (RZ.pi_zipA hG hm ha h1 hpl) ok hg ht he hs) fun σ H Q ⟨C, en, Φ, Ψ, R0, hT, hX, k⟩ => by
  refine ⟨C, en, _, Ψ, R0, hT, hX, fun rs en1 ws H1 q R1 o1 s1 k1 _ => ?_⟩
  cases ev : vls rs with
  | none => simp only [ev] at q
  | some zs =>
    match zs, ev, q with
    | [], ev, q => simp only [ev] at q
    | [_], ev, q => simp only [ev] at q
    | _ :: _ :: _ :: _, ev, q => simp only [ev] at q
    | [x, y], ev, q =>
      simp only [ev] at q
      obtain ⟨ds, es, hxy, hw, J, j0, step, done⟩ := q
      have hr := o1.rp R1 ev
      have R1' := R1.dropA
      cases hr with
      | cons q1 q2 =>
        cases q2 with
        | cons q2 q3 =>
          cases q3
          have stood : ∀ {Hx : Hp} {ex : En} {Dl : Addr}, R X.K ((C.re en1 H1).add Dl) (L2.wipe σ (own.map (·.2))) Hx ex → H1 Dl = none → Le (mm C (oas en1)) H1 (mm ((C.re en1 H1).add Dl) (oas ex)) Hx := fun {Hx ex Dl} r hD b u n z => by
            obtain ⟨q1, q2⟩ := R1'.stood r.drop b u n z
            refine ⟨fun w => ?_, q2⟩
            rcases w with (w | w) | w
            · exact q1 (.inl w)
            · rw [w, hD] at z; cases z
            · exact q1 (.inr w)
          have fin : ∀ {Dl : Addr} {Hx : Hp}, H1 Dl = none → LcP X.K C σ H1 en1 (own.map (·.2)) Dl (J (min ds.length es.length)) Hx → Q (.ref Dl) Hx := fun {Dl Hx} hD P => by
            obtain ⟨acc, en2, z1, z2, z3, z4, z5⟩ := lc_end R1' hD hw P done
            exact k _ en2 _ Hx z1 z2 z3 (s1.trans z4) (k1.trans s1 z5) (k1.new s1 R1' hD)
          have turn : ∀ {Dl T : Addr} {Hx : Hp} {i : Nat} {d e : VS.D} {u v : V}, H1 Dl = none → LcP X.K C σ H1 en1 (own.map (·.2)) Dl (J i) Hx → Hx T = none → ds[i]? = some d → es[i]? = some e → Rp X.K (mm C (oas en1)) H1 u d → Rp X.K (mm C (oas en1)) H1 v e →
              lG X.K S tG (.ref T) (L2.wipe σ (own.map (·.2))) (upd Hx T (.tup [u, v])) fun σ2 H2 => L2.wipe σ2 (own.map (·.2)) = L2.wipe σ (own.map (·.2)) ∧ lT X.K W0 tt σ2 H2 fun b H3 =>
                if b = true then lE X.K W0 te σ2 H3 fun y H4 => ∃ acc, H4 Dl = some (.lst acc) ∧ acc.length < sizeLine ∧ LcP X.K C σ H1 en1 (own.map (·.2)) Dl (J (i + 1)) (upd H4 Dl (.lst (acc ++ [y]))) else LcP X.K C σ H1 en1 (own.map (·.2)) Dl (J (i + 1)) H3 :=
            fun {Dl T Hx i d e u v} hD P hT hd he ru rv => by
              obtain ⟨acc0, en0, ws0, R2, sh, hd0, hr0, j⟩ := P
              have P' : LcP X.K C σ H1 en1 (own.map (·.2)) Dl (fun a e => e = en0 ∧ J i a e) (upd Hx T (.tup [u, v])) := LcP.grow ⟨acc0, en0, ws0, R2, sh, hd0, hr0, rfl, j⟩ (same_new hT)
              refine lc_turn R1' hD hw hS P' (fun _ ex jx r => ?_) fun acc ex j => step i d e acc ex hd he j.2
              obtain ⟨rfl, _⟩ := jx
              refine .tup ⟨fun z => ?_, upd_same⟩ (.cons (Rp.mono (stood r hD) _ _ ru) (.cons (Rp.mono (stood r hD) _ _ rv) .nil))
              obtain ⟨u', z'⟩ := R2.mD z
              rw [hT] at z'; cases z'
          have len2 : ∀ {Hx : Hp} {ex : En} {Dl : Addr} {a : Addr} {xs : List V}, SLx X.K (mm C (oas en1)) H1 a xs → H1 Dl = none → R X.K ((C.re en1 H1).add Dl) (L2.wipe σ (own.map (·.2))) Hx ex → SqL X.K Hx a xs := fun h hD r => (h.mono (stood r hD)).sq
          have len3 : ∀ {Hx : Hp} {ex : En} {Dl : Addr} {a : Addr} {xs : List V}, STx X.K (mm C (oas en1)) H1 a xs → H1 Dl = none → R X.K ((C.re en1 H1).add Dl) (L2.wipe σ (own.map (·.2))) Hx ex → SqT X.K Hx a xs := fun h hD r => (h.mono (stood r hD)).sq
          rcases hxy with ⟨rfl, rfl⟩ | ⟨rfl, rfl⟩
          · cases q1 with
            | lst a1 a2 =>
              cases q2 with
              | lst b1 b2 =>
                rename_i a vs b ws'
                refine ⟨a, b, vs, ws', rfl, .inl ⟨a1.sq, b1.sq, fun Dl hD => ?_⟩⟩
                refine ⟨fun i m Hx => m + i = min ds.length es.length ∧ LcP X.K C σ H1 en1 (own.map (·.2)) Dl (J i) Hx, ⟨_, rfl, lc_start R1' hD hw j0⟩, fun i m Hx ⟨hm, P⟩ => ?_⟩
                have sA : SqL X.K Hx a vs := by obtain ⟨_, _, _, r, _⟩ := P; exact len2 a1 hD r
                have sB : SqL X.K Hx b ws' := by obtain ⟨_, _, _, r, _⟩ := P; exact len2 b1 hD r
                have l1 := a2.length
                have l2 := b2.length
                by_cases hi : i < min ds.length es.length
                · obtain ⟨u, eu, ru⟩ := a2.get (List.getElem?_eq_getElem (show i < ds.length by omega))
                  obtain ⟨v, ev', rv⟩ := b2.get (List.getElem?_eq_getElem (show i < es.length by omega))
                  refine .inr ⟨⟨vs, ws', u, v, sA, sB, eu, ev'⟩, fun H' => LcP X.K C σ H1 en1 (own.map (·.2)) Dl (J (i + 1)) H', fun H' P' => ⟨m - 1, by omega, by omega, P'⟩, ?_⟩
                  rintro x H' ⟨T, x1, x2, rfl, hT, rfl, f1, f2⟩
                  have g1 := f1 _ sA
                  have g2 := f2 _ sB
                  rw [eu] at g1; rw [ev'] at g2
                  cases g1; cases g2
                  exact turn hD P hT (List.getElem?_eq_getElem _) (List.getElem?_eq_getElem _) ru rv
                · have hi' : i = min ds.length es.length := by omega
                  subst hi'
                  exact .inl ⟨⟨vs, ws', sA, sB, by omega⟩, fin hD P⟩
          · cases q1 with
            | tup a1 a2 =>
              cases q2 with
              | tup b1 b2 =>
                rename_i a vs b ws'
                refine ⟨a, b, vs, ws', rfl, .inr ⟨a1.sq, b1.sq, fun Dl hD => ?_⟩⟩
                refine ⟨fun i m Hx => m + i = min ds.length es.length ∧ LcP X.K C σ H1 en1 (own.map (·.2)) Dl (J i) Hx, ⟨_, rfl, lc_start R1' hD hw j0⟩, fun i m Hx ⟨hm, P⟩ => ?_⟩
                have sA : SqT X.K Hx a vs := by obtain ⟨_, _, _, r, _⟩ := P; exact len3 a1 hD r
                have sB : SqT X.K Hx b ws' := by obtain ⟨_, _, _, r, _⟩ := P; exact len3 b1 hD r
                have l1 := a2.length
                have l2 := b2.length
                by_cases hi : i < min ds.length es.length
                · obtain ⟨u, eu, ru⟩ := a2.get (List.getElem?_eq_getElem (show i < ds.length by omega))
                  obtain ⟨v, ev', rv⟩ := b2.get (List.getElem?_eq_getElem (show i < es.length by omega))
                  refine .inr ⟨⟨vs, ws', u, v, sA, sB, eu, ev'⟩, fun H' => LcP X.K C σ H1 en1 (own.map (·.2)) Dl (J (i + 1)) H', fun H' P' => ⟨m - 1, by omega, by omega, P'⟩, ?_⟩
                  rintro x H' ⟨T, x1, x2, rfl, hT, rfl, f1, f2⟩
                  have g1 := f1 _ sA
                  have g2 := f2 _ sB
                  rw [eu] at g1; rw [ev'] at g2
                  cases g1; cases g2
                  exact turn hD P hT (List.getElem?_eq_getElem _) (List.getElem?_eq_getElem _) ru rv
                · have hi' : i = min ds.length es.length := by omega
                  subst hi'
                  exact .inl ⟨⟨vs, ws', sA, sB, by omega⟩, fin hD P⟩
end
/-! ### x in (ints) -/
def gInI : D → D → (Res → Prop) → Prop := fun x y Φ => match x, y with
  | .int i, .tup ds => ∃ ns : List Int, ds = ns.map D.int ∧ Φ (.val (.bl (ns.any fun n => n == i)))
  | .int i, .lst ds => ∃ ns : List Int, ds = ns.map D.int ∧ Φ (.val (.bl (ns.any fun n => n == i)))
  | _, _ => False
theorem flat_ints : ∀ ns : List Int, (ns.map V.int).all flatV = true
  | [] => rfl
  | n :: ns => by rw [List.map_cons, List.all_cons, flat_ints ns] <;> rfl
theorem inV_ints (i : Int) : ∀ ns : List Int, inV (.int i) (ns.map V.int) = ns.any fun n => n == i
  | [] => rfl
  | n :: ns => by
    have ih := inV_ints i ns
    unfold inV at ih ⊢
    rw [List.map_cons, List.any_cons, List.any_cons, ih]
    rfl
section
variable {X : Cx} {W : WX} {a b : Expr} {ta tb : TDe} {pos : Pos}
theorem od_in : OpD X (rIn X.K false) gInI := by
  intro C σ H en x y v w Φ Q R1 hx hy h k
  cases x <;> try exact (show False from h).elim
  cases hx
  cases y <;> try exact (show False from h).elim
  · obtain ⟨ns, rfl, h⟩ := h
    obtain ⟨a, vs, rfl, h1, h2⟩ := hy
    rw [RpA.ints ns h2] at h1
    refine ⟨a, _, rfl, .inr h1, rfl, flat_ints ns, ?_⟩
    rw [if_neg Bool.false_ne_true, inV_ints]
    exact k _ _ H h R1 (.bl _) (fun _ _ q => q) trivial
  · obtain ⟨ns, rfl, h⟩ := h
    obtain ⟨a, vs, rfl, h1, h2⟩ := hy
    rw [RpA.ints ns h2] at h1
    refine ⟨a, _, rfl, .inl h1, rfl, flat_ints ns, ?_⟩
    rw [if_neg Bool.false_ne_true, inV_ints]
    exact k _ _ H h R1 (.bl _) (fun _ _ q => q) trivial
theorem de_in (ha : DE X W a ta) (hb : DE X W b tb) (hm : behindInMarks .In b = false := by rfl) : DE X W (.Compare a [.In] [b] pos) (tOpD gInI ta tb) := de_cmp op_in_seq od_in ha hb hm
theorem dt_in (ha : DE X W a ta) (hb : DE X W b tb) (hm : behindInMarks .In b = false := by rfl) : DT X W (.Compare a [.In] [b] pos) (tValD (tOpD gInI ta tb)) := dt_cmp op_in_seq od_in ha hb hm
end
end VS

namespace VS
open PySem L2 PySem.Spec PyProof.Rows

theorem Sq.lift {K : PySem.W.Frag} {C : Cc} {en : En} {H H' : Hp} {v : V} {d : D} (h : Sq K C en H v d) (e : Same H H') : Sq K C en H' v d := by
  have le : Le (mm C (oas en)) H (mm C (oas en)) H' := fun b u n q => ⟨n, e b u q⟩
  have sq : ∀ a xs, SqL K H a xs → SqL K H' a xs := fun a xs h => by
    rcases h with (h | ⟨o, h⟩) | h
    · exact .inl (.inl (e _ _ h))
    · exact .inl (.inr ⟨o, e _ _ h⟩)
    · exact .inr h
  have sq2 : ∀ a xs, SqT K H a xs → SqT K H' a xs := fun a xs h => by
    rcases h with (h | ⟨o, h⟩) | h
    · exact .inl (.inl (e _ _ h))
    · exact .inl (.inr ⟨o, e _ _ h⟩)
    · exact .inr h
  cases d with
  | lst ds => obtain ⟨a, vs, e1, e2, e3⟩ := h; exact ⟨a, vs, e1, sq _ _ e2, RpA.mono le _ _ e3⟩
  | tup ds => obtain ⟨a, vs, e1, e2, e3⟩ := h; exact ⟨a, vs, e1, sq2 _ _ e2, RpA.mono le _ _ e3⟩
  | dct t ks ds => obtain ⟨a, c, e1, e2, e3, e4⟩ := h; exact ⟨a, c, e1, e2.all (e _), e3, RpA.mono le _ _ e4⟩
  | non => exact Rp.mono le _ _ h
  | bl => exact Rp.mono le _ _ h
  | int => exact Rp.mono le _ _ h
  | str => exact Rp.mono le _ _ h
def tIsiTD (c0 c1 : String) (te : TDe) : TDe := fun Ψ en Φ => te Ψ en fun r en1 => match rd en1 r with
  | some d => Φ (.val (.bl (isD c0 d || isD c1 d))) en1
  | none => False
theorem de_isiT2 {X : Cx} {W : WX} {e : Expr} {te : TDe} {p pos q0 q1 q4 : Pos} {n0 n1 : Str} {c0 c1 : String} {x1 : Nat} (hm : X.mg "isinstance" = none) (he : DE X W e te)
    (g0 : Gl X n0) (m0 : X.mg n0 = none) (v0 : bootBuiltins n0 = some (.type c0)) (y0 : ∀ d, kitB (tyN d) c0 = some (isD c0 d))
    (g1 : Gl X n1) (m1 : X.mg n1 = none) (v1 : bootBuiltins n1 = some (.type c1)) (y1 : ∀ d, kitB (tyN d) c1 = some (isD c1 d))
    (hg : Gl X "isinstance" := by rfl) (a0 : n0 ≠ "__name__" := by decide) (b0 : (n0 == ("__debug__" : Str)) = false := by decide) (a1 : n1 ≠ "__name__" := by decide) (b1 : (n1 == ("__debug__" : Str)) = false := by decide)
    (h1 : starEach [e, .Tuple [.Name n0 q0, .Name n1 q1] x1 q4] X.env = (false, eval e X.env) :: starEach [.Tuple [.Name n0 q0, .Name n1 q1] x1 q4] X.env := by rfl)
    (h2 : starEach [.Tuple [.Name n0 q0, .Name n1 q1] x1 q4] X.env = (false, eval (.Tuple [.Name n0 q0, .Name n1 q1] x1 q4) X.env) :: starEach [] X.env := by rfl)
    (w0 : starEach [.Name n0 q0, .Name n1 q1] X.env = (false, eval (.Name n0 q0) X.env) :: starEach [.Name n1 q1] X.env := by rfl) (w1 : starEach [.Name n1 q1] X.env = (false, eval (.Name n1 q1) X.env) :: starEach [] X.env := by rfl)
    (hpl : (backTo pos (starEach [.Tuple [.Name n0 q0, .Name n1 q1] x1 q4] X.env)).any (·.1) = false := by rfl) : DE X W (.Call (.Name "isinstance" p) [e, .Tuple [.Name n0 q0, .Name n1 q1] x1 q4] [] pos) (tIsiTD c0 c1 te) :=
  PEi (pe_callB call_isiT hg hm PyProof.Rows.boot_isinstance (pa_cons he (pa_cons (pe_tup (pa_cons (pe_bltn (v := .ty c0) g0 m0 v0 rfl a0 b0) (pa_cons (pe_bltn (v := .ty c1) g1 m1 v1 rfl a1 b1) pa_nil w1) w0)) pa_nil h2) h1) (by decide) (by decide) h1 hpl) fun σ H Q ⟨C, en, Φ, Ψ, R0, h, hX, k⟩ => by
    refine ⟨C, en, _, Ψ, R0, h, hX, fun r en1 v H1 q R1 o1 s1 k1 n1 => ?_⟩
    cases ed : rd en1 r with
    | none => simp only [ed] at q
    | some d =>
      simp only [ed] at q
      refine ⟨by show 2 ≤ sizeLine; decide, fun tp htp => ?_⟩
      have R2 := R1.dropX.grow (same_new (o := HO.tup [V.ty c0, V.ty c1]) htp)
      have ty : TyX X.K (upd H1 tp (.tup [V.ty c0, V.ty c1])) v (.type (tyN d)) := ((o1.sq R1 ed).lift (same_new htp)).ty
      have kk : PySem.W.kitAny X.K (.type (tyN d)) [.type c0, .type c1] = some ((isD c0 d || isD c1 d)) := by
        refine kitAny_cons (kit_ty (y0 d)) (fun e => ?_) (fun e => by rw [e, Bool.true_or])
        rw [e, Bool.false_or]
        refine kitAny_cons (kit_ty (y1 d)) (fun e => ?_) (fun e => e)
        rw [e]
        exact kitAny_nil
      exact ⟨v, tp, _, _, _, _, rfl, upd_same, (.cons (.ty c0) (.cons (.ty c1) .nil)), ty, kk, k _ en1 _ _ q R2 (.bl _) s1 (k1.trans s1 (Keep.same (same_new htp))) trivial⟩
def tIsi3D (c0 c1 c2 : String) (te : TDe) : TDe := fun Ψ en Φ => te Ψ en fun r en1 => match rd en1 r with
  | some d => Φ (.val (.bl (isD c0 d || (isD c1 d || isD c2 d)))) en1
  | none => False
theorem de_isi3 {X : Cx} {W : WX} {e : Expr} {te : TDe} {p pos q0 q1 q2 q4 : Pos} {n0 n1 n2 : Str} {c0 c1 c2 : String} {x1 : Nat} (hm : X.mg "isinstance" = none) (he : DE X W e te)
    (g0 : Gl X n0) (m0 : X.mg n0 = none) (v0 : bootBuiltins n0 = some (.type c0)) (y0 : ∀ d, kitB (tyN d) c0 = some (isD c0 d))
    (g1 : Gl X n1) (m1 : X.mg n1 = none) (v1 : bootBuiltins n1 = some (.type c1)) (y1 : ∀ d, kitB (tyN d) c1 = some (isD c1 d))
    (g2 : Gl X n2) (m2 : X.mg n2 = none) (v2 : bootBuiltins n2 = some (.type c2)) (y2 : ∀ d, kitB (tyN d) c2 = some (isD c2 d))
    (hg : Gl X "isinstance" := by rfl) (a0 : n0 ≠ "__name__" := by decide) (b0 : (n0 == ("__debug__" : Str)) = false := by decide) (a1 : n1 ≠ "__name__" := by decide) (b1 : (n1 == ("__debug__" : Str)) = false := by decide) (a2 : n2 ≠ "__name__" := by decide) (b2 : (n2 == ("__debug__" : Str)) = false := by decide)
    (h1 : starEach [e, .Tuple [.Name n0 q0, .Name n1 q1, .Name n2 q2] x1 q4] X.env = (false, eval e X.env) :: starEach [.Tuple [.Name n0 q0, .Name n1 q1, .Name n2 q2] x1 q4] X.env := by rfl)
    (h2 : starEach [.Tuple [.Name n0 q0, .Name n1 q1, .Name n2 q2] x1 q4] X.env = (false, eval (.Tuple [.Name n0 q0, .Name n1 q1, .Name n2 q2] x1 q4) X.env) :: starEach [] X.env := by rfl)
    (w0 : starEach [.Name n0 q0, .Name n1 q1, .Name n2 q2] X.env = (false, eval (.Name n0 q0) X.env) :: starEach [.Name n1 q1, .Name n2 q2] X.env := by rfl) (w1 : starEach [.Name n1 q1, .Name n2 q2] X.env = (false, eval (.Name n1 q1) X.env) :: starEach [.Name n2 q2] X.env := by rfl) (w2 : starEach [.Name n2 q2] X.env = (false, eval (.Name n2 q2) X.env) :: starEach [] X.env := by rfl)
    (hpl : (backTo pos (starEach [.Tuple [.Name n0 q0, .Name n1 q1, .Name n2 q2] x1 q4] X.env)).any (·.1) = false := by rfl) : DE X W (.Call (.Name "isinstance" p) [e, .Tuple [.Name n0 q0, .Name n1 q1, .Name n2 q2] x1 q4] [] pos) (tIsi3D c0 c1 c2 te) :=
  PEi (pe_callB call_isiT hg hm PyProof.Rows.boot_isinstance (pa_cons he (pa_cons (pe_tup (pa_cons (pe_bltn (v := .ty c0) g0 m0 v0 rfl a0 b0) (pa_cons (pe_bltn (v := .ty c1) g1 m1 v1 rfl a1 b1) (pa_cons (pe_bltn (v := .ty c2) g2 m2 v2 rfl a2 b2) pa_nil w2) w1) w0)) pa_nil h2) h1) (by decide) (by decide) h1 hpl) fun σ H Q ⟨C, en, Φ, Ψ, R0, h, hX, k⟩ => by
    refine ⟨C, en, _, Ψ, R0, h, hX, fun r en1 v H1 q R1 o1 s1 k1 n1 => ?_⟩
    cases ed : rd en1 r with
    | none => simp only [ed] at q
    | some d =>
      simp only [ed] at q
      refine ⟨by show 3 ≤ sizeLine; decide, fun tp htp => ?_⟩
      have R2 := R1.dropX.grow (same_new (o := HO.tup [V.ty c0, V.ty c1, V.ty c2]) htp)
      have ty : TyX X.K (upd H1 tp (.tup [V.ty c0, V.ty c1, V.ty c2])) v (.type (tyN d)) := ((o1.sq R1 ed).lift (same_new htp)).ty
      have kk : PySem.W.kitAny X.K (.type (tyN d)) [.type c0, .type c1, .type c2] = some ((isD c0 d || (isD c1 d || isD c2 d))) := by
        refine kitAny_cons (kit_ty (y0 d)) (fun e => ?_) (fun e => by rw [e, Bool.true_or])
        rw [e, Bool.false_or]
        refine kitAny_cons (kit_ty (y1 d)) (fun e => ?_) (fun e => by rw [e, Bool.true_or])
        rw [e, Bool.false_or]
        refine kitAny_cons (kit_ty (y2 d)) (fun e => ?_) (fun e => e)
        rw [e]
        exact kitAny_nil
      exact ⟨v, tp, _, _, _, _, rfl, upd_same, (.cons (.ty c0) (.cons (.ty c1) (.cons (.ty c2) .nil))), ty, kk, k _ en1 _ _ q R2 (.bl _) s1 (k1.trans s1 (Keep.same (same_new htp))) trivial⟩

/-! ### +, * whatever the sizes -/
def CMulA (i j : Int) : Prop := CMul i j ∨ CMulW i j
theorem op_mulA {X : Cx} : OpR X (binaryOp .Mult) (rI CMulA fun i j => .int (i * j)) := opI fun _ _ _ _ _ _ _ hc q => mul_int q (hc.elim CMul.ok CMulW.ok)
def gAdd : D → D → (Res → Prop) → Prop := fun x y Φ => match x, y with
  | .int i, .int j => Φ (.val (.int (i + j)))
  | .lst ds, .lst es => ds.length + es.length ≤ sizeLine ∧ ∀ p, Φ (.own p (.lst (ds ++ es)))
  | _, _ => False
theorem od_add {X : Cx} : OpD X (fun x y H Q => rI0 (fun i j => .int (i + j)) x y H Q ∨ rCatS X.K x y H Q) gAdd := by
  intro C σ H en x y v w Φ Q R1 hx hy h k
  cases x <;> cases y <;> try exact (show False from h).elim
  · exact .inl (od_I0 (X := X) (g := (· + ·)) C σ H en _ _ v w Φ Q R1 hx hy h k)
  · exact .inr (od_cat C σ H en _ _ v w Φ Q R1 hx hy h k)
section
variable {X : Cx} {W : WX} {a b c e : Expr} {ta tb tc te : TDe} {p pos p2 : Pos} {es : List Expr} {t : TDa}
theorem de_addA (ha : DE X W a ta) (hb : DE X W b tb) : DE X W (.BinOp a .Add b pos) (tOpD gAdd ta tb) := de_op (op_add.or op_catS) od_add ha hb
theorem de_mulA (ha : DE X W a ta) (hb : DE X W b tb) : DE X W (.BinOp a .Mult b pos) (tOpD (gII CMulA (· * ·)) ta tb) := de_op op_mulA od_II ha hb
theorem ca_tup : CaD X (fun xs H Q => ∃ p ys, xs = [.ref p] ∧ ((SqL X.K H p ys ∧ ∀ l, H l = none → Q (.ref l) (upd H l (.tup ys))) ∨ (SqT X.K H p ys ∧ Q (.ref p) H))) (fun xs Φ => match xs with
    | [.lst ds] => Φ (.val (.tup ds))
    | _ => False) := by
  intro C σ H en ds vs Φ Q R1 hs h k
  split at h
  · cases hs with
    | cons h1 h2 =>
      cases h2
      obtain ⟨a, ws, rfl, q1, q2⟩ := h1
      refine ⟨a, ws, rfl, .inl ⟨q1, fun l hl => ?_⟩⟩
      refine k _ _ _ h (R1.grow (same_new hl)) (.tup ⟨fun z => ?_, upd_same⟩ (RpA.mono (fun b u n q => ⟨n, same_new hl b u q⟩) _ _ q2)) (same_new hl) trivial
      obtain ⟨u, q⟩ := R1.mD z
      rw [hl] at q; cases q
  · exact h.elim
def gTupC : List D → (Res → Prop) → Prop := fun xs Φ => match xs with
    | [.lst ds] => Φ (.val (.tup ds))
    | _ => False
theorem de_tupc (hm : X.mg "tuple" = none) (ha : DA X W (e :: es) t) (hg : Gl X "tuple" := by rfl) (he : starEach (e :: es) X.env = (false, eval e X.env) :: starEach es X.env := by rfl) (hpl : (backTo pos (starEach es X.env)).any (·.1) = false := by rfl) :
    DE X W (.Call (.Name "tuple" p) (e :: es) [] pos) (tCaD gTupC t) := de_callTy call_tuple_of ca_tup hg hm (by decide +kernel) ha (by decide) (by decide) he hpl
end
/-! ### chains a < b < c of ints -/
def tChD (g h : Int → Int → Bool) (ta tb tc : TDe) : TDe := fun Ψ en Φ => ta Ψ en fun ra en1 => tb Ψ en1 fun rb en2 => match ra, rb with
  | .val (.int i), .val (.int j) => if g i j = true then tc Ψ en2 fun rc en3 => (match rc with
    | .val (.int k) => Φ (.val (.bl (h j k))) en3
    | _ => False) else Φ (.val (.bl false)) en2
  | _, _ => False
section
variable {X : Cx} {W : WX} {a b c : Expr} {ta tb tc : TDe} {pos : Pos} {op op' : CmpOp} {g h : Int → Int → Bool}
theorem chain_go {σ : L2.St} {H : Hp} {Q : VK} {K : PySem.W.Frag} (hh : lE K W (tChD g h ta tb tc) σ H Q) : tChain (rI0 fun i j => .bl (g i j)) (rI0 fun i j => .bl (h i j)) (lE K W ta) (lE K W tb) (lE K W tc) σ H Q := by
  obtain ⟨C, en, Φ, Ψ, R0, hT, hX, k⟩ := hh
  refine ⟨C, en, _, Ψ, R0, hT, hX, fun ra en1 v1 H1 h1 R1 o1 s1 k1 nn1 => ?_⟩
  refine ⟨C.ext ra, en1, _, Ψ, R1, h1, hX.ext, fun rb en2 v2 H2 h2 R2 o2 s2 k2 nn2 => ?_⟩
  split at h2
  · rename_i i j
    cases o1
    cases o2
    refine ⟨i, j, rfl, rfl, g i j, rfl, ?_⟩
    by_cases hg : g i j = true
    · rw [if_pos hg] at h2 ⊢
      refine ⟨C, en2, _, Ψ, R2, h2, hX, fun rc en3 v3 H3 h3 R3 o3 s3 k3 nn3 => ?_⟩
      split at h3
      · cases o3
        exact ⟨_, _, rfl, rfl, k _ en3 _ H3 h3 R3 (.bl _) ((s1.trans s2).trans s3) ((k1.trans s1 k2).trans (s1.trans s2) k3) trivial⟩
      · exact h3.elim
    · rw [if_neg hg] at h2 ⊢
      exact k _ en2 _ H2 h2 R2 (.bl _) (s1.trans s2) (k1.trans s1 k2) trivial
  · exact h2.elim
theorem de_chain (ho : OpR X (compareOp op) (rI0 fun i j => .bl (g i j))) (ho' : OpR X (compareOp op') (rI0 fun i j => .bl (h i j))) (ha : DE X W a ta) (hb : DE X W b tb) (hc : DE X W c tc)
    (hm : lastMarks [op, op'] [b, c] = false := by with_unfolding_all rfl) : DE X W (.Compare a [op, op'] [b, c] pos) (tChD g h ta tb tc) := PEi (pe_chain ho ho' ha hb hc hm) fun _ _ _ h => chain_go h
theorem dt_chain (ho : OpR X (compareOp op) (rI0 fun i j => .bl (g i j))) (ho' : OpR X (compareOp op') (rI0 fun i j => .bl (h i j))) (ha : DE X W a ta) (hb : DE X W b tb) (hc : DE X W c tc)
    (hm : lastMarks [op, op'] [b, c] = false := by with_unfolding_all rfl) : DT X W (.Compare a [op, op'] [b, c] pos) (tValD (tChD g h ta tb tc)) := PTi (pt_chain ho ho' ha hb hc hm) fun σ H Q hh => by
  obtain ⟨C, en, Φ, Ψ, R0, hT, hX, k⟩ := hh
  refine chain_go ⟨C, en, _, Ψ, R0, hT, hX, fun r en1 v1 H1 h1 R1 hold1 s1 k1 _ => ?_⟩
  cases r with
  | val d =>
    cases d <;> try exact (show False from h1).elim
    exact ⟨_, val_bl hold1, k _ en1 H1 h1 R1 s1 k1⟩
  | own => exact (show False from h1).elim
  | bor => exact (show False from h1).elim
end
/-! ### targets: a list's items; x = [.. for ..] -/
def tUnlG (n : Nat) (t : TDgs) : TDg := fun d en Φ => match d with
  | .lst ds => ds.length = n ∧ t ds en Φ
  | _ => False
section
variable {X : Cx} {S : List Nat} {tgs : List Expr} {u : TDgs} {pos : Pos}
theorem dg_unl {k n : Nat} (hc : X.calm = true) (h : DGs X S tgs u) (hn : (assignEach tgs X.env).length = n := by rfl) (hst : (assignEach tgs X.env).findIdx? (·.1) = none := by rfl) : DG X S (.Tuple tgs k pos) (tUnlG n u) :=
  PGi (pg_unl hc h hn hst) fun v σ H Q ⟨C, en, d, Φ, R1, hv, h, k⟩ => by
    cases d <;> try exact (show False from h).elim
    rename_i ds
    obtain ⟨hl, h⟩ := h
    cases hv with
    | lst h1 h2 => exact ⟨_, _, rfl, h1.sq, h2.length.trans hl, C, en, ds, Φ, R1, h2, h, k⟩
end
section
variable {X : Cx} {W : WX} {elt tg iter a : Expr} {ifs : List Expr} {scope : Scope} {own : List (Str × Nat)} {p pos spos : Pos} {ti te : TDe} {tG : TDg} {tt : TDt} {S : List Nat} {tR : TDa} {i : Nat} {y : Str} {py : Pos} {tl : TDe}
/-- the store of a comprehension's list: kept as it is (own), or let go (value) -/
theorem setD_go {t : TE} {Ds : Ends} {σ : L2.St} {H : Hp} (hl : ∀ σ H Q, lE X.K W tl σ H Q → t σ H Q) (h : lS X.K W (tSetD i tl) Ds σ H) : tAsg t (gName i) Ds σ H := by
  obtain ⟨C, en, De, R1, h, k⟩ := h
  refine hl _ _ _ ⟨C, en, _, De.ex, R1, h, k.x σ, fun r en' v H' q R' o' _ _ _ => ?_⟩
  cases r with
  | val d => exact k.nx _ _ H' q (R.setV R' o')
  | own a d =>
    obtain ⟨rfl, h1, h2, h3⟩ := o'
    exact k.nx _ _ H' q (R.setO R' h1 h2 h3)
  | bor i => exact (show False from q).elim
theorem setV_go {t : TE} {Ds : Ends} {σ : L2.St} {H : Hp} (hl : ∀ σ H Q, lE X.K W tl σ H Q → t σ H Q) (h : lS X.K W (tSetV i tl) Ds σ H) : tAsg t (gName i) Ds σ H := by
  obtain ⟨C, en, De, R1, h, k⟩ := h
  refine hl _ _ _ ⟨C, en, _, De.ex, R1, h, k.x σ, fun r en' v H' q R' o' _ _ _ => ?_⟩
  cases e : vl r with
  | none => simp only [e] at q
  | some d =>
    simp only [e] at q
    exact k.nx _ _ H' q (R'.dropX.setV (o'.rp R' e))
theorem ds_setDlcL (hc : X.calm = true) (hN : X.N.Nodup) (hy : X.N[i]? = some y) (hyl : X.env.scope.names.lookup y = some .local) (hsw : swapsWith (.ListComp elt [⟨tg, iter, ifs, 0⟩] scope pos) (some (.Name y py)) spos.line X.env = pure true) (hi : DE X W iter ti) (ok : BlkOk X.N X.env.scope scope own)
    (hg : ∀ (s : Shared) (H : Hp) (C : Addr) (cl : List (Str × Addr)) (fp : List Addr), DG (X.blk s H scope (compEnvC scope cl C X.env) fp) S tg tG) (ht : ∀ (s : Shared) (H : Hp) (C : Addr) (cl : List (Str × Addr)) (fp : List Addr), DTs (X.blk s H scope (compEnvC scope cl C X.env) fp) W0 ifs tt)
    (he : ∀ (s : Shared) (H : Hp) (C : Addr) (cl : List (Str × Addr)) (fp : List Addr), DE (X.blk s H scope (compEnvC scope cl C X.env) fp) W0 elt te) (hS : ∀ j, j ∈ S → j ∈ own.map (·.2) := by decide) (hs : ∀ x, foldedSetIterable iter X.env x = pure x := by intro _; rfl) :
    DS X W (.Assign [.Name y py] (.ListComp elt [⟨tg, iter, ifs, 0⟩] scope pos) spos) (tSetD i (tLcL ti tG tt te (own.map (·.2)))) :=
  PSi (ps_setLc (g := lG X.K S tG) (tt := lT X.K W0 tt) (te := lE X.K W0 te) hc hN hy hyl hsw (pi_list hi) ok hg ht he hs) fun Ds σ H h => setD_go (fun _ _ _ h => lcL_go hS h) h
theorem ds_setDlcT (hc : X.calm = true) (hN : X.N.Nodup) (hy : X.N[i]? = some y) (hyl : X.env.scope.names.lookup y = some .local) (hsw : swapsWith (.ListComp elt [⟨tg, iter, ifs, 0⟩] scope pos) (some (.Name y py)) spos.line X.env = pure true) (hi : DE X W iter ti) (ok : BlkOk X.N X.env.scope scope own)
    (hg : ∀ (s : Shared) (H : Hp) (C : Addr) (cl : List (Str × Addr)) (fp : List Addr), DG (X.blk s H scope (compEnvC scope cl C X.env) fp) S tg tG) (ht : ∀ (s : Shared) (H : Hp) (C : Addr) (cl : List (Str × Addr)) (fp : List Addr), DTs (X.blk s H scope (compEnvC scope cl C X.env) fp) W0 ifs tt)
    (he : ∀ (s : Shared) (H : Hp) (C : Addr) (cl : List (Str × Addr)) (fp : List Addr), DE (X.blk s H scope (compEnvC scope cl C X.env) fp) W0 elt te) (hS : ∀ j, j ∈ S → j ∈ own.map (·.2) := by decide) (hs : ∀ x, foldedSetIterable iter X.env x = pure x := by intro _; rfl) :
    DS X W (.Assign [.Name y py] (.ListComp elt [⟨tg, iter, ifs, 0⟩] scope pos) spos) (tSetD i (tLcT ti tG tt te (own.map (·.2)))) :=
  PSi (ps_setLc (g := lG X.K S tG) (tt := lT X.K W0 tt) (te := lE X.K W0 te) hc hN hy hyl hsw (pi_tup hi) ok hg ht he hs) fun Ds σ H h => setD_go (fun _ _ _ h => lcT_go hS h) h
theorem ds_setDlcR1 (hm : X.mg "range" = none) (hc : X.calm = true) (hN : X.N.Nodup) (hy : X.N[i]? = some y) (hyl : X.env.scope.names.lookup y = some .local) {p2 : Pos} (hsw : swapsWith (.ListComp elt [⟨tg, (.Call (.Name "range" p) [a] [] p2), ifs, 0⟩] scope pos) (some (.Name y py)) spos.line X.env = pure true) (ha : DA X W [a] tR) (ok : BlkOk X.N X.env.scope scope own)
    (hg : ∀ (s : Shared) (H : Hp) (C : Addr) (cl : List (Str × Addr)) (fp : List Addr), DG (X.blk s H scope (compEnvC scope cl C X.env) fp) S tg tG) (ht : ∀ (s : Shared) (H : Hp) (C : Addr) (cl : List (Str × Addr)) (fp : List Addr), DTs (X.blk s H scope (compEnvC scope cl C X.env) fp) W0 ifs tt)
    (he : ∀ (s : Shared) (H : Hp) (C : Addr) (cl : List (Str × Addr)) (fp : List Addr), DE (X.blk s H scope (compEnvC scope cl C X.env) fp) W0 elt te) (hS : ∀ j, j ∈ S → j ∈ own.map (·.2) := by decide) (hG : Gl X "range" := by rfl) (h1 : starEach [a] X.env = [(false, eval a X.env)] := by rfl) (hs : ∀ x, foldedSetIterable (.Call (.Name "range" p) [a] [] p2) X.env x = pure x := by intro _; rfl) :
    DS X W (.Assign [.Name y py] (.ListComp elt [⟨tg, (.Call (.Name "range" p) [a] [] p2), ifs, 0⟩] scope pos) spos) (tSetD i (tLcR1 tR tG tt te (own.map (·.2)))) :=
  PSi (ps_setLc (g := lG X.K S tG) (tt := lT X.K W0 tt) (te := lE X.K W0 te) hc hN hy hyl hsw (pi_range1 hG hm ha h1) ok hg ht he hs) fun Ds σ H h => setD_go (fun _ _ _ h => lcR1_go hS h) h
theorem ds_setVlcL (hc : X.calm = true) (hN : X.N.Nodup) (hy : X.N[i]? = some y) (hyl : X.env.scope.names.lookup y = some .local) (hsw : swapsWith (.ListComp elt [⟨tg, iter, ifs, 0⟩] scope pos) (some (.Name y py)) spos.line X.env = pure true) (hi : DE X W iter ti) (ok : BlkOk X.N X.env.scope scope own)
    (hg : ∀ (s : Shared) (H : Hp) (C : Addr) (cl : List (Str × Addr)) (fp : List Addr), DG (X.blk s H scope (compEnvC scope cl C X.env) fp) S tg tG) (ht : ∀ (s : Shared) (H : Hp) (C : Addr) (cl : List (Str × Addr)) (fp : List Addr), DTs (X.blk s H scope (compEnvC scope cl C X.env) fp) W0 ifs tt)
    (he : ∀ (s : Shared) (H : Hp) (C : Addr) (cl : List (Str × Addr)) (fp : List Addr), DE (X.blk s H scope (compEnvC scope cl C X.env) fp) W0 elt te) (hS : ∀ j, j ∈ S → j ∈ own.map (·.2) := by decide) (hs : ∀ x, foldedSetIterable iter X.env x = pure x := by intro _; rfl) :
    DS X W (.Assign [.Name y py] (.ListComp elt [⟨tg, iter, ifs, 0⟩] scope pos) spos) (tSetV i (tLcL ti tG tt te (own.map (·.2)))) :=
  PSi (ps_setLc (g := lG X.K S tG) (tt := lT X.K W0 tt) (te := lE X.K W0 te) hc hN hy hyl hsw (pi_list hi) ok hg ht he hs) fun Ds σ H h => setV_go (fun _ _ _ h => lcL_go hS h) h
theorem ds_setVlcT (hc : X.calm = true) (hN : X.N.Nodup) (hy : X.N[i]? = some y) (hyl : X.env.scope.names.lookup y = some .local) (hsw : swapsWith (.ListComp elt [⟨tg, iter, ifs, 0⟩] scope pos) (some (.Name y py)) spos.line X.env = pure true) (hi : DE X W iter ti) (ok : BlkOk X.N X.env.scope scope own)
    (hg : ∀ (s : Shared) (H : Hp) (C : Addr) (cl : List (Str × Addr)) (fp : List Addr), DG (X.blk s H scope (compEnvC scope cl C X.env) fp) S tg tG) (ht : ∀ (s : Shared) (H : Hp) (C : Addr) (cl : List (Str × Addr)) (fp : List Addr), DTs (X.blk s H scope (compEnvC scope cl C X.env) fp) W0 ifs tt)
    (he : ∀ (s : Shared) (H : Hp) (C : Addr) (cl : List (Str × Addr)) (fp : List Addr), DE (X.blk s H scope (compEnvC scope cl C X.env) fp) W0 elt te) (hS : ∀ j, j ∈ S → j ∈ own.map (·.2) := by decide) (hs : ∀ x, foldedSetIterable iter X.env x = pure x := by intro _; rfl) :
    DS X W (.Assign [.Name y py] (.ListComp elt [⟨tg, iter, ifs, 0⟩] scope pos) spos) (tSetV i (tLcT ti tG tt te (own.map (·.2)))) :=
  PSi (ps_setLc (g := lG X.K S tG) (tt := lT X.K W0 tt) (te := lE X.K W0 te) hc hN hy hyl hsw (pi_tup hi) ok hg ht he hs) fun Ds σ H h => setV_go (fun _ _ _ h => lcT_go hS h) h
theorem ds_setVlcR1 (hm : X.mg "range" = none) (hc : X.calm = true) (hN : X.N.Nodup) (hy : X.N[i]? = some y) (hyl : X.env.scope.names.lookup y = some .local) {p2 : Pos} (hsw : swapsWith (.ListComp elt [⟨tg, (.Call (.Name "range" p) [a] [] p2), ifs, 0⟩] scope pos) (some (.Name y py)) spos.line X.env = pure true) (ha : DA X W [a] tR) (ok : BlkOk X.N X.env.scope scope own)
    (hg : ∀ (s : Shared) (H : Hp) (C : Addr) (cl : List (Str × Addr)) (fp : List Addr), DG (X.blk s H scope (compEnvC scope cl C X.env) fp) S tg tG) (ht : ∀ (s : Shared) (H : Hp) (C : Addr) (cl : List (Str × Addr)) (fp : List Addr), DTs (X.blk s H scope (compEnvC scope cl C X.env) fp) W0 ifs tt)
    (he : ∀ (s : Shared) (H : Hp) (C : Addr) (cl : List (Str × Addr)) (fp : List Addr), DE (X.blk s H scope (compEnvC scope cl C X.env) fp) W0 elt te) (hS : ∀ j, j ∈ S → j ∈ own.map (·.2) := by decide) (hG : Gl X "range" := by rfl) (h1 : starEach [a] X.env = [(false, eval a X.env)] := by rfl) (hs : ∀ x, foldedSetIterable (.Call (.Name "range" p) [a] [] p2) X.env x = pure x := by intro _; rfl) :
    DS X W (.Assign [.Name y py] (.ListComp elt [⟨tg, (.Call (.Name "range" p) [a] [] p2), ifs, 0⟩] scope pos) spos) (tSetV i (tLcR1 tR tG tt te (own.map (·.2)))) :=
  PSi (ps_setLc (g := lG X.K S tG) (tt := lT X.K W0 tt) (te := lE X.K W0 te) hc hN hy hyl hsw (pi_range1 hG hm ha h1) ok hg ht he hs) fun Ds σ H h => setV_go (fun _ _ _ h => lcR1_go hS h) h
end
end VS

namespace VS
open PySem L2 PySem.Spec PyProof.Rows
abbrev q0 (sp : Spc) : Spc := fun a Φ _ => sp a Φ fun _ _ => False
/-- a def of the text that keeps its promise, as its callers want it -/
structure Cal (P : Program) (w : World) (K : PySem.W.Frag) (mg : Str → Option Value) (base : Heap) (CX : CXT) (k n : Nat) (sp : Spc) (x : Str) (f : Addr) (fd : FuncData) (ps : List Str) : Prop where
  F : FnOk P w K mg base CX k f fd ps (lSp K n sp)
  m : mg x = some (.ref f)
  kp : PySem.W.keepIn K (.ref f) = true
  b : Binds K fd ps []
section
variable {X : Cx} {W : WX} {j k n : Nat} {f : Addr} {fd : FuncData} {ps : List Str} {sp : Spc} {x : Str} {p pos : Pos} {e : Expr} {es : List Expr} {t : TDa}
theorem dc (G : Cal X.prog X.w X.K X.mg X.base CX0 j n sp x f fd ps) (hr : Room k X.A) (ha : DA X W (e :: es) t) (hj : j ≤ k := by decide) (hg : Gl X x := by rfl) (hdb : (x == ("__debug__" : Str)) = false := by decide)
    (he : starEach (e :: es) X.env = (false, eval e X.env) :: starEach es X.env := by rfl) (hpl : (backTo pos (starEach es X.env)).any (·.1) = false := by rfl) : DE X W (.Call (.Name x p) (e :: es) [] pos) (tCallD n (q0 sp) t) :=
  de_call G.F (hr.mono hj) hg G.m G.kp G.b ha hdb he hpl
theorem dcQ (G : Cal X.prog X.w X.K X.mg X.base (L2.CX X.prog X.w) j n sp x f fd ps) (hr : Room k X.A) (ha : DA X W (e :: es) t) (hj : j ≤ k := by decide) (hg : Gl X x := by rfl) (hdb : (x == ("__debug__" : Str)) = false := by decide)
    (he : starEach (e :: es) X.env = (false, eval e X.env) :: starEach es X.env := by rfl) (hpl : (backTo pos (starEach es X.env)).any (·.1) = false := by rfl) : DE X W (.Call (.Name x p) (e :: es) [] pos) (tCallD n (q0 sp) t) :=
  de_callQ G.F (hr.mono hj) hg G.m G.kp G.b ha hdb he hpl
theorem dcX (G : Cal X.prog X.w X.K X.mg X.base (L2.CX X.prog X.w) j n sp x f fd ps) (tk : Takes X W) (hr : Room k X.A) (ha : DA X W (e :: es) t) (hj : j ≤ k := by decide) (hg : Gl X x := by rfl) (hdb : (x == ("__debug__" : Str)) = false := by decide)
    (he : starEach (e :: es) X.env = (false, eval e X.env) :: starEach es X.env := by rfl) (hpl : (backTo pos (starEach es X.env)).any (·.1) = false := by rfl) : DE X W (.Call (.Name x p) (e :: es) [] pos) (tCallD n sp t) :=
  de_callX G.F (hr.mono hj) hg G.m G.kp G.b tk ha hdb he hpl
theorem dm_append {i : Nat} {o : Expr} {apos cpos : Pos} {tR : TDa} (ho : PE X o (tVar i)) (ha : DA X W (e :: es) tR) (hbase : attributeBase o "append" X.env (eval o X.env) = eval o X.env := by rfl)
    (hfew : ((backTo cpos (starEach (e :: es) X.env)).all (fun x => !x.1) && (backToKw cpos (keywordEach [] X.env)).all (fun x => x.1.isSome)
      && decide ((e :: es).length + ([] : List Keyword).length + (if ([] : List Keyword).isEmpty then 0 else 1) < 30)) = true := by rfl)
    (hline : (apos.endLine == cpos.line) = true := by rfl) (hs : starEach (e :: es) X.env = (false, eval e X.env) :: starEach es X.env := by rfl) (hplain : (backTo cpos (starEach es X.env)).any (·.1) = false := by rfl) :
    DE X W (.Call (.Attribute o "append" apos) (e :: es) [] cpos) (tMetD i mAppend tR) := de_met PySem.F.slot_list_append PySem.F.type_list_append mt_append me_append ho ha hbase hfew hline hs hplain
theorem dm_popAt {i : Nat} {o : Expr} {apos cpos : Pos} {tR : TDa} (ho : PE X o (tVar i)) (ha : DA X W (e :: es) tR) (hbase : attributeBase o "pop" X.env (eval o X.env) = eval o X.env := by rfl)
    (hfew : ((backTo cpos (starEach (e :: es) X.env)).all (fun x => !x.1) && (backToKw cpos (keywordEach [] X.env)).all (fun x => x.1.isSome)
      && decide ((e :: es).length + ([] : List Keyword).length + (if ([] : List Keyword).isEmpty then 0 else 1) < 30)) = true := by rfl)
    (hline : (apos.endLine == cpos.line) = true := by rfl) (hs : starEach (e :: es) X.env = (false, eval e X.env) :: starEach es X.env := by rfl) (hplain : (backTo cpos (starEach es X.env)).any (·.1) = false := by rfl) :
    DE X W (.Call (.Attribute o "pop" apos) (e :: es) [] cpos) (tMetD i mPopAt tR) := de_met PySem.F.slot_list_pop PySem.F.type_list_pop mt_popAt me_popAt ho ha hbase hfew hline hs hplain
theorem dm_insert {i : Nat} {o : Expr} {apos cpos : Pos} {tR : TDa} (ho : PE X o (tVar i)) (ha : DA X W (e :: es) tR) (hbase : attributeBase o "insert" X.env (eval o X.env) = eval o X.env := by rfl)
    (hfew : ((backTo cpos (starEach (e :: es) X.env)).all (fun x => !x.1) && (backToKw cpos (keywordEach [] X.env)).all (fun x => x.1.isSome)
      && decide ((e :: es).length + ([] : List Keyword).length + (if ([] : List Keyword).isEmpty then 0 else 1) < 30)) = true := by rfl)
    (hline : (apos.endLine == cpos.line) = true := by rfl) (hs : starEach (e :: es) X.env = (false, eval e X.env) :: starEach es X.env := by rfl) (hplain : (backTo cpos (starEach es X.env)).any (·.1) = false := by rfl) :
    DE X W (.Call (.Attribute o "insert" apos) (e :: es) [] cpos) (tMetD i mInsert tR) := de_met PySem.F.slot_list_insert PySem.F.type_list_insert mt_insert me_insert ho ha hbase hfew hline hs hplain
theorem dm_pop {i : Nat} {o : Expr} {apos cpos : Pos} (ho : PE X o (tVar i)) (hbase : attributeBase o "pop" X.env (eval o X.env) = eval o X.env := by rfl) (hline : (apos.endLine == cpos.line) = true := by rfl) :
    DE X W (.Call (.Attribute o "pop" apos) [] [] cpos) (tMetD i mPop tNilD) := de_met0 PySem.F.slot_list_pop PySem.F.type_list_pop mt_pop me_pop ho hbase hline
theorem dm_reverse {i : Nat} {o : Expr} {apos cpos : Pos} (ho : PE X o (tVar i)) (hbase : attributeBase o "reverse" X.env (eval o X.env) = eval o X.env := by rfl) (hline : (apos.endLine == cpos.line) = true := by rfl) :
    DE X W (.Call (.Attribute o "reverse" apos) [] [] cpos) (tMetD i mReverse tNilD) := de_met0 PySem.F.slot_list_reverse PySem.F.type_list_reverse mt_reverse me_reverse ho hbase hline
end
end VS

namespace VS
open PySem L2 PySem.Spec PyProof.Rows
/-! ### plain facts for the readings -/
theorem atI0 {α : Type} (x : α) (xs : List α) : atI (x :: xs) 0 = some x := atI_nat (j := 0) rfl
theorem atI1 {α : Type} (x y : α) (xs : List α) : atI (x :: y :: xs) 1 = some y := atI_nat (j := 1) rfl
theorem atI2 {α : Type} (x y z : α) (xs : List α) : atI (x :: y :: z :: xs) 2 = some z := atI_nat (j := 2) rfl
theorem atI3 {α : Type} (x y z u : α) (xs : List α) : atI (x :: y :: z :: u :: xs) 3 = some u := atI_nat (j := 3) rfl
theorem atI4 {α : Type} (x y z u v : α) (xs : List α) : atI (x :: y :: z :: u :: v :: xs) 4 = some v := atI_nat (j := 4) rfl
theorem ixN51 : ixN 5 1 = some 1 := by decide
theorem ixN52 : ixN 5 2 = some 2 := by decide
theorem ixN53 : ixN 5 3 = some 3 := by decide
theorem ixN54 : ixN 5 4 = some 4 := by decide
theorem atI_int {α : Type} {xs : List α} {i : Int} {v : α} (h0 : 0 ≤ i) (h : xs[i.toNat]? = some v) : atI xs i = some v := by
  have e : i = (i.toNat : Int) := by omega
  rw [e]
  exact atI_nat h
theorem atI_neg1 {α : Type} {xs : List α} {v : α} (h : xs[xs.length - 1]? = some v) : atI xs (-1) = some v := by
  have hl := (List.getElem?_eq_some_iff.mp h).1
  unfold atI ixN
  rw [if_neg (by omega), if_pos (by omega)]
  have : (-1 + (xs.length : Int)).toNat = xs.length - 1 := by omega
  simp only [Option.bind_some, this, h]
theorem mulR {i j : Int} (h1 : -(2 ^ 64) < j) (h2 : j < 2 ^ 64) : CMulA i j := .inl (.inr ⟨h1, h2⟩)
theorem mulL {i j : Int} (h1 : -(2 ^ 64) < i) (h2 : i < 2 ^ 64) : CMulA i j := .inl (.inl ⟨h1, h2⟩)
theorem mulB {i j : Int} (a b : Nat) (ha : i.natAbs < 2 ^ a) (hb : j.natAbs < 2 ^ b) (h0 : 0 < a := by decide) (h1 : 0 < b := by decide) (h : a + b ≤ 1000000 := by decide) : CMulA i j := .inr (wide_mul ha hb h0 h1 h)
theorem divB {i j : Int} (h : 0 < j) (hb : j < 2 ^ 63) : CDivW i j := wide_div (b := 63) h (by omega) (by decide) (by decide)
theorem pow3 {i : Int} (h : i.natAbs < 2 ^ 64) : CPow i 3 := ⟨by decide, by decide, h⟩
theorem pow1018 : CPow 10 18 := ⟨by decide, by decide, by decide⟩
theorem get_map {α β : Type} {f : α → β} {xs : List α} {i : Nat} {d : β} (h : (xs.map f)[i]? = some d) : ∃ x, xs[i]? = some x ∧ d = f x := by
  rw [List.getElem?_map] at h
  cases e : xs[i]? with
  | none => rw [e] at h; cases h
  | some x => rw [e] at h; exact ⟨x, rfl, (Option.some.inj h).symm⟩
def cutG {α : Type} (xs : List α) (lo hi : Option Int) : List α := (xs.drop (HT.sIx xs.length 0 lo)).take (HT.sIx xs.length xs.length hi - HT.sIx xs.length 0 lo)
theorem cut_map {α : Type} (f : α → D) (xs : List α) (lo hi : Option Int) : cutD (xs.map f) lo hi = (cutG xs lo hi).map f := by
  unfold cutD cutG
  rw [List.length_map, List.map_take, List.map_drop]
theorem cutG_len {α : Type} (xs : List α) (lo hi : Option Int) : (cutG xs lo hi).length ≤ xs.length := by
  unfold cutG
  rw [List.length_take, List.length_drop]
  omega
theorem sz1000 {n : Nat} (h : n ≤ 1000000) : n ≤ sizeLine := Nat.le_trans h (by decide)
theorem sz1001 {n : Nat} (h : n ≤ 1000000) : n < sizeLine := Nat.lt_of_le_of_lt h (by decide)
abbrev XN : Xc → List D → Prop := fun _ _ => False
/-! ### the law's bag -/
def bagD (ns : List Int) (i b m c : Int) : D := .lst [.lst (ns.map D.int), .int i, .int b, .int m, .int c]
def BagOk (d : D) : Prop := ∃ ns i b m c, d = bagD ns i b m c ∧ 0 ≤ i ∧ 0 ≤ b ∧ 0 ≤ m ∧ m < 2147483648
def sp__law_bag : Spc := fun args Φ _ => ∃ ns : List Int, args = [.val (.lst (ns.map D.int))] ∧ ∀ p d, BagOk d → Φ (.own p d) []
def sp__law_draw : Spc := fun args Φ _ => ∃ a d size, args = [.own a d, .val (.int size)] ∧ BagOk d ∧ 0 < size ∧ size < 2 ^ 62 ∧ ∀ k d', 0 ≤ k → k < size → BagOk d' → Φ (.val (.int k)) [d']
def sp__law_of : Spc := fun args Φ _ => ∃ a d ds, args = [.own a d, .val (.lst ds)] ∧ BagOk d ∧ ds ≠ [] ∧ ds.length < 2 ^ 62 ∧ ∀ x d', x ∈ ds → BagOk d' → Φ (.val x) [d']
/-! ### what compares as itself -/
mutual
def okD : D → Bool
  | .non => true
  | .bl _ => true
  | .int _ => true
  | .str x => SeqAt.shaped (.str x)
  | .tup xs => okDs xs && decide (xs.length ≤ 1000000)
  | .lst xs => okDs xs && decide (xs.length ≤ 1000000)
  | .dct _ _ _ => false
def okDs : List D → Bool
  | [] => true
  | d :: ds => okD d && okDs ds
end
mutual
def depD : D → Nat
  | .tup xs => depDs xs + 1
  | .lst xs => depDs xs + 1
  | _ => 0
def depDs : List D → Nat
  | [] => 0
  | d :: ds => max (depD d) (depDs ds)
end
/-- _law_like(d, d), n deep at most -/
def sp__law_like (n : Nat) : Spc := fun args Φ _ => ∃ d, args = [.val d, .val d] ∧ okD d = true ∧ depD d ≤ n ∧ Φ (.val (.bl true)) []
/-- what it promises of its own call, one level down -/
def spL__law_like : Nat → Spc
  | 0 => fun _ _ _ => False
  | n + 1 => sp__law_like n
theorem okDs_get : ∀ {ds : List D} {i : Nat} {d : D}, okDs ds = true → ds[i]? = some d → okD d = true
  | [], _, _, _, h => by simp at h
  | x :: r, 0, d, h, e => by
    simp only [List.getElem?_cons_zero, Option.some.injEq] at e
    subst e
    simp only [okDs, Bool.and_eq_true] at h
    exact h.1
  | x :: r, i + 1, d, h, e => by
    simp only [okDs, Bool.and_eq_true] at h
    exact okDs_get h.2 (by simpa using e)
theorem depDs_get : ∀ {ds : List D} {i : Nat} {d : D}, ds[i]? = some d → depD d ≤ depDs ds
  | [], _, _, h => by simp at h
  | x :: r, 0, d, e => by
    simp only [List.getElem?_cons_zero, Option.some.injEq] at e
    subst e
    simp only [depDs]
    omega
  | x :: r, i + 1, d, e => by
    have := depDs_get (ds := r) (i := i) (by simpa using e)
    simp only [depDs]
    omega
theorem okDs_map {α : Type} {f : α → D} {xs : List α} (h : ∀ x ∈ xs, okD (f x) = true) : okDs (xs.map f) = true := by
  induction xs with
  | nil => rfl
  | cons x r ih => simp only [List.map_cons, okDs, Bool.and_eq_true]; exact ⟨h x List.mem_cons_self, ih fun y hy => h y (List.mem_cons_of_mem _ hy)⟩
theorem depDs_map {α : Type} {f : α → D} {xs : List α} {n : Nat} (h : ∀ x ∈ xs, depD (f x) ≤ n) : depDs (xs.map f) ≤ n := by
  induction xs with
  | nil => exact Nat.zero_le _
  | cons x r ih =>
    have h1 := h x List.mem_cons_self
    have h2 := ih fun y hy => h y (List.mem_cons_of_mem _ hy)
    simp only [List.map_cons, depDs]
    omega
end VS

namespace VS
open PySem L2 PySem.Spec PyProof.Rows
/-! ### loops ahead of a rest: the invariant first, the text after -/
section
variable {ta : TDe} {ts : TDa} {tg : TDg} {tb u : TDs} {De : Ed} {en en1 : En} {n lo : Int} {ds : List D}
theorem forR1_i (J : Nat → En → Prop) (hta : ∀ Φ : List Res → En → Prop, Φ [.val (.int n)] en1 → ts De.ex en Φ) (l1 : -(2 ^ 62) ≤ n) (l2 : n < 2 ^ 62) (j0 : J 0 en1)
    (step : ∀ (i : Nat) en, (i : Int) < n → J i en → tg (.int i) en fun en2 => tb { De with nx := J (i + 1), ct := J (i + 1), bk := De.nx } en2) (fin : ∀ en, J n.toNat en → De.nx en) : tForR1 ts tg tb De en :=
  hta _ ⟨l1, l2, J, j0, step, fin⟩
theorem forR1_w (Pn : Int → En → Prop) (J : Nat → En → Prop) (hta : ∀ Φ : List Res → En → Prop, (∀ n en1, Pn n en1 → Φ [.val (.int n)] en1) → ts De.ex en Φ) (hb : ∀ n en1, Pn n en1 → -(2 ^ 62) ≤ n ∧ n < 2 ^ 62) (j0 : ∀ n en1, Pn n en1 → J 0 en1)
    (step : ∀ (n : Int) (e1 : En) (i : Nat) (en : En), Pn n e1 → (i : Int) < n → J i en → tg (.int i) en fun en2 => tb { De with nx := J (i + 1), ct := J (i + 1), bk := De.nx } en2) (fin : ∀ n e1 en, Pn n e1 → J n.toNat en → De.nx en) : tForR1 ts tg tb De en :=
  hta _ fun n en1 hP => ⟨(hb n en1 hP).1, (hb n en1 hP).2, J, j0 n en1 hP, fun i en hi hj => step n en1 i en hP hi hj, fun en hj => fin n en1 en hP hj⟩
theorem forR2_i (J : Nat → En → Prop) (hta : ∀ Φ : List Res → En → Prop, Φ [.val (.int lo), .val (.int n)] en1 → ts De.ex en Φ) (l1 : -(2 ^ 62) ≤ lo) (l2 : lo < 2 ^ 62) (l3 : -(2 ^ 62) ≤ n) (l4 : n < 2 ^ 62) (j0 : J 0 en1)
    (step : ∀ (i : Nat) en, lo + (i : Int) < n → J i en → tg (.int (lo + i)) en fun en2 => tb { De with nx := J (i + 1), ct := J (i + 1), bk := De.nx } en2) (fin : ∀ en, J (n - lo).toNat en → De.nx en) : tForR2 ts tg tb De en :=
  hta _ ⟨l1, l2, l3, l4, J, j0, step, fin⟩
theorem forL_i (J : Nat → En → Prop) (hta : ∀ Φ : Res → En → Prop, Φ (.val (.lst ds)) en1 → ta De.ex en Φ) (j0 : J 0 en1)
    (step : ∀ (i : Nat) d en, ds[i]? = some d → J i en → tg d en fun en2 => tb { De with nx := J (i + 1), ct := J (i + 1), bk := De.nx } en2) (fin : ∀ en, J ds.length en → De.nx en) : tForLD ta tg tb De en :=
  hta _ ⟨J, j0, step, fin⟩
theorem forLo_i (J : Nat → En → Prop) (hta : ∀ Φ : Res → En → Prop, (∀ p, Φ (.own p (.lst ds)) en1) → ta De.ex en Φ) (j0 : J 0 en1)
    (step : ∀ (i : Nat) d en, ds[i]? = some d → J i en → tg d en fun en2 => tb { De with nx := J (i + 1), ct := J (i + 1), bk := De.nx } en2) (fin : ∀ en, J ds.length en → De.nx en) : tForLD ta tg tb De en :=
  hta _ fun _ => ⟨J, j0, step, fin⟩
theorem forT_i (J : Nat → En → Prop) (hta : ∀ Φ : Res → En → Prop, Φ (.val (.tup ds)) en1 → ta De.ex en Φ) (j0 : J 0 en1)
    (step : ∀ (i : Nat) d en, ds[i]? = some d → J i en → tg d en fun en2 => tb { De with nx := J (i + 1), ct := J (i + 1), bk := De.nx } en2) (fin : ∀ en, J ds.length en → De.nx en) : tForTD ta tg tb De en :=
  hta _ ⟨J, j0, step, fin⟩
end
section
variable {ti : TDe} {ts : TDa} {tG : TDg} {tt : TDt} {te : TDe} {vs : List Nat} {Ψ : Px} {en en1 : En} {Φ : Res → En → Prop} {n : Int} {ds : List D}
theorem lcL_i (J : Nat → List D → En → Prop) (hti : ∀ Φ : Res → En → Prop, Φ (.val (.lst ds)) en1 → ti Ψ en Φ) (hw : wipeD en1 vs = en1) (j0 : J 0 [] en1)
    (step : ∀ i d acc en, ds[i]? = some d → J i acc en → lcStep tG tt te vs (J (i + 1)) d acc en) (fin : ∀ acc en2 p, J ds.length acc en2 → Φ (.own p (.lst acc)) en2) : tLcL ti tG tt te vs Ψ en Φ :=
  hti _ ⟨hw, J, j0, step, fin⟩
theorem lcT_i (J : Nat → List D → En → Prop) (hti : ∀ Φ : Res → En → Prop, Φ (.val (.tup ds)) en1 → ti Ψ en Φ) (hw : wipeD en1 vs = en1) (j0 : J 0 [] en1)
    (step : ∀ i d acc en, ds[i]? = some d → J i acc en → lcStep tG tt te vs (J (i + 1)) d acc en) (fin : ∀ acc en2 p, J ds.length acc en2 → Φ (.own p (.lst acc)) en2) : tLcT ti tG tt te vs Ψ en Φ :=
  hti _ ⟨hw, J, j0, step, fin⟩
theorem lcR1_i (J : Nat → List D → En → Prop) (hti : ∀ Φ : List Res → En → Prop, Φ [.val (.int n)] en1 → ts Ψ en Φ) (l1 : -(2 ^ 62) ≤ n) (l2 : n < 2 ^ 62) (hw : wipeD en1 vs = en1) (j0 : J 0 [] en1)
    (step : ∀ (i : Nat) acc en, (i : Int) < n → J i acc en → lcStep tG tt te vs (J (i + 1)) (.int i) acc en) (fin : ∀ acc en2 p, J n.toNat acc en2 → Φ (.own p (.lst acc)) en2) : tLcR1 ts tG tt te vs Ψ en Φ :=
  hti _ ⟨l1, l2, hw, J, j0, step, fin⟩
/-- a comprehension without a test whose elements are read off one by one -/
theorem lcL_map {f : D → D} (hl : ds.length ≤ 1000000) (hti : ∀ Φ : Res → En → Prop, Φ (.val (.lst ds)) en → ti Ψ en Φ) (hw : wipeD en vs = en)
    (step : ∀ d acc (J : List D → En → Prop), d ∈ ds → acc.length < sizeLine → J (acc ++ [f d]) en → lcStep tG tt te vs J d acc en) (fin : ∀ p, Φ (.own p (.lst (ds.map f))) en) : tLcL ti tG tt te vs Ψ en Φ :=
  lcL_i (fun i acc e => e = en ∧ acc = (ds.take i).map f) hti hw ⟨rfl, rfl⟩ (fun i d acc e hd ⟨h1, h2⟩ => by
    subst h1 h2
    have hi := (List.getElem?_eq_some_iff.mp hd).1
    refine step d _ _ (List.mem_of_getElem? hd) (sz1001 (by rw [List.length_map, List.length_take]; omega)) ⟨rfl, ?_⟩
    rw [List.take_succ, hd]
    simp) (fun acc e p ⟨h1, h2⟩ => by subst h1 h2; rw [List.take_length]; exact fin p)
theorem lcR1_map {f : Nat → D} {m : Nat} (hl : m ≤ 1000000) (hti : ∀ Φ : List Res → En → Prop, Φ [.val (.int m)] en → ts Ψ en Φ) (hw : wipeD en vs = en)
    (step : ∀ i acc (J : List D → En → Prop), i < m → acc.length < sizeLine → J (acc ++ [f i]) en → lcStep tG tt te vs J (.int i) acc en) (fin : ∀ p, Φ (.own p (.lst ((List.range m).map f))) en) : tLcR1 ts tG tt te vs Ψ en Φ :=
  lcR1_i (fun i acc e => e = en ∧ acc = (List.range i).map f) hti (by omega) (by omega) hw ⟨rfl, rfl⟩ (fun i acc e hi ⟨h1, h2⟩ => by
    subst h1 h2
    refine step i _ _ (by omega) (sz1001 (by rw [List.length_map, List.length_range]; omega)) ⟨rfl, ?_⟩
    rw [List.range_succ]
    simp) (fun acc e p ⟨h1, h2⟩ => by subst h1 h2; exact fin p)
end
/-! ### isinstance of each kind -/
theorem isT_dict_non : isD "dict" .non = false := by dsimp only [isD, tyN]; decide +kernel
theorem isT_dict_bl (b : Bool) : isD "dict" (.bl b) = false := by dsimp only [isD, tyN]; decide +kernel
theorem isT_dict_int (i : Int) : isD "dict" (.int i) = false := by dsimp only [isD, tyN]; decide +kernel
theorem isT_dict_str (x : Str) : isD "dict" (.str x) = false := by dsimp only [isD, tyN]; decide +kernel
theorem isT_dict_tup (ds : List D) : isD "dict" (.tup ds) = false := by dsimp only [isD, tyN]; decide +kernel
theorem isT_dict_lst (ds : List D) : isD "dict" (.lst ds) = false := by dsimp only [isD, tyN]; decide +kernel
theorem isT_list_non : isD "list" .non = false := by dsimp only [isD, tyN]; decide +kernel
theorem isT_list_bl (b : Bool) : isD "list" (.bl b) = false := by dsimp only [isD, tyN]; decide +kernel
theorem isT_list_int (i : Int) : isD "list" (.int i) = false := by dsimp only [isD, tyN]; decide +kernel
theorem isT_list_str (x : Str) : isD "list" (.str x) = false := by dsimp only [isD, tyN]; decide +kernel
theorem isT_list_tup (ds : List D) : isD "list" (.tup ds) = false := by dsimp only [isD, tyN]; decide +kernel
theorem isT_list_lst (ds : List D) : isD "list" (.lst ds) = true := by dsimp only [isD, tyN]; decide +kernel
theorem isT_tuple_non : isD "tuple" .non = false := by dsimp only [isD, tyN]; decide +kernel
theorem isT_tuple_bl (b : Bool) : isD "tuple" (.bl b) = false := by dsimp only [isD, tyN]; decide +kernel
theorem isT_tuple_int (i : Int) : isD "tuple" (.int i) = false := by dsimp only [isD, tyN]; decide +kernel
theorem isT_tuple_str (x : Str) : isD "tuple" (.str x) = false := by dsimp only [isD, tyN]; decide +kernel
theorem isT_tuple_tup (ds : List D) : isD "tuple" (.tup ds) = true := by dsimp only [isD, tyN]; decide +kernel
theorem isT_tuple_lst (ds : List D) : isD "tuple" (.lst ds) = false := by dsimp only [isD, tyN]; decide +kernel
theorem isT_bool_non : isD "bool" .non = false := by dsimp only [isD, tyN]; decide +kernel
theorem isT_bool_bl (b : Bool) : isD "bool" (.bl b) = true := by dsimp only [isD, tyN]; decide +kernel
theorem isT_bool_int (i : Int) : isD "bool" (.int i) = false := by dsimp only [isD, tyN]; decide +kernel
theorem isT_bool_str (x : Str) : isD "bool" (.str x) = false := by dsimp only [isD, tyN]; decide +kernel
theorem isT_bool_tup (ds : List D) : isD "bool" (.tup ds) = false := by dsimp only [isD, tyN]; decide +kernel
theorem isT_bool_lst (ds : List D) : isD "bool" (.lst ds) = false := by dsimp only [isD, tyN]; decide +kernel
theorem isT_str_non : isD "str" .non = false := by dsimp only [isD, tyN]; decide +kernel
theorem isT_str_bl (b : Bool) : isD "str" (.bl b) = false := by dsimp only [isD, tyN]; decide +kernel
theorem isT_str_int (i : Int) : isD "str" (.int i) = false := by dsimp only [isD, tyN]; decide +kernel
theorem isT_str_str (x : Str) : isD "str" (.str x) = true := by dsimp only [isD, tyN]; decide +kernel
theorem isT_str_tup (ds : List D) : isD "str" (.tup ds) = false := by dsimp only [isD, tyN]; decide +kernel
theorem isT_str_lst (ds : List D) : isD "str" (.lst ds) = false := by dsimp only [isD, tyN]; decide +kernel
theorem isT_int_non : isD "int" .non = false := by dsimp only [isD, tyN]; decide +kernel
theorem isT_int_bl (b : Bool) : isD "int" (.bl b) = true := by dsimp only [isD, tyN]; decide +kernel
theorem isT_int_int (i : Int) : isD "int" (.int i) = true := by dsimp only [isD, tyN]; decide +kernel
theorem isT_int_str (x : Str) : isD "int" (.str x) = false := by dsimp only [isD, tyN]; decide +kernel
theorem isT_int_tup (ds : List D) : isD "int" (.tup ds) = false := by dsimp only [isD, tyN]; decide +kernel
theorem isT_int_lst (ds : List D) : isD "int" (.lst ds) = false := by dsimp only [isD, tyN]; decide +kernel
end VS

namespace VS
open PySem L2 PySem.Spec PyProof.Rows
/-! ### try .. except C as n -/
def tTryD (C : Addr) (i : Nat) (tb : TDs) (ts : Addr → Value → Option Addr → TDs) : TDs := fun De en =>
  tb { De with ex := fun x en1 => x.cls = .ref C ∧ ∀ a cls d, ts a cls d { nx := fun e => De.nx (e.set i .no), rt := De.rt, bk := fun e => De.bk (e.set i .no), ct := fun e => De.ct (e.set i .no), ex := fun _ _ => False } (en1.set i (.exc a cls d x)) } en
section
variable {X : Cx} {W : WX} {x n : Str} {C : Addr} {i : Nat} {body suite : List Stmt} {b₀ : Stmt} {np pos pos' : Pos} {tb : TDs} {ts : Addr → Value → Option Addr → TDs}
theorem ds_try1 (hs : X.stack = X.env :: X.outer) (hf : X.env.frame = some X.env.locals) (hN : X.N.Nodup) (hi : X.N[i]? = some n) (hln : X.env.kindOf n = some .local) (hc : Names X x (.ref C)) (te : PySem.W.exmOne X.K (.ref C) (.ref C) = some true)
    (hb : ∀ (W : WX) (pn : List (Addr × Obj)) (xe : Value → Shared → Prop), Takes (X.tr pn xe) W → PassesOwn (model X.prog X.w) X.A X.env xe → DSs (X.tr pn xe) W body tb)
    (hsu : ∀ (a : Addr) (oe : Obj) (cls : Value) (d : Option Addr) (pn : List (Addr × Obj)), Zc cls d oe → (∃ vs, oe.data = .fields vs) → DSs (X.suite a ((a, oe) :: pn)) W0 (b₀ :: suite) (ts a cls d)) :
    DS X W (.Try body [.ExceptHandler (some (.Name x np)) (some n) (b₀ :: suite) pos'] [] [] pos) (tTryD C i tb ts) :=
  PSi (ps_try_as (tb := fun W => lS X.K W tb) (ts := fun a cls d => lS X.K W0 (ts a cls d)) (Wout := fun _ _ _ _ => False) hs hf hN hi hln hc takes0 hb hsu) fun Ds σ H ⟨Cc, en, De, R1, h, k⟩ =>
    ⟨Cc, en, _, R1, h, ⟨k.nx, k.rt, k.bk, k.ct, fun xx en1 σ1 cls d H1 hq R2 hx2 => by
      obtain ⟨hx, q⟩ := hq
      refine ⟨true, by rw [hx2.1, hx]; exact te, fun _ a ha => ?_, fun z => by cases z⟩
      refine ⟨Cc, _, _, R2.setS (o := some (.ref a)) (s := .exc a cls d xx) rfl ⟨rfl, hx2⟩, q a cls d, ?_⟩
      exact ⟨fun σ2 en2 H2 q2 r2 => k.nx _ _ H2 q2 (r2.setS rfl trivial), k.rt, fun σ2 en2 H2 q2 r2 => k.bk _ _ H2 q2 (r2.setS rfl trivial), fun σ2 en2 H2 q2 r2 => k.ct _ _ H2 q2 (r2.setS rfl trivial), fun _ _ _ _ _ _ z => z.elim⟩⟩⟩
end
/-! ### calls by keywords alone, in the parameters' order -/
abbrev DK (X : Cx) (W : WX) (kws : List Keyword) (T : TDa) : Prop := PK X kws (lA X.K W T)
def KwB (fd : FuncData) (ps : List Str) : Prop := ∀ (s : Shared) (ws : List Value), ws.length = ps.length → BindsTo s fd ⟨[], ps.zip ws⟩ (ps.zip ws)
section
variable {X : Cx} {W : WX} {e : Expr} {te : TDe} {t : TDa} {kws : List Keyword} {nm : Option Str} {kpos : Pos}
theorem PKi {t t' : TA} (h : PK X kws t) (i : ∀ σ H Q, t' σ H Q → t σ H Q) : PK X kws t' := ⟨fun pos pins s σ H Q I q => h.run pos pins s σ H Q I (i σ H Q q)⟩
theorem dk_nil : DK X W [] tNilD := PKi pk_nil fun σ H Q h => by
  obtain ⟨C, en, Φ, Ψ, R1, hT, hX, k⟩ := h
  exact k _ _ [] H hT R1 rfl rfl Keep.refl (fun _ z => by cases z)
theorem dk_cons (ha : DE X W e te) (hb : DK X W kws t) : DK X W (⟨nm, e, kpos⟩ :: kws) (tConsD te t) := PKi (pk_cons ha hb) fun σ H Q h => by
  obtain ⟨C, en, Φ, Ψ, R0, hT, hX, k⟩ := h
  refine ⟨C, en, _, Ψ, R0, hT, hX, fun ra en1 v1 H1 h1 R1 hold1 s1 k1 n1 => ?_⟩
  refine ⟨C.ext ra, en1, _, Ψ, R1, h1, hX.ext, fun rs en2 vs H2 h2 R2 hold2 s2 k2 n2 => ?_⟩
  refine k (ra :: rs) en2 (v1 :: vs) H2 h2 R2 ⟨v1, vs, rfl, hold1.later R1 R2 s2 k2 n2, hold2⟩ (s1.trans s2) (k1.trans s1 k2) fun r hr => ?_
  rcases List.mem_cons.mp hr with rfl | hr
  · exact n1
  · exact (n2 r hr).back k1 s1 R1
end
section
variable {X : Cx} {CX : CXT} {W : WX} {k n : Nat} {f : Addr} {fd : FuncData} {ps : List Str} {sp : Sp} {E : L2.St → XK} {x : Str} {p pos : Pos} {kws : List Keyword} {t : TA}
theorem pe_callKw (F : FnOk X.prog X.w X.K X.mg X.base CX k f fd ps sp) (hr : Room k X.A) (hg : Gl X x) (hm : X.mg x = some (.ref f)) (hk : PySem.W.keepIn X.K (.ref f) = true) (hb : KwB fd ps) (hx : ∀ σ, PassesAt CX X σ (E σ)) (ha : PK X kws t)
    (hall : (backToKw pos (keywordEach kws X.env)).all (·.1.isSome) = true) (hks : (backToKw pos (keywordEach kws X.env)).filterMap (·.1) = ps) (hdb : (x == ("__debug__" : Str)) = false)
    (hpl : ((backTo pos (starEach [] X.env)).any (·.1) || (backToKw pos (keywordEach kws X.env)).any (·.1.isNone)) = false) : PE X (.Call (.Name x p) [] kws pos) (tCallS sp E t) := by
  refine ⟨fun pins s σ H Q I h => ?_⟩
  refine wpAny_Call_Name_kw (ld_glob I hg hm ?_ hdb)
  refine PySem.W.callWith_KW0 (h₀ := X.base) I.ok.mod.kin hk hall (thn (ha.run pos pins s σ H _ I h) fun us s1 ⟨vs, H1, I1, r, q⟩ => ⟨I1.kIn, ?_⟩) hpl
  rw [hks]
  have hl : us.length = ps.length := by rw [← r.length]; exact F.len _ _ _ _ q
  refine wpAny_call (codeAny_mono (F.run X.A X.stack s1 H1 ⟨[], ps.zip us⟩ us vs Q (E σ) hr I1.env0 (hb s1 us hl) r q) fun r s' hq => ?_)
  cases r with
  | error e => exact hx σ pins H1 s1 e s' I1 hq
  | ok fl =>
    cases fl with
    | ret u => exact I1.after hq
    | next => exact False.elim hq
    | brk => exact False.elim hq
    | cont => exact False.elim hq
end
section
variable {X : Cx} {W : WX} {j k n : Nat} {f : Addr} {fd : FuncData} {ps : List Str} {sp : Spc} {x : Str} {p pos : Pos} {kws : List Keyword} {t : TDa}
theorem dcKQ (G : Cal X.prog X.w X.K X.mg X.base (L2.CX X.prog X.w) j n sp x f fd ps) (kb : KwB fd ps) (hr : Room k X.A) (ha : DK X W kws t) (hj : j ≤ k := by decide) (hg : Gl X x := by rfl) (hdb : (x == ("__debug__" : Str)) = false := by decide)
    (hall : (backToKw pos (keywordEach kws X.env)).all (·.1.isSome) = true := by rfl) (hks : (backToKw pos (keywordEach kws X.env)).filterMap (·.1) = ps := by rfl)
    (hpl : ((backTo pos (starEach [] X.env)).any (·.1) || (backToKw pos (keywordEach kws X.env)).any (·.1.isNone)) = false := by rfl) : DE X W (.Call (.Name x p) [] kws pos) (tCallD n (q0 sp) t) :=
  PEi (pe_callKw G.F (hr.mono hj) hg G.m G.kp kb (E := fun _ => E0) (fun σ pins H s e s' I z => passL pins σ H s e s' I z) ha hall hks hdb hpl) fun σ H Q h => call_go0 h
theorem dcK (G : Cal X.prog X.w X.K X.mg X.base CX0 j n sp x f fd ps) (kb : KwB fd ps) (hr : Room k X.A) (ha : DK X W kws t) (hj : j ≤ k := by decide) (hg : Gl X x := by rfl) (hdb : (x == ("__debug__" : Str)) = false := by decide)
    (hall : (backToKw pos (keywordEach kws X.env)).all (·.1.isSome) = true := by rfl) (hks : (backToKw pos (keywordEach kws X.env)).filterMap (·.1) = ps := by rfl)
    (hpl : ((backTo pos (starEach [] X.env)).any (·.1) || (backToKw pos (keywordEach kws X.env)).any (·.1.isNone)) = false := by rfl) : DE X W (.Call (.Name x p) [] kws pos) (tCallD n (q0 sp) t) :=
  PEi (pe_callKw G.F (hr.mono hj) hg G.m G.kp kb (E := fun _ => E0) (fun σ _ _ _ _ _ _ z => z.elim) ha hall hks hdb hpl) fun σ H Q h => call_go0 h
theorem dcKX (G : Cal X.prog X.w X.K X.mg X.base (L2.CX X.prog X.w) j n sp x f fd ps) (kb : KwB fd ps) (tk : Takes X W) (hr : Room k X.A) (ha : DK X W kws t) (hj : j ≤ k := by decide) (hg : Gl X x := by rfl) (hdb : (x == ("__debug__" : Str)) = false := by decide)
    (hall : (backToKw pos (keywordEach kws X.env)).all (·.1.isSome) = true := by rfl) (hks : (backToKw pos (keywordEach kws X.env)).filterMap (·.1) = ps := by rfl)
    (hpl : ((backTo pos (starEach [] X.env)).any (·.1) || (backToKw pos (keywordEach kws X.env)).any (·.1.isNone)) = false := by rfl) : DE X W (.Call (.Name x p) [] kws pos) (tCallD n sp t) :=
  PEi (pe_callKw G.F (hr.mono hj) hg G.m G.kp kb (E := fun σ => WE W σ) (fun σ => passAt tk σ) ha hall hks hdb hpl) fun σ H Q h => call_go (fun _ _ _ _ z => z) h
end
end VS

namespace VS
open PySem L2 PySem.Spec PyProof.Rows
/-! ### isinstance(error, T), error what the suite holds: an own class with its own dict -/
structure ExI (K : PySem.W.Frag) (C : Addr) : Prop where
  ga : PySem.W.findIn K (.ref C) "__getattribute__" = some (some (.builtin "BaseException.__getattribute__"))
  gg : PySem.W.findIn K (.ref C) "__getattr__" = some none
  exC : PySem.W.subIn K (.ref C) (.type "BaseException") = some true
  hd : PySem.W.isClsIn K C = true
  ca : PySem.W.findIn K (.ref C) "__class__" = some (some (.builtin "object.__class__"))
  sp : PySem.W.specialIn K (.builtin "object.__class__") "__get__" = some (some (.builtin "getset_descriptor.__get__"))
  tk : PySem.W.takesIn K (.builtin "object.__class__") = some true
  mo : PySem.W.mroIn K C (.type "object") = some true
def rIsX (C a : Addr) (cls : Value) (dd : Option Addr) (T : String) (b : Bool) : List V → Hp → VK → Prop := fun xs H Q => xs = [.ref a, .ty T] ∧ cls = .ref C ∧ (∃ (d0 : Addr) (f : Str) (v : V), dd = some d0 ∧ H d0 = some (.xd [(f, v)])) ∧ Q (.bl b) H
theorem call_isX {X : Cx} {a C : Addr} {oe : Obj} {cls : Value} {dd : Option Addr} {pn : List (Addr × Obj)} {T : String} {b : Bool} (E : ExI X.K C) (hz : Zc cls dd oe) (hf : ∃ vs, oe.data = .fields vs) (hk : PySem.W.kitOne X.K (.ref C) (.type T) = some b) :
    CallR (X.suite a ((a, oe) :: pn)) (.builtin "isinstance") (rIsX C a cls dd T b) := by
  intro pins s σ H xs us Q I r h
  obtain ⟨rfl, rfl, ⟨d0, f, v, rfl, hd0⟩, q⟩ := h
  cases r with
  | cons rx rr =>
    cases rr with
    | cons rt rr =>
      cases rr
      cases rx
      obtain rfl := rt
      obtain ⟨ha, _⟩ := I.pin (a, oe) (List.mem_append_left _ List.mem_cons_self)
      obtain ⟨vs, hv⟩ := hf
      have hx : ObjOk X.prog X.w H s.heap d0 (.xd [(f, v)]) := I.hok d0 _ hd0
      obtain ⟨mA, hns, hr⟩ := hx
      obtain ⟨od, ho, hl⟩ := lookIn_ns hns
      have J : PySem.W.InstAt s.heap a oe C (some od) := ⟨ha, hz.1, by unfold PySem.W.notCls; rw [hv] <;> rfl, by rw [hz.2]; exact ho⟩
      exact PySem.W.kia_one (PySem.W.kitx_exc E.hd E.ga E.gg E.exC E.ca E.sp E.tk E.mo) I.kIn J hk (fun z => nomatch z) fun tk => ⟨.bl b, H, I.kept (t' := tk) fun _ _ z => z, rfl, q⟩
def tIsX (C a : Addr) (cls : Value) (dd : Option Addr) (b : Bool) (i : Nat) : TDe := fun _ en Φ => match en[i]? with
  | some (.exc a' cls' dd' x) => a' = a ∧ cls' = cls ∧ dd' = dd ∧ x.cls = .ref C ∧ x.fld.isSome = true ∧ Φ (.val (.bl b)) en
  | _ => False
theorem de_isX {X : Cx} {W : WX} {a C : Addr} {oe : Obj} {cls : Value} {dd : Option Addr} {pn : List (Addr × Obj)} {T : String} {b : Bool} {e : Expr} {i : Nat} {n : Str} {p pos p2 : Pos} (E : ExI X.K C) (hz : Zc cls dd oe) (hf : ∃ vs, oe.data = .fields vs)
    (hk : PySem.W.kitOne X.K (.ref C) (.type T) = some b) (hm : X.mg "isinstance" = none) (he : PE (X.suite a ((a, oe) :: pn)) e (L2.tVar i)) (gn : Gl (X.suite a ((a, oe) :: pn)) n) (mn : X.mg n = none) (vn : bootBuiltins n = some (.type T))
    (hg : Gl (X.suite a ((a, oe) :: pn)) "isinstance" := by rfl) (nn : n ≠ "__name__" := by decide) (nd : (n == ("__debug__" : Str)) = false := by decide)
    (h1 : starEach [e, .Name n p2] X.env = (false, eval e X.env) :: starEach [.Name n p2] X.env := by rfl) (h2 : starEach [.Name n p2] X.env = (false, eval (.Name n p2) X.env) :: starEach [] X.env := by rfl)
    (hpl : (backTo pos (starEach [.Name n p2] X.env)).any (·.1) = false := by rfl) : DE (X.suite a ((a, oe) :: pn)) W (.Call (.Name "isinstance" p) [e, .Name n p2] [] pos) (tIsX C a cls dd b i) :=
  PEi (pe_callB (call_isX E hz hf hk) hg hm PyProof.Rows.boot_isinstance (pa_cons he (pa_cons (pe_bltn (v := .ty T) gn mn vn rfl nn nd) pa_nil h2) h1) (by decide) (by decide) h1 hpl) fun σ H Q ⟨Cc, en, Φ, Ψ, R1, h, _, k⟩ => by
    unfold tIsX at h
    cases e1 : en[i]? with
    | none => simp only [e1] at h
    | some s =>
      cases s with
      | exc a' cls' dd' x =>
        simp only [e1] at h
        obtain ⟨rfl, rfl, rfl, hx, hs, h⟩ := h
        obtain ⟨xc, xf⟩ := x
        cases xf with
        | none => cases hs
        | some fd =>
          obtain ⟨f, d⟩ := fd
          obtain ⟨y, hy, hs⟩ := Pget R1.sl e1
          cases y with
          | none => exact hs.elim
          | some v =>
            obtain ⟨rfl, hc, d0, w, e2, _, e3, hv⟩ := hs
            exact ⟨_, hy, rfl, hc.trans hx, ⟨d0, f, w, e2, e3⟩, k (.val (.bl b)) en (.bl b) H h R1 (.bl b) rfl Keep.refl trivial⟩
      | _ => simp only [e1] at h
end VS

namespace VS
open PySem L2 PySem.Spec PyProof.Rows
/-! ### ahead of a statement a slot is forgotten -/
def tFgtD (i : Nat) (t : TDs) : TDs := fun De en => t De (en.set i .no)
theorem dss_fgt {X : Cx} {W : WX} {rest : List Stmt} {u : TDs} (i : Nat) (h2 : DSs X W rest u) : DSs X W rest (tFgtD i u) := PSsi h2 fun D σ H ⟨C, en, De, R1, h, k⟩ =>
  ⟨C, en.set i .no, De, R1.forget (i := i), h, k⟩
end VS

namespace VS
open PySem L2 PySem.Spec PyProof.Rows
/-! ### either of two readings -/
def tEitD (t u : TDe) : TDe := fun Ψ en Φ => t Ψ en Φ ∨ u Ψ en Φ
theorem de_eit {X : Cx} {W : WX} {e : Expr} {t u : TDe} (h1 : DE X W e t) (h2 : DE X W e u) : DE X W e (tEitD t u) := ⟨fun pins s σ H Q I h => by
  obtain ⟨C, en, Φ, Ψ, R1, h | h, hX, k⟩ := h
  · exact h1.run pins s σ H Q I ⟨C, en, Φ, Ψ, R1, h, hX, k⟩
  · exact h2.run pins s σ H Q I ⟨C, en, Φ, Ψ, R1, h, hX, k⟩⟩
def tEitS (t u : TDs) : TDs := fun De en => t De en ∨ u De en
theorem ds_eit {X : Cx} {W : WX} {st : Stmt} {t u : TDs} (h1 : DS X W st t) (h2 : DS X W st u) : DS X W st (tEitS t u) := ⟨fun pins s σ H D I h => by
  obtain ⟨C, en, De, R1, h | h, k⟩ := h
  · exact h1.run pins s σ H D I ⟨C, en, De, R1, h, k⟩
  · exact h2.run pins s σ H D I ⟨C, en, De, R1, h, k⟩⟩
/-! ### gcd of three -/
theorem args_gcd3 (a b c : Value) : argsOk "math.gcd" ⟨[a, b, c], []⟩ := by unfold argsOk; kernel_rfl
theorem run_gcd3 (a : Int) (t : Tok) (b : Int) (u : Tok) (c : Int) (v : Tok) :
    Gives (Builtin.«math.gcd» ⟨[.int a t, .int b u, .int c v], []⟩) (.int (((((Nat.gcd 0 a.natAbs).gcd b.natAbs).gcd c.natAbs : Nat) : Int))) :=
  .of_wp fun M A E s Q h => by obtain ⟨hp, g, d, tk, os⟩ := s; wp_walk; exact ⟨_, rfl, h⟩
def rGcd3 : List V → Hp → VK → Prop := fun vs H Q => ∃ a b c : Int, vs = [.int a, .int b, .int c] ∧ Q (.int (((a.natAbs.gcd b.natAbs).gcd c.natAbs : Nat) : Int)) H
theorem cr_gcd3 {X : Cx} : CallR X (.builtin "math.gcd") rGcd3 := by
  intro pins s σ H vs us Q I r h
  obtain ⟨a, b, c, rfl, q⟩ := h
  cases r with
  | cons ra r =>
    cases r with
    | cons rb r =>
      cases r with
      | cons rc r =>
        cases r
        obtain ⟨ta, rfl⟩ := ra
        obtain ⟨tb, rfl⟩ := rb
        obtain ⟨tc, rfl⟩ := rc
        have g := run_gcd3 a ta b tb c tc
        rw [Nat.gcd_zero_left] at g
        exact call_function_meets PySem.W.MGF.kind_gcd PySem.W.MGF.plain_gcd PySem.W.MGF.entry_gcd (args_gcd3 _ _ _) g.meets ⟨.int _, H, I.tok _, ⟨_, rfl⟩, q⟩
def gGcd3 : List D → (Res → Prop) → Prop
  | [.int a, .int b, .int c], Φ => Φ (.val (.int (Int.gcd (Int.gcd a b : Nat) c : Nat)))
  | _, _ => False
theorem ca_gcd3 {X : Cx} : CaD X rGcd3 gGcd3 := by
  intro C σ H en ds vs Φ Q R1 hs h k
  unfold gGcd3 at h
  split at h
  · cases hs with
    | cons h1 h2 =>
      cases h2 with
      | cons h2 h3 =>
        cases h3 with
        | cons h3 h4 =>
          cases h4
          cases h1
          cases h2
          cases h3
          exact ⟨_, _, _, rfl, k _ _ H h R1 (.int _) (fun _ _ q => q) trivial⟩
  · exact h.elim
theorem de_gcd3 {X : Cx} {W : WX} {e : Expr} {es : List Expr} {t : TDa} {p pos : Pos} (hm : X.mg "gcd" = some (.builtin "math.gcd")) (ha : DA X W (e :: es) t) (hg : Gl X "gcd" := by rfl) (he : starEach (e :: es) X.env = (false, eval e X.env) :: starEach es X.env := by rfl) (hpl : (backTo pos (starEach es X.env)).any (·.1) = false := by rfl) :
    DE X W (.Call (.Name "gcd" p) (e :: es) [] pos) (tCaD gGcd3 t) := de_callF cr_gcd3 ca_gcd3 hg hm ha (by decide) he hpl
/-! ### (a, b) < (c, d), of ints -/
def rLtT (K : PySem.W.Frag) : R2 := fun x y H Q => ∃ (a b : Addr) (ns ms : List Int), x = .ref a ∧ y = .ref b ∧ SqT K H a (ns.map V.int) ∧ SqT K H b (ms.map V.int) ∧
  Q (.bl (Ob.lexAt (fun j => decide (ns.getD j 0 = ms.getD j 0)) (fun j => decide (ns.getD j 0 < ms.getD j 0)) (decide (ns.length < ms.length)) 0 (min ns.length ms.length))) H
theorem op_ltT {X : Cx} (hu : X.A.units < cLine) : OpR X (compareOp .Lt) (rLtT X.K) := by
  intro pins s σ H x y v u Q I rx ry h
  obtain ⟨a, b, ns, ms, rfl, rfl, ha, hb, q⟩ := h
  cases rx
  cases ry
  obtain ⟨its, r1, p1, _⟩ := I.tuple ha
  obtain ⟨its2, r2, p2, _⟩ := I.tuple hb
  have i1 : IntsAre its ns := Vals.ints r1
  have i2 : IntsAre its2 ms := Vals.ints r2
  have e1 : its.toArray.size = ns.length := by rw [List.size_toArray]; exact i1.length
  have e2 : its2.toArray.size = ms.length := by rw [List.size_toArray]; exact i2.length
  have at1 : ∀ j (h1 : j < its.toArray.size), ∃ t, its.toArray[j] = .int (ns.getD j 0) t := fun j h1 => PyProof.Rows.IntsAre.int_at i1 _ _ (by simp at h1; simp [h1])
  have at2 : ∀ j (h1 : j < its2.toArray.size), ∃ t, its2.toArray[j] = .int (ms.getD j 0) t := fun j h1 => PyProof.Rows.IntsAre.int_at i2 _ _ (by simp at h1; simp [h1])
  have R := Ob.RcOp.tuples_lt (A := X.A) (s := s) (e := fun j => decide (ns.getD j 0 = ms.getD j 0)) (r := fun j => decide (ns.getD j 0 < ms.getD j 0)) p1 p2 hu (fun j h1 h2 => by
    obtain ⟨t, et⟩ := at1 j h1
    obtain ⟨t', et'⟩ := at2 j h2
    rw [et, et']
    have z : (ns.getD j 0 == ms.getD j 0) = decide (ns.getD j 0 = ms.getD j 0) := by
      by_cases q : ns.getD j 0 = ms.getD j 0
      · rw [decide_eq_true q]; exact beq_iff_eq.mpr q
      · rw [decide_eq_false q]; exact beq_eq_false_iff_ne.mpr q
    rw [← z]
    exact SeqAt.EqAt.int_int _ _ _ _) (fun j h1 h2 _ => by
    obtain ⟨t, et⟩ := at1 j h1
    obtain ⟨t', et'⟩ := at2 j h2
    rw [et, et']
    exact Ob.RcOp.lt_int _ _ _ _)
  rw [e1, e2] at R
  have z : wpAny (model X.prog X.w) X.A (compareOp .Lt (.ref a) (.ref b)) (EP X pins σ Q) X.xe s := R X.prog X.w X.xe (EP X pins σ Q) ⟨.bl _, H, I, rfl, q⟩
  exact z
def gLt2 : D → D → (Res → Prop) → Prop := fun x y Φ => match x, y with
  | .tup [.int a, .int b], .tup [.int c, .int d] => Φ (.val (.bl (if a = c then decide (b < d) else decide (a < c))))
  | _, _ => False
theorem od_lt2 {X : Cx} : OpD X (rLtT X.K) gLt2 := by
  intro C σ H en x y v w Φ Q R1 hx hy h k
  unfold gLt2 at h
  split at h
  · rename_i a b c d
    obtain ⟨p, vs, rfl, h1, h2⟩ := hx
    obtain ⟨q, ws, rfl, h3, h4⟩ := hy
    have e1 := RpA.ints [a, b] h2
    have e2 := RpA.ints [c, d] h4
    subst e1 e2
    refine ⟨p, q, [a, b], [c, d], rfl, rfl, h1, h3, ?_⟩
    have e : Ob.lexAt (fun j => decide ([a, b].getD j 0 = [c, d].getD j 0)) (fun j => decide ([a, b].getD j 0 < [c, d].getD j 0)) (decide ([a, b].length < [c, d].length)) 0 (min [a, b].length [c, d].length) = (if a = c then decide (b < d) else decide (a < c)) := by
      show Ob.lexAt _ _ _ 0 2 = _
      rw [Ob.lexAt_succ, Ob.lexAt_succ, Ob.lexAt_zero]
      simp only [List.getD_cons_zero, List.getD_cons_succ, decide_eq_true_eq, List.length_cons, List.length_nil]
      by_cases z1 : a = c
      · rw [if_pos z1, if_pos z1]
        by_cases z2 : b = d
        · rw [if_pos z2, z2]
          simp
        · rw [if_neg z2]
      · rw [if_neg z1, if_neg z1]
    rw [e]
    exact k _ _ H h R1 (.bl _) (fun _ _ q => q) trivial
  · exact h.elim
theorem de_lt2 {X : Cx} {W : WX} {a b : Expr} {ta tb : TDe} {pos : Pos} (hu : X.A.units + 64 < cLine) (ha : DE X W a ta) (hb : DE X W b tb) : DE X W (.Compare a [.Lt] [b] pos) (tOpD gLt2 ta tb) := de_cmp (op_ltT (Nat.lt_of_le_of_lt (Nat.le_add_right _ _) hu)) od_lt2 ha hb
theorem dt_lt2 {X : Cx} {W : WX} {a b : Expr} {ta tb : TDe} {pos : Pos} (hu : X.A.units + 64 < cLine) (ha : DE X W a ta) (hb : DE X W b tb) : DT X W (.Compare a [.Lt] [b] pos) (tValD (tOpD gLt2 ta tb)) := dt_cmp (op_ltT (Nat.lt_of_le_of_lt (Nat.le_add_right _ _) hu)) od_lt2 ha hb
/-! ### xs[::-1] -/
def tRevD (te : TDe) : TDe := fun Ψ en Φ => te Ψ en fun r en1 => match rd en1 r with
  | some (.lst ds) => ∀ p, Φ (.own p (.lst ds.reverse)) en1
  | _ => False
theorem de_rev {X : Cx} {W : WX} {e : Expr} {te : TDe} {k : Nat} {p1 p2 p3 pos : Pos} (he : DE X W e te) : DE X W (.Subscript e (.Slice none none (some (.UnaryOp .USub (.Constant (.int 1) k p1) p2)) p3) pos) (tRevD te) :=
  PEi (pe_revL he) fun σ H Q ⟨C, en, Φ, Ψ, R0, h, hX, k⟩ => by
    refine ⟨C, en, _, Ψ, R0, h, hX, fun r en1 v H1 q R1 o1 s1 k1 n1 => ?_⟩
    cases ed : rd en1 r with
    | none => simp only [ed] at q
    | some d =>
      cases d <;> simp only [ed] at q
      rename_i ds
      obtain ⟨a, vs, rfl, h1, h2⟩ := o1.sq R1 ed
      refine ⟨a, vs, rfl, h1, fun p hp => ?_⟩
      obtain ⟨q1, q2⟩ := own_new R1.dropX hp h2.reverse
      exact k _ en1 _ _ (q p) q1 q2 s1 (k1.trans s1 (Keep.same (same_new hp))) (k1.new s1 R1.dropX hp)
/-! ### [..] * n -/
def tRepD (ta tb : TDe) : TDe := fun Ψ en Φ => ta Ψ en fun r en1 => match r with
  | .own _ (.lst _) => tb Ψ en1 fun rb en2 => (match r, rb with
    | .own _ (.lst ds), .val (.int k) => -(2 ^ 63) ≤ k ∧ k < 2 ^ 63 ∧ ds.length * k.toNat ≤ sizeLine ∧ ∀ p, Φ (.own p (.lst (List.replicate k.toNat ds).flatten)) en2
    | _, _ => False)
  | _ => False
theorem RpA.rep {K : PySem.W.Frag} {M : Ms} {H : Hp} {vs : List V} {ds : List D} (h : RpA K M H vs ds) : ∀ n : Nat, RpA K M H (List.replicate n vs).flatten (List.replicate n ds).flatten
  | 0 => .nil
  | n + 1 => by
    rw [List.replicate_succ, List.replicate_succ, List.flatten_cons, List.flatten_cons]
    exact h.append (RpA.rep h n)
theorem de_rep {X : Cx} {W : WX} {a b : Expr} {ta tb : TDe} {pos : Pos} (ha : DE X W a ta) (hb : DE X W b tb) : DE X W (.BinOp a .Mult b pos) (tRepD ta tb) :=
  PEi (pe_op op_rep ha hb) fun σ H Q ⟨C, en, Φ, Ψ, R0, h, hX, k⟩ => by
    refine ⟨C, en, _, Ψ, R0, h, hX, fun ra en1 v1 H1 h1 R1 hold1 s1 k1 n1 => ?_⟩
    match ra, h1, R1, hold1, n1 with
    | .own p (.lst ds), h1, R1, hold1, n1 =>
      refine ⟨C.ext (.own p (.lst ds)), en1, _, Ψ, R1, h1, hX.ext, fun rb en2 v2 H2 h2 R2 hold2 s2 k2 n2 => ?_⟩
      have hold1' := hold1.stay R2.dropX s2 k2
      match rb, h2, R2, hold2, n2 with
      | .val (.int i), h2, R2, hold2, n2 =>
        cases hold2
        obtain ⟨b1, b2, b3, q⟩ := h2
        obtain ⟨rfl, e1, e2, vs, e3, e4⟩ := hold1'
        refine ⟨p, i, vs, rfl, rfl, e3, b1, b2, by rw [e4.length]; exact b3, fun l hl => ?_⟩
        have R3 := R2.dropX.dropX
        have e5 : RpA X.K (mm C (oas en2)) H2 vs ds := RpA.mono le_add _ _ e4
        obtain ⟨q1, q2⟩ := own_new R3 hl (e5.rep i.toNat)
        exact k _ en2 _ _ (q l) q1 q2 (s1.trans s2) ((k1.trans s1 k2).trans (s1.trans s2) (Keep.same (same_new hl))) ((k1.trans s1 k2).new (s1.trans s2) R3 hl)
/-! ### an own dict with tuples as keys -/
def kOf : D → Option Key
  | .int i => some (.inl i)
  | .str x => some (.inr x)
  | _ => none
def ksOf : List D → Option (List Key)
  | [] => some []
  | d :: ds => match kOf d, ksOf ds with
    | some k, some ks => some (k :: ks)
    | _, _ => none
def keyT : D → Option (List Key)
  | .tup ds => ksOf ds
  | _ => none
theorem ksOf_kD : ∀ ks : List Key, ksOf (ks.map kD) = some ks
  | [] => rfl
  | k :: ks => by
    rw [List.map_cons]
    unfold ksOf
    rw [ksOf_kD ks]
    cases k <;> rfl
theorem ksOf_is : ∀ {ds : List D} {ks : List Key}, ksOf ds = some ks → ds = ks.map kD
  | [], ks, h => by cases h; rfl
  | d :: ds, ks, h => by
    unfold ksOf at h
    cases e1 : kOf d with
    | none => simp only [e1] at h; cases h
    | some k =>
      cases e2 : ksOf ds with
      | none => simp only [e1, e2] at h; cases h
      | some ks' =>
        simp only [e1, e2] at h
        cases h
        rw [List.map_cons, ← ksOf_is e2]
        cases d <;> simp only [kOf] at e1 <;> cases e1 <;> rfl
theorem keyT_is {d : D} {k : List Key} (h : keyT d = some k) : d = .tup (k.map kD) := by
  cases d <;> simp only [keyT] at h
  · cases h
  · cases h
  · cases h
  · cases h
  · rw [ksOf_is h]
  · cases h
  · cases h
def dHas (ks : List D) (k : List Key) : Bool := ks.any fun d => decide (keyT d = some k)
def dPut (ks ds : List D) (k : List Key) (kd dv : D) : D :=
  if dHas ks k = true then .dct true ks (List.zipWith (fun d x => if keyT d = some k then dv else x) ks ds) else .dct true (ks ++ [kd]) (ds ++ [dv])
def kT (kvs : List (List Key × V)) : List D := kvs.map fun p => .tup (p.1.map kD)
theorem dHas_is (kvs : List (List Key × V)) (k : List Key) : dHas (kT kvs) k = kvs.any fun kv => decide (kv.1 = k) := by
  unfold dHas kT
  rw [List.any_map]
  congr 1
  funext kv
  simp only [Function.comp, keyT, ksOf_kD, Option.some.injEq]
theorem put_vals {K : PySem.W.Frag} {M : Ms} {H : Hp} {k : List Key} {v : V} {dv : D} (hv : Rp K M H v dv) : ∀ {kvs : List (List Key × V)} {ds : List D}, RpA K M H (kvs.map (·.2)) ds →
    RpA K M H ((kvs.map fun kv => if kv.1 = k then (kv.1, v) else kv).map (·.2)) (List.zipWith (fun d x => if keyT d = some k then dv else x) (kT kvs) ds)
  | [], ds, h => by cases h; exact .nil
  | (k', v') :: r, _, .cons h t => by
    have ih := put_vals (k := k) hv (kvs := r) t
    unfold kT at ih ⊢
    simp only [List.map_cons, List.zipWith_cons_cons, keyT, ksOf_kD, Option.some.injEq]
    by_cases e : k' = k
    · rw [if_pos e, if_pos e]
      exact .cons hv ih
    · rw [if_neg e, if_neg e]
      exact .cons h ih
theorem put_keys (k : List Key) (v : V) (kvs : List (List Key × V)) : kT (kvs.map fun kv => if kv.1 = k then (kv.1, v) else kv) = (kT kvs) := by
  unfold kT
  rw [List.map_map]
  congr 1
  funext kv
  simp only [Function.comp]
  split <;> rfl
theorem rpa_keys {K : PySem.W.Frag} {M : Ms} {H : Hp} : ∀ ks : List Key, RpA K M H (ks.map kV) (ks.map kD)
  | [] => .nil
  | .inl i :: r => .cons (.int i) (rpa_keys r)
  | .inr x :: r => .cons (.str x) (rpa_keys r)
theorem key_vals {K : PySem.W.Frag} {M : Ms} {H : Hp} : ∀ {ks : List Key} {vs : List V}, RpA K M H vs (ks.map kD) → vs = ks.map kV
  | [], _, h => by cases h; rfl
  | .inl i :: r, _, .cons h t => by cases h; rw [key_vals t]; rfl
  | .inr x :: r, _, .cons h t => by cases h; rw [key_vals t]; rfl
/-- {} of the kind with tuples as keys -/
def tNewT : TDe := fun _ en Φ => ∀ p, Φ (.own p (.dct true [] [])) en
theorem de_newT {X : Cx} {W : WX} {pos : Pos} : DE X W (.Dict [] [] pos) tNewT := PEi pe_dnewT fun σ H Q ⟨C, en, Φ, Ψ, R1, h, hX, k⟩ => fun p hp => by
  refine k _ en _ _ (h p) (R1.hold hp) ⟨rfl, fun z => ?_, .inr (R1.new hp), .t [], upd_same, rfl, .nil⟩ rfl (Keep.same (same_new hp)) hp
  obtain ⟨u, q⟩ := R1.dom p (.inl z)
  rw [hp] at q; cases q
/-- d[k] = v -/
def tPutT (i : Nat) (te tk : TDe) : TDs := fun De en => te De.ex en fun r en1 => match vl r, en1[i]? with
  | some dv, some (.own _ _) => tk De.ex en1 fun rk en2 => (match rk, en2[i]? with
    | .val kd, some (.own a (.dct true ks ds)) => (match keyT kd with
      | some k => ks.length < sizeLine ∧ De.nx (en2.set i (.own a (dPut ks ds k kd dv)))
      | none => False)
    | _, _ => False)
  | _, _ => False
theorem dk_t {c : Dk} {ks : List D} (e : (true, ks) = c.sig) : ∃ kvs, c = .t kvs ∧ ks = kT kvs := by
  cases c with
  | k kvs => cases e
  | t kvs => cases e; exact ⟨kvs, rfl, rfl⟩
theorem ds_putT {X : Cx} {W : WX} {i : Nat} {o ix value : Expr} {pos' pos : Pos} {te tk : TDe} (hu : X.A.units + 64 < cLine) (hv : DE X W value te) (ho : PE X o (tVar i)) (hi : DE X W ix tk) (hs : swapsWith value (some (.Subscript o ix pos')) pos.line X.env = pure false := by rfl) :
    DS X W (.Assign [.Subscript o ix pos'] value pos) (tPutT i te tk) :=
  PSi (ps_dput (by omega) ho hi hv hs) fun D σ H ⟨C, en, De, R1, h, k⟩ =>
  ⟨C, en, _, De.ex, R1, h, k.x σ, fun r en1 v H1 q R2 o1 s1 k1 _ => by
    have R2' := R2.dropX
    cases e1 : vl r with
    | none => simp only [e1] at q
    | some dv =>
      cases e2 : en1[i]? with
      | none => simp only [e1, e2] at q
      | some s0 =>
        cases s0 <;> simp only [e1, e2] at q
        rename_i a d0
        have hv := o1.rp R2 e1
        refine ⟨.ref a, (R2'.getO e2).1, C, en1, _, De.ex, R2', q, k.x σ, fun rk en2 v2 H2 q2 R3 o2 s2 k2 n2 => ?_⟩
        obtain ⟨d1, e3⟩ := s2.own e2
        cases rk with
        | own => exact (show False from by simpa using q2).elim
        | bor => exact (show False from by simpa using q2).elim
        | val kd =>
          rw [e3] at q2
          cases d1 <;> try exact (show False from by simpa using q2).elim
          rename_i t ks ds
          cases t <;> try exact (show False from by simpa using q2).elim
          cases ek : keyT kd with
          | none => simp only [ek] at q2
          | some kk =>
            simp only [ek] at q2
            obtain ⟨hl, q2⟩ := q2
            have R3' : R X.K C σ H2 en2 := R3
            have g := R3'.getO e3
            obtain ⟨c, g1, g2, g3⟩ := g.2.2.2
            obtain ⟨kvs, rfl, rfl⟩ := dk_t g2
            have ekd := keyT_is ek
            subst ekd
            obtain ⟨b, vs, rfl, kt1, kt2⟩ : ∃ b vs, v2 = .ref b ∧ (¬ mm C (oas en2) b ∧ H2 b = some (.tup vs)) ∧ RpA X.K (mm C (oas en2)) H2 vs (kk.map kD) := by
              cases o2 with
              | tup h1 h2 => exact ⟨_, _, rfl, h1, h2⟩
            have ev := key_vals kt2
            subst ev
            have hlen : kvs.length < sizeLine := by
              unfold kT at hl
              rw [List.length_map] at hl
              exact hl
            have hv2 : Rp X.K (mm C (oas en2)) H2 v dv := Rp.mono (k2.le s2) _ _ hv
            refine ⟨a, _, rfl, .t g1 kt1.2 hlen, k.nx σ _ _ q2 (R.put R3' e3 ?_)⟩
            have le : Le (mm C (oas en2)) H2 (mm C (oas en2)) (upd H2 a (.dT (putK kvs kk v))) := fun b u n z => ⟨n, by rw [upd_ne (fun w => n (.inr (by rw [w]; exact oas_mem.mpr ⟨i, _, e3⟩)))]; exact z⟩
            unfold dPut
            rw [dHas_is]
            by_cases hh : (kvs.any fun kv => decide (kv.1 = kk)) = true
            · rw [if_pos hh]
              refine ⟨.t (putK kvs kk v), upd_same, ?_, ?_⟩
              · have e := put_keys kk v kvs
                unfold kT at e
                unfold putK
                rw [if_pos hh]
                show (true, kT kvs) = (true, _)
                unfold kT
                rw [e]
              · have e := put_vals (k := kk) hv2 g3
                unfold putK at le ⊢
                rw [if_pos hh] at le ⊢
                exact RpA.mono le _ _ e
            · rw [if_neg hh]
              refine ⟨.t (putK kvs kk v), upd_same, ?_, ?_⟩
              · unfold putK
                rw [if_neg hh]
                show (true, kT kvs ++ [_]) = (true, List.map _ _)
                unfold kT
                rw [List.map_append]
                rfl
              · unfold putK at le ⊢
                rw [if_neg hh] at le ⊢
                show RpA _ _ _ (List.map _ _) _
                rw [List.map_append]
                exact RpA.mono le _ _ (g3.append (.cons hv2 .nil))⟩
/-- list(d): its keys -/
def gListT : List D → (Res → Prop) → Prop
  | [.dct true ks _], Φ => ∀ p, Φ (.own p (.lst ks))
  | _, _ => False
theorem keys_rp {K : PySem.W.Frag} {C : Cc} {σ : L2.St} {H : Hp} {en : En} (R1 : R K C σ H en) : ∀ {kvs : List (List Key × V)} {bs : List Addr}, IsKeys H kvs bs → RpA K (mm C (oas en)) H (bs.map V.ref) (kT kvs)
  | _, _, .nil => .nil
  | _, _, .cons h t => .cons (.tup ⟨fun z => R1.mN z _ h, h⟩ (rpa_keys _)) (keys_rp R1 t)
theorem ca_listT {X : Cx} : CaD X (fun xs H Q => ∃ d kvs, xs = [V.ref d] ∧ L2.Rd H d (.dT kvs) ∧ ∀ p bs, H p = none → IsKeys H kvs bs → Q (.ref p) (upd H p (.lst (bs.map V.ref)))) gListT := by
  intro C σ H en ds vs Φ Q R1 hs h k
  unfold gListT at h
  split at h
  · cases hs with
    | cons h1 h2 =>
      cases h2
      obtain ⟨a, c, rfl, q1, q2, q3⟩ := h1
      obtain ⟨kvs, rfl, rfl⟩ := dk_t q2
      refine ⟨a, kvs, rfl, .inl q1, fun p bs hp hb => ?_⟩
      obtain ⟨z1, z2⟩ := own_new R1 hp (keys_rp R1 hb)
      exact k _ _ _ (h p) z1 z2 (same_new hp) hp
  · exact h.elim
theorem de_listT {X : Cx} {W : WX} {e : Expr} {es : List Expr} {t : TDa} {p pos : Pos} (hc : X.calm = true) (hm : X.mg "list" = none) (ha : DA X W (e :: es) t) (hg : Gl X "list" := by rfl) (he : starEach (e :: es) X.env = (false, eval e X.env) :: starEach es X.env := by rfl) (hpl : (backTo pos (starEach es X.env)).any (·.1) = false := by rfl) :
    DE X W (.Call (.Name "list" p) (e :: es) [] pos) (tCaD gListT t) := de_callTy (call_list_dT hc) ca_listT hg hm (by decide +kernel) ha (by decide) (by decide) he hpl
/-! ### a test that changes nothing: all own things are lent -/
def frzAll (en : En) : En := en.map fun s => match s with
  | .own _ d => .val d
  | s => s
def tPureT (t : TDt) : TDt := fun _ en Φ => t (fun _ _ => False) (frzAll en) fun b en' => en' = frzAll en ∧ Φ b en
theorem oas_frzAll : ∀ en : En, oas (frzAll en) = []
  | [] => rfl
  | .own _ _ :: r => oas_frzAll r
  | .no :: r => oas_frzAll r
  | .val _ :: r => oas_frzAll r
  | .exc _ _ _ _ :: r => oas_frzAll r
theorem R.frzAll {K : PySem.W.Frag} {C : Cc} {σ : L2.St} {H : Hp} {en : En} (R1 : R K C σ H en) : R K C σ H (VS.frzAll en) := by
  have le : Le (mm C (oas en)) H (mm C []) H := fun b u n q => ⟨fun z => n (z.imp id fun z => by cases z), q⟩
  have e := oas_frzAll en
  refine ⟨?_, by rw [e]; exact List.nodup_nil, R1.dom, R1.keep, R1.nt⟩
  rw [e]
  have go : ∀ {xs : L2.St} {ys : En}, Paired (SlR K C (mm C (oas en)) H) xs ys → Paired (SlR K C (mm C []) H) xs (VS.frzAll ys) := by
    intro xs ys h
    induction h with
    | nil => exact .nil
    | @cons x y xs ys h1 h2 ih =>
      refine .cons ?_ ih
      cases y with
      | no => trivial
      | val d =>
        cases x with
        | none => exact h1
        | some v => exact Rp.mono le _ _ h1
      | own a d =>
        cases x with
        | none => exact h1
        | some v =>
          obtain ⟨rfl, n, _, c⟩ := h1
          exact c.rp le fun z => z.elim n fun z => by cases z
      | exc a cls dd x2 =>
        cases x with
        | none => exact h1
        | some v => exact ⟨h1.1, h1.2.mono le⟩
  exact go R1.sl
theorem dt_pure {X : Cx} {W : WX} {e : Expr} {t : TDt} (h : DT X W e t) : DT X W e (tPureT t) := PTi h fun σ H Q ⟨C, en, Φ, Ψ, R0, h, hX, k⟩ =>
  ⟨C, frzAll en, _, fun _ _ => False, R0.frzAll, h, fun _ _ _ _ _ z => z.elim, fun b en' H' ⟨e, q⟩ R1 s1 k1 => by
    have same : Same H H' := fun a u z => k1 a u (by rw [oas_frzAll]; exact fun z => by cases z) z
    exact k b en H' q (R0.grow same) rfl (Keep.same same)⟩
end VS

namespace VS
open PySem L2 PySem.Spec PyProof.Rows
/-! ### any, min -/
def gAny : List D → (Res → Prop) → Prop := fun xs Φ => match xs with
  | [.lst ds] => ∃ bs : List Bool, ds = bs.map D.bl ∧ Φ (.val (.bl (bs.any id)))
  | _ => False
def gMin : List D → (Res → Prop) → Prop := fun xs Φ => match xs with
  | [.lst ds] => ∃ ns : List Int, ds = ns.map D.int ∧ 0 < ns.length ∧ ∀ m, m ∈ ns → (∀ y, y ∈ ns → m ≤ y) → Φ (.val (.int m))
  | _ => False
section
variable {X : Cx} {W : WX} {e : Expr} {p pos : Pos} {es : List Expr} {t : TDa}
theorem ca_any : CaD X (rAny X.K) gAny := by
  intro C σ H en ds vs Φ Q R1 hs h k
  unfold gAny at h
  split at h
  · obtain ⟨ns, rfl, h⟩ := h
    cases hs with
    | cons h1 h2 =>
      cases h2
      obtain ⟨a, ws, rfl, q1, q2⟩ := h1
      rw [RpA.bls ns q2] at q1
      exact ⟨a, ns, rfl, q1, k _ _ H h R1 (.bl _) (fun _ _ q => q) trivial⟩
  · exact h.elim
theorem ca_min : CaD X (rMin X.K) gMin := by
  intro C σ H en ds vs Φ Q R1 hs h k
  unfold gMin at h
  split at h
  · obtain ⟨ns, rfl, hl, h⟩ := h
    cases hs with
    | cons h1 h2 =>
      cases h2
      obtain ⟨a, ws, rfl, q1, q2⟩ := h1
      rw [RpA.ints ns q2] at q1
      exact ⟨a, ns, rfl, q1, hl, fun m h1 h2 => k _ _ H (h m h1 h2) R1 (.int _) (fun _ _ q => q) trivial⟩
  · exact h.elim
theorem de_any (hc : X.calm = true) (hm : X.mg "any" = none) (ha : DA X W (e :: es) t) (hg : Gl X "any" := by rfl) (he : starEach (e :: es) X.env = (false, eval e X.env) :: starEach es X.env := by rfl) (hpl : (backTo pos (starEach es X.env)).any (·.1) = false := by rfl) :
    DE X W (.Call (.Name "any" p) (e :: es) [] pos) (tCaD gAny t) := de_callB (cr_any hc) ca_any hg hm (by decide +kernel) ha (by decide) (by decide) he hpl
theorem de_min (hc : X.calm = true) (hm : X.mg "min" = none) (ha : DA X W (e :: es) t) (hg : Gl X "min" := by rfl) (he : starEach (e :: es) X.env = (false, eval e X.env) :: starEach es X.env := by rfl) (hpl : (backTo pos (starEach es X.env)).any (·.1) = false := by rfl) :
    DE X W (.Call (.Name "min" p) (e :: es) [] pos) (tCaD gMin t) := de_callB (cr_min hc) ca_min hg hm (by decide +kernel) ha (by decide) (by decide) he hpl
end
section
variable {ta : TDe} {tg : TDg} {tb : TDs} {De : Ed} {en : En}
theorem forLo_p (Pn : List D → En → Prop) (J : Nat → En → Prop) (hta : ∀ Φ : Res → En → Prop, (∀ p ds en1, Pn ds en1 → Φ (.own p (.lst ds)) en1) → ta De.ex en Φ) (j0 : ∀ ds en1, Pn ds en1 → J 0 en1)
    (step : ∀ ds e1, Pn ds e1 → ∀ (i : Nat) d en, ds[i]? = some d → J i en → tg d en fun en2 => tb { De with nx := J (i + 1), ct := J (i + 1), bk := De.nx } en2) (fin : ∀ ds e1 en, Pn ds e1 → J ds.length en → De.nx en) : tForLD ta tg tb De en :=
  hta _ fun _ ds en1 hP => ⟨J, j0 ds en1 hP, step ds en1 hP, fun en hj => fin ds en1 en hP hj⟩
end
end VS

namespace VS
/-! ### rows of points: counts by the ray, by quarters (plain Lean) -/
abbrev P3 := Int × Int × Int
def z3 : P3 := (0, 0, 0)
def crossI (p q : P3) : Int := p.1 * q.2.1 - p.2.1 * q.1
def dotI (p q : P3) : Int := p.1 * q.1 + p.2.1 * q.2.1
def Miss (p q : P3) : Prop := crossI p q ≠ 0 ∨ 0 < dotI p q
instance (p q : P3) : Decidable (Miss p q) := by unfold Miss; infer_instance
def rayX (b d X : Int) : Int := if b < 0 ∧ 0 ≤ d ∧ 0 < X then 1 else if 0 ≤ b ∧ d < 0 ∧ X < 0 then -1 else 0
def rayI (p q : P3) : Int := rayX p.2.1 q.2.1 (crossI p q)
def quadX (a b : Int) : Int := if 0 ≤ b then (if 0 < a then 0 else if 0 < b then 1 else 2) else if a < 0 then 2 else 3
def quadI (p : P3) : Int := quadX p.1 p.2.1
def moveX (m X : Int) : Int := if m % 4 = 2 then (if 0 < X then 2 else -2) else if m % 4 = 3 then -1 else m % 4
def moveI (p q : P3) : Int := moveX (quadI q - quadI p) (crossI p q)
theorem sg_nn {x y : Int} (h : 0 ≤ x) (k : 0 ≤ y) : 0 ≤ x * y := Int.mul_nonneg h k
theorem sg_np {x y : Int} (h : 0 ≤ x) (k : y ≤ 0) : x * y ≤ 0 := by
  have := Int.mul_nonneg h (show 0 ≤ -y by omega)
  rw [Int.mul_neg] at this
  omega
theorem sg_pn {x y : Int} (h : x ≤ 0) (k : 0 ≤ y) : x * y ≤ 0 := by
  rw [Int.mul_comm]
  exact sg_np k h
theorem sg_pp {x y : Int} (h : x ≤ 0) (k : y ≤ 0) : 0 ≤ x * y := by
  have := Int.mul_nonneg (show 0 ≤ -x by omega) (show 0 ≤ -y by omega)
  rw [Int.neg_mul_neg] at this
  exact this
theorem sg_P {x y : Int} (h : 0 < x) (k : 0 < y) : 0 < x * y := Int.mul_pos h k
theorem sg_N {x y : Int} (h : 0 < x) (k : y < 0) : x * y < 0 := Int.mul_neg_of_pos_of_neg h k
theorem sg_N' {x y : Int} (h : x < 0) (k : 0 < y) : x * y < 0 := Int.mul_neg_of_neg_of_pos h k
theorem sg_P' {x y : Int} (h : x < 0) (k : y < 0) : 0 < x * y := Int.mul_pos_of_neg_of_neg h k
/-- where the quarters lie -/
theorem quad_at (a b : Int) (h : ¬ (a = 0 ∧ b = 0)) : (quadX a b = 0 ∧ 0 ≤ b ∧ 0 < a) ∨ (quadX a b = 1 ∧ 0 < b ∧ a ≤ 0) ∨ (quadX a b = 2 ∧ b ≤ 0 ∧ a < 0) ∨ (quadX a b = 3 ∧ b < 0 ∧ 0 ≤ a) := by
  unfold quadX
  repeat' split
  all_goals omega
/-- the same, by the four numbers: X = a d - b c, Y = a c + b d -/
theorem move_rayX {a b c d X Y : Int} (hX : X = a * d - b * c) (hY : Y = a * c + b * d) (h : X ≠ 0 ∨ 0 < Y) (n1 : ¬ (a = 0 ∧ b = 0)) (n2 : ¬ (c = 0 ∧ d = 0)) :
    moveX (quadX c d - quadX a b) X = 4 * rayX b d X + quadX c d - quadX a b := by
  rcases quad_at a b n1 with ⟨e1, h1, h2⟩ | ⟨e1, h1, h2⟩ | ⟨e1, h1, h2⟩ | ⟨e1, h1, h2⟩ <;> rcases quad_at c d n2 with ⟨e2, h3, h4⟩ | ⟨e2, h3, h4⟩ | ⟨e2, h3, h4⟩ | ⟨e2, h3, h4⟩ <;> rw [e1, e2] <;> unfold moveX rayX
  -- 0 -> 0, 1, 2, 3
  · simp; omega
  · simp; omega
  · have t1 : a * c < 0 := sg_N h2 h4
    have t2 : b * d ≤ 0 := sg_np h1 h3
    have t3 : X ≠ 0 := by omega
    by_cases hd : d = 0
    · subst hd
      have t4 : b * c ≤ 0 := sg_np h1 (by omega)
      have t5 : a * 0 = 0 := Int.mul_zero a
      rw [if_pos (by decide), if_pos (by omega), if_neg (by omega), if_neg (by omega)]
      omega
    · by_cases hx : 0 < X
      · rw [if_pos (by decide), if_pos hx, if_neg (by omega), if_neg (by omega)]
        omega
      · rw [if_pos (by decide), if_neg hx, if_neg (by omega), if_pos (by omega)]
        omega
  · have t1 : a * d < 0 := sg_N h2 h3
    have t2 : 0 ≤ b * c := sg_nn h1 h4
    rw [if_neg (by decide), if_pos (by decide), if_neg (by omega), if_pos (by omega)]
    omega
  -- 1 -> 0, 1, 2, 3
  · simp; omega
  · simp; omega
  · have t1 : b * c < 0 := sg_N h1 h4
    have t2 : 0 ≤ a * d := sg_pp h2 h3
    rw [if_neg (by decide), if_neg (by decide), if_neg (by omega), if_neg (by omega)]
    omega
  · have t1 : a * c ≤ 0 := sg_pn h2 h4
    have t2 : b * d < 0 := sg_N h1 h3
    by_cases hx : 0 < X
    · rw [if_pos (by decide), if_pos hx, if_neg (by omega), if_neg (by omega)]
      omega
    · rw [if_pos (by decide), if_neg hx, if_neg (by omega), if_pos (by omega)]
      omega
  -- 2 -> 0, 1, 2, 3
  · have t1 : a * c < 0 := sg_N' h2 h4
    have t2 : b * d ≤ 0 := sg_pn h1 h3
    by_cases hb : b = 0
    · subst hb
      have t3 : a * d ≤ 0 := sg_pn (by omega) h3
      have t4 : 0 * c = 0 := Int.zero_mul c
      rw [if_pos (by decide), if_neg (by omega), if_neg (by omega), if_neg (by omega)]
      omega
    · by_cases hx : 0 < X
      · rw [if_pos (by decide), if_pos hx, if_pos (by omega)]
        omega
      · rw [if_pos (by decide), if_neg hx, if_neg (by omega), if_neg (by omega)]
        omega
  · have t1 : a * d < 0 := sg_N' h2 h3
    have t2 : 0 ≤ b * c := sg_pp h1 h4
    rw [if_neg (by decide), if_pos (by decide), if_neg (by omega), if_neg (by omega)]
    omega
  · by_cases hd : d = 0
    · subst hd
      have t1 : a * 0 = 0 := Int.mul_zero a
      have t2 : 0 ≤ b * c := sg_pp h1 (by omega)
      rw [if_neg (by decide), if_neg (by decide), if_neg (by omega), if_neg (by omega)]
      omega
    · have t1 : 0 < a * d := sg_P' h2 (by omega)
      by_cases hb : b = 0
      · subst hb
        have t2 : 0 * c = 0 := Int.zero_mul c
        rw [if_neg (by decide), if_neg (by decide), if_neg (by omega), if_neg (by omega)]
        omega
      · rw [if_neg (by decide), if_neg (by decide), if_neg (by omega), if_neg (by omega)]
        omega
  · have t1 : 0 < a * d := sg_P' h2 h3
    by_cases hb : b = 0
    · subst hb
      have t2 : 0 * c = 0 := Int.zero_mul c
      rw [if_neg (by decide), if_neg (by decide), if_neg (by omega), if_neg (by omega)]
      omega
    · rw [if_neg (by decide), if_neg (by decide), if_neg (by omega), if_neg (by omega)]
      omega
  -- 3 -> 0, 1, 2, 3
  · have t1 : 0 ≤ a * d := sg_nn h2 h3
    have t2 : b * c < 0 := sg_N' h1 h4
    rw [if_neg (by decide), if_neg (by decide), if_pos (by omega)]
    omega
  · have t1 : a * c ≤ 0 := sg_np h2 h4
    have t2 : b * d < 0 := sg_N' h1 h3
    by_cases hx : 0 < X
    · rw [if_pos (by decide), if_pos hx, if_pos (by omega)]
      omega
    · rw [if_pos (by decide), if_neg hx, if_neg (by omega), if_neg (by omega)]
      omega
  · have t1 : 0 < b * c := sg_P' h1 h4
    have t2 : a * d ≤ 0 := sg_np h2 h3
    rw [if_neg (by decide), if_pos (by decide), if_neg (by omega), if_neg (by omega)]
    omega
  · simp; omega
theorem miss_nz {p q : P3} (h : Miss p q) : ¬ (p.1 = 0 ∧ p.2.1 = 0) ∧ ¬ (q.1 = 0 ∧ q.2.1 = 0) := by
  constructor
  · rintro ⟨e1, e2⟩
    rcases h with h | h
    · exact h (by simp [crossI, e1, e2])
    · simp [dotI, e1, e2] at h
  · rintro ⟨e1, e2⟩
    rcases h with h | h
    · exact h (by simp [crossI, e1, e2])
    · simp [dotI, e1, e2] at h
theorem move_ray {p q : P3} (h : Miss p q) : moveI p q = 4 * rayI p q + quadI q - quadI p :=
  move_rayX (a := p.1) (b := p.2.1) (c := q.1) (d := q.2.1) (X := crossI p q) (Y := dotI p q) rfl rfl h (miss_nz h).1 (miss_nz h).2
/-! ### sums along a closed row -/
def sumTo (f : Nat → Int) : Nat → Int
  | 0 => 0
  | n + 1 => sumTo f n + f n
theorem sumTo_congr {f g : Nat → Int} : ∀ n, (∀ i, i < n → f i = g i) → sumTo f n = sumTo g n
  | 0, _ => rfl
  | n + 1, h => by
    simp only [sumTo]
    rw [sumTo_congr n fun i hi => h i (by omega), h n (by omega)]
theorem sumTo_tele (k : Nat → Int) : ∀ n, sumTo (fun i => k (i + 1) - k i) n = k n - k 0
  | 0 => by simp [sumTo]
  | n + 1 => by simp only [sumTo]; rw [sumTo_tele k n]; omega
theorem sumTo_lin (a : Int) (f g : Nat → Int) : ∀ n, sumTo (fun i => a * f i + g i) n = a * sumTo f n + sumTo g n
  | 0 => by simp [sumTo]
  | n + 1 => by simp only [sumTo]; rw [sumTo_lin a f g n, Int.mul_add]; omega
theorem sumTo_neg (f : Nat → Int) : ∀ n, sumTo (fun i => - f i) n = - sumTo f n
  | 0 => by simp [sumTo]
  | n + 1 => by simp only [sumTo]; rw [sumTo_neg f n]; omega
/-- around a closed row what is a difference of a number of the points is nothing -/
theorem sumTo_cyc (k : Nat → Int) (n : Nat) : sumTo (fun i => k ((i + 1) % n) - k i) n = 0 := by
  cases n with
  | zero => rfl
  | succ m =>
    have h1 : sumTo (fun i => k ((i + 1) % (m + 1)) - k i) m = sumTo (fun i => k (i + 1) - k i) m := sumTo_congr m fun i hi => by rw [Nat.mod_eq_of_lt (by omega)]
    simp only [sumTo]
    rw [h1, sumTo_tele, Nat.mod_self]
    omega
def at3 (ps : List P3) (i : Nat) : P3 := ps.getD i z3
def nxt (ps : List P3) (i : Nat) : P3 := at3 ps ((i + 1) % ps.length)
def Cyc (ps : List P3) : Prop := ∀ i, i < ps.length → Miss (at3 ps i) (nxt ps i)
def roundsI (ps : List P3) : Int := sumTo (fun i => rayI (at3 ps i) (nxt ps i)) ps.length
def movesI (ps : List P3) : Int := sumTo (fun i => moveI (at3 ps i) (nxt ps i)) ps.length
theorem moves_rounds {ps : List P3} (h : Cyc ps) : movesI ps = 4 * roundsI ps := by
  unfold movesI roundsI
  have h1 : sumTo (fun i => moveI (at3 ps i) (nxt ps i)) ps.length = sumTo (fun i => 4 * rayI (at3 ps i) (nxt ps i) + (quadI (at3 ps ((i + 1) % ps.length)) - quadI (at3 ps i))) ps.length :=
    sumTo_congr _ fun i hi => by
      rw [move_ray (h i hi)]
      show 4 * rayI (at3 ps i) (nxt ps i) + quadI (at3 ps ((i + 1) % ps.length)) - quadI (at3 ps i) = _
      omega
  rw [h1, sumTo_lin, sumTo_cyc fun i => quadI (at3 ps i)]
  omega
/-! ### mapped rows -/
/-- crossings of the ray of a linear form: l at both ends, X the turn -/
def mapP (a b c d : Int) (p : P3) : P3 := (a * p.1 + b * p.2.1, c * p.1 + d * p.2.1, p.2.2)
def lin (c d : Int) (p : P3) : Int := c * p.1 + d * p.2.1
theorem cross_map (a b c d : Int) (p q : P3) : crossI (mapP a b c d p) (mapP a b c d q) = (a * d - b * c) * crossI p q := by
  unfold crossI mapP
  simp only
  grind
theorem ray_map (a b c d : Int) (p q : P3) : rayI (mapP a b c d p) (mapP a b c d q) = rayX (lin c d p) (lin c d q) ((a * d - b * c) * crossI p q) := by
  unfold rayI
  rw [cross_map]
  rfl
/-- with the turn the other way the ray of a form is crossed on its other side -/
theorem ray_flip {A B X : Int} (h : X = 0 → (A < 0 ↔ B < 0)) : rayX A B (-X) = (if 0 ≤ B then 1 else 0) - (if 0 ≤ A then 1 else 0) - rayX A B X := by
  unfold rayX
  repeat' split
  all_goals omega
theorem ray_scale {A B X k : Int} (hk : 0 < k) : rayX A B (k * X) = rayX A B X := by
  have h1 : (0 < k * X ↔ 0 < X) := ⟨fun h => by
    rcases Int.lt_trichotomy X 0 with z | z | z
    · have := sg_N hk z; omega
    · rw [z, Int.mul_zero] at h; omega
    · exact z, fun h => sg_P hk h⟩
  have h2 : (k * X < 0 ↔ X < 0) := ⟨fun h => by
    rcases Int.lt_trichotomy X 0 with z | z | z
    · exact z
    · rw [z, Int.mul_zero] at h; omega
    · have := sg_P hk z; omega, fun h => sg_N hk h⟩
  unfold rayX
  simp only [h1, h2]
/-! ### which ray is counted is nothing to a closed row -/
def secX (A B : Int) : Int := if 0 ≤ A ∧ B < 0 then 1 else 0
theorem ray_two {A B A' B' X K : Int} (hK : 0 < K) (hZ : K * X = A * B' - A' * B) (h0 : X = 0 → (A < 0 ↔ A' < 0) ∧ (B < 0 ↔ B' < 0)) : rayX A A' X - rayX B B' X = secX A' B' - secX A B := by
  have p1 : 0 < X → 0 < K * X := fun h => sg_P hK h
  have p2 : X < 0 → K * X < 0 := fun h => sg_N hK h
  generalize K * X = Z at *
  unfold rayX secX
  by_cases a : A < 0 <;> by_cases a' : A' < 0 <;> by_cases b : B < 0 <;> by_cases b' : B' < 0
  · simp [a, a', b, b']; omega
  · simp [a, a', b, b']
    have t1 : A * B' ≤ 0 := sg_pn (by omega) (by omega)
    have t2 : 0 < A' * B := sg_P' a' b
    omega
  · simp [a, a', b, b']
    have t1 : 0 < A * B' := sg_P' a b'
    have t2 : A' * B ≤ 0 := sg_pn (by omega) (by omega)
    omega
  · simp [a, a', b, b']; omega
  · have t1 : 0 < A * B' := sg_P' a b'
    have t2 : A' * B ≤ 0 := sg_np (by omega) (by omega)
    simp [a, a', b, b']
    omega
  · simp [a, a', b, b']
    repeat' split
    all_goals omega
  · simp [a, a', b, b']
    repeat' split
    all_goals omega
  · have t1 : A * B' ≤ 0 := sg_pn (by omega) (by omega)
    have t2 : 0 ≤ A' * B := sg_nn (by omega) (by omega)
    simp [a, a', b, b']
    repeat' split
    all_goals omega
  · have t1 : A * B' ≤ 0 := sg_np (by omega) (by omega)
    have t2 : 0 < A' * B := sg_P' a' b
    simp [a, a', b, b']
    repeat' split
    all_goals omega
  · simp [a, a', b, b']
    repeat' split
    all_goals omega
  · simp [a, a', b, b']
    repeat' split
    all_goals omega
  · have t1 : 0 ≤ A * B' := sg_nn (by omega) (by omega)
    have t2 : A' * B ≤ 0 := sg_pn (by omega) (by omega)
    simp [a, a', b, b']
    repeat' split
    all_goals omega
  all_goals
    simp [a, a', b, b']
    first
      | omega
      | (have t1 : A * B' ≤ 0 := sg_np (by omega) (by omega)
         have t2 : 0 ≤ A' * B := sg_nn (by omega) (by omega)
         repeat' split
         all_goals omega)
      | (have t1 : 0 ≤ A * B' := sg_nn (by omega) (by omega)
         have t2 : A' * B ≤ 0 := sg_np (by omega) (by omega)
         repeat' split
         all_goals omega)
      | (repeat' split
         all_goals omega)
theorem lin_two (c d c' d' : Int) (p q : P3) : (c * d' - d * c') * crossI p q = lin c d p * lin c' d' q - lin c d q * lin c' d' p := by
  unfold lin crossI
  grind
theorem same_way {p q : P3} (h : Miss p q) (hx : crossI p q = 0) (c d : Int) : ∃ k Y : Int, 0 < k ∧ 0 < Y ∧ k * lin c d q = Y * lin c d p := by
  have hY : 0 < dotI p q := h.resolve_left fun z => z hx
  refine ⟨p.1 * p.1 + p.2.1 * p.2.1, dotI p q, ?_, hY, ?_⟩
  · have n := (miss_nz h).1
    have h1 : 0 ≤ p.1 * p.1 := by
      rcases Int.le_total 0 p.1 with z | z
      · exact sg_nn z z
      · exact sg_pp z z
    have h2 : 0 ≤ p.2.1 * p.2.1 := by
      rcases Int.le_total 0 p.2.1 with z | z
      · exact sg_nn z z
      · exact sg_pp z z
    by_cases e : p.1 = 0
    · have e2 : p.2.1 ≠ 0 := fun z => n ⟨e, z⟩
      have : 0 < p.2.1 * p.2.1 := by
        rcases Int.lt_or_gt_of_ne e2 with z | z
        · exact sg_P' z z
        · exact sg_P z z
      omega
    · have : 0 < p.1 * p.1 := by
        rcases Int.lt_or_gt_of_ne e with z | z
        · exact sg_P' z z
        · exact sg_P z z
      omega
  · unfold crossI at hx
    unfold lin dotI
    grind
theorem pos_iff {k Y x y : Int} (hk : 0 < k) (hY : 0 < Y) (h : k * x = Y * y) : (y < 0 ↔ x < 0) := by
  constructor
  · intro z
    rcases Int.lt_trichotomy x 0 with w | w | w
    · exact w
    · rw [w, Int.mul_zero] at h
      have := sg_N hY z
      omega
    · have h1 := sg_P hk w
      have h2 := sg_N hY z
      omega
  · intro z
    rcases Int.lt_trichotomy y 0 with w | w | w
    · exact w
    · rw [w, Int.mul_zero] at h
      have := sg_N hk z
      omega
    · have h1 := sg_P hY w
      have h2 := sg_N hk z
      omega
def linSum (c d : Int) (ps : List P3) : Int := sumTo (fun i => rayX (lin c d (at3 ps i)) (lin c d (nxt ps i)) (crossI (at3 ps i) (nxt ps i))) ps.length
theorem lin_sum_pos {ps : List P3} (h : Cyc ps) {c d c' d' : Int} (hK : 0 < c * d' - d * c') : linSum c d ps = linSum c' d' ps := by
  have key : ∀ i, i < ps.length → rayX (lin c d (at3 ps i)) (lin c d (nxt ps i)) (crossI (at3 ps i) (nxt ps i)) =
      1 * rayX (lin c' d' (at3 ps i)) (lin c' d' (nxt ps i)) (crossI (at3 ps i) (nxt ps i)) + (secX (lin c d (at3 ps ((i + 1) % ps.length))) (lin c' d' (at3 ps ((i + 1) % ps.length))) - secX (lin c d (at3 ps i)) (lin c' d' (at3 ps i))) := fun i hi => by
    have h1 := ray_two hK (X := crossI (at3 ps i) (nxt ps i)) (lin_two c d c' d' (at3 ps i) (nxt ps i)) fun hx => by
      obtain ⟨k, Y, k1, k2, k3⟩ := same_way (h i hi) hx c d
      obtain ⟨l, Z, l1, l2, l3⟩ := same_way (h i hi) hx c' d'
      exact ⟨pos_iff k1 k2 k3, pos_iff l1 l2 l3⟩
    unfold nxt at h1 ⊢
    omega
  unfold linSum
  rw [sumTo_congr _ key, sumTo_lin, sumTo_cyc fun i => secX (lin c d (at3 ps i)) (lin c' d' (at3 ps i))]
  omega
theorem lin_sum_ne {ps : List P3} (h : Cyc ps) {c d c' d' : Int} (hK : c * d' - d * c' ≠ 0) : linSum c d ps = linSum c' d' ps := by
  rcases Int.lt_or_gt_of_ne hK with z | z
  · refine (lin_sum_pos h ?_).symm
    have e1 : c' * d = d * c' := Int.mul_comm _ _
    have e2 : d' * c = c * d' := Int.mul_comm _ _
    omega
  · exact lin_sum_pos h z
theorem sq_pos {a b : Int} (h : ¬ (a = 0 ∧ b = 0)) : 0 < a * a + b * b := by
  have h1 : 0 ≤ a * a := by
    rcases Int.le_total 0 a with z | z
    · exact sg_nn z z
    · exact sg_pp z z
  have h2 : 0 ≤ b * b := by
    rcases Int.le_total 0 b with z | z
    · exact sg_nn z z
    · exact sg_pp z z
  by_cases e : a = 0
  · have e2 : b ≠ 0 := fun z => h ⟨e, z⟩
    have : 0 < b * b := by
      rcases Int.lt_or_gt_of_ne e2 with z | z
      · exact sg_P' z z
      · exact sg_P z z
    omega
  · have : 0 < a * a := by
      rcases Int.lt_or_gt_of_ne e with z | z
      · exact sg_P' z z
      · exact sg_P z z
    omega
theorem lin_sum_any {ps : List P3} (h : Cyc ps) {c d c' d' : Int} (n1 : ¬ (c = 0 ∧ d = 0)) (n2 : ¬ (c' = 0 ∧ d' = 0)) : linSum c d ps = linSum c' d' ps := by
  by_cases hK : c * d' - d * c' = 0
  · have h1 : linSum c d ps = linSum (-d) c ps := lin_sum_pos h (by
      have := sq_pos n1
      have e : d * -d = -(d * d) := Int.mul_neg _ _
      omega)
    have h2 : linSum (-d) c ps = linSum c' d' ps := lin_sum_ne h (fun z => by
      have e : (-d) * d' = -(d * d') := Int.neg_mul _ _
      have w : c * c' + d * d' = 0 := by omega
      have s1 := sq_pos n1
      have s2 := sq_pos n2
      have s3 := sg_P s1 s2
      have id : (c * c + d * d) * (c' * c' + d' * d') = (c * c' + d * d') * (c * c' + d * d') + (c * d' - d * c') * (c * d' - d * c') := by grind
      rw [w, hK] at id
      omega)
    exact h1.trans h2
  · exact lin_sum_ne h hK
theorem lin_y (ps : List P3) : linSum 0 1 ps = roundsI ps := by
  unfold linSum roundsI rayI lin
  simp
theorem at3_map (f : P3 → P3) (ps : List P3) {i : Nat} (hi : i < ps.length) : at3 (ps.map f) i = f (at3 ps i) := by
  unfold at3
  simp [List.getD, hi]
theorem nxt_map (f : P3 → P3) (ps : List P3) {i : Nat} (hi : i < ps.length) : nxt (ps.map f) i = f (nxt ps i) := by
  unfold nxt
  rw [List.length_map]
  exact at3_map f ps (Nat.mod_lt _ (by omega))
theorem cyc_map {a b c d : Int} {ps : List P3} (h : Cyc ps) (hD : a * d - b * c ≠ 0) : Cyc (ps.map (mapP a b c d)) := fun i hi => by
  rw [List.length_map] at hi
  rw [at3_map _ _ hi, nxt_map _ _ hi]
  have hm := h i hi
  generalize at3 ps i = p at *
  generalize nxt ps i = q at *
  by_cases hx : crossI p q = 0
  · right
    obtain ⟨k, Y, k1, k2, k3⟩ := same_way hm hx a b
    have hY : 0 < dotI p q := hm.resolve_left fun z => z hx
    have np : ¬ ((mapP a b c d p).1 = 0 ∧ (mapP a b c d p).2.1 = 0) := by
      rintro ⟨e1, e2⟩
      have n := (miss_nz hm).1
      unfold mapP at e1 e2
      simp only at e1 e2
      have f1 : (a * d - b * c) * p.1 = 0 := by grind
      have f2 : (a * d - b * c) * p.2.1 = 0 := by grind
      rcases Int.mul_eq_zero.mp f1 with z | z
      · exact hD z
      · rcases Int.mul_eq_zero.mp f2 with w | w
        · exact hD w
        · exact n ⟨z, w⟩
    have s := sq_pos np
    have n := sq_pos (miss_nz hm).1
    have id : (p.1 * p.1 + p.2.1 * p.2.1) * dotI (mapP a b c d p) (mapP a b c d q) = dotI p q * ((mapP a b c d p).1 * (mapP a b c d p).1 + (mapP a b c d p).2.1 * (mapP a b c d p).2.1) := by
      unfold crossI at hx
      unfold dotI mapP
      simp only
      grind
    have s2 := sg_P hY s
    rw [← id] at s2
    rcases Int.lt_trichotomy (dotI (mapP a b c d p) (mapP a b c d q)) 0 with z | z | z
    · have := sg_N n z; omega
    · rw [z, Int.mul_zero] at s2; omega
    · exact z
  · left
    rw [cross_map]
    exact fun z => (Int.mul_eq_zero.mp z).elim hD hx
/-- a mapped row goes round as often, or as often the other way -/
theorem rounds_map {a b c d : Int} {ps : List P3} (h : Cyc ps) (hD : a * d - b * c ≠ 0) : roundsI (ps.map (mapP a b c d)) = (if b * c < a * d then 1 else -1) * roundsI ps := by
  have ncd : ¬ (c = 0 ∧ d = 0) := by
    rintro ⟨rfl, rfl⟩
    simp at hD
  have e0 : roundsI (ps.map (mapP a b c d)) = sumTo (fun i => rayX (lin c d (at3 ps i)) (lin c d (nxt ps i)) ((a * d - b * c) * crossI (at3 ps i) (nxt ps i))) ps.length := by
    unfold roundsI
    rw [List.length_map]
    exact sumTo_congr _ fun i hi => by rw [at3_map _ _ hi, nxt_map _ _ hi, ray_map]
  have e1 : linSum c d ps = roundsI ps := (lin_sum_any h ncd (by omega)).trans (lin_y ps)
  rw [e0]
  by_cases hp : b * c < a * d
  · rw [if_pos hp, ← e1]
    unfold linSum
    rw [Int.one_mul]
    exact sumTo_congr _ fun i hi => ray_scale (by omega)
  · rw [if_neg hp, ← e1]
    unfold linSum
    have key : ∀ i, i < ps.length → rayX (lin c d (at3 ps i)) (lin c d (nxt ps i)) ((a * d - b * c) * crossI (at3 ps i) (nxt ps i)) =
        (-1) * rayX (lin c d (at3 ps i)) (lin c d (nxt ps i)) (crossI (at3 ps i) (nxt ps i)) + ((if 0 ≤ lin c d (at3 ps ((i + 1) % ps.length)) then 1 else 0) - (if 0 ≤ lin c d (at3 ps i) then 1 else 0)) := fun i hi => by
      have f1 : (a * d - b * c) * crossI (at3 ps i) (nxt ps i) = -(a * d - b * c) * -crossI (at3 ps i) (nxt ps i) := by rw [Int.neg_mul_neg]
      rw [f1, ray_scale (by omega), ray_flip fun hx => by
        obtain ⟨k, Y, k1, k2, k3⟩ := same_way (h i hi) hx c d
        exact pos_iff k1 k2 k3]
      unfold nxt
      omega
    rw [sumTo_congr _ key, sumTo_lin, sumTo_cyc fun i => if 0 ≤ lin c d (at3 ps i) then 1 else 0]
    omega
end VS

namespace VS
/-! ### hulls (plain Lean): turns, order, steps -/
def turnI (p q r : P3) : Int := p.1 * (q.2.1 * r.2.2 - r.2.1 * q.2.2) - p.2.1 * (q.1 * r.2.2 - r.1 * q.2.2) + p.2.2 * (q.1 * r.2.1 - r.1 * q.2.1)
def dx (p q : P3) : Int := q.1 * p.2.2 - p.1 * q.2.2
def dy (p q : P3) : Int := q.2.1 * p.2.2 - p.2.1 * q.2.2
def crs (a1 a2 b1 b2 : Int) : Int := a1 * b2 - a2 * b1
/-- the lexical order of two points -/
def LtP (p q : P3) : Prop := 0 < dx p q ∨ dx p q = 0 ∧ 0 < dy p q
instance (p q : P3) : Decidable (LtP p q) := by unfold LtP; infer_instance
def farI (c p : P3) : Int := (dx c p).natAbs + (dy c p).natAbs
/-- a direction to the right, or straight up (or none) -/
def Lex (a b : Int) : Prop := 0 < a ∨ a = 0 ∧ 0 < b
def Lex0 (a b : Int) : Prop := 0 < a ∨ a = 0 ∧ 0 ≤ b
theorem Lex.z {a b : Int} (h : Lex a b) : Lex0 a b := by
  unfold Lex at h
  unfold Lex0
  omega
theorem mul_sg {g x : Int} (h : 0 < g) : (0 < g * x ↔ 0 < x) ∧ (0 ≤ g * x ↔ 0 ≤ x) ∧ (g * x < 0 ↔ x < 0) ∧ (g * x = 0 ↔ x = 0) := by
  rcases Int.lt_trichotomy x 0 with z | z | z
  · have := sg_N h z
    omega
  · subst z
    rw [Int.mul_zero]
    omega
  · have := sg_P h z
    omega
theorem crs_id (a1 a2 b1 b2 c1 c2 : Int) : b1 * crs a1 a2 c1 c2 = a1 * crs b1 b2 c1 c2 + c1 * crs a1 a2 b1 b2 := by
  unfold crs
  grind
theorem half_trans {a1 a2 b1 b2 c1 c2 : Int} (ha : Lex0 a1 a2) (hb : Lex b1 b2) (hc : Lex0 c1 c2) (h1 : 0 ≤ crs a1 a2 b1 b2) (h2 : 0 ≤ crs b1 b2 c1 c2) : 0 ≤ crs a1 a2 c1 c2 := by
  unfold Lex0 at ha hc
  rcases hb with hb | ⟨hb, hb2⟩
  · have e := crs_id a1 a2 b1 b2 c1 c2
    have t1 : 0 ≤ a1 * crs b1 b2 c1 c2 := sg_nn (by omega) h2
    have t2 : 0 ≤ c1 * crs a1 a2 b1 b2 := sg_nn (by omega) h1
    exact (mul_sg hb).2.1.mp (by omega)
  · subst hb
    have e : crs 0 b2 c1 c2 = - (b2 * c1) := by unfold crs; grind
    rw [e] at h2
    have c0 : c1 = 0 := by
      rcases Int.lt_or_le 0 c1 with z | z
      · have := sg_P hb2 z
        omega
      · omega
    subst c0
    have e2 : crs a1 a2 0 c2 = a1 * c2 := by unfold crs; grind
    rw [e2]
    exact sg_nn (by omega) (by omega)
/-- .. strictly, where one of the two is -/
theorem half_lt1 {a1 a2 b1 b2 c1 c2 : Int} (ha : Lex a1 a2) (hb : Lex b1 b2) (hc : Lex c1 c2) (h1 : 0 ≤ crs a1 a2 b1 b2) (h2 : 0 < crs b1 b2 c1 c2) : 0 < crs a1 a2 c1 c2 := by
  unfold Lex at ha hc
  rcases hb with hb | ⟨hb, hb2⟩
  · have e := crs_id a1 a2 b1 b2 c1 c2
    have t2 : 0 ≤ c1 * crs a1 a2 b1 b2 := sg_nn (by omega) h1
    rcases ha with ha | ⟨ha, ha2⟩
    · have t1 := sg_P ha h2
      exact (mul_sg hb).1.mp (by omega)
    · subst ha
      have e1 : crs 0 a2 b1 b2 = - (a2 * b1) := by unfold crs; grind
      have := sg_P ha2 hb
      omega
  · subst hb
    have e : crs 0 b2 c1 c2 = - (b2 * c1) := by unfold crs; grind
    rw [e] at h2
    have : 0 ≤ b2 * c1 := sg_nn (by omega) (by omega)
    omega
theorem half_lt2 {a1 a2 b1 b2 c1 c2 : Int} (ha : Lex a1 a2) (hb : Lex b1 b2) (hc : Lex c1 c2) (h1 : 0 < crs a1 a2 b1 b2) (h2 : 0 ≤ crs b1 b2 c1 c2) : 0 < crs a1 a2 c1 c2 := by
  unfold Lex at ha hc
  rcases hb with hb | ⟨hb, hb2⟩
  · have e := crs_id a1 a2 b1 b2 c1 c2
    have t1 : 0 ≤ a1 * crs b1 b2 c1 c2 := sg_nn (by omega) h2
    rcases hc with hc | ⟨hc, hc2⟩
    · have t2 := sg_P hc h1
      exact (mul_sg hb).1.mp (by omega)
    · subst hc
      have e2 : crs a1 a2 0 c2 = a1 * c2 := by unfold crs; grind
      rw [e2]
      rcases ha with ha | ⟨ha, ha2⟩
      · exact sg_P ha hc2
      · subst ha
        have e1 : crs 0 a2 b1 b2 = - (a2 * b1) := by unfold crs; grind
        have := sg_P ha2 hb
        omega
  · subst hb
    have e2 : crs a1 a2 0 b2 = a1 * b2 := by unfold crs; grind
    rw [e2] at h1
    have a0 : 0 < a1 := by
      rcases ha with ha | ⟨ha, _⟩
      · exact ha
      · subst ha
        omega
    have e : crs 0 b2 c1 c2 = - (b2 * c1) := by unfold crs; grind
    rw [e] at h2
    have c0 : c1 = 0 := by
      rcases Int.lt_or_le 0 c1 with z | z
      · have := sg_P hb2 z
        omega
      · omega
    subst c0
    have e3 : crs a1 a2 0 c2 = a1 * c2 := by unfold crs; grind
    rw [e3]
    exact sg_P a0 (by omega)
/-- turns by steps -/
theorem turn_crs (c p q : P3) : crs (dx c p) (dy c p) (dx c q) (dy c q) = c.2.2 * turnI c p q := by
  unfold crs dx dy turnI
  grind
theorem dx_neg (p q : P3) : dx q p = - dx p q := by unfold dx; omega
theorem dy_neg (p q : P3) : dy q p = - dy p q := by unfold dy; omega
theorem turn_swap (p q r : P3) : turnI p r q = - turnI p q r := by unfold turnI; grind
theorem turn_rot (p q r : P3) : turnI q r p = turnI p q r := by unfold turnI; grind
theorem turn_same (p q : P3) : turnI p q q = 0 := by unfold turnI; grind
theorem turn_same2 (p q : P3) : turnI p q p = 0 := by unfold turnI; grind
theorem dx_add (p q r : P3) : q.2.2 * dx p r = r.2.2 * dx p q + p.2.2 * dx q r := by unfold dx; grind
theorem dy_add (p q r : P3) : q.2.2 * dy p r = r.2.2 * dy p q + p.2.2 * dy q r := by unfold dy; grind
theorem crs_neg1 (a b c d : Int) : crs (-a) (-b) c d = - crs a b c d := by unfold crs; grind
theorem crs_neg2 (a b c d : Int) : crs a b (-c) (-d) = - crs a b c d := by unfold crs; grind
theorem crs_sym (a b c d : Int) : crs c d a b = - crs a b c d := by unfold crs; grind
def PosW (p : P3) : Prop := 0 < p.2.2
theorem LtP.trans {p q r : P3} (wp : PosW p) (wq : PosW q) (wr : PosW r) (h1 : LtP p q) (h2 : LtP q r) : LtP p r := by
  unfold PosW at *
  have e1 := dx_add p q r
  have e2 := dy_add p q r
  unfold LtP at *
  rcases h1 with h1 | ⟨h1, h1'⟩ <;> rcases h2 with h2 | ⟨h2, h2'⟩
  · left
    have := sg_P wr h1
    have := sg_P wp h2
    exact (mul_sg wq).1.mp (by omega)
  · left
    have := sg_P wr h1
    rw [h2, Int.mul_zero] at e1
    exact (mul_sg wq).1.mp (by omega)
  · left
    have := sg_P wp h2
    rw [h1, Int.mul_zero] at e1
    exact (mul_sg wq).1.mp (by omega)
  · right
    rw [h1, h2, Int.mul_zero, Int.mul_zero] at e1
    have := sg_P wr h1'
    have := sg_P wp h2'
    exact ⟨(mul_sg wq).2.2.2.mp (by omega), (mul_sg wq).1.mp (by omega)⟩
theorem LtP.irr {p : P3} (h : LtP p p) : False := by
  unfold LtP dx dy at h
  omega
theorem LtP.asym {p q : P3} (h : LtP p q) (k : LtP q p) : False := by
  unfold LtP at h k
  rw [dx_neg, dy_neg] at k
  omega
theorem LtP.lex {p q : P3} (h : LtP p q) : Lex (dx p q) (dy p q) := h
/-! ### the rim of a row in order; the stack with its top first -/
def popT (p : P3) : List P3 → List P3
  | b :: a :: r => if turnI a b p ≤ 0 then popT p (a :: r) else b :: a :: r
  | l => l
def rimT (st : List P3) : List P3 → List P3
  | [] => st
  | p :: r => rimT (p :: popT p st) r
abbrev SetP := P3 → Prop
def Good (S : SetP) : List P3 → Prop
  | [] => True
  | [a] => ∀ p, S p → p = a ∨ LtP a p
  | b :: a :: r => LtP a b ∧ (∀ p, S p → 0 ≤ turnI a b p) ∧ (∀ z, r.head? = some z → 0 < turnI z a b) ∧ Good S (a :: r)
theorem pop_ok {S : SetP} {p : P3} (hW : ∀ q, S q → PosW q) (hp : ∀ q, S q → LtP q p) : ∀ {st : List P3}, Good S st → st ≠ [] → (∀ k ∈ st, S k) → (∀ t, st.head? = some t → ∀ q, S q → LtP t q → 0 ≤ turnI t p q) →
    popT p st ≠ [] ∧ Good S (popT p st) ∧ (∀ t, (popT p st).head? = some t → ∀ q, S q → LtP t q → 0 ≤ turnI t p q) ∧ (∀ b a r, popT p st = b :: a :: r → 0 < turnI a b p) ∧ (∀ k ∈ popT p st, k ∈ st) ∧ (popT p st).getLast? = st.getLast?
  | [], _, h, _, _ => absurd rfl h
  | [a], g, _, _, hd => ⟨by simp [popT], g, hd, fun b a r h => by simp [popT] at h, fun k h => h, rfl⟩
  | b :: a :: r, g, _, hm, hd => by
    by_cases z : turnI a b p ≤ 0
    · have e : popT p (b :: a :: r) = popT p (a :: r) := by rw [popT, if_pos z]
      rw [e]
      have ma := hm a (by simp)
      have ih := pop_ok hW hp (st := a :: r) g.2.2.2 (by simp) (fun k h => hm k (List.mem_cons_of_mem _ h)) (fun t ht q hq hl => by
        obtain rfl : a = t := by simpa using ht
        have wa : 0 < a.2.2 := hW _ ma
        have c1 : 0 ≤ crs (dx a b) (dy a b) (dx a q) (dy a q) := by
          rw [turn_crs]
          exact sg_nn (Int.le_of_lt wa) (g.2.1 q hq)
        have c2 : 0 ≤ crs (dx a p) (dy a p) (dx a b) (dy a b) := by
          rw [turn_crs, turn_swap]
          exact sg_nn (Int.le_of_lt wa) (by omega)
        have c3 := half_trans (hp a ma).lex.z g.1.lex hl.lex.z c2 c1
        rw [turn_crs] at c3
        exact (mul_sg wa).2.1.mp c3)
      exact ⟨ih.1, ih.2.1, ih.2.2.1, ih.2.2.2.1, fun k h => List.mem_cons_of_mem _ (ih.2.2.2.2.1 k h), by rw [ih.2.2.2.2.2]; simp⟩
    · have e : popT p (b :: a :: r) = b :: a :: r := by rw [popT, if_neg z]
      rw [e]
      exact ⟨by simp, g, hd, fun b' a' r' h => by cases h; omega, fun k h => h, rfl⟩
/-- a point more, farther on: it lies on the left of all sides -/
theorem good_more {S : SetP} {p : P3} (hW : ∀ q, S q → PosW q) (hp : ∀ q, S q → LtP q p) : ∀ {st : List P3}, Good S st → (∀ k ∈ st, S k) → (∀ b a r, st = b :: a :: r → 0 ≤ turnI a b p) → Good (fun q => q = p ∨ S q) st
  | [], _, _, _ => trivial
  | [a], g, hm, _ => fun q hq => by
    rcases hq with rfl | hq
    · exact .inr (hp a (hm a (by simp)))
    · exact g q hq
  | b :: a :: r, g, hm, ht => by
    have t0 := ht b a r rfl
    refine ⟨g.1, fun q hq => ?_, g.2.2.1, good_more hW hp g.2.2.2 (fun k h => hm k (List.mem_cons_of_mem _ h)) fun a' z r' e => ?_⟩
    · rcases hq with rfl | hq
      · exact t0
      · exact g.2.1 q hq
    · cases e
      have ma := hm a (by simp)
      have mz := hm z (by simp)
      have wa : 0 < a.2.2 := hW _ ma
      have gz := g.2.2.1 z rfl
      have lz : LtP z a := g.2.2.2.1
      have c1 : 0 ≤ crs (dx z a) (dy z a) (dx a b) (dy a b) := by
        have e1 := turn_crs a b z
        rw [turn_rot z a b] at e1
        rw [dx_neg z a, dy_neg z a, crs_neg2, crs_sym (dx z a) (dy z a)] at e1
        have := sg_P wa gz
        omega
      have c2 : 0 ≤ crs (dx a b) (dy a b) (dx a p) (dy a p) := by
        rw [turn_crs]
        exact sg_nn (Int.le_of_lt wa) t0
      have c3 := half_trans lz.lex.z g.1.lex (hp a ma).lex.z c1 c2
      have e2 := turn_crs a p z
      rw [turn_rot z a p, dx_neg z a, dy_neg z a, crs_neg2, crs_sym (dx z a) (dy z a)] at e2
      exact (mul_sg wa).2.1.mp (by omega)
theorem good_push {S : SetP} {p : P3} (hW : ∀ q, S q → PosW q) (hp : ∀ q, S q → LtP q p) (tot : ∀ q t, S q → S t → q = t ∨ LtP q t ∨ LtP t q) {st : List P3} (g : Good S st) (hne : st ≠ []) (hm : ∀ k ∈ st, S k) (hmax : ∀ t, st.head? = some t → ∀ q, S q → q = t ∨ LtP q t) :
    Good (fun q => q = p ∨ S q) (p :: popT p st) := by
  obtain ⟨h1, h2, h3, h4, h5, _⟩ := pop_ok hW hp g hne hm (fun t ht q hq hl => by
    rcases hmax t ht q hq with e | e
    · subst e
      exact absurd hl LtP.irr
    · exact absurd hl e.asym)
  generalize popT p st = s' at *
  have hm' : ∀ k ∈ s', S k := fun k h => hm k (h5 k h)
  have hmore := good_more hW hp h2 hm' (fun b a r e => Int.le_of_lt (h4 b a r e))
  cases s' with
  | nil => exact absurd rfl h1
  | cons t r =>
    have mt := hm' t (by simp)
    have wt : 0 < t.2.2 := hW _ mt
    refine ⟨hp t mt, fun q hq => ?_, fun z hz => ?_, hmore⟩
    · rcases hq with rfl | hq
      · rw [turn_same]
        exact Int.le_refl _
      · rcases tot q t hq mt with e | e | e
        · subst e
          rw [turn_same2]
          exact Int.le_refl _
        · cases r with
          | nil =>
            rcases h2 q hq with z | z
            · subst z
              exact absurd e LtP.irr
            · exact absurd e z.asym
          | cons a r =>
            have ma := hm' a (by simp)
            have u := h4 t a r rfl
            have lat : LtP a t := h2.1
            have c1 : 0 ≤ crs (dx q t) (dy q t) (dx a t) (dy a t) := by
              have e1 := turn_crs t q a
              rw [turn_rot a t q, dx_neg a t, dy_neg a t, dx_neg q t, dy_neg q t, crs_neg1, crs_neg2] at e1
              have := sg_nn (Int.le_of_lt wt) (h2.2.1 q hq)
              omega
            have c2 : 0 ≤ crs (dx a t) (dy a t) (dx t p) (dy t p) := by
              have e1 := turn_crs t p a
              rw [turn_rot a t p, dx_neg a t, dy_neg a t, crs_neg2, crs_sym (dx a t) (dy a t)] at e1
              have := sg_P wt u
              omega
            have c3 := half_trans e.lex.z lat.lex (hp t mt).lex.z c1 c2
            have e2 := turn_crs t p q
            rw [dx_neg q t, dy_neg q t, crs_neg2, crs_sym (dx q t) (dy q t)] at e2
            exact (mul_sg wt).2.1.mp (by omega)
        · exact h3 t rfl q hq e
    · cases r with
      | nil => cases hz
      | cons a r =>
        obtain rfl : a = z := by simpa using hz
        exact h4 t a r rfl
end VS

namespace VS
theorem good_congr {S T : SetP} (h : ∀ q, S q ↔ T q) : ∀ {st : List P3}, Good S st → Good T st
  | [], g => g
  | [a], g => fun p hp => g p ((h p).mpr hp)
  | b :: a :: r, g => ⟨g.1, fun p hp => g.2.1 p ((h p).mpr hp), g.2.2.1, good_congr h g.2.2.2⟩
/-- a row in order -/
def Srt (row : List P3) : Prop := row.Pairwise LtP
structure RimOk (S : SetP) (st : List P3) : Prop where
  ne : st ≠ []
  good : Good S st
  mem : ∀ k ∈ st, S k
  top : ∀ t, st.head? = some t → ∀ q, S q → q = t ∨ LtP q t
theorem rim_ok : ∀ {row : List P3} {S : SetP} {st : List P3}, RimOk S st → (∀ q, S q → PosW q) → (∀ q t, S q → S t → q = t ∨ LtP q t ∨ LtP t q) → Srt row → (∀ p ∈ row, PosW p) → (∀ q, S q → ∀ p ∈ row, LtP q p) →
    RimOk (fun q => S q ∨ q ∈ row) (rimT st row) ∧ (rimT st row).getLast? = st.getLast?
  | [], S, st, ok, _, _, _, _, _ => ⟨⟨ok.ne, good_congr (fun q => by simp) ok.good, fun k h => .inl (ok.mem k h), fun t h q hq => ok.top t h q (by simpa using hq)⟩, rfl⟩
  | p :: row, S, st, ok, hW, tot, srt, hw, hlt => by
    have hp : ∀ q, S q → LtP q p := fun q hq => hlt q hq p (by simp)
    obtain ⟨h1, h2, h3, h4, h5, h6⟩ := pop_ok hW hp ok.good ok.ne ok.mem (fun t ht q hq hl => by
      rcases ok.top t ht q hq with e | e
      · subst e
        exact absurd hl LtP.irr
      · exact absurd hl e.asym)
    have g := good_push hW hp tot ok.good ok.ne ok.mem ok.top
    have srt' := List.pairwise_cons.mp srt
    have ok' : RimOk (fun q => q = p ∨ S q) (p :: popT p st) := ⟨by simp, g, fun k hk => by
      rcases List.mem_cons.mp hk with e | e
      · exact .inl e
      · exact .inr (ok.mem k (h5 k e)), fun t ht q hq => by
      obtain rfl : p = t := by simpa using ht
      rcases hq with e | e
      · exact .inl e
      · exact .inr (hp q e)⟩
    obtain ⟨i1, i2⟩ := rim_ok (row := row) ok' (fun q hq => by
      rcases hq with rfl | hq
      · exact hw q (by simp)
      · exact hW q hq) (fun q t hq ht => by
      rcases hq with rfl | hq <;> rcases ht with rfl | ht
      · exact .inl rfl
      · exact .inr (.inr (hp t ht))
      · exact .inr (.inl (hp q hq))
      · exact tot q t hq ht) srt'.2 (fun q hq => hw q (List.mem_cons_of_mem _ hq)) (fun q hq x hx => by
      rcases hq with rfl | hq
      · exact srt'.1 x hx
      · exact hlt q hq x (List.mem_cons_of_mem _ hx))
    refine ⟨⟨i1.ne, good_congr (fun q => by
      rw [List.mem_cons]
      exact ⟨fun h => h.elim (fun h => h.elim (fun h => .inr (.inl h)) .inl) (fun h => .inr (.inr h)), fun h => h.elim (fun h => .inl (.inr h)) (fun h => h.elim (fun h => .inl (.inl h)) .inr)⟩) i1.good, fun k hk => ?_, fun t ht q hq => i1.top t ht q ?_⟩, ?_⟩
    · have := i1.mem k hk
      simp only [List.mem_cons]
      rcases this with (h | h) | h
      · exact .inr (.inl h)
      · exact .inl h
      · exact .inr (.inr h)
    · simp only [List.mem_cons] at hq
      rcases hq with h | h | h
      · exact .inl (.inr h)
      · exact .inl (.inl h)
      · exact .inr h
    · show (rimT (p :: popT p st) row).getLast? = _
      rw [i2]
      cases hs : popT p st with
      | nil => exact absurd hs h1
      | cons t r =>
        rw [← h6, hs]
        simp
theorem rim_row {row : List P3} (srt : Srt row) (hw : ∀ p ∈ row, PosW p) (hne : row ≠ []) : RimOk (fun q => q ∈ row) (rimT [] row) ∧ (rimT [] row).getLast? = row.head? ∧ (rimT [] row).head? = row.getLast? := by
  cases row with
  | nil => exact absurd rfl hne
  | cons p r =>
    have srt' := List.pairwise_cons.mp srt
    have ok0 : RimOk (fun q => q = p) [p] := ⟨by simp, fun q hq => .inl hq, fun k hk => by simpa using hk, fun t ht q hq => by
      obtain rfl : p = t := by simpa using ht
      exact .inl hq⟩
    obtain ⟨h1, h2⟩ := rim_ok (row := r) ok0 (fun q hq => by subst hq; exact hw q (by simp)) (fun q t hq ht => .inl (hq.trans ht.symm)) srt'.2 (fun q hq => hw q (List.mem_cons_of_mem _ hq)) (fun q hq x hx => by subst hq; exact srt'.1 x hx)
    have e : rimT [] (p :: r) = rimT [p] r := rfl
    rw [e]
    refine ⟨⟨h1.ne, good_congr (fun q => by simp) h1.good, fun k hk => by simpa using h1.mem k hk, fun t ht q hq => h1.top t ht q (by simpa using hq)⟩, by rw [h2]; rfl, ?_⟩
    have headof : ∀ (row st : List P3), st ≠ [] → (rimT st row).head? = ((st.head?.toList) ++ row).getLast? := by
      intro row
      induction row with
      | nil =>
        intro st hst
        cases st with
        | nil => exact absurd rfl hst
        | cons a l => rfl
      | cons x row ih =>
        intro st hst
        show (rimT (x :: popT x st) row).head? = _
        rw [ih _ (by simp)]
        simp [List.getLast?_append, List.getLast?_cons]
    rw [headof r [p] (by simp)]
    rfl
/-! ### the next corner -/
structure Next (S : SetP) (c q : P3) : Prop where
  mem : S q
  ne : q ≠ c
  all : ∀ p, S p → p ≠ c → p ≠ q → 0 < turnI c q p ∨ turnI c q p = 0 ∧ farI c p * q.2.2 < farI c q * p.2.2
theorem Next.one {S : SetP} {c q q' : P3} (h : Next S c q) (h' : Next S c q') : q = q' := by
  by_cases e : q = q'
  · exact e
  · have a1 := h.all q' h'.mem h'.ne (fun z => e z.symm)
    have a2 := h'.all q h.mem h.ne e
    have := turn_swap c q q'
    omega
/-- between two points on a line: how far -/
theorem far_add {a p b : P3} (wa : PosW a) (wp : PosW p) (wb : PosW b) (h1 : LtP a p) (h2 : LtP p b) (h : turnI a b p = 0) : farI a p * b.2.2 < farI a b * p.2.2 := by
  have e1 := dx_add a p b
  have e2 := dy_add a p b
  have c : crs (dx a p) (dy a p) (dx p b) (dy p b) = 0 := by
    have e := turn_crs p b a
    rw [turn_rot a p b, turn_swap, h, dx_neg a p, dy_neg a p, crs_neg2, crs_sym (dx a p) (dy a p)] at e
    omega
  unfold PosW at wa wp wb
  unfold farI
  have x1 : 0 ≤ dx a p := by unfold LtP at h1; omega
  have x2 : 0 ≤ dx p b := by unfold LtP at h2; omega
  have hx : ((dx a b).natAbs : Int) * p.2.2 = (dx a p).natAbs * b.2.2 + (dx p b).natAbs * a.2.2 := by
    have : 0 ≤ dx a b := by
      have t1 := sg_nn (Int.le_of_lt wb) x1
      have t2 := sg_nn (Int.le_of_lt wa) x2
      exact (mul_sg wp).2.1.mp (by omega)
    rw [Int.natAbs_of_nonneg this, Int.natAbs_of_nonneg x1, Int.natAbs_of_nonneg x2]
    grind
  have sgn : (0 ≤ dy a p ∧ 0 ≤ dy p b) ∨ (dy a p ≤ 0 ∧ dy p b ≤ 0) := by
    unfold crs at c
    rcases h1 with h1 | ⟨h1, h1'⟩
    · rcases h2 with h2 | ⟨h2, h2'⟩
      · rcases Int.lt_trichotomy (dy a p) 0 with z | z | z
        · have t := sg_N' z h2
          right
          refine ⟨by omega, ?_⟩
          rcases Int.lt_or_le 0 (dy p b) with w | w
          · have := sg_P h1 w
            omega
          · exact w
        · have t : dx a p * dy p b = 0 := by rw [z, Int.zero_mul] at c; omega
          have := (mul_sg h1).2.2.2.mp t
          left
          omega
        · have t := sg_P z h2
          left
          refine ⟨by omega, ?_⟩
          rcases Int.lt_or_le (dy p b) 0 with w | w
          · have := sg_N h1 w
            omega
          · exact w
      · rw [h2, Int.mul_zero] at c
        have t := sg_P h1 h2'
        omega
    · rw [h1, Int.zero_mul] at c
      rcases h2 with h2 | ⟨h2, h2'⟩
      · have t := sg_P h1' h2
        omega
      · left
        omega
  have hy : ((dy a b).natAbs : Int) * p.2.2 = (dy a p).natAbs * b.2.2 + (dy p b).natAbs * a.2.2 := by
    rcases sgn with ⟨s1, s2⟩ | ⟨s1, s2⟩
    · have : 0 ≤ dy a b := by
        have t1 := sg_nn (Int.le_of_lt wb) s1
        have t2 := sg_nn (Int.le_of_lt wa) s2
        exact (mul_sg wp).2.1.mp (by omega)
      rw [Int.natAbs_of_nonneg this, Int.natAbs_of_nonneg s1, Int.natAbs_of_nonneg s2]
      grind
    · have : dy a b ≤ 0 := by
        have t1 := sg_np (Int.le_of_lt wb) s1
        have t2 := sg_np (Int.le_of_lt wa) s2
        have e3 : p.2.2 * (- dy a b) = -(b.2.2 * dy a p + a.2.2 * dy p b) := by rw [Int.mul_neg]; omega
        have := (mul_sg wp (x := - dy a b)).2.1.mp (by omega)
        omega
      rw [Int.ofNat_natAbs_of_nonpos this, Int.ofNat_natAbs_of_nonpos s1, Int.ofNat_natAbs_of_nonpos s2]
      grind
  have hpos : 0 < (((dx p b).natAbs : Int) + (dy p b).natAbs) * a.2.2 := sg_P (by unfold LtP at h2; omega) wa
  have g1 : (((dx a b).natAbs : Int) + (dy a b).natAbs) * p.2.2 = ((dx a b).natAbs : Int) * p.2.2 + ((dy a b).natAbs : Int) * p.2.2 := by grind
  have g2 : (((dx a p).natAbs : Int) + (dy a p).natAbs) * b.2.2 = ((dx a p).natAbs : Int) * b.2.2 + ((dy a p).natAbs : Int) * b.2.2 := by grind
  have g3 : (((dx p b).natAbs : Int) + (dy p b).natAbs) * a.2.2 = ((dx p b).natAbs : Int) * a.2.2 + ((dy p b).natAbs : Int) * a.2.2 := by grind
  omega
/-- a side of the rim leads to the next corner -/
theorem good_next {S : SetP} (hW : ∀ q, S q → PosW q) (tot : ∀ q t, S q → S t → q = t ∨ LtP q t ∨ LtP t q) {b a : P3} {r : List P3} (g : Good S (b :: a :: r)) (hm : ∀ k ∈ b :: a :: r, S k) (up : (∀ q, S q → q = b ∨ LtP q b) ∨ ∃ c, LtP b c ∧ 0 < turnI a b c ∧ S c ∧ ∀ q, S q → 0 ≤ turnI b c q) : Next S a b := by
  have ma := hm a (by simp)
  have mb := hm b (by simp)
  have wa : 0 < a.2.2 := hW _ ma
  have wb : 0 < b.2.2 := hW _ mb
  have lab : LtP a b := g.1
  refine ⟨mb, fun e => LtP.irr (e ▸ lab), fun p hp n1 n2 => ?_⟩
  have t0 := g.2.1 p hp
  rcases Int.lt_or_le 0 (turnI a b p) with z | z
  · exact .inl z
  right
  have tz : turnI a b p = 0 := by omega
  refine ⟨tz, ?_⟩
  rcases tot p a hp ma with e | e | e
  · exact absurd e n1
  · exfalso
    cases r with
    | nil =>
      rcases g.2.2.2 p hp with w | w
      · exact n1 w
      · exact e.asym w
    | cons y r =>
      have my := hm y (by simp)
      have s := g.2.2.1 y rfl
      have ga : 0 ≤ turnI y a p := g.2.2.2.2.1 p hp
      have lya : LtP y a := g.2.2.2.1
      have c1 : 0 ≤ crs (dx p a) (dy p a) (dx y a) (dy y a) := by
        have e1 := turn_crs a p y
        rw [turn_rot y a p, dx_neg y a, dy_neg y a, dx_neg p a, dy_neg p a, crs_neg1, crs_neg2] at e1
        have := sg_nn (Int.le_of_lt wa) ga
        omega
      have c2 : 0 < crs (dx y a) (dy y a) (dx a b) (dy a b) := by
        have e1 := turn_crs a b y
        rw [turn_rot y a b, dx_neg y a, dy_neg y a, crs_neg2, crs_sym (dx y a) (dy y a)] at e1
        have := sg_P wa s
        omega
      have c3 := half_lt1 e.lex lya.lex lab.lex c1 c2
      have e2 := turn_crs a b p
      rw [tz, Int.mul_zero, dx_neg p a, dy_neg p a, crs_neg2, crs_sym (dx p a) (dy p a)] at e2
      omega
  · rcases tot p b hp mb with w | w | w
    · exact absurd w n2
    · exact far_add (hW _ ma) (hW _ hp) (hW _ mb) e w tz
    · exfalso
      rcases up with up | ⟨c, l, s, mc, hc⟩
      · rcases up p hp with v | v
        · exact n2 v
        · exact w.asym v
      · have c1 : 0 < crs (dx a b) (dy a b) (dx b c) (dy b c) := by
          have e1 := turn_crs b c a
          rw [turn_rot a b c, dx_neg a b, dy_neg a b, crs_neg2, crs_sym (dx a b) (dy a b)] at e1
          have := sg_P wb s
          omega
        have c2 : 0 ≤ crs (dx b c) (dy b c) (dx b p) (dy b p) := by
          rw [turn_crs]
          exact sg_nn (Int.le_of_lt wb) (hc p hp)
        have c3 := half_lt2 lab.lex l.lex w.lex c1 c2
        have e2 := turn_crs b p a
        rw [turn_rot a b p, tz, Int.mul_zero, dx_neg a b, dy_neg a b, crs_neg2, crs_sym (dx a b) (dy a b)] at e2
        omega
/-- consecutive points, each the next corner -/
def Path (S : SetP) : List P3 → Prop
  | a :: b :: r => Next S a b ∧ Path S (b :: r)
  | _ => True
theorem path_snoc {S : SetP} {a b : P3} : ∀ {l : List P3}, Path S (l ++ [a]) → Next S a b → Path S (l ++ [a, b])
  | [], _, h => ⟨h, trivial⟩
  | [x], h, k => ⟨h.1, k, trivial⟩
  | x :: y :: r, h, k => ⟨h.1, path_snoc (l := y :: r) h.2 k⟩
theorem good_path {S : SetP} (hW : ∀ q, S q → PosW q) (tot : ∀ q t, S q → S t → q = t ∨ LtP q t ∨ LtP t q) : ∀ {st : List P3}, Good S st → (∀ k ∈ st, S k) → (∀ b a r, st = b :: a :: r → (∀ q, S q → q = b ∨ LtP q b) ∨ ∃ c, LtP b c ∧ 0 < turnI a b c ∧ S c ∧ ∀ q, S q → 0 ≤ turnI b c q) → Path S st.reverse
  | [], _, _, _ => trivial
  | [a], _, _, _ => trivial
  | b :: a :: r, g, hm, up => by
    have n := good_next hW tot g hm (up b a r rfl)
    have ih := good_path hW tot (st := a :: r) g.2.2.2 (fun k h => hm k (List.mem_cons_of_mem _ h)) (fun b' a' r' e => by
      cases e
      exact .inr ⟨b, g.1, g.2.2.1 a' rfl, hm b (by simp), g.2.1⟩)
    rw [List.reverse_cons] at ih ⊢
    rw [List.reverse_cons, List.append_assoc]
    exact path_snoc ih n
theorem RimOk.path {S : SetP} {st : List P3} (ok : RimOk S st) (hW : ∀ q, S q → PosW q) (tot : ∀ q t, S q → S t → q = t ∨ LtP q t ∨ LtP t q) : Path S st.reverse :=
  good_path hW tot ok.good ok.mem fun b a r e => .inl (ok.top b (by rw [e]; rfl))
/-! ### turned by half a turn -/
def ngP (p : P3) : P3 := (-p.1, -p.2.1, p.2.2)
theorem ngP_ngP (p : P3) : ngP (ngP p) = p := by
  obtain ⟨x, y, w⟩ := p
  simp [ngP]
theorem turn_ng (p q r : P3) : turnI (ngP p) (ngP q) (ngP r) = turnI p q r := by unfold turnI ngP; grind
theorem lt_ng (p q : P3) : LtP (ngP p) (ngP q) ↔ LtP q p := by
  have e1 : dx (ngP p) (ngP q) = dx q p := by unfold dx ngP; grind
  have e2 : dy (ngP p) (ngP q) = dy q p := by unfold dy ngP; grind
  unfold LtP
  rw [e1, e2]
theorem far_ng (p q : P3) : farI (ngP p) (ngP q) = farI p q := by
  have e1 : dx (ngP p) (ngP q) = - dx p q := by unfold dx ngP; grind
  have e2 : dy (ngP p) (ngP q) = - dy p q := by unfold dy ngP; grind
  unfold farI
  rw [e1, e2, Int.natAbs_neg, Int.natAbs_neg]
theorem pop_ng (p : P3) : ∀ st : List P3, popT (ngP p) (st.map ngP) = (popT p st).map ngP
  | [] => rfl
  | [a] => rfl
  | b :: a :: r => by
    have ih := pop_ng p (a :: r)
    simp only [List.map_cons] at ih ⊢
    rw [popT, popT, turn_ng]
    split
    · exact ih
    · rfl
theorem rim_ng : ∀ (row st : List P3), rimT (st.map ngP) (row.map ngP) = (rimT st row).map ngP
  | [], st => rfl
  | p :: r, st => by
    rw [List.map_cons]
    show rimT (ngP p :: popT (ngP p) (st.map ngP)) (r.map ngP) = _
    rw [pop_ng, ← List.map_cons, rim_ng r]
    rfl
theorem next_ng {S : SetP} {a b : P3} (h : Next (fun q => S (ngP q)) (ngP a) (ngP b)) : Next S a b := by
  refine ⟨by have := h.mem; rwa [ngP_ngP] at this, fun e => h.ne (by rw [e]), fun p hp n1 n2 => ?_⟩
  have := h.all (ngP p) (by rwa [ngP_ngP]) (fun e => n1 (by rw [← ngP_ngP p, e, ngP_ngP])) (fun e => n2 (by rw [← ngP_ngP p, e, ngP_ngP]))
  rw [turn_ng, far_ng, far_ng] at this
  exact this
theorem path_ng {S : SetP} : ∀ {l : List P3}, Path (fun q => S (ngP q)) (l.map ngP) → Path S l
  | [], _ => trivial
  | [a], _ => trivial
  | a :: b :: r, h => ⟨next_ng h.1, path_ng (l := b :: r) h.2⟩
theorem srt_ng {row : List P3} (h : Srt row) : Srt (row.reverse.map ngP) := by
  unfold Srt at *
  rw [List.pairwise_map, List.pairwise_reverse]
  exact h.imp fun {a b} z => (lt_ng b a).mpr z
end VS

namespace VS
def lowerL (row : List P3) : List P3 := (rimT [] row).reverse
def hullL (row : List P3) : List P3 := if row.length < 3 then row else (lowerL row).dropLast ++ (lowerL row.reverse).dropLast
def Tot (S : SetP) : Prop := ∀ q t, S q → S t → q = t ∨ LtP q t ∨ LtP t q
structure IsHull (S : SetP) (L : List P3) (v : P3) (t : List P3) : Prop where
  eq : L = v :: t
  least : ∀ q, S q → q = v ∨ LtP v q
  mem : ∀ x ∈ L, S x
  cyc : (t = [] ∧ ∀ q, S q → q = v) ∨ (t ≠ [] ∧ Path S (L ++ [v]) ∧ v ∉ t)
theorem path_app {S : SetP} {m : P3} {B : List P3} : ∀ {A : List P3}, Path S (A ++ [m]) → Path S (m :: B) → Path S (A ++ m :: B)
  | [], _, k => k
  | [x], h, k => ⟨h.1, k⟩
  | x :: y :: r, h, k => ⟨h.1, path_app (A := y :: r) h.2 k⟩
theorem good_pw {S : SetP} (hW : ∀ q, S q → PosW q) : ∀ {st : List P3}, Good S st → (∀ k ∈ st, S k) → st.Pairwise fun b a => LtP a b
  | [], _, _ => List.Pairwise.nil
  | [a], _, _ => by simp
  | b :: a :: r, g, hm => by
    have ih := good_pw hW (st := a :: r) g.2.2.2 (fun k h => hm k (List.mem_cons_of_mem _ h))
    refine List.pairwise_cons.mpr ⟨fun x hx => ?_, ih⟩
    rcases List.mem_cons.mp hx with e | e
    · rw [e]; exact g.1
    · exact LtP.trans (hW _ (hm x (by simp [e]))) (hW _ (hm a (by simp))) (hW _ (hm b (by simp))) ((List.pairwise_cons.mp ih).1 x e) g.1
theorem srt_tot {row : List P3} (h : Srt row) : Tot (· ∈ row) := by
  intro q t hq ht
  induction row with
  | nil => cases hq
  | cons a r ih =>
    obtain ⟨h1, h2⟩ := List.pairwise_cons.mp h
    rcases List.mem_cons.mp hq with e | e <;> rcases List.mem_cons.mp ht with e' | e'
    · exact .inl (e.trans e'.symm)
    · rw [e]; exact .inr (.inl (h1 t e'))
    · rw [e']; exact .inr (.inr (h1 q e))
    · exact ih h2 e e'
theorem lower_facts {row : List P3} (srt : Srt row) (hw : ∀ p ∈ row, PosW p) (h2 : 2 ≤ row.length) {v m : P3} (hv : row.head? = some v) (hm : row.getLast? = some m) :
    ∃ t, lowerL row = v :: t ++ [m] ∧ Path (· ∈ row) (lowerL row) ∧ (∀ x ∈ lowerL row, x ∈ row) ∧ (∀ x ∈ t ++ [m], LtP v x) ∧ ∀ x ∈ v :: t, LtP x m := by
  have hne : row ≠ [] := fun z => by subst z; simp at h2
  obtain ⟨ok, e1, e2⟩ := rim_row srt hw hne
  have vm : LtP v m := by
    cases row with
    | nil => exact absurd rfl hne
    | cons a r =>
      obtain rfl : a = v := by simpa using hv
      cases r with
      | nil => simp at h2
      | cons b r =>
        refine (List.pairwise_cons.mp srt).1 m ?_
        rw [List.getLast?_cons_cons] at hm
        exact List.mem_of_getLast? hm
  have pw := good_pw (fun q hq => hw q hq) ok.good ok.mem
  have pth := ok.path (fun q hq => hw q hq) (srt_tot srt)
  unfold lowerL
  generalize rimT [] row = st at *
  rw [hv] at e1
  rw [hm] at e2
  cases st with
  | nil => exact absurd rfl ok.ne
  | cons b r =>
    obtain rfl : b = m := by simpa using e2
    rcases List.eq_nil_or_concat r with rfl | ⟨s, x, rfl⟩
    · exfalso
      obtain rfl : b = v := by simpa using e1
      exact vm.irr
    · rw [List.concat_eq_append] at *
      obtain rfl : x = v := by simpa [List.getLast?_cons, List.getLast?_append] using e1
      have er : (b :: (s ++ [x])).reverse = x :: s.reverse ++ [b] := by simp
      rw [er] at pth ⊢
      have pw2 : (x :: s.reverse ++ [b]).Pairwise LtP := by
        rw [← er, List.pairwise_reverse]
        exact pw
      refine ⟨s.reverse, rfl, pth, fun y hy => ok.mem y ?_, fun y hy => ?_, fun y hy => ?_⟩
      · rw [← er] at hy
        exact List.mem_reverse.mp hy
      · exact (List.pairwise_cons.mp pw2).1 y hy
      · exact (List.pairwise_append.mp pw2).2.2 y hy b (by simp)
theorem upper_facts {row : List P3} (srt : Srt row) (hw : ∀ p ∈ row, PosW p) (h2 : 2 ≤ row.length) {v m : P3} (hv : row.head? = some v) (hm : row.getLast? = some m) :
    ∃ t, lowerL row.reverse = m :: t ++ [v] ∧ Path (· ∈ row) (lowerL row.reverse) ∧ (∀ x ∈ lowerL row.reverse, x ∈ row) ∧ ∀ x ∈ m :: t, LtP v x := by
  have srt2 := srt_ng srt
  have e : lowerL (row.reverse.map ngP) = (lowerL row.reverse).map ngP := by
    unfold lowerL
    have := rim_ng row.reverse []
    rw [show ([] : List P3).map ngP = [] from rfl] at this
    rw [this, List.map_reverse]
  obtain ⟨t, e1, p1, m1, l1, l2⟩ := lower_facts srt2 (fun p hp => by
    obtain ⟨q, hq, rfl⟩ := List.mem_map.mp hp
    exact hw q (by simpa using hq)) (by simpa using h2) (v := ngP m) (m := ngP v) (by simp [List.head?_map, hm]) (by simp [List.getLast?_map, hv])
  rw [e] at e1 p1 m1
  have inj : ∀ {a b : P3}, ngP a = ngP b → a = b := fun {a b} h => by rw [← ngP_ngP a, h, ngP_ngP]
  have e2 : lowerL row.reverse = m :: t.map ngP ++ [v] := by
    have := congrArg (List.map ngP) e1
    rw [List.map_map] at this
    have idm : ∀ l : List P3, l.map (ngP ∘ ngP) = l := fun l => by
      have : (ngP ∘ ngP) = id := by funext x; exact ngP_ngP x
      rw [this, List.map_id]
    rw [idm] at this
    rw [this]
    simp [ngP_ngP]
  have memng : ∀ q, ngP q ∈ row.reverse.map ngP ↔ q ∈ row := fun q => by
    rw [List.mem_map]
    constructor
    · rintro ⟨x, hx, hh⟩
      rw [inj hh] at hx
      simpa using hx
    · intro h
      exact ⟨q, by simpa using h, rfl⟩
  refine ⟨t.map ngP, e2, path_ng ?_, fun x hx => (memng x).mp (m1 _ (List.mem_map.mpr ⟨x, hx, rfl⟩)), fun x hx => ?_⟩
  · have : (fun q => ngP q ∈ row) = fun q => q ∈ row.reverse.map ngP := by
      funext q
      have := memng (ngP q)
      rw [ngP_ngP] at this
      exact propext this.symm
    rw [this]
    exact p1
  · have : ngP x ∈ ngP m :: t := by
      rcases List.mem_cons.mp hx with rfl | hx
      · simp
      · obtain ⟨y, hy, rfl⟩ := List.mem_map.mp hx
        rw [ngP_ngP]
        simp [hy]
    exact (lt_ng x v).mp (l2 _ this)
theorem hull_ok {row : List P3} (srt : Srt row) (hw : ∀ p ∈ row, PosW p) (hne : row ≠ []) : ∃ v t, IsHull (· ∈ row) (hullL row) v t := by
  match row, hne with
  | [a], _ => exact ⟨a, [], rfl, fun q hq => .inl (by simpa using hq), fun x hx => by simpa [hullL] using hx, .inl ⟨rfl, fun q hq => by simpa using hq⟩⟩
  | [a, b], _ =>
    have lab : LtP a b := (List.pairwise_cons.mp srt).1 b (by simp)
    refine ⟨a, [b], rfl, fun q hq => ?_, fun x hx => hx, .inr ⟨by simp, ⟨⟨by simp, fun e => by
      subst e
      exact lab.irr, fun p hp n1 n2 => ?_⟩, ⟨by simp, fun e => by
      subst e
      exact lab.irr, fun p hp n1 n2 => ?_⟩, trivial⟩, fun e => ?_⟩⟩
    · simp only [List.mem_cons, List.not_mem_nil, or_false] at hq
      rcases hq with rfl | rfl
      · exact .inl rfl
      · exact .inr lab
    · simp only [List.mem_cons, List.not_mem_nil, or_false] at hp
      rcases hp with e | e
      · exact absurd e n1
      · exact absurd e n2
    · simp only [List.mem_cons, List.not_mem_nil, or_false] at hp
      rcases hp with e | e
      · exact absurd e n2
      · exact absurd e n1
    · obtain rfl : a = b := by simpa using e
      exact lab.irr
  | a :: b :: c :: r, hne =>
    generalize hr : a :: b :: c :: r = row at *
    have h2 : 2 ≤ row.length := by rw [← hr]; simp
    have h3 : ¬ row.length < 3 := by rw [← hr]; simp
    obtain ⟨v, hv⟩ : ∃ v, row.head? = some v := ⟨a, by rw [← hr]; rfl⟩
    obtain ⟨m, hm⟩ : ∃ m, row.getLast? = some m := by
      cases e : row.getLast? with
      | none => exact absurd (List.getLast?_eq_none_iff.mp e) hne
      | some m => exact ⟨m, rfl⟩
    obtain ⟨t1, e1, p1, m1, l1, l2⟩ := lower_facts srt hw h2 hv hm
    obtain ⟨t2, e2, p2, m2, l3⟩ := upper_facts srt hw h2 hv hm
    have d1 : (lowerL row).dropLast = v :: t1 := by rw [e1, List.dropLast_concat]
    have d2 : (lowerL row.reverse).dropLast = m :: t2 := by rw [e2, List.dropLast_concat]
    have e : hullL row = v :: (t1 ++ m :: t2) := by
      unfold hullL
      rw [if_neg h3, d1, d2]
      rfl
    refine ⟨v, t1 ++ m :: t2, e, fun q hq => ?_, fun x hx => ?_, .inr ⟨by simp, ?_, fun z => ?_⟩⟩
    · cases row with
      | nil => exact absurd rfl hne
      | cons x r =>
        obtain rfl : x = v := by simpa using hv
        rcases List.mem_cons.mp hq with e | e
        · exact .inl e
        · exact .inr ((List.pairwise_cons.mp srt).1 q e)
    · rw [e] at hx
      have : x ∈ lowerL row ∨ x ∈ lowerL row.reverse := by
        rw [e1, e2]
        simp only [List.mem_cons, List.mem_append] at hx ⊢
        rcases hx with h | h | h | h
        · exact .inl (.inl (.inl h))
        · exact .inl (.inl (.inr h))
        · exact .inl (.inr (.inl h))
        · exact .inr (.inl (.inr h))
      rcases this with h | h
      · exact m1 x h
      · exact m2 x h
    · rw [e1] at p1
      rw [e2] at p2
      rw [e]
      have : v :: (t1 ++ m :: t2) ++ [v] = (v :: t1) ++ m :: (t2 ++ [v]) := by simp
      rw [this]
      exact path_app p1 p2
    · rcases List.mem_append.mp z with z | z
      · exact (l1 v (List.mem_append_left _ z)).irr
      · exact (l3 v z).irr
theorem path_det {S : SetP} {v : P3} : ∀ {t t' : List P3} {c : P3}, Path S (c :: t ++ [v]) → Path S (c :: t' ++ [v]) → v ∉ t → v ∉ t' → t = t'
  | [], [], _, _, _, _, _ => rfl
  | [], x :: r, c, h, k, _, n => by
    have e : v = x := h.1.one k.1
    exact absurd (by rw [e]; simp) n
  | x :: r, [], c, h, k, n, _ => by
    have e : x = v := h.1.one k.1
    exact absurd (by rw [e]; simp) n
  | x :: r, y :: s, c, h, k, n, n' => by
    have e : x = y := h.1.one k.1
    subst e
    rw [path_det (t := r) (t' := s) (c := x) h.2 k.2 (fun z => n (List.mem_cons_of_mem _ z)) (fun z => n' (List.mem_cons_of_mem _ z))]
theorem hull_one {S : SetP} {L L' : List P3} {v v' : P3} {t t' : List P3} (h : IsHull S L v t) (h' : IsHull S L' v' t') : L = L' := by
  have hv : v = v' := by
    have m := h.mem v (by rw [h.eq]; simp)
    have m' := h'.mem v' (by rw [h'.eq]; simp)
    rcases h.least v' m' with e | e
    · exact e.symm
    · rcases h'.least v m with e' | e'
      · exact e'
      · exact absurd e' e.asym
  subst hv
  rw [h.eq, h'.eq]
  congr 1
  rcases h.cyc with ⟨e, a⟩ | ⟨n, p, nv⟩ <;> rcases h'.cyc with ⟨e', a'⟩ | ⟨n', p', nv'⟩
  · rw [e, e']
  · cases t' with
    | nil => exact absurd rfl n'
    | cons x r =>
      have := a x (h'.mem x (by rw [h'.eq]; simp))
      exact absurd (by rw [this]; simp) nv'
  · cases t with
    | nil => exact absurd rfl n
    | cons x r =>
      have := a' x (h.mem x (by rw [h.eq]; simp))
      exact absurd (by rw [this]; simp) nv
  · rw [h.eq] at p
    rw [h'.eq] at p'
    exact path_det p p' nv nv'
theorem path_suffix {S : SetP} {B : List P3} : ∀ {A : List P3}, Path S (A ++ B) → Path S B
  | [], h => h
  | [x], h => by
    cases B with
    | nil => trivial
    | cons y r => exact h.2
  | x :: y :: r, h => path_suffix (A := y :: r) h.2
theorem path_nodup {S : SetP} {v : P3} : ∀ {t : List P3} {c : P3}, Path S (c :: t ++ [v]) → v ∉ t → (c :: t).Nodup
  | [], c, _, _ => by simp
  | y :: t, c, h, n => by
    refine List.nodup_cons.mpr ⟨fun m => ?_, path_nodup (t := t) (c := y) h.2 fun z => n (List.mem_cons_of_mem _ z)⟩
    obtain ⟨A, B, e⟩ := List.append_of_mem m
    have h2 : Path S (c :: B ++ [v]) := by
      have h' := h
      rw [e] at h'
      have : c :: (A ++ c :: B) ++ [v] = (c :: A) ++ (c :: B ++ [v]) := by simp
      rw [this] at h'
      exact path_suffix h'
    have := path_det h h2 n (fun z => n (by rw [e]; simp [z]))
    rw [e] at this
    have l := congrArg List.length this
    simp at l
    omega
theorem nodup_le [DecidableEq P3] : ∀ {L rows : List P3}, L.Nodup → (∀ x ∈ L, x ∈ rows) → L.length ≤ rows.length
  | [], _, _, _ => Nat.zero_le _
  | a :: L, rows, h, k => by
    obtain ⟨h1, h2⟩ := List.nodup_cons.mp h
    have ma := k a (by simp)
    have ih := nodup_le (L := L) (rows := rows.erase a) h2 fun x hx => (List.mem_erase_of_ne (fun e => h1 (by rw [← e]; exact hx))).mpr (k x (List.mem_cons_of_mem _ hx))
    rw [List.length_erase_of_mem ma] at ih
    have := List.length_pos_of_mem ma
    simp only [List.length_cons]
    omega
/-! ### the same hull -/
theorem path_mono {S T : SetP} (h : ∀ c q, S c → T q → Next S c q → Next T c q) : ∀ {l : List P3}, (∀ x ∈ l, S x ∧ T x) → Path S l → Path T l
  | [], _, _ => trivial
  | [a], _, _ => trivial
  | a :: b :: r, m, p => ⟨h a b (m a (by simp)).1 (m b (by simp)).2 p.1, path_mono h (l := b :: r) (fun x hx => m x (List.mem_cons_of_mem _ hx)) p.2⟩
theorem hull_sub {S T : SetP} {L : List P3} {v : P3} {t : List P3} (h : IsHull S L v t) (hT : ∀ x, T x → S x) (hL : ∀ x ∈ L, T x) : IsHull T L v t := by
  refine ⟨h.eq, fun q hq => h.least q (hT q hq), hL, ?_⟩
  rcases h.cyc with ⟨e, a⟩ | ⟨n, p, nv⟩
  · exact .inl ⟨e, fun q hq => a q (hT q hq)⟩
  · refine .inr ⟨n, path_mono (fun c q _ hq k => ⟨hq, k.ne, fun p hp => k.all p (hT p hp)⟩) (fun x hx => ?_) p, nv⟩
    have : x ∈ L := by
      rcases List.mem_append.mp hx with z | z
      · exact z
      · rw [h.eq]; simpa using Or.inl z
    exact ⟨h.mem x this, hL x this⟩
/-- m is the middle of p and r -/
def Mid (p r m : P3) : Prop := ∃ g : Int, 0 < g ∧ g * m.1 = p.1 * r.2.2 + r.1 * p.2.2 ∧ g * m.2.1 = p.2.1 * r.2.2 + r.2.1 * p.2.2 ∧ g * m.2.2 = 2 * p.2.2 * r.2.2
theorem mid_turn {p r m c q : P3} {g : Int} (h1 : g * m.1 = p.1 * r.2.2 + r.1 * p.2.2) (h2 : g * m.2.1 = p.2.1 * r.2.2 + r.2.1 * p.2.2) (h3 : g * m.2.2 = 2 * p.2.2 * r.2.2) :
    g * turnI c q m = r.2.2 * turnI c q p + p.2.2 * turnI c q r ∧ g * dx c m = r.2.2 * dx c p + p.2.2 * dx c r ∧ g * dy c m = r.2.2 * dy c p + p.2.2 * dy c r := by
  refine ⟨?_, ?_, ?_⟩
  · have e : g * turnI c q m = c.1 * (q.2.1 * (g * m.2.2) - (g * m.2.1) * q.2.2) - c.2.1 * (q.1 * (g * m.2.2) - (g * m.1) * q.2.2) + c.2.2 * (q.1 * (g * m.2.1) - (g * m.1) * q.2.1) := by
      unfold turnI
      grind
    rw [e, h1, h2, h3]
    unfold turnI
    grind
  · have e : g * dx c m = (g * m.1) * c.2.2 - c.1 * (g * m.2.2) := by
      unfold dx
      grind
    rw [e, h1, h3]
    unfold dx
    grind
  · have e : g * dy c m = (g * m.2.1) * c.2.2 - c.2.1 * (g * m.2.2) := by
      unfold dy
      grind
    rw [e, h2, h3]
    unfold dy
    grind
theorem natAbs_lin {g u v x y z : Int} (hg : 0 < g) (hu : 0 < u) (hv : 0 < v) (h : g * z = u * x + v * y) : g * (z.natAbs : Int) ≤ u * (x.natAbs : Int) + v * (y.natAbs : Int) := by
  have a1 : (g * z).natAbs ≤ (u * x).natAbs + (v * y).natAbs := by rw [h]; exact Int.natAbs_add_le _ _
  rw [Int.natAbs_mul, Int.natAbs_mul, Int.natAbs_mul] at a1
  have e1 : ((g.natAbs * z.natAbs : Nat) : Int) = g * (z.natAbs : Int) := by rw [Int.natCast_mul, Int.natAbs_of_nonneg (Int.le_of_lt hg)]
  have e2 : ((u.natAbs * x.natAbs : Nat) : Int) = u * (x.natAbs : Int) := by rw [Int.natCast_mul, Int.natAbs_of_nonneg (Int.le_of_lt hu)]
  have e3 : ((v.natAbs * y.natAbs : Nat) : Int) = v * (y.natAbs : Int) := by rw [Int.natCast_mul, Int.natAbs_of_nonneg (Int.le_of_lt hv)]
  rw [← e1, ← e2, ← e3]
  omega
theorem next_mid {S T : SetP} (hW : ∀ q, T q → PosW q) (tot : Tot T) (hS : ∀ x, S x → T x) (hM : ∀ m, T m → S m ∨ ∃ p r, S p ∧ S r ∧ Mid p r m) {c q : P3} (hc : S c) (h : Next S c q) : Next T c q := by
  have wc : 0 < c.2.2 := hW c (hS c hc)
  have wq : 0 < q.2.2 := hW q (hS q h.mem)
  have fq : 0 < farI c q := by
    rcases tot c q (hS c hc) (hS q h.mem) with e | e | e
    · exact absurd e.symm h.ne
    · unfold LtP at e
      unfold farI
      omega
    · unfold LtP at e
      rw [dx_neg, dy_neg] at e
      unfold farI
      omega
  have t0 : ∀ p, S p → 0 ≤ turnI c q p := fun p hp => by
    by_cases e1 : p = c
    · rw [e1, turn_same2]; exact Int.le_refl _
    by_cases e2 : p = q
    · rw [e2, turn_same]; exact Int.le_refl _
    have := h.all p hp e1 e2
    omega
  have f0 : ∀ p, S p → turnI c q p = 0 → farI c p * q.2.2 ≤ farI c q * p.2.2 ∧ (farI c p * q.2.2 = farI c q * p.2.2 → p = q) := fun p hp z => by
    have wp : 0 < p.2.2 := hW p (hS p hp)
    by_cases e2 : p = q
    · rw [e2]; exact ⟨Int.le_refl _, fun _ => rfl⟩
    have : farI c p * q.2.2 < farI c q * p.2.2 := by
      by_cases e1 : p = c
      · have : farI c p = 0 := by rw [e1]; unfold farI dx dy; omega
        rw [this, Int.zero_mul]
        exact sg_P fq wp
      · have := h.all p hp e1 e2
        omega
    exact ⟨Int.le_of_lt this, fun z => by omega⟩
  refine ⟨hS q h.mem, h.ne, fun m hm n1 n2 => ?_⟩
  rcases hM m hm with hm' | ⟨p, r, hp, hr, g, g0, h1, h2, h3⟩
  · exact h.all m hm' n1 n2
  have wp : 0 < p.2.2 := hW p (hS p hp)
  have wr : 0 < r.2.2 := hW r (hS r hr)
  have wm : 0 < m.2.2 := hW m hm
  obtain ⟨u1, u2, u3⟩ := mid_turn (c := c) (q := q) h1 h2 h3
  have tp := t0 p hp
  have tr := t0 r hr
  have s1 := sg_nn (Int.le_of_lt wr) tp
  have s2 := sg_nn (Int.le_of_lt wp) tr
  by_cases z : 0 < turnI c q m
  · exact .inl z
  right
  have zm : turnI c q m = 0 := by
    have : 0 ≤ turnI c q m := (mul_sg g0).2.1.mp (by omega)
    omega
  rw [zm, Int.mul_zero] at u1
  have zp : turnI c q p = 0 := (mul_sg wr).2.2.2.mp (by omega)
  have zr : turnI c q r = 0 := (mul_sg wp).2.2.2.mp (by omega)
  refine ⟨zm, ?_⟩
  have fm : g * farI c m ≤ r.2.2 * farI c p + p.2.2 * farI c r := by
    have a1 := natAbs_lin g0 wr wp u2
    have a2 := natAbs_lin g0 wr wp u3
    unfold farI
    have e1 : g * (((dx c m).natAbs : Int) + (dy c m).natAbs) = g * (dx c m).natAbs + g * (dy c m).natAbs := Int.mul_add _ _ _
    have e2 : r.2.2 * (((dx c p).natAbs : Int) + (dy c p).natAbs) = r.2.2 * (dx c p).natAbs + r.2.2 * (dy c p).natAbs := Int.mul_add _ _ _
    have e3 : p.2.2 * (((dx c r).natAbs : Int) + (dy c r).natAbs) = p.2.2 * (dx c r).natAbs + p.2.2 * (dy c r).natAbs := Int.mul_add _ _ _
    omega
  obtain ⟨p1, p2⟩ := f0 p hp zp
  obtain ⟨r1, r2⟩ := f0 r hr zr
  have k1 : r.2.2 * (farI c p * q.2.2) ≤ r.2.2 * (farI c q * p.2.2) := Int.mul_le_mul_of_nonneg_left p1 (Int.le_of_lt wr)
  have k2 : p.2.2 * (farI c r * q.2.2) ≤ p.2.2 * (farI c q * r.2.2) := Int.mul_le_mul_of_nonneg_left r1 (Int.le_of_lt wp)
  have k3 : g * farI c m * q.2.2 ≤ (r.2.2 * farI c p + p.2.2 * farI c r) * q.2.2 := Int.mul_le_mul_of_nonneg_right fm (Int.le_of_lt wq)
  have k4 : g * (farI c q * m.2.2) = farI c q * (2 * p.2.2 * r.2.2) := by rw [← h3]; grind
  have k5 : (r.2.2 * farI c p + p.2.2 * farI c r) * q.2.2 = r.2.2 * (farI c p * q.2.2) + p.2.2 * (farI c r * q.2.2) := by grind
  have k6 : r.2.2 * (farI c q * p.2.2) + p.2.2 * (farI c q * r.2.2) = farI c q * (2 * p.2.2 * r.2.2) := by grind
  have k7 : g * (farI c m * q.2.2) = g * farI c m * q.2.2 := by grind
  have le : g * (farI c m * q.2.2) ≤ g * (farI c q * m.2.2) := by omega
  by_cases eq : farI c m * q.2.2 = farI c q * m.2.2
  · exfalso
    rw [eq] at k7
    have ep : r.2.2 * (farI c p * q.2.2) = r.2.2 * (farI c q * p.2.2) := by omega
    have er : p.2.2 * (farI c r * q.2.2) = p.2.2 * (farI c q * r.2.2) := by omega
    have e1 : p = q := p2 (Int.eq_of_mul_eq_mul_left (Int.ne_of_gt wr) ep)
    have e2 : r = q := r2 (Int.eq_of_mul_eq_mul_left (Int.ne_of_gt wp) er)
    subst e1
    subst e2
    have d1 : dx r m = 0 := by
      have := (mid_turn (c := r) (q := r) h1 h2 h3).2.1
      have z0 : dx r r = 0 := by unfold dx; omega
      rw [z0, Int.mul_zero] at this
      exact (mul_sg g0).2.2.2.mp (by omega)
    have d2 : dy r m = 0 := by
      have := (mid_turn (c := r) (q := r) h1 h2 h3).2.2
      have z0 : dy r r = 0 := by unfold dy; omega
      rw [z0, Int.mul_zero] at this
      exact (mul_sg g0).2.2.2.mp (by omega)
    rcases tot r m (hS r hr) hm with e | e | e
    · exact n2 e.symm
    · unfold LtP at e; omega
    · unfold LtP at e; rw [dx_neg, dy_neg] at e; omega
  · have hlt : g * (farI c m * q.2.2) < g * (farI c q * m.2.2) := by
      rcases Int.lt_or_eq_of_le le with w | w
      · exact w
      · exact absurd (Int.eq_of_mul_eq_mul_left (Int.ne_of_gt g0) w) eq
    exact Int.lt_of_mul_lt_mul_left hlt (Int.le_of_lt g0)
theorem hull_mid {S T : SetP} (hW : ∀ q, T q → PosW q) (tot : Tot T) (hS : ∀ x, S x → T x) (hM : ∀ m, T m → S m ∨ ∃ p r, S p ∧ S r ∧ Mid p r m) {L : List P3} {v : P3} {t : List P3} (h : IsHull S L v t) : IsHull T L v t := by
  have sv : S v := h.mem v (by rw [h.eq]; simp)
  have mids : ∀ m, T m → m = v ∨ LtP v m := fun m hm => by
    rcases hM m hm with hm' | ⟨p, r, hp, hr, g, g0, h1, h2, h3⟩
    · exact h.least m hm'
    have wp : 0 < p.2.2 := hW p (hS p hp)
    have wr : 0 < r.2.2 := hW r (hS r hr)
    obtain ⟨_, u2, u3⟩ := mid_turn (c := v) (q := v) h1 h2 h3
    have lex : ∀ p, S p → Lex0 (dx v p) (dy v p) := fun p hp => by
      rcases h.least p hp with e | e
      · subst e
        right
        unfold dx dy
        omega
      · exact e.lex.z
    have a1 := lex p hp
    have a2 := lex r hr
    rcases tot m v hm (hS v sv) with e | e | e
    · exact .inl e
    · exfalso
      unfold LtP at e
      rw [dx_neg v m, dy_neg v m] at e
      have f1 : 0 ≤ r.2.2 * dx v p := sg_nn (Int.le_of_lt wr) (by unfold Lex0 at a1; omega)
      have f2 : 0 ≤ p.2.2 * dx v r := sg_nn (Int.le_of_lt wp) (by unfold Lex0 at a2; omega)
      rcases e with e | ⟨e, e'⟩
      · have := sg_N g0 (show dx v m < 0 by omega)
        omega
      · have z : dx v m = 0 := by omega
        rw [z, Int.mul_zero] at u2
        have z1 := (mul_sg wr (x := dx v p)).2.2.2.mp (by omega)
        have z2 := (mul_sg wp (x := dx v r)).2.2.2.mp (by omega)
        have y1 : 0 ≤ dy v p := by unfold Lex0 at a1; omega
        have y2 : 0 ≤ dy v r := by unfold Lex0 at a2; omega
        have f3 := sg_nn (Int.le_of_lt wr) y1
        have f4 := sg_nn (Int.le_of_lt wp) y2
        have := sg_N g0 (show dy v m < 0 by omega)
        omega
    · exact .inr e
  refine ⟨h.eq, mids, fun x hx => hS x (h.mem x hx), ?_⟩
  rcases h.cyc with ⟨e, a⟩ | ⟨n, p, nv⟩
  · refine .inl ⟨e, fun m hm => ?_⟩
    rcases hM m hm with hm' | ⟨p, r, hp, hr, g, g0, h1, h2, h3⟩
    · exact a m hm'
    · have ep := a p hp
      have er := a r hr
      subst ep
      subst er
      obtain ⟨_, u2, u3⟩ := mid_turn (c := r) (q := r) h1 h2 h3
      have z0 : dx r r = 0 := by unfold dx; omega
      have z1 : dy r r = 0 := by unfold dy; omega
      rw [z0, Int.mul_zero] at u2
      rw [z1, Int.mul_zero] at u3
      have d1 := (mul_sg g0 (x := dx r m)).2.2.2.mp (by omega)
      have d2 := (mul_sg g0 (x := dy r m)).2.2.2.mp (by omega)
      rcases mids m hm with w | w
      · exact w
      · unfold LtP at w
        omega
  · refine .inr ⟨n, path_mono (fun c q hc _ k => next_mid hW tot hS hM hc k) (fun x hx => ?_) p, nv⟩
    have : S x := by
      rcases List.mem_append.mp hx with z | z
      · exact h.mem x z
      · obtain rfl : x = v := by simpa using z
        exact sv
    exact ⟨this, hS x this⟩
end VS

namespace VS
/-! ### lowest terms -/
def gI (p : P3) : Int := (Int.gcd (Int.gcd p.1 p.2.1 : Nat) p.2.2 : Nat)
def lowI (p : P3) : P3 := (p.1 / gI p, p.2.1 / gI p, p.2.2 / gI p)
def sclP (k : Int) (p : P3) : P3 := (k * p.1, k * p.2.1, k * p.2.2)
theorem gI_pos {p : P3} (h : PosW p) : 0 < gI p ∧ gI p ≤ p.2.2 := by
  obtain ⟨x, y, w⟩ := p
  unfold PosW at h
  simp only at h
  have e : gI (x, y, w) = ((Nat.gcd (Int.gcd x y) w.natAbs : Nat) : Int) := rfl
  rw [e]
  have hw : 0 < w.natAbs := by omega
  have a1 := Nat.gcd_pos_of_pos_right (Int.gcd x y) hw
  have a2 := Nat.gcd_le_right (Int.gcd x y) hw
  simp only
  omega
theorem gI_scl {k : Int} (hk : 0 < k) (p : P3) : gI (sclP k p) = k * gI p := by
  unfold gI sclP
  simp only
  rw [Int.gcd_mul_left]
  have e : ((k.natAbs * Int.gcd p.1 p.2.1 : Nat) : Int) = k * (Int.gcd p.1 p.2.1 : Nat) := by
    rw [Int.natCast_mul, Int.natAbs_of_nonneg (Int.le_of_lt hk)]
  rw [e, Int.gcd_mul_left, Int.natCast_mul, Int.natAbs_of_nonneg (Int.le_of_lt hk)]
theorem gI_dvd (p : P3) : gI p ∣ p.1 ∧ gI p ∣ p.2.1 ∧ gI p ∣ p.2.2 := by
  have h : gI p ∣ ((Int.gcd p.1 p.2.1 : Nat) : Int) := Int.gcd_dvd_left ..
  exact ⟨Int.dvd_trans h (Int.gcd_dvd_left ..), Int.dvd_trans h (Int.gcd_dvd_right ..), Int.gcd_dvd_right ..⟩
theorem low_scl (p : P3) : sclP (gI p) (lowI p) = p := by
  obtain ⟨h1, h2, h3⟩ := gI_dvd p
  unfold sclP lowI
  rw [Int.mul_ediv_cancel' h1, Int.mul_ediv_cancel' h2, Int.mul_ediv_cancel' h3]
structure LowP (p : P3) : Prop where
  w : PosW p
  g : gI p = 1
theorem low_low {p : P3} (h : PosW p) : LowP (lowI p) := by
  obtain ⟨g0, g1⟩ := gI_pos h
  have e := low_scl p
  have w : PosW (lowI p) := by
    unfold PosW at h ⊢
    have : gI p * (lowI p).2.2 = p.2.2 := congrArg (fun q : P3 => q.2.2) e
    exact (mul_sg g0).1.mp (by omega)
  refine ⟨w, ?_⟩
  have e2 := gI_scl g0 (lowI p)
  rw [e] at e2
  have : gI p * 1 = gI p * gI (lowI p) := by omega
  exact (Int.eq_of_mul_eq_mul_left (Int.ne_of_gt g0) this).symm
theorem low_id {p : P3} (h : LowP p) : lowI p = p := by
  obtain ⟨x, y, w⟩ := p
  unfold lowI
  rw [h.g]
  simp
theorem low_mul {k : Int} (hk : 0 < k) (p : P3) : lowI (sclP k p) = lowI p := by
  unfold lowI
  rw [gI_scl hk]
  unfold sclP
  simp only
  rw [Int.mul_ediv_mul_of_pos _ _ hk, Int.mul_ediv_mul_of_pos _ _ hk, Int.mul_ediv_mul_of_pos _ _ hk]
theorem low_tot {p q : P3} (hp : LowP p) (hq : LowP q) : p = q ∨ LtP p q ∨ LtP q p := by
  have wp := hp.w
  have wq := hq.w
  unfold PosW at wp wq
  by_cases h : dx p q = 0 ∧ dy p q = 0
  · left
    obtain ⟨h1, h2⟩ := h
    have e : sclP p.2.2 q = sclP q.2.2 p := by
      unfold sclP
      unfold dx at h1
      unfold dy at h2
      have a1 : p.2.2 * q.1 = q.2.2 * p.1 := by rw [Int.mul_comm, Int.mul_comm q.2.2]; omega
      have a2 : p.2.2 * q.2.1 = q.2.2 * p.2.1 := by rw [Int.mul_comm, Int.mul_comm q.2.2]; omega
      rw [a1, a2, Int.mul_comm p.2.2 q.2.2]
    have g := congrArg gI e
    rw [gI_scl wp, gI_scl wq, hp.g, hq.g, Int.mul_one, Int.mul_one] at g
    rw [g] at e
    unfold sclP at e
    obtain ⟨p0, p1, p2⟩ := p
    obtain ⟨q0, q1, q2⟩ := q
    simp only [Prod.mk.injEq] at e g ⊢
    exact ⟨(Int.eq_of_mul_eq_mul_left (Int.ne_of_gt wq) e.1).symm, (Int.eq_of_mul_eq_mul_left (Int.ne_of_gt wq) e.2.1).symm, g⟩
  · right
    unfold LtP
    rw [dx_neg p q, dy_neg p q]
    omega
theorem low_le (p : P3) (h : PosW p) : (lowI p).1.natAbs ≤ p.1.natAbs ∧ (lowI p).2.1.natAbs ≤ p.2.1.natAbs ∧ (lowI p).2.2 ≤ p.2.2 := by
  obtain ⟨g0, g1⟩ := gI_pos h
  have e := low_scl p
  have w := (low_low h).w
  unfold PosW at w
  have e1 : gI p * (lowI p).1 = p.1 := congrArg (fun q : P3 => q.1) e
  have e2 : gI p * (lowI p).2.1 = p.2.1 := congrArg (fun q : P3 => q.2.1) e
  have e3 : gI p * (lowI p).2.2 = p.2.2 := congrArg (fun q : P3 => q.2.2) e
  refine ⟨?_, ?_, ?_⟩
  · rw [← e1, Int.natAbs_mul]
    exact Nat.le_mul_of_pos_left _ (by omega)
  · rw [← e2, Int.natAbs_mul]
    exact Nat.le_mul_of_pos_left _ (by omega)
  · rw [← e3]
    have : 1 * (lowI p).2.2 ≤ gI p * (lowI p).2.2 := Int.mul_le_mul_of_nonneg_right (by omega) (Int.le_of_lt w)
    omega
/-- the middle of two points, told by the lowest terms -/
theorem mid_low {p q : P3} (wp : PosW p) (wq : PosW q) : Mid (lowI p) (lowI q) (lowI (p.1 * q.2.2 + q.1 * p.2.2, p.2.1 * q.2.2 + q.2.1 * p.2.2, 2 * p.2.2 * q.2.2)) := by
  obtain ⟨g0, _⟩ := gI_pos wp
  obtain ⟨k0, _⟩ := gI_pos wq
  have hg : 0 < gI p * gI q := Int.mul_pos g0 k0
  have ep := low_scl p
  have eq := low_scl q
  have wl := (low_low wp).w
  have wk := (low_low wq).w
  generalize lowI p = P at *
  generalize lowI q = Q at *
  generalize gI p = g at *
  generalize gI q = k at *
  have e : (p.1 * q.2.2 + q.1 * p.2.2, p.2.1 * q.2.2 + q.2.1 * p.2.2, 2 * p.2.2 * q.2.2) = sclP (g * k) (P.1 * Q.2.2 + Q.1 * P.2.2, P.2.1 * Q.2.2 + Q.2.1 * P.2.2, 2 * P.2.2 * Q.2.2) := by
    rw [← ep, ← eq]
    unfold sclP
    simp only [Prod.mk.injEq]
    refine ⟨?_, ?_, ?_⟩ <;> grind
  rw [e, low_mul hg]
  have wt : PosW (P.1 * Q.2.2 + Q.1 * P.2.2, P.2.1 * Q.2.2 + Q.2.1 * P.2.2, 2 * P.2.2 * Q.2.2) := by
    unfold PosW at *
    exact Int.mul_pos (Int.mul_pos (by decide) wl) wk
  have e2 := low_scl (P.1 * Q.2.2 + Q.1 * P.2.2, P.2.1 * Q.2.2 + Q.2.1 * P.2.2, 2 * P.2.2 * Q.2.2)
  exact ⟨_, (gI_pos wt).1, congrArg (fun q : P3 => q.1) e2, congrArg (fun q : P3 => q.2.1) e2, congrArg (fun q : P3 => q.2.2) e2⟩
/-! ### a row in order: where a point belongs -/
theorem srt_get {rs : List P3} (h : Srt rs) {i j : Nat} (hi : i < j) (hj : j < rs.length) : LtP (at3 rs i) (at3 rs j) := by
  have := (List.pairwise_iff_getElem.mp h) i j (by omega) hj hi
  unfold at3
  simp only [List.getD, List.getElem?_eq_getElem (show i < rs.length by omega), List.getElem?_eq_getElem hj, Option.getD_some]
  exact this
theorem srt_insert {rs : List P3} {p : P3} {k : Nat} (h : Srt rs) (hk : k ≤ rs.length) (h1 : ∀ j, j < k → LtP (at3 rs j) p) (h2 : ∀ j, k ≤ j → j < rs.length → LtP p (at3 rs j)) : Srt (rs.take k ++ p :: rs.drop k) := by
  unfold Srt at *
  have g : ∀ j, j < rs.length → rs[j]? = some (at3 rs j) := fun j hj => by
    unfold at3
    simp [List.getD, hj]
  refine List.pairwise_append.mpr ⟨h.sublist (List.take_sublist _ _), List.pairwise_cons.mpr ⟨fun x hx => ?_, h.sublist (List.drop_sublist _ _)⟩, fun a ha b hb => ?_⟩
  · obtain ⟨j, hj⟩ := List.mem_iff_getElem?.mp hx
    rw [List.getElem?_drop] at hj
    have hl := (List.getElem?_eq_some_iff.mp hj).1
    rw [g _ hl] at hj
    cases hj
    exact h2 _ (by omega) hl
  · obtain ⟨i, hi⟩ := List.mem_iff_getElem?.mp ha
    rw [List.getElem?_take] at hi
    by_cases hik : i < k
    · rw [if_pos hik, g i (by omega)] at hi
      cases hi
      rcases List.mem_cons.mp hb with e | e
      · rw [e]; exact h1 i hik
      · obtain ⟨j, hj⟩ := List.mem_iff_getElem?.mp e
        rw [List.getElem?_drop] at hj
        have hl := (List.getElem?_eq_some_iff.mp hj).1
        rw [g _ hl] at hj
        cases hj
        exact srt_get h (by omega) hl
    · rw [if_neg hik] at hi
      cases hi
theorem mem_insert {rs : List P3} {p x : P3} {k : Nat} : x ∈ rs.take k ++ p :: rs.drop k ↔ x = p ∨ x ∈ rs := by
  have : rs.take k ++ rs.drop k = rs := List.take_append_drop ..
  constructor
  · intro h
    rcases List.mem_append.mp h with h | h
    · exact .inr (List.mem_of_mem_take h)
    · rcases List.mem_cons.mp h with h | h
      · exact .inl h
      · exact .inr (List.mem_of_mem_drop h)
  · rintro (h | h)
    · simp [h]
    · rw [← this] at h
      rcases List.mem_append.mp h with h | h
      · simp [h]
      · simp [h]
end VS

namespace VS
/-! ### there is a hull -/
def insP (p : P3) : List P3 → List P3
  | [] => [p]
  | r :: rs => if p = r then r :: rs else if LtP p r then p :: r :: rs else r :: insP p rs
theorem ins_mem (p x : P3) : ∀ rs, x ∈ insP p rs ↔ x = p ∨ x ∈ rs
  | [] => by simp [insP]
  | r :: rs => by
    have ih := ins_mem p x rs
    unfold insP
    split
    · rename_i e
      subst e
      simp
    · split
      · simp
      · simp only [List.mem_cons, ih]
        constructor
        · rintro (h | h | h)
          · exact .inr (.inl h)
          · exact .inl h
          · exact .inr (.inr h)
        · rintro (h | h | h)
          · exact .inr (.inl h)
          · exact .inl h
          · exact .inr (.inr h)
theorem ins_srt {p : P3} (hp : LowP p) : ∀ {rs : List P3}, Srt rs → (∀ r ∈ rs, LowP r) → Srt (insP p rs)
  | [], _, _ => by simp [insP, Srt]
  | r :: rs, h, hr => by
    obtain ⟨h1, h2⟩ := List.pairwise_cons.mp h
    have lr := hr r (by simp)
    unfold insP
    split
    · exact h
    · rename_i ne
      split
      · rename_i lt
        refine List.pairwise_cons.mpr ⟨fun x hx => ?_, h⟩
        rcases List.mem_cons.mp hx with e | e
        · rw [e]; exact lt
        · exact LtP.trans hp.w lr.w (hr x hx).w lt (h1 x e)
      · rename_i nlt
        refine List.pairwise_cons.mpr ⟨fun x hx => ?_, ins_srt hp h2 fun x hx => hr x (List.mem_cons_of_mem _ hx)⟩
        rcases (ins_mem p x rs).mp hx with e | e
        · rw [e]
          rcases low_tot hp lr with w | w | w
          · exact absurd w ne
          · exact absurd w nlt
          · exact w
        · exact h1 x e
theorem srt_ex : ∀ {ps : List P3}, (∀ p ∈ ps, LowP p) → ∃ rs, Srt rs ∧ ∀ x, x ∈ rs ↔ x ∈ ps
  | [], _ => ⟨[], List.Pairwise.nil, fun x => Iff.rfl⟩
  | p :: ps, h => by
    obtain ⟨rs, h1, h2⟩ := srt_ex (ps := ps) fun x hx => h x (List.mem_cons_of_mem _ hx)
    refine ⟨insP p rs, ins_srt (h p (by simp)) h1 fun r hr => h r (List.mem_cons_of_mem _ ((h2 r).mp hr)), fun x => ?_⟩
    rw [ins_mem, h2, List.mem_cons]
theorem hull_ex {ps : List P3} (h : ∀ p ∈ ps, LowP p) (hne : ps ≠ []) : ∃ L v t, IsHull (fun x => x ∈ ps) L v t := by
  obtain ⟨rs, h1, h2⟩ := srt_ex h
  have rne : rs ≠ [] := fun e => by
    obtain ⟨p, hp⟩ := List.exists_mem_of_ne_nil _ hne
    have := (h2 p).mpr hp
    rw [e] at this
    cases this
  obtain ⟨v, t, hh⟩ := hull_ok h1 (fun p hp => (h p ((h2 p).mp hp)).w) rne
  have e : (fun x => x ∈ rs) = fun x => x ∈ ps := by
    funext x
    exact propext (h2 x)
  rw [e] at hh
  exact ⟨_, v, t, hh⟩
theorem hull_len {ps L : List P3} {v : P3} {t : List P3} (h : IsHull (fun x => x ∈ ps) L v t) : L.length ≤ ps.length := by
  refine nodup_le ?_ h.mem
  rw [h.eq]
  rcases h.cyc with ⟨e, _⟩ | ⟨_, p, n⟩
  · rw [e]; simp
  · rw [h.eq] at p
    exact path_nodup p n
theorem path_at {S : SetP} : ∀ {l : List P3} {i : Nat}, Path S l → i + 1 < l.length → Next S (at3 l i) (at3 l (i + 1))
  | [], i, _, h => by simp at h
  | [a], i, _, h => by simp at h
  | a :: b :: r, 0, p, _ => p.1
  | a :: b :: r, i + 1, p, h => path_at (l := b :: r) (i := i) p.2 (by simpa using h)
/-- a turn of the search for the next corner -/
theorem next_step {S : SetP} {c q b p : P3} (h : Next S c q) (hp : S p) (pc : p ≠ c) (hb : S b) (bc : b ≠ c) (T : Prop) (hT : T ↔ (turnI c b p < 0 ∨ turnI c b p = 0 ∧ farI c b * p.2.2 < farI c p * b.2.2)) :
    (b = q → ¬ T) ∧ (p = q → b ≠ q → T) := by
  constructor
  · intro e t
    subst e
    rw [hT] at t
    by_cases pq : p = b
    · subst pq
      rw [turn_same] at t
      omega
    · have := h.all p hp pc pq
      omega
  · intro e ne
    subst e
    rw [hT]
    have := h.all b hb bc ne
    have := turn_swap c p b
    omega
end VS

namespace VS
/-! ### seen from (0, 0): half planes, the rightmost point, sides -/
def nzP (p : P3) : Prop := p.1 ≠ 0 ∨ p.2.1 ≠ 0
instance (p : P3) : Decidable (nzP p) := by unfold nzP; infer_instance
/-- p lies anticlockwise from d, by less than half a turn, or along d -/
def HO (d p : P3) : Prop := Lex (crossI d p) (dotI d p)
theorem nrm_pos {d : P3} (h : nzP d) : 0 < dotI d d := by
  unfold nzP at h
  have e : dotI d d = d.1 * d.1 + d.2.1 * d.2.1 := rfl
  rw [e]
  exact sq_pos (by omega)
theorem crs_dir (d p q : P3) : crs (crossI d q) (dotI d q) (crossI d p) (dotI d p) = dotI d d * crossI p q := by
  unfold crs crossI dotI
  grind
theorem cross_self (p : P3) : crossI p p = 0 := by unfold crossI; grind
theorem cross_neg (p q : P3) : crossI q p = - crossI p q := by unfold crossI; grind
theorem ho_trans {d p q r : P3} (hd : nzP d) (hp : HO d p) (hq : HO d q) (hr : HO d r) (h1 : 0 ≤ crossI p q) (h2 : 0 ≤ crossI q r) : 0 ≤ crossI p r := by
  have n := nrm_pos hd
  have c1 : 0 ≤ crs (crossI d q) (dotI d q) (crossI d p) (dotI d p) := by rw [crs_dir]; exact sg_nn (Int.le_of_lt n) h1
  have c2 : 0 ≤ crs (crossI d r) (dotI d r) (crossI d q) (dotI d q) := by rw [crs_dir]; exact sg_nn (Int.le_of_lt n) h2
  have c3 := half_trans (Lex.z hr) hq (Lex.z hp) c2 c1
  rw [crs_dir] at c3
  exact (mul_sg n).2.1.mp c3
theorem ho_lt {d p q r : P3} (hd : nzP d) (hp : HO d p) (hq : HO d q) (hr : HO d r) (h1 : 0 < crossI p q) (h2 : 0 ≤ crossI q r) : 0 < crossI p r := by
  have n := nrm_pos hd
  have c1 : 0 < crs (crossI d q) (dotI d q) (crossI d p) (dotI d p) := by rw [crs_dir]; exact sg_P n h1
  have c2 : 0 ≤ crs (crossI d r) (dotI d r) (crossI d q) (dotI d q) := by rw [crs_dir]; exact sg_nn (Int.le_of_lt n) h2
  have c3 := half_lt1 hr hq hp c2 c1
  rw [crs_dir] at c3
  exact (mul_sg n).1.mp c3
/-- what lies along the end of the half plane, or nowhere -/
theorem ho_end {d f p : P3} (hd : nzP d) (hf : HO d f) (h1 : crossI d p = 0) (h2 : dotI d p ≤ 0) : 0 ≤ crossI f p := by
  have n := nrm_pos hd
  have e := crs_dir d f p
  unfold crs at e
  rw [h1, Int.zero_mul] at e
  have hA : 0 ≤ crossI d f := by unfold HO Lex at hf; omega
  have t : dotI d p * crossI d f ≤ 0 := sg_pn h2 hA
  exact (mul_sg n).2.1.mp (by omega)
theorem ho_or {d p : P3} (h : 0 ≤ crossI d p) : HO d p ∨ crossI d p = 0 ∧ dotI d p ≤ 0 := by
  unfold HO Lex
  omega
theorem ho_le {d f g p : P3} (hd : nzP d) (hf : HO d f) (hg : HO d g) (h : 0 ≤ crossI f g) (h2 : 0 ≤ crossI g p) (hp : 0 ≤ crossI d p) : 0 ≤ crossI f p := by
  rcases ho_or hp with z | ⟨z1, z2⟩
  · exact ho_trans hd hf hg z h h2
  · exact ho_end hd hf z1 z2
def rstep (f : Option P3) (p : P3) : Option P3 := match f with
  | none => if nzP p then some p else none
  | some f => if crossI f p < 0 then some p else some f
def rightm (ps : List P3) : Option P3 := (ps ++ ps).foldl rstep none
theorem fold_some (f : P3) : ∀ l : List P3, ∃ g, l.foldl rstep (some f) = some g ∧ (g = f ∨ g ∈ l)
  | [] => ⟨f, rfl, .inl rfl⟩
  | p :: l => by
    show ∃ g, l.foldl rstep (if crossI f p < 0 then some p else some f) = some g ∧ _
    split
    · obtain ⟨g, h1, h2⟩ := fold_some p l
      exact ⟨g, h1, .inr (by rcases h2 with h | h <;> simp [h])⟩
    · obtain ⟨g, h1, h2⟩ := fold_some f l
      exact ⟨g, h1, by rcases h2 with h | h <;> simp [h]⟩
theorem fold_nz {f : P3} (hf : nzP f) : ∀ {l : List P3} {g : P3}, l.foldl rstep (some f) = some g → nzP g
  | [], g, h => by cases h; exact hf
  | p :: l, g, h => by
    have h' : l.foldl rstep (if crossI f p < 0 then some p else some f) = some g := h
    split at h'
    · rename_i z
      refine fold_nz (l := l) ?_ h'
      unfold nzP
      by_cases e : p.1 = 0 ∧ p.2.1 = 0
      · exfalso
        unfold crossI at z
        rw [e.1, e.2] at z
        simp at z
      · omega
    · exact fold_nz (l := l) hf h'
theorem fold_none : ∀ {l : List P3}, (∀ p ∈ l, ¬ nzP p) → l.foldl rstep none = none
  | [], _ => rfl
  | p :: l, h => by
    show l.foldl rstep (if nzP p then some p else none) = none
    rw [if_neg (h p (by simp))]
    exact fold_none fun q hq => h q (List.mem_cons_of_mem _ hq)
theorem fold_first : ∀ {l : List P3}, (∃ p ∈ l, nzP p) → ∃ g, l.foldl rstep none = some g ∧ g ∈ l ∧ nzP g
  | [], ⟨p, h, _⟩ => by cases h
  | p :: l, ⟨q, hq, nz⟩ => by
    by_cases z : nzP p
    · have e : (p :: l).foldl rstep none = l.foldl rstep (some p) := by
        show l.foldl rstep (if nzP p then some p else none) = _
        rw [if_pos z]
      obtain ⟨g, h1, h2⟩ := fold_some p l
      exact ⟨g, by rw [e, h1], by rcases h2 with h | h <;> simp [h], fold_nz z h1⟩
    · have e : (p :: l).foldl rstep none = l.foldl rstep none := by
        show l.foldl rstep (if nzP p then some p else none) = _
        rw [if_neg z]
      have : q ∈ l := by
        rcases List.mem_cons.mp hq with h | h
        · subst h; exact absurd nz z
        · exact h
      obtain ⟨g, h1, h2, h3⟩ := fold_first ⟨q, this, nz⟩
      exact ⟨g, by rw [e, h1], List.mem_cons_of_mem _ h2, h3⟩
theorem rightm_none {ps : List P3} : rightm ps = none ↔ ∀ p ∈ ps, ¬ nzP p := by
  constructor
  · intro h p hp nz
    obtain ⟨g, h1, _⟩ := fold_first (l := ps ++ ps) ⟨p, List.mem_append_left _ hp, nz⟩
    unfold rightm at h
    rw [h1] at h
    cases h
  · intro h
    exact fold_none fun p hp => h p ((List.mem_append.mp hp).elim id id)
theorem rightm_mem {ps : List P3} {f : P3} (h : rightm ps = some f) : f ∈ ps ∧ nzP f := by
  by_cases z : ∃ p ∈ ps, nzP p
  · obtain ⟨p, hp, nz⟩ := z
    obtain ⟨g, h1, h2, h3⟩ := fold_first (l := ps ++ ps) ⟨p, List.mem_append_left _ hp, nz⟩
    unfold rightm at h
    rw [h1] at h
    cases h
    exact ⟨(List.mem_append.mp h2).elim id id, h3⟩
  · have : rightm ps = none := rightm_none.mpr fun p hp nz => z ⟨p, hp, nz⟩
    rw [this] at h
    cases h
/-- a pass over points of a half plane, from one that is not at its end -/
theorem pass {d : P3} (hd : nzP d) : ∀ {l : List P3} {f g : P3}, HO d f → (∀ p ∈ l, 0 ≤ crossI d p) → l.foldl rstep (some f) = some g → HO d g ∧ 0 ≤ crossI g f ∧ ∀ p ∈ l, 0 ≤ crossI g p
  | [], f, g, hf, _, h => by
    cases h
    exact ⟨hf, by rw [cross_self]; exact Int.le_refl _, by simp⟩
  | p :: l, f, g, hf, hl, h => by
    have hp := hl p (by simp)
    have hl' : ∀ q ∈ l, 0 ≤ crossI d q := fun q hq => hl q (List.mem_cons_of_mem _ hq)
    have h' : l.foldl rstep (if crossI f p < 0 then some p else some f) = some g := h
    split at h'
    · rename_i z
      have hop : HO d p := by
        rcases ho_or hp with w | ⟨w1, w2⟩
        · exact w
        · have := ho_end hd hf w1 w2
          omega
      obtain ⟨g1, g2, g3⟩ := pass hd (l := l) hop hl' h'
      refine ⟨g1, ho_trans hd g1 hop hf g2 (by rw [cross_neg]; omega), fun q hq => ?_⟩
      rcases List.mem_cons.mp hq with e | e
      · rw [e]; exact g2
      · exact g3 q e
    · rename_i z
      obtain ⟨g1, g2, g3⟩ := pass hd (l := l) hf hl' h'
      refine ⟨g1, g2, fun q hq => ?_⟩
      rcases List.mem_cons.mp hq with e | e
      · rw [e]; exact ho_le hd g1 hf g2 (by omega) hp
      · exact g3 q e
/-- the first pass: behind it stands a point that is not at the end, or all lie on the line -/
theorem pass0 {d : P3} (hd : nzP d) : ∀ {l : List P3} {f g : P3}, nzP f → 0 ≤ crossI d f → (∀ p ∈ l, 0 ≤ crossI d p) → l.foldl rstep (some f) = some g → HO d g ∨ crossI d f = 0 ∧ ∀ p ∈ l, crossI d p = 0
  | [], f, g, _, hf, _, h => by
    cases h
    rcases ho_or hf with w | w
    · exact .inl w
    · exact .inr ⟨w.1, by simp⟩
  | p :: l, f, g, nf, hf, hl, h => by
    have hp := hl p (by simp)
    have hl' : ∀ q ∈ l, 0 ≤ crossI d q := fun q hq => hl q (List.mem_cons_of_mem _ hq)
    rcases ho_or hf with w | ⟨w1, w2⟩
    · exact .inl (pass hd w hl h).1
    · have h' : l.foldl rstep (if crossI f p < 0 then some p else some f) = some g := h
      have n := nrm_pos hd
      have e := crs_dir d f p
      unfold crs at e
      rw [w1, Int.mul_zero] at e
      split at h'
      · rename_i z
        have hop : HO d p := by
          rcases ho_or hp with w | ⟨v1, v2⟩
          · exact w
          · rw [v1, Int.zero_mul] at e
            have := (mul_sg n (x := crossI f p)).2.2.2.mp (by omega)
            omega
        exact .inl (pass hd hop hl' h').1
      · rename_i z
        rcases pass0 hd (l := l) nf hf hl' h' with w | ⟨v1, v2⟩
        · exact .inl w
        · by_cases zp : crossI d p = 0
          · refine .inr ⟨w1, fun q hq => ?_⟩
            rcases List.mem_cons.mp hq with e | e
            · rw [e]; exact zp
            · exact v2 q e
          · exfalso
            -- a point within the half plane is taken
            have bneg : dotI d f < 0 := by
              rcases Int.lt_or_le (dotI d f) 0 with q | q
              · exact q
              · have z0 : dotI d f = 0 := by omega
                have e2 := crs_dir d f f
                unfold nzP at nf hd
                have k1 : dotI d d * f.1 = dotI d f * d.1 - crossI d f * d.2.1 := by unfold dotI crossI; grind
                have k2 : dotI d d * f.2.1 = dotI d f * d.2.1 + crossI d f * d.1 := by unfold dotI crossI; grind
                rw [z0, w1] at k1 k2
                have a1 := (mul_sg n (x := f.1)).2.2.2.mp (by omega)
                have a2 := (mul_sg n (x := f.2.1)).2.2.2.mp (by omega)
                omega
            have : crossI d p * dotI d f < 0 := sg_N (by omega) bneg
            have := (mul_sg n (x := crossI f p)).2.2.1.mp (by omega)
            omega
def Sided (ps : List P3) : Prop := ∃ d, nzP d ∧ ∀ p ∈ ps, 0 ≤ crossI d p
theorem rightm_side {ps : List P3} {f : P3} (h : rightm ps = some f) (hs : Sided ps) : ∀ p ∈ ps, 0 ≤ crossI f p := by
  obtain ⟨d, hd, hp⟩ := hs
  have ⟨mf, nf⟩ := rightm_mem h
  unfold rightm at h
  rw [List.foldl_append] at h
  obtain ⟨g, h1, h2, h3⟩ := fold_first (l := ps) ⟨f, mf, nf⟩
  rw [h1] at h
  have all0 : (∀ p ∈ ps, crossI d p = 0) → ∀ p ∈ ps, 0 ≤ crossI f p := fun z p hp' => by
    have n := nrm_pos hd
    have e := crs_dir d f p
    unfold crs at e
    rw [z p hp', z f mf, Int.zero_mul, Int.mul_zero] at e
    have := (mul_sg n (x := crossI f p)).2.2.2.mp (by omega)
    omega
  have first : HO d g ∨ ∀ p ∈ ps, crossI d p = 0 := by
    have key : ∀ {l : List P3} {g : P3}, (∀ p ∈ l, 0 ≤ crossI d p) → l.foldl rstep none = some g → HO d g ∨ ∀ p ∈ l, crossI d p = 0 := by
      intro l
      induction l with
      | nil => intro g _ h; cases h
      | cons p l ih =>
        intro g hl h
        have hl' : ∀ q ∈ l, 0 ≤ crossI d q := fun q hq => hl q (List.mem_cons_of_mem _ hq)
        have h' : l.foldl rstep (if nzP p then some p else none) = some g := h
        split at h'
        · rename_i z
          rcases pass0 hd z (hl p (by simp)) hl' h' with w | ⟨w1, w2⟩
          · exact .inl w
          · refine .inr fun q hq => ?_
            rcases List.mem_cons.mp hq with e | e
            · rw [e]; exact w1
            · exact w2 q e
        · rename_i z
          rcases ih hl' h' with w | w
          · exact .inl w
          · refine .inr fun q hq => ?_
            rcases List.mem_cons.mp hq with e | e
            · rw [e]
              unfold nzP at z
              have z1 : p.1 = 0 := by omega
              have z2 : p.2.1 = 0 := by omega
              unfold crossI
              rw [z1, z2]
              simp
            · exact w q e
    exact key hp h1
  rcases first with w | w
  · exact (pass hd w hp h).2.2
  · exact all0 w
theorem sided_iff (ps : List P3) : Sided ps ↔ match rightm ps with
    | none => True
    | some f => ∀ p ∈ ps, 0 ≤ crossI f p := by
  constructor
  · intro h
    cases e : rightm ps with
    | none => trivial
    | some f => exact rightm_side e h
  · intro h
    cases e : rightm ps with
    | none =>
      refine ⟨(0, 1, 1), .inr (by decide), fun p hp => ?_⟩
      have := rightm_none.mp e p hp
      unfold nzP at this
      have z1 : p.1 = 0 := by omega
      have z2 : p.2.1 = 0 := by omega
      unfold crossI
      rw [z1, z2]
      simp
    | some f =>
      rw [e] at h
      exact ⟨f, (rightm_mem e).2, h⟩
/-- whether the hull of the points touches (0, 0), as the program finds it -/
def Touch (ps : List P3) : Prop := match rightm ps with
  | none => True
  | some f => ∃ p ∈ ps, crossI f p < 0 ∨ crossI f p = 0 ∧ dotI f p ≤ 0
/-! ### the sides of a hull and (0, 0) -/
def zP : P3 := (0, 0, 1)
theorem turn_zero (a b : P3) (w : Int) : turnI a b (0, 0, w) = w * crossI a b := by unfold turnI crossI; grind
theorem cross_scl (k : Int) (d p : P3) : crossI d (sclP k p) = k * crossI d p := by unfold crossI sclP; grind
theorem dot_scl (k : Int) (d p : P3) : dotI d (sclP k p) = k * dotI d p := by unfold dotI sclP; grind
theorem cross_low {d p : P3} (hp : PosW p) : crossI d p = gI p * crossI d (lowI p) := by
  conv => lhs; rw [← low_scl p]
  exact cross_scl _ _ _
theorem dot_low {d p : P3} (hp : PosW p) : dotI d p = gI p * dotI d (lowI p) := by
  conv => lhs; rw [← low_scl p]
  exact dot_scl _ _ _
theorem sided_low {ps : List P3} (hw : ∀ p ∈ ps, PosW p) : Sided ps ↔ Sided (ps.map lowI) := by
  have key : ∀ d p, PosW p → (0 ≤ crossI d p ↔ 0 ≤ crossI d (lowI p)) := fun d p hp => by
    rw [cross_low hp]
    exact (mul_sg (gI_pos hp).1).2.1
  constructor
  · rintro ⟨d, hd, h⟩
    refine ⟨d, hd, fun x hx => ?_⟩
    obtain ⟨p, hp, rfl⟩ := List.mem_map.mp hx
    exact (key d p (hw p hp)).mp (h p hp)
  · rintro ⟨d, hd, h⟩
    exact ⟨d, hd, fun p hp => (key d p (hw p hp)).mpr (h _ (List.mem_map.mpr ⟨p, hp, rfl⟩))⟩
theorem sided_sub {ps qs : List P3} (h : ∀ x ∈ qs, x ∈ ps) (hs : Sided ps) : Sided qs := by
  obtain ⟨d, hd, hp⟩ := hs
  exact ⟨d, hd, fun p hq => hp p (h p hq)⟩
theorem next_ge {S : SetP} {a b : P3} (h : Next S a b) : ∀ p, S p → 0 ≤ turnI a b p := fun p hp => by
  by_cases e1 : p = a
  · rw [e1, turn_same2]; exact Int.le_refl _
  by_cases e2 : p = b
  · rw [e2, turn_same]; exact Int.le_refl _
  have := h.all p hp e1 e2
  omega
/-- a side of the hull that has (0, 0) on its line or on its right: a direction that has all points on its left -/
theorem edge_sided {ps : List P3} {a b : P3} (hw : ∀ p ∈ ps, PosW p) (wa : PosW a) (wb : PosW b) (hab : LtP a b ∨ LtP b a) (h : ∀ p ∈ ps, 0 ≤ turnI a b p) (hc : crossI a b ≤ 0) : Sided ps := by
  unfold PosW at wa wb
  refine ⟨(dx a b, dy a b, 1), ?_, fun p hp => ?_⟩
  · unfold nzP
    simp only
    rcases hab with e | e
    · unfold LtP at e; omega
    · unfold LtP at e; rw [dx_neg a b, dy_neg a b] at e; omega
  · have wp : 0 < p.2.2 := hw p hp
    have e : crossI (dx a b, dy a b, 1) p = turnI a b p - p.2.2 * crossI a b := by
      unfold crossI turnI dx dy
      grind
    rw [e]
    have t1 := h p hp
    have t2 := sg_np (Int.le_of_lt wp) hc
    omega
/-- consecutive points -/
def Con (Rl : P3 → P3 → Prop) : List P3 → Prop
  | a :: b :: r => Rl a b ∧ Con Rl (b :: r)
  | _ => True
theorem con_ho {d : P3} (hd : nzP d) : ∀ {l : List P3} {a : P3}, Con (fun a b => 0 ≤ crossI a b) (a :: l) → HO d a → (∀ x ∈ l, HO d x) → ∀ x ∈ l, 0 ≤ crossI a x
  | [], _, _, _, _ => by simp
  | b :: r, a, h, ha, hl => fun x hx => by
    rcases List.mem_cons.mp hx with e | e
    · rw [e]; exact h.1
    · have hb := hl b (by simp)
      exact ho_trans hd ha hb (hl x hx) h.1 (con_ho hd (l := r) h.2 hb (fun y hy => hl y (List.mem_cons_of_mem _ hy)) x e)
theorem con_mono {P Q : P3 → P3 → Prop} : ∀ {l : List P3}, (∀ a ∈ l, ∀ b ∈ l, P a b → Q a b) → Con P l → Con Q l
  | [], _, _ => trivial
  | [a], _, _ => trivial
  | a :: b :: r, h, c => ⟨h a (by simp) b (by simp) c.1, con_mono (l := b :: r) (fun x hx y hy => h x (List.mem_cons_of_mem _ hx) y (List.mem_cons_of_mem _ hy)) c.2⟩
theorem con_at {Q : P3 → P3 → Prop} : ∀ {l : List P3}, (∀ i, i + 1 < l.length → Q (at3 l i) (at3 l (i + 1))) → Con Q l
  | [], _ => trivial
  | [a], _ => trivial
  | a :: b :: r, h => ⟨h 0 (by simp), con_at (l := b :: r) fun i hi => h (i + 1) (by simpa using hi)⟩
theorem at_con {Q : P3 → P3 → Prop} : ∀ {l : List P3} {i : Nat}, Con Q l → i + 1 < l.length → Q (at3 l i) (at3 l (i + 1))
  | [], i, _, h => by simp at h
  | [a], i, _, h => by simp at h
  | a :: b :: r, 0, p, _ => p.1
  | a :: b :: r, i + 1, p, h => at_con (l := b :: r) (i := i) p.2 (by simpa using h)
theorem con_end {Q : P3 → P3 → Prop} {v : P3} : ∀ {l : List P3}, Con Q (l ++ [v]) → ∀ x ∈ l, ∃ y ∈ l ++ [v], Q x y
  | [], _, x, hx => by cases hx
  | [a], h, x, hx => by
    obtain rfl : x = a := by simpa using hx
    exact ⟨v, by simp, h.1⟩
  | a :: b :: r, h, x, hx => by
    rcases List.mem_cons.mp hx with e | e
    · rw [e]; exact ⟨b, by simp, h.1⟩
    · obtain ⟨y, hy, q⟩ := con_end (l := b :: r) h.2 x e
      exact ⟨y, List.mem_cons_of_mem _ hy, q⟩
/-- all sides turned to the left: no direction has all corners on its left -/
theorem con_unsided {v : P3} {t : List P3} (h : Con (fun a b => 0 < crossI a b) (v :: t ++ [v])) : ¬ Sided (v :: t) := by
  rintro ⟨d, hd, hp⟩
  have ho : ∀ x ∈ v :: t, HO d x := fun x hx => by
    rcases ho_or (hp x hx) with w | ⟨w1, w2⟩
    · exact w
    · exfalso
      obtain ⟨y, hy, q⟩ := con_end h x hx
      have hy' : y ∈ v :: t := by
        rcases List.mem_append.mp hy with z | z
        · exact z
        · have : y = v := by simpa using z
          rw [this]; simp
      have n := nrm_pos hd
      have e := crs_dir d x y
      unfold crs at e
      rw [w1, Int.mul_zero] at e
      have hA := hp y hy'
      have t1 : crossI d y * dotI d x ≤ 0 := sg_np hA w2
      have := sg_P n q
      omega
  cases t with
  | nil =>
    have this : 0 < crossI v v := h.1
    rw [cross_self] at this
    omega
  | cons b r =>
    have hv := ho v (by simp)
    have hb := ho b (by simp)
    have h2 : Con (fun a b => 0 ≤ crossI a b) (b :: (r ++ [v])) := con_mono (fun a _ b _ z => Int.le_of_lt z) h.2
    have := con_ho hd h2 hb (fun x hx => by
      rcases List.mem_append.mp hx with z | z
      · exact ho x (by simp [z])
      · have : x = v := by simpa using z
        rw [this]; exact hv) v (by simp)
    have h3 : 0 < crossI v b := h.1
    rw [cross_neg] at this
    omega
end VS

namespace VS
/-! ### whether (0, 0) lies in a hull -/
def Open (ps : List P3) : Prop := ∃ d, nzP d ∧ ∀ p ∈ ps, HO d p
theorem lex_par {A B C D : Int} (h1 : Lex A B) (h2 : Lex C D) (h : A * D = B * C) : 0 < A * C + B * D := by
  rcases h1 with a | ⟨a, b⟩
  · rcases h2 with c | ⟨c, d⟩
    · have e : A * (B * D) = C * (B * B) := by grind
      have n : 0 ≤ C * (B * B) := sg_nn (Int.le_of_lt c) (by by_cases z : 0 ≤ B; exact sg_nn z z; exact Int.le_of_lt (sg_P' (by omega) (by omega)))
      have : 0 ≤ B * D := (mul_sg a).2.1.mp (by omega)
      have := sg_P a c
      omega
    · subst c
      have := sg_P a d
      omega
  · subst a
    rcases h2 with c | ⟨c, d⟩
    · have := sg_P b c
      omega
    · have := sg_P b d
      omega
theorem ho_par {d p q : P3} (hd : nzP d) (hp : HO d p) (hq : HO d q) (h : crossI p q = 0) : 0 < dotI p q := by
  have n := nrm_pos hd
  have e1 : dotI d d * dotI p q = crossI d p * crossI d q + dotI d p * dotI d q := by unfold crossI dotI; grind
  have e2 := crs_dir d p q
  unfold crs at e2
  rw [h, Int.mul_zero] at e2
  have := lex_par hp hq (by rw [Int.mul_comm (crossI d p)]; have := Int.mul_comm (crossI d q) (dotI d p); omega)
  exact (mul_sg n).1.mp (by omega)
theorem ho_nz {d p : P3} (h : HO d p) : nzP p := by
  unfold nzP
  by_cases e : p.1 = 0 ∧ p.2.1 = 0
  · exfalso
    unfold HO Lex crossI dotI at h
    rw [e.1, e.2] at h
    simp at h
  · omega
theorem ho_self {v : P3} (h : nzP v) : HO v v := .inr ⟨cross_self v, nrm_pos h⟩
theorem nz_dot {v b : P3} (h : 0 < dotI v b) : nzP v := by
  unfold nzP
  by_cases e : v.1 = 0 ∧ v.2.1 = 0
  · exfalso
    unfold dotI at h
    rw [e.1, e.2] at h
    simp at h
  · omega
theorem touch_open {ps : List P3} (hne : ps ≠ []) : Touch ps ↔ ¬ Open ps := by
  unfold Touch
  cases e : rightm ps with
  | none =>
    simp only [true_iff]
    rintro ⟨d, hd, h⟩
    obtain ⟨p, hp⟩ := List.exists_mem_of_ne_nil _ hne
    exact rightm_none.mp e p hp (ho_nz (h p hp))
  | some f =>
    have ⟨mf, nf⟩ := rightm_mem e
    constructor
    · rintro ⟨p, hp, h⟩ ⟨d, hd, ho⟩
      have c := rightm_side e ⟨d, hd, fun q hq => by have := ho q hq; unfold HO Lex at this; omega⟩ p hp
      have := ho_par hd (ho f mf) (ho p hp)
      omega
    · intro h
      refine Classical.byContradiction fun k => h ⟨f, nf, fun p hp => ?_⟩
      have : ¬ (crossI f p < 0 ∨ crossI f p = 0 ∧ dotI f p ≤ 0) := fun z => k ⟨p, hp, z⟩
      unfold HO Lex
      omega
theorem open_sub {ps qs : List P3} (h : ∀ x ∈ qs, x ∈ ps) (hs : Open ps) : Open qs := by
  obtain ⟨d, hd, hp⟩ := hs
  exact ⟨d, hd, fun p hq => hp p (h p hq)⟩
theorem open_low {ps : List P3} (hw : ∀ p ∈ ps, PosW p) : Open ps ↔ Open (ps.map lowI) := by
  have key : ∀ d p, PosW p → (HO d p ↔ HO d (lowI p)) := fun d p hp => by
    unfold HO Lex
    rw [cross_low hp, dot_low hp]
    have g := (gI_pos hp).1
    rw [(mul_sg g).1, (mul_sg g).1, (mul_sg g).2.2.2]
  constructor
  · rintro ⟨d, hd, h⟩
    refine ⟨d, hd, fun x hx => ?_⟩
    obtain ⟨p, hp, rfl⟩ := List.mem_map.mp hx
    exact (key d p (hw p hp)).mp (h p hp)
  · rintro ⟨d, hd, h⟩
    exact ⟨d, hd, fun p hp => (key d p (hw p hp)).mpr (h _ (List.mem_map.mpr ⟨p, hp, rfl⟩))⟩
theorem dir_cross (a b p : P3) : crossI (dx a b, dy a b, 1) p = turnI a b p - p.2.2 * crossI a b := by
  unfold crossI turnI dx dy
  grind
theorem dir_nz {a b : P3} (h : LtP a b ∨ LtP b a) : nzP (dx a b, dy a b, 1) := by
  unfold nzP
  simp only
  rcases h with e | e
  · unfold LtP at e; omega
  · unfold LtP at e; rw [dx_neg a b, dy_neg a b] at e; omega
theorem open_edge {ps : List P3} {a b : P3} (hw : ∀ p ∈ ps, PosW p) (hab : LtP a b ∨ LtP b a) (h : ∀ p ∈ ps, 0 ≤ turnI a b p) (hc : crossI a b < 0) : Open ps := by
  refine ⟨_, dir_nz hab, fun p hp => .inl ?_⟩
  rw [dir_cross]
  have t1 := h p hp
  have t2 := sg_N (hw p hp) hc
  omega
theorem con_suffix {Q : P3 → P3 → Prop} {B : List P3} : ∀ {A : List P3}, Con Q (A ++ B) → Con Q B
  | [], h => h
  | [a], h => by
    cases B with
    | nil => trivial
    | cons b r => exact h.2
  | a :: b :: r, h => con_suffix (A := b :: r) h.2
theorem cyc_flat {d : P3} (hd : nzP d) {v : P3} {t : List P3} (ho : ∀ x ∈ v :: t, HO d x) (c : Con (fun a b => 0 ≤ crossI a b) (v :: t ++ [v])) : ∀ x ∈ t, crossI v x = 0 := by
  intro x hx
  have hov := ho v (by simp)
  have h1 : 0 ≤ crossI v x := con_ho hd (l := t ++ [v]) c hov (fun y hy => by
    rcases List.mem_append.mp hy with z | z
    · exact ho y (List.mem_cons_of_mem _ z)
    · obtain rfl : y = v := by simpa using z
      exact hov) x (List.mem_append_left _ hx)
  obtain ⟨s, r, e⟩ := List.append_of_mem hx
  have h2 : 0 ≤ crossI x v := by
    have c2 : Con (fun a b => 0 ≤ crossI a b) (x :: (r ++ [v])) := by
      refine con_suffix (A := v :: s) ?_
      rw [e] at c
      simpa using c
    refine con_ho hd (l := r ++ [v]) c2 (ho x (List.mem_cons_of_mem _ hx)) (fun y hy => ?_) v (by simp)
    rcases List.mem_append.mp hy with z | z
    · exact ho y (by rw [e]; simp [z])
    · obtain rfl : y = v := by simpa using z
      exact hov
  rw [cross_neg] at h2
  omega
theorem flat_all {v a b : P3} (hv : nzP v) (h1 : crossI v a = 0) (h2 : crossI v b = 0) : crossI a b = 0 := by
  have n := nrm_pos hv
  have e := crs_dir v a b
  unfold crs at e
  rw [h1, h2, Int.zero_mul, Int.mul_zero] at e
  exact (mul_sg n).2.2.2.mp (by omega)
theorem turn_cross (a b c : P3) : turnI a b c = a.2.2 * crossI b c - b.2.2 * crossI a c + c.2.2 * crossI a b := by unfold turnI crossI; grind
theorem turn_back (a b c : P3) : turnI b a c = - turnI a b c := by unfold turnI; grind
/-- three corners in a row do not lie on a line -/
theorem no_flat {S : SetP} {v b c : P3} (hw : ∀ x, S x → LowP x) (least : ∀ q, S q → q = v ∨ LtP v q) (sv : S v) (h1 : Next S v b) (h2 : Next S b c) (cv : c ≠ v) (z : turnI v b c = 0) : False := by
  have wv := hw v sv
  have wb := hw b h1.mem
  have wc := hw c h2.mem
  have vb : LtP v b := (least b h1.mem).resolve_left h1.ne
  have vc : LtP v c := (least c h2.mem).resolve_left cv
  have f1 := h1.all c h2.mem cv h2.ne
  have f2 := h2.all v sv (Ne.symm h1.ne) (Ne.symm cv)
  have cb : LtP c b := by
    rcases low_tot wc wb with w | w | w
    · exact absurd w h2.ne
    · exact w
    · have := far_add wv.w wb.w wc.w vb w (by rw [turn_swap]; omega)
      omega
  have zr := turn_rot v b c
  have := far_add (a := ngP b) (p := ngP c) (b := ngP v) wb.w wc.w wv.w ((lt_ng _ _).mpr cb) ((lt_ng _ _).mpr vc) (by rw [turn_ng, turn_swap]; omega)
  rw [far_ng, far_ng] at this
  have e1 : (ngP v).2.2 = v.2.2 := rfl
  have e2 : (ngP c).2.2 = c.2.2 := rfl
  rw [e1, e2] at this
  omega
/-- a point between two others -/
theorem comb {v b p : P3} (wv : PosW v) (wb : PosW b) (wp : PosW p) (h1 : LtP v p) (h2 : LtP p b) (z : turnI v b p = 0) : ∃ K α β : Int, 0 < K ∧ 0 ≤ α ∧ 0 ≤ β ∧ 0 < α + β ∧ K * p.1 = α * v.1 + β * b.1 ∧ K * p.2.1 = α * v.2.1 + β * b.2.1 := by
  have ex := dx_add v p b
  have ey := dy_add v p b
  unfold PosW at wv wb wp
  unfold LtP at h1 h2
  have a0 : 0 ≤ b.2.2 * dx v p := sg_nn (by omega) (by omega)
  have a1 : 0 ≤ v.2.2 * dx p b := sg_nn (by omega) (by omega)
  by_cases c : 0 < dx v b
  · refine ⟨dx v b, dx p b, dx v p, c, by omega, by omega, ?_, ?_, ?_⟩
    · have : 0 < p.2.2 * dx v b := sg_P wp c
      rcases h1 with w | w
      · omega
      · rcases h2 with u | u
        · omega
        · rw [w.1, u.1] at ex
          omega
    · unfold dx; grind
    · have e : dx v b * p.2.1 = dx p b * v.2.1 + dx v p * b.2.1 + turnI v b p ∨ dx v b * p.2.1 = dx p b * v.2.1 + dx v p * b.2.1 - turnI v b p := by
        first
          | (left; unfold dx turnI; grind)
          | (right; unfold dx turnI; grind)
      omega
  · have c0 : p.2.2 * dx v b ≤ 0 := sg_np (by omega) (by omega)
    have x1 : dx v p = 0 := (mul_sg wb).2.2.2.mp (by omega)
    have x2 : dx p b = 0 := (mul_sg wv).2.2.2.mp (by omega)
    have y1 : 0 < dy v p := by omega
    have y2 : 0 < dy p b := by omega
    have := sg_P wb y1
    have := sg_P wv y2
    have c2 : 0 < dy v b := (mul_sg wp).1.mp (by omega)
    refine ⟨dy v b, dy p b, dy v p, c2, by omega, by omega, by omega, ?_, ?_⟩
    · have e : dy v b * p.1 = dy p b * v.1 + dy v p * b.1 + turnI v b p ∨ dy v b * p.1 = dy p b * v.1 + dy v p * b.1 - turnI v b p := by
        first
          | (left; unfold dy turnI; grind)
          | (right; unfold dy turnI; grind)
      omega
    · unfold dy; grind
def MetL (L : List P3) : Prop := if L.length < 3 then crossI (at3 L 0) (at3 L (L.length - 1)) = 0 ∧ dotI (at3 L 0) (at3 L (L.length - 1)) ≤ 0 else Con (fun a b => 0 ≤ crossI a b) (L ++ [at3 L 0])
theorem path_con {S : SetP} {Q : P3 → P3 → Prop} (h : ∀ a b, S a → Next S a b → Q a b) : ∀ {l : List P3}, (∀ x ∈ l, S x) → Path S l → Con Q l
  | [], _, _ => trivial
  | [a], _, _ => trivial
  | a :: b :: r, hs, p => ⟨h a b (hs a (by simp)) p.1, path_con h (l := b :: r) (fun x hx => hs x (List.mem_cons_of_mem _ hx)) p.2⟩
theorem met_open {rs L : List P3} {v : P3} {t : List P3} (hw : ∀ x ∈ rs, LowP x) (h : IsHull (fun x => x ∈ rs) L v t) : MetL L ↔ ¬ Open rs := by
  have eL := h.eq
  have sv : v ∈ rs := h.mem v (by rw [eL]; simp)
  have hW : ∀ p ∈ rs, PosW p := fun p hp => (hw p hp).w
  have lt2 : ∀ {a b}, a ∈ rs → Next (fun x => x ∈ rs) a b → LtP a b ∨ LtP b a := fun {a b} ha n => (low_tot (hw a ha) (hw b n.mem)).resolve_left (Ne.symm n.ne)
  constructor
  · rintro hm ⟨d, hd, ho⟩
    have hoL : ∀ x ∈ L, HO d x := fun x hx => ho x (h.mem x hx)
    rw [eL] at hoL hm
    have hv := hoL v (by simp)
    rcases h.cyc with ⟨et, _⟩ | ⟨_, path, nv⟩
    · subst et
      have := ho_par hd hv hv (cross_self v)
      have hm' : crossI v v = 0 ∧ dotI v v ≤ 0 := hm
      omega
    · rw [eL] at path
      match t, path, nv, hoL, hm with
      | [], path, _, _, _ => exact path.1.ne rfl
      | [b], path, _, hoL, hm =>
        have hm' : crossI v b = 0 ∧ dotI v b ≤ 0 := hm
        have := ho_par hd hv (hoL b (by simp)) hm'.1
        omega
      | b :: c :: r, path, nv, hoL, hm =>
        have hm' : Con (fun a b => 0 ≤ crossI a b) (v :: (b :: c :: r) ++ [v]) := by
          unfold MetL at hm
          rw [if_neg (by simp)] at hm
          exact hm
        have fl := cyc_flat hd hoL hm'
        have vz := ho_nz hv
        have z : turnI v b c = 0 := by
          have f1 := fl b (by simp)
          have f2 := fl c (by simp)
          have f3 := flat_all vz f1 f2
          rw [turn_cross, f1, f2, f3]
          simp
        exact no_flat hw h.least sv path.1 path.2.1 (fun e => nv (by rw [← e]; simp)) z
  · intro no
    rcases h.cyc with ⟨et, all⟩ | ⟨_, path, nv⟩
    · rw [eL, et]
      show crossI v v = 0 ∧ dotI v v ≤ 0
      refine ⟨cross_self v, ?_⟩
      rcases Int.lt_or_le 0 (dotI v v) with q | q
      · have nz := nz_dot q
        exact absurd ⟨v, nz, fun p hp => by rw [all p hp]; exact ho_self nz⟩ no
      · exact q
    · have hS : ∀ x ∈ L ++ [v], x ∈ rs := fun x hx => by
        rcases List.mem_append.mp hx with z | z
        · exact h.mem x z
        · obtain rfl : x = v := by simpa using z
          exact sv
      have cn : Con (fun a b => 0 ≤ crossI a b) (L ++ [v]) := path_con (fun a b ha n => by
        rcases Int.lt_or_le (crossI a b) 0 with q | q
        · exact absurd (open_edge hW (lt2 ha n) (next_ge n) q) no
        · exact q) hS path
      rw [eL] at path cn ⊢
      match t, path, nv, cn with
      | [], path, _, _ => exact (path.1.ne rfl).elim
      | [b], path, nv, cn =>
        show crossI v b = 0 ∧ dotI v b ≤ 0
        have c1 : 0 ≤ crossI v b := cn.1
        have c2 : 0 ≤ crossI b v := cn.2.1
        rw [cross_neg] at c2
        have c0 : crossI v b = 0 := by omega
        refine ⟨c0, ?_⟩
        rcases Int.lt_or_le 0 (dotI v b) with q | q
        · exfalso
          have nz := nz_dot q
          refine no ⟨v, nz, fun p hp => ?_⟩
          by_cases e1 : p = v
          · rw [e1]; exact ho_self nz
          by_cases e2 : p = b
          · rw [e2]; exact .inr ⟨c0, q⟩
          have n1 : Next (fun x => x ∈ rs) v b := path.1
          have n2 : Next (fun x => x ∈ rs) b v := path.2.1
          have z1 := next_ge n1 p hp
          have z2 := next_ge n2 p hp
          rw [turn_back] at z2
          have z : turnI v b p = 0 := by omega
          have vp := (h.least p hp).resolve_left e1
          have vb := (h.least b n1.mem).resolve_left n1.ne
          have f := n1.all p hp e1 e2
          have pb : LtP p b := by
            rcases low_tot (hw p hp) (hw b n1.mem) with w | w | w
            · exact absurd w e2
            · exact w
            · have := far_add (hw v sv).w (hw b n1.mem).w (hw p hp).w vb w (by rw [turn_swap]; omega)
              omega
          obtain ⟨K, α, β, k0, a0, b0, ab, q1, q2⟩ := comb (hw v sv).w (hw b n1.mem).w (hw p hp).w vp pb z
          have m1 : K * crossI v p = β * crossI v b := by
            have : K * crossI v p = v.1 * (K * p.2.1) - v.2.1 * (K * p.1) := by unfold crossI; grind
            rw [this, q1, q2]
            unfold crossI
            grind
          have m2 : K * dotI v p = α * dotI v v + β * dotI v b := by
            have : K * dotI v p = v.1 * (K * p.1) + v.2.1 * (K * p.2.1) := by unfold dotI; grind
            rw [this, q1, q2]
            unfold dotI
            grind
          rw [c0, Int.mul_zero] at m1
          have vv := nrm_pos nz
          have g1 := sg_nn a0 (Int.le_of_lt vv)
          have g2 := sg_nn b0 (Int.le_of_lt q)
          have g3 : 0 < α * dotI v v + β * dotI v b := by
            by_cases z0 : 0 < α
            · have := sg_P z0 vv; omega
            · have := sg_P (show 0 < β by omega) q; omega
          exact .inr ⟨(mul_sg k0).2.2.2.mp m1, (mul_sg k0).1.mp (by omega)⟩
        · exact q
      | b :: c :: r, path, nv, cn =>
        unfold MetL
        rw [if_neg (by simp)]
        exact cn
theorem con_map {Q : P3 → P3 → Prop} (e : P3 → P3) : ∀ {l : List P3}, Con (fun a b => Q (e a) (e b)) l → Con Q (l.map e)
  | [], _ => trivial
  | [a], _ => trivial
  | a :: b :: r, h => ⟨h.1, con_map e (l := b :: r) h.2⟩
/-- what has the corners on its left has all points on its left -/
theorem side_in {rs L : List P3} {v : P3} {t : List P3} (hw : ∀ x ∈ rs, LowP x) (h : IsHull (fun x => x ∈ rs) L v t) {f : P3} (hf : nzP f) (hs : ∀ x ∈ L, 0 ≤ crossI f x) : ∀ p ∈ rs, 0 ≤ crossI f p := by
  intro p hp
  rcases Int.lt_or_le (crossI f p) 0 with q | q
  · exfalso
    have eL := h.eq
    have sv : v ∈ rs := h.mem v (by rw [eL]; simp)
    have wp := (hw p hp).w
    rcases h.cyc with ⟨et, all⟩ | ⟨tne, path, nv⟩
    · have := hs p (by rw [eL, all p hp]; simp)
      omega
    · have npL : ∀ x ∈ L, x ≠ p := fun x hx e => by
        have := hs x hx
        rw [e] at this
        omega
      have hS : ∀ x ∈ L ++ [v], x ∈ rs := fun x hx => by
        rcases List.mem_append.mp hx with z | z
        · exact h.mem x z
        · obtain rfl : x = v := by simpa using z
          exact sv
      have ho : ∀ x ∈ L, HO f (dx p x, dy p x, 1) := fun x hx => by
        refine .inl ?_
        have e : crossI f (dx p x, dy p x, 1) = p.2.2 * crossI f x - x.2.2 * crossI f p := by unfold crossI dx dy; grind
        rw [e]
        have u1 := sg_nn (Int.le_of_lt wp) (hs x hx)
        have u2 := sg_N (hw x (h.mem x hx)).w q
        omega
      have cr : ∀ a b, crossI (dx p a, dy p a, 1) (dx p b, dy p b, 1) = p.2.2 * turnI a b p := fun a b => by unfold crossI turnI dx dy; grind
      have cn : Con (fun a b => 0 ≤ crossI (dx p a, dy p a, 1) (dx p b, dy p b, 1)) (L ++ [v]) := path_con (fun a b ha n => by
        rw [cr]
        exact sg_nn (Int.le_of_lt wp) (next_ge n p hp)) hS path
      have cm := con_map (Q := fun a b => 0 ≤ crossI a b) (fun x => (dx p x, dy p x, 1)) cn
      rw [eL] at cm path ho
      match t, tne, path, nv, cm, ho, npL, eL with
      | b :: r, _, path, nv, cm, ho, npL, eL =>
        have n1 : Next (fun x => x ∈ rs) v b := path.1
        have fl := cyc_flat hf (v := (dx p v, dy p v, 1)) (t := (b :: r).map fun x => (dx p x, dy p x, 1)) (fun x hx => by
          rw [← List.map_cons (f := fun x => ((dx p x, dy p x, 1) : P3))] at hx
          obtain ⟨y, hy, rfl⟩ := List.mem_map.mp hx
          exact ho y hy) (by simpa using cm) (dx p b, dy p b, 1) (by simp)
        have hd := ho_par hf (ho v (by simp)) (ho b (by simp)) fl
        have z : turnI v b p = 0 := by
          rw [cr] at fl
          exact (mul_sg wp).2.2.2.mp fl
        have vp := (h.least p hp).resolve_left (Ne.symm (npL v (by rw [eL]; simp)))
        have vb := (h.least b n1.mem).resolve_left n1.ne
        have bp : LtP b p := by
          rcases low_tot (hw b n1.mem) (hw p hp) with w | w | w
          · exact absurd w (npL b (by rw [eL]; simp))
          · exact w
          · exfalso
            have fl' : dx p v * dy p b - dy p v * dx p b = 0 := fl
            have hd' : 0 < dx p v * dx p b + dy p v * dy p b := hd
            rw [dx_neg v p, dy_neg v p] at fl' hd'
            have := lex_par vp.lex w.lex (by grind)
            have e1 := Int.neg_mul (dx v p) (dx p b)
            have e2 := Int.neg_mul (dy v p) (dy p b)
            omega
        have f1 := far_add (hw v sv).w (hw b n1.mem).w wp vb bp (by rw [turn_swap]; omega)
        have f2 := n1.all p hp (Ne.symm (npL v (by rw [eL]; simp))) (Ne.symm (npL b (by rw [eL]; simp)))
        omega
  · exact q
theorem sided_hull {rs L : List P3} {v : P3} {t : List P3} (hw : ∀ x ∈ rs, LowP x) (h : IsHull (fun x => x ∈ rs) L v t) : Sided rs ↔ Sided L :=
  ⟨sided_sub h.mem, fun ⟨d, hd, hp⟩ => ⟨d, hd, side_in hw h hd hp⟩⟩
/-- the tries of the law -/
theorem sided_try (ps : List P3) : Sided ps ↔ (∀ p ∈ ps, 0 ≤ p.1) ∨ ∃ q ∈ ps, nzP q ∧ ((∀ p ∈ ps, 0 ≤ crossI q p) ∨ ∀ p ∈ ps, crossI q p ≤ 0) := by
  constructor
  · intro h
    have := (sided_iff ps).mp h
    cases e : rightm ps with
    | none =>
      refine .inl fun p hp => ?_
      have := rightm_none.mp e p hp
      unfold nzP at this
      omega
    | some f =>
      rw [e] at this
      exact .inr ⟨f, (rightm_mem e).1, (rightm_mem e).2, .inl this⟩
  · rintro (h | ⟨q, hq, nz, h | h⟩)
    · refine ⟨(0, -1, 1), .inr (by decide), fun p hp => ?_⟩
      have : crossI (0, -1, 1) p = p.1 := by unfold crossI; simp
      rw [this]
      exact h p hp
    · exact ⟨q, nz, h⟩
    · refine ⟨(-q.1, -q.2.1, 1), by unfold nzP at nz ⊢; simp only; omega, fun p hp => ?_⟩
      have : crossI (-q.1, -q.2.1, 1) p = - crossI q p := by unfold crossI; grind
      have := h p hp
      omega
theorem sided_one (p : P3) : Sided [p] := by
  refine (sided_iff _).mpr ?_
  split
  · trivial
  · rename_i f e
    intro q hq
    have := (rightm_mem e).1
    simp only [List.mem_cons, List.not_mem_nil, or_false] at this hq
    rw [this, hq, cross_self]
    exact Int.le_refl _
end VS

namespace VS
open PySem L2 PySem.Spec PyProof.Rows
local macro_rules | `(tactic| walk_at "vs") => `(tactic| simp (maxSteps := 400000) only [tSeqD, tEitD, tEitS, tRevD, tRepD, tNewT, tPutT, gListT, gGcd3, gLt2, tFgtD, tIfSD, tRetD, retD, tSetD, tSetV, tVarD, tConD, tOpD, tUnD, tCaD, tCallD, tConsD, tNilD, tTupD, tLstD, tValD, tAndD, tOrD, tNotD, tIfD, tAndDV, tOrDV, tNotDV, tAsgD, tParD, tPar3D, tNamG, tTupG, tNilG, tConsG, tUnlG, tDropD, tNextD, tBrkD, tCntD, tNeverD, tStoD, tMetD, tSlLD, tNoPartD, tPartD, tChD, tIsiD, tIsiTD, tIsi3D, tFrzD, q0, tYesD, wipeD,
  gI0, gII, gIB, gAdd, gU, gEq, gIx, gIsN, gLen, gInt, gAbs, gBool, gList, gTupC, mAppend, mPop, mPopAt, mInsert, mReverse, rd, rds, vl, vls, slR, nob, mkArgs, bors, putOwns, edOf, outsP, noR, shD, eqD,
  List.getElem?_cons_zero, List.getElem?_cons_succ, List.getElem?_nil, List.set_cons_zero, List.set_cons_succ, List.cons_append, List.nil_append, List.length_cons, List.length_nil, List.replicate, Nat.add_sub_cancel, Nat.sub_self, Nat.reduceAdd, Nat.reduceSub, Int.reduceToNat, Int.reducePow, Int.reduceNeg, Int.reduceAdd, Int.reduceSub, Int.reduceMul, id_eq, true_and, and_true, List.nodup_nil, if_true, if_false, List.nodup_cons, List.not_mem_nil, not_false_eq_true, Bool.not_true, Bool.not_false, Bool.true_or, Bool.or_false, Bool.false_or, decide_eq_true_eq, Bool.false_eq_true, XF,
  Bool.or_true, bne_self_eq_false, isT_dict_non, isT_dict_bl, isT_dict_int, isT_dict_str, isT_dict_tup, isT_dict_lst, isT_list_non, isT_list_bl, isT_list_int, isT_list_str, isT_list_tup, isT_list_lst, isT_tuple_non, isT_tuple_bl, isT_tuple_int, isT_tuple_str, isT_tuple_tup, isT_tuple_lst, isT_bool_non, isT_bool_bl, isT_bool_int, isT_bool_str, isT_bool_tup, isT_bool_lst, isT_str_non, isT_str_bl, isT_str_int, isT_str_str, isT_str_tup, isT_str_lst, isT_int_non, isT_int_bl, isT_int_int, isT_int_str, isT_int_tup, isT_int_lst,
  atI0, atI1, atI2, atI3, atI4, ixN51, ixN52, ixN53, ixN54])
local macro_rules | `(tactic| walk_at "vh") => `(tactic| simp (maxSteps := 400000) only [tSeqD, tEitD, tEitS, tRevD, tRepD, tNewT, tPutT, gListT, gGcd3, gLt2, tFgtD, tIfSD, tRetD, retD, tSetD, tSetV, tVarD, tConD, tOpD, tUnD, tCaD, tCallD, tConsD, tNilD, tTupD, tLstD, tValD, tAndD, tOrD, tNotD, tIfD, tAndDV, tOrDV, tNotDV, tAsgD, tParD, tPar3D, tNamG, tTupG, tNilG, tConsG, tUnlG, tDropD, tNextD, tBrkD, tCntD, tNeverD, tStoD, tMetD, tSlLD, tNoPartD, tPartD, tChD, tIsiD, tIsiTD, tIsi3D, tFrzD, q0, tYesD, wipeD,
  gI0, gII, gIB, gAdd, gU, gEq, gIx, gIsN, gLen, gInt, gAbs, gBool, gList, gTupC, mAppend, mPop, mPopAt, mInsert, mReverse, rd, rds, vl, vls, slR, nob, mkArgs, bors, putOwns, edOf, outsP, noR, shD, eqD,
  List.getElem?_cons_zero, List.getElem?_cons_succ, List.getElem?_nil, List.set_cons_zero, List.set_cons_succ, List.cons_append, List.nil_append, List.length_cons, List.length_nil, List.replicate, Nat.add_sub_cancel, Nat.sub_self, Nat.reduceAdd, Nat.reduceSub, Int.reduceToNat, Int.reducePow, Int.reduceNeg, Int.reduceAdd, Int.reduceSub, Int.reduceMul, id_eq, true_and, and_true, List.nodup_nil, if_true, if_false, List.nodup_cons, List.not_mem_nil, not_false_eq_true, Bool.not_true, Bool.not_false, Bool.true_or, Bool.or_false, Bool.false_or, decide_eq_true_eq, Bool.false_eq_true, XF,
  Bool.or_true, bne_self_eq_false, isT_dict_non, isT_dict_bl, isT_dict_int, isT_dict_str, isT_dict_tup, isT_dict_lst, isT_list_non, isT_list_bl, isT_list_int, isT_list_str, isT_list_tup, isT_list_lst, isT_tuple_non, isT_tuple_bl, isT_tuple_int, isT_tuple_str, isT_tuple_tup, isT_tuple_lst, isT_bool_non, isT_bool_bl, isT_bool_int, isT_bool_str, isT_bool_tup, isT_bool_lst, isT_str_non, isT_str_bl, isT_str_int, isT_str_str, isT_str_tup, isT_str_lst, isT_int_non, isT_int_bl, isT_int_int, isT_int_str, isT_int_tup, isT_int_lst,
  atI0, atI1, atI2, atI3, atI4, ixN51, ixN52, ixN53, ixN54, *])
local macro_rules | `(tactic| walk_at "lf") => `(tactic| ((repeat' (with_reducible apply And.intro)) <;> first | exact mulR (by decide) (by decide) | exact pow1018 | exact pow3 (by omega) | exact divB (by omega) (by omega) | exact Int.emod_nonneg _ (by omega) | exact Int.emod_lt_of_pos _ (by omega) | exact Int.ediv_nonneg (by omega) (by omega) | omega | decide | assumption | skip))
local macro_rules | `(tactic| walk_at "vn") => `(tactic| simp (maxSteps := 400000) only [tSeqD, tEitD, tEitS, tRevD, tRepD, tNewT, tPutT, gListT, gGcd3, gLt2, tFgtD, tIfSD, tRetD, retD, tSetD, tSetV, tVarD, tConD, tOpD, tUnD, tCaD, tCallD, tConsD, tNilD, tTupD, tLstD, tValD, tAndD, tOrD, tNotD, tIfD, tAndDV, tOrDV, tNotDV, tAsgD, tParD, tPar3D, tNamG, tTupG, tNilG, tConsG, tUnlG, tDropD, tNextD, tBrkD, tCntD, tNeverD, tStoD, tMetD, tSlLD, tNoPartD, tPartD, tChD, tIsiD, tIsiTD, tIsi3D, tFrzD, q0, tYesD, wipeD,
  gI0, gII, gIB, gAdd, gU, gEq, gIx, gIsN, gLen, gInt, gAbs, gBool, gList, gTupC, mAppend, mPop, mPopAt, mInsert, mReverse, rd, rds, vl, vls, slR, nob, mkArgs, bors, putOwns, edOf, outsP, noR,
  List.getElem?_cons_zero, List.getElem?_cons_succ, List.getElem?_nil, List.set_cons_zero, List.set_cons_succ, List.cons_append, List.nil_append, List.length_cons, List.length_nil, List.replicate, Nat.add_sub_cancel, Nat.sub_self, Nat.reduceAdd, Nat.reduceSub, Int.reduceToNat, Int.reducePow, Int.reduceNeg, Int.reduceAdd, Int.reduceSub, Int.reduceMul, id_eq, true_and, and_true, List.nodup_nil, if_true, if_false, List.nodup_cons, List.not_mem_nil, not_false_eq_true, Bool.not_true, Bool.not_false, Bool.true_or, Bool.or_false, Bool.false_or, decide_eq_true_eq, Bool.false_eq_true, XF,
  Bool.or_true, bne_self_eq_false, isT_dict_non, isT_dict_bl, isT_dict_int, isT_dict_str, isT_dict_tup, isT_dict_lst, isT_list_non, isT_list_bl, isT_list_int, isT_list_str, isT_list_tup, isT_list_lst, isT_tuple_non, isT_tuple_bl, isT_tuple_int, isT_tuple_str, isT_tuple_tup, isT_tuple_lst, isT_bool_non, isT_bool_bl, isT_bool_int, isT_bool_str, isT_bool_tup, isT_bool_lst, isT_str_non, isT_str_bl, isT_str_int, isT_str_str, isT_str_tup, isT_str_lst, isT_int_non, isT_int_bl, isT_int_int, isT_int_str, isT_int_tup, isT_int_lst,
  atI0, atI1, atI2, atI3, atI4, ixN51, ixN52, ixN53, ixN54])

/-- slots: 0 script, 1 seed, 2 item -/
def T__law_bag : TDs :=
  (tSeqD (tSetV 1 (tConD (.int 16180)))
  (tCutD (tForLD (tSlLD (tVarD 0) tNoPartD (tPartD (tConD (.int 63)))) (tNamG 2) (tSetV 1 (tOpD (gII (fun _ j => 0 < j) (· % ·)) (tCaD gInt (tConsD (tOpD gAdd (tOpD gAdd (tOpD (gII CMulA (· * ·)) (tVarD 1) (tConD (.int 40014))) (tOpD (gII (fun _ j => 0 < j) (· % ·)) (tCaD gInt (tConsD (tVarD 2) tNilD)) (tConD (.int 2147483563)))) (tConD (.int 211))) tNilD)) (tConD (.int 2147483399)))))
  (tRetD (tLstD (tConsD (tCaD gList (tConsD (tSlLD (tVarD 0) tNoPartD (tPartD (tConD (.int 63)))) tNilD)) (tConsD (tConD (.int 0)) (tConsD (tConD (.int 0)) (tConsD (tVarD 1) (tConsD (tConD (.int 0)) tNilD)))))))))
theorem rd__law_bag {args : En} {Φ : Res → List D → Prop} {Ψ : Xc → List D → Prop} (h : sp__law_bag args Φ Ψ) : T__law_bag (edOf args Φ XN) (noR ["script", "seed", "item"] args) := by
  obtain ⟨ns, rfl, h⟩ := h
  unfold T__law_bag
  walk_at "vs"
  refine ⟨fun en => ∃ m v, en = [.val (.lst (ns.map D.int)), .val (.int m), v] ∧ 0 ≤ m ∧ m < 2147483648, forLo_i (fun _ en => ∃ m v, en = [.val (.lst (ns.map D.int)), .val (.int m), v] ∧ 0 ≤ m ∧ m < 2147483648) (en1 := [.val (.lst (ns.map D.int)), .val (.int 16180), .no]) (ds := (cutG ns none (some 63)).map D.int) (fun Φ z => ?_) ⟨_, _, rfl, by omega, by omega⟩ ?_ fun en z => z, ?_⟩
  · walk_at "vs"
    simp only [cut_map]
    exact z
  · rintro i d en hd ⟨m, v, rfl, h0, h1⟩
    obtain ⟨z, _, rfl⟩ := get_map hd
    walk_at "vs"
    exact ⟨mulR (by decide) (by decide), by decide, by decide, _, _, rfl, by omega, by omega⟩
  · rintro en ⟨m, v, rfl, h0, h1⟩
    walk_at "vs"
    simp only [cut_map]
    intro p1 p2
    exact ⟨sz1000 (by decide), fun p3 => h p3 _ ⟨_, _, _, _, _, rfl, by omega, by omega, h0, h1⟩⟩
/-- slots: 0 bag, 1 limit, 2 item, 3 digit -/
def T__law_draw : TDs :=
  (tSeqD (tStoD 0 (tOpD gAdd (tOpD gIx (tVarD 0) (tConD (.int 4))) (tConD (.int 1))) (tConD (.int 4)))
  (tSeqD (tIfSD (tAndD (tValD (tOpD (gEq id) (tOpD gIx (tVarD 0) (tConD (.int 2))) (tConD (.int 0)))) (tValD (tOpD (gIB fun i j => decide (i < j)) (tOpD gIx (tVarD 0) (tConD (.int 1))) (tCaD gLen (tConsD (tOpD gIx (tVarD 0) (tConD (.int 0))) tNilD))))) (tSeqD (tSetV 2 (tOpD gIx (tOpD gIx (tVarD 0) (tConD (.int 0))) (tOpD gIx (tVarD 0) (tConD (.int 1)))))
  (tSeqD (tStoD 0 (tOpD gAdd (tOpD gIx (tVarD 0) (tConD (.int 1))) (tConD (.int 1))) (tConD (.int 1)))
  (tIfSD (tValD (tOpD (gIB fun i j => decide (j ≤ i)) (tVarD 2) (tOpD (gII CPow fun i j => i ^ j.toNat) (tConD (.int 10)) (tConD (.int 18))))) (tStoD 0 (tVarD 2) (tConD (.int 2))) (tStoD 0 (tOpD (gII (fun _ j => 0 < j) (· % ·)) (tCaD gInt (tConsD (tOpD gAdd (tOpD gAdd (tOpD (gII CMulA (· * ·)) (tOpD gIx (tVarD 0) (tConD (.int 3))) (tConD (.int 69621))) (tOpD (gII CMulA (· * ·)) (tOpD (gII (fun _ j => 0 < j) (· % ·)) (tCaD gInt (tConsD (tVarD 2) tNilD)) (tConD (.int 2147483549))) (tConD (.int 30103)))) (tConD (.int 89))) tNilD)) (tConD (.int 2147483399))) (tConD (.int 3)))))) tNextD)
  (tSeqD (tIfSD (tValD (tOpD (gIB fun i j => decide (j < i)) (tOpD gIx (tVarD 0) (tConD (.int 2))) (tConD (.int 0)))) (tSeqD (tSetV 3 (tOpD (gII (fun _ j => 0 < j) (· % ·)) (tCaD gInt (tConsD (tOpD gIx (tVarD 0) (tConD (.int 2))) tNilD)) (tVarD 1)))
  (tSeqD (tStoD 0 (tOpD (gII CDivW (· / ·)) (tOpD gIx (tVarD 0) (tConD (.int 2))) (tVarD 1)) (tConD (.int 2)))
  (tRetD (tVarD 3)))) tNextD)
  (tSeqD (tStoD 0 (tOpD (gII (fun _ j => 0 < j) (· % ·)) (tCaD gInt (tConsD (tOpD gAdd (tOpD gAdd (tOpD (gII CPow fun i j => i ^ j.toNat) (tOpD gIx (tVarD 0) (tConD (.int 3))) (tConD (.int 3))) (tOpD (gII CMulA (· * ·)) (tOpD gIx (tVarD 0) (tConD (.int 4))) (tConD (.int 1299709)))) (tConD (.int 60013))) tNilD)) (tConD (.int 2147483399))) (tConD (.int 3)))
  (tRetD (tOpD (gII (fun _ j => 0 < j) (· % ·)) (tCaD gInt (tConsD (tOpD gAdd (tOpD (gII CDivW (· / ·)) (tOpD gIx (tVarD 0) (tConD (.int 3))) (tConD (.int 97))) (tOpD (gII CMulA (· * ·)) (tOpD (gII (fun _ j => 0 < j) (· % ·)) (tCaD gInt (tConsD (tOpD gIx (tVarD 0) (tConD (.int 3))) tNilD)) (tConD (.int 7901))) (tConD (.int 67)))) tNilD)) (tVarD 1)))))))
theorem rd__law_draw {args : En} {Φ : Res → List D → Prop} {Ψ : Xc → List D → Prop} (h : sp__law_draw args Φ Ψ) : T__law_draw (edOf args Φ XN) (noR ["bag", "limit", "item", "digit"] args) := by
  obtain ⟨a, d, size, rfl, ⟨ns, i, b, m, c, rfl, hi, hb, hm, hm2⟩, hs, hs2, h⟩ := h
  unfold T__law_draw bagD
  walk_at "vs"
  have tail : ∀ (i' b' m' : Int) (z : Sl), 0 ≤ i' → 0 ≤ b' → 0 ≤ m' → m' < 2147483648 → True := fun _ _ _ _ _ _ _ _ => trivial
  by_cases hb0 : b = 0
  · rw [if_pos hb0]
    by_cases hi2 : i < ((ns.map D.int).length : Int)
    · rw [if_pos hi2]
      rw [List.length_map] at hi2
      obtain ⟨z, hz⟩ : ∃ z, ns[i.toNat]? = some z := ⟨_, List.getElem?_eq_getElem (by omega)⟩
      rw [atI_int hi (v := D.int z) (by rw [List.getElem?_map, hz]; rfl)]
      walk_at "vs"
      refine ⟨pow1018, ?_⟩
      split
      · split
        · walk_at "lf"
          all_goals exact h _ _ (Int.emod_nonneg _ (by omega)) (Int.emod_lt_of_pos _ hs) ⟨_, _, _, _, _, rfl, by omega, Int.ediv_nonneg (by omega) (by omega), hm, hm2⟩
        · walk_at "lf"
          all_goals exact h _ _ (Int.emod_nonneg _ (by omega)) (Int.emod_lt_of_pos _ hs) ⟨_, _, _, _, _, rfl, by omega, by omega, by omega, by omega⟩
      · refine ⟨mulR (by decide) (by decide), by decide, mulR (by decide) (by decide), by decide, ?_⟩
        split
        · omega
        · walk_at "lf"
          all_goals exact h _ _ (Int.emod_nonneg _ (by omega)) (Int.emod_lt_of_pos _ hs) ⟨_, _, _, _, _, rfl, by omega, by omega, by omega, by omega⟩
    · rw [if_neg hi2]
      split
      · exfalso; omega
      · walk_at "lf"
        all_goals exact h _ _ (Int.emod_nonneg _ (by omega)) (Int.emod_lt_of_pos _ hs) ⟨_, _, _, _, _, rfl, by omega, by omega, by omega, by omega⟩
  · rw [if_neg hb0]
    split
    · walk_at "lf"
      all_goals exact h _ _ (Int.emod_nonneg _ (by omega)) (Int.emod_lt_of_pos _ hs) ⟨_, _, _, _, _, rfl, by omega, Int.ediv_nonneg (by omega) (by omega), hm, hm2⟩
    · walk_at "lf"
      all_goals exact h _ _ (Int.emod_nonneg _ (by omega)) (Int.emod_lt_of_pos _ hs) ⟨_, _, _, _, _, rfl, by omega, by omega, by omega, by omega⟩
/-- slots: 0 bag, 1 things -/
def T__law_of : TDs :=
  (tRetD (tOpD gIx (tVarD 1) (tCallD 2 (q0 sp__law_draw) (tConsD (tVarD 0) (tConsD (tCaD gLen (tConsD (tVarD 1) tNilD)) tNilD)))))
theorem rd__law_of {args : En} {Φ : Res → List D → Prop} {Ψ : Xc → List D → Prop} (h : sp__law_of args Φ Ψ) : T__law_of (edOf args Φ XN) (noR ["bag", "things"] args) := by
  obtain ⟨a, d, ds, rfl, hb, hne, hl, h⟩ := h
  unfold T__law_of sp__law_draw
  walk_at "vs"
  have hp : 0 < ds.length := List.length_pos_iff.mpr hne
  refine ⟨a, d, _, rfl, hb, by omega, by omega, fun k d' h0 h1 hb' => ?_⟩
  obtain ⟨x, hx⟩ : ∃ x, ds[k.toNat]? = some x := ⟨_, List.getElem?_eq_getElem (by omega)⟩
  rw [atI_int h0 hx]
  exact h x d' (List.mem_of_getElem? hx) hb'
theorem perm_erase {α : Type} : ∀ (l : List α) (i : Nat) (h : i < l.length), (l[i] :: l.eraseIdx i).Perm l
  | [], _, h => by simp at h
  | a :: l, 0, _ => by simp
  | a :: l, i + 1, h => by
    have hi : i < l.length := by simpa using h
    have ih := perm_erase l i hi
    simp only [List.getElem_cons_succ, List.eraseIdx_cons_succ]
    exact (List.Perm.swap a l[i] (l.eraseIdx i)).trans (ih.cons a)
/-- slots: 0 bag, 1 things, 2 left, 3 out, 4 k -/
def T__law_shuffled : TDs :=
  (tCutD (tParD 2 3 (tConsD (tCaD gList (tConsD (tVarD 1) tNilD)) (tConsD (tLstD tNilD) tNilD)))
  (tCutD (tForR1 (tConsD (tCaD gLen (tConsD (tVarD 1) tNilD)) tNilD) (tNamG 4) (tDropD (tMetD 3 mAppend (tConsD (tMetD 2 mPopAt (tConsD (tCallD 2 (q0 sp__law_draw) (tConsD (tVarD 0) (tConsD (tCaD gLen (tConsD (tVarD 2) tNilD)) tNilD))) tNilD)) tNilD))))
  (tRetD (tVarD 3))))
def sp__law_shuffled : Spc := fun args Φ _ => ∃ q d0 ds, args = [.own q d0, .val (.lst ds)] ∧ BagOk d0 ∧ ds.length ≤ 1000 ∧ ∀ (a : Addr) (es : List D) (d1 : D), es.Perm ds → BagOk d1 → Φ (.own a (.lst es)) [d1]
theorem rd__law_shuffled {args : En} {Φ : Res → List D → Prop} {Ψ : Xc → List D → Prop} (h : sp__law_shuffled args Φ Ψ) : T__law_shuffled (edOf args Φ XN) (noR ["bag", "things", "left", "out", "k"] args) := by
  obtain ⟨q, d0, ds, rfl, hk, hl, h⟩ := h
  unfold T__law_shuffled
  refine ⟨fun en => ∃ a b, en = [.own q d0, .val (.lst ds), .own a (.lst ds), .own b (.lst []), .no], ?_, ?_⟩
  · walk_at "vs"
    exact fun a => ⟨sz1000 (by decide), fun b => ⟨a, b, rfl⟩⟩
  rintro _ ⟨a, b, rfl⟩
  refine ⟨fun en => ∃ d1 ls os e, en = [.own q d1, .val (.lst ds), .own a (.lst ls), .own b (.lst os), e] ∧ BagOk d1 ∧ os.Perm ds, ?_, ?_⟩
  · refine forR1_i (fun i en => ∃ d1 ls os e, en = [.own q d1, .val (.lst ds), .own a (.lst ls), .own b (.lst os), e] ∧ BagOk d1 ∧ (os ++ ls).Perm ds ∧ os.length = i) (en1 := [.own q d0, .val (.lst ds), .own a (.lst ds), .own b (.lst []), .no]) (n := ds.length) (fun Φ z => ?_) (by omega) (by omega) ⟨d0, ds, [], .no, rfl, hk, List.Perm.refl _, rfl⟩ ?_ ?_
    · walk_at "vs"
      exact z
    · rintro i _ hi ⟨d1, ls, os, e, rfl, hk1, hp, hn⟩
      have hlen := hp.length_eq
      rw [List.length_append] at hlen
      unfold sp__law_draw
      walk_at "vs"
      refine ⟨q, d1, _, rfl, hk1, by omega, by omega, fun k d2 k0 k1 hk2 => ⟨k0, by omega, ?_⟩⟩
      have hk' : k.toNat < ls.length := by omega
      rw [List.getElem?_eq_getElem hk']
      walk_at "vs"
      refine ⟨sz1001 (by omega), d2, ls.eraseIdx k.toNat, os ++ [ls[k.toNat]], .val (.int i), rfl, hk2, ?_, by simp [hn]⟩
      refine List.Perm.trans ?_ hp
      rw [List.append_assoc]
      exact List.Perm.append_left os (perm_erase ls k.toNat hk')
    · rintro _ ⟨d1, ls, os, e, rfl, hk1, hp, hn⟩
      have hlen := hp.length_eq
      rw [List.length_append] at hlen
      have e0 : ls = [] := List.length_eq_zero_iff.mp (by omega)
      subst e0
      rw [List.append_nil] at hp
      exact ⟨d1, [], os, e, rfl, hk1, hp⟩
  rintro _ ⟨d1, ls, os, e, rfl, hk1, hp⟩
  walk_at "vs"
  exact h b os d1 hp hk1
end VS

namespace VS
open PySem L2 PySem.Spec PyProof.Rows
local macro_rules | `(tactic| walk_at "vs") => `(tactic| simp (maxSteps := 400000) only [tSeqD, tEitD, tEitS, tRevD, tRepD, tNewT, tPutT, gListT, gGcd3, gLt2, tFgtD, tIfSD, tRetD, retD, tSetD, tSetV, tVarD, tConD, tOpD, tUnD, tCaD, tCallD, tConsD, tNilD, tTupD, tLstD, tValD, tAndD, tOrD, tNotD, tIfD, tAndDV, tOrDV, tNotDV, tAsgD, tParD, tPar3D, tNamG, tTupG, tNilG, tConsG, tUnlG, tDropD, tNextD, tBrkD, tCntD, tNeverD, tStoD, tMetD, tSlLD, tNoPartD, tPartD, tChD, tIsiD, tIsiTD, tIsi3D, tFrzD, q0, tYesD, wipeD,
  gI0, gII, gIB, gAdd, gU, gEq, gIx, gIsN, gLen, gInt, gAbs, gBool, gList, gTupC, mAppend, mPop, mPopAt, mInsert, mReverse, rd, rds, vl, vls, slR, nob, mkArgs, bors, putOwns, edOf, outsP, noR, shD, eqD,
  List.getElem?_cons_zero, List.getElem?_cons_succ, List.getElem?_nil, List.set_cons_zero, List.set_cons_succ, List.cons_append, List.nil_append, List.length_cons, List.length_nil, List.replicate, Nat.add_sub_cancel, Nat.sub_self, Nat.reduceAdd, Nat.reduceSub, Int.reduceToNat, Int.reducePow, Int.reduceNeg, Int.reduceAdd, Int.reduceSub, Int.reduceMul, id_eq, true_and, and_true, List.nodup_nil, if_true, if_false, List.nodup_cons, List.not_mem_nil, not_false_eq_true, Bool.not_true, Bool.not_false, Bool.true_or, Bool.or_false, Bool.false_or, decide_eq_true_eq, Bool.false_eq_true, XF,
  Bool.or_true, bne_self_eq_false, isT_dict_non, isT_dict_bl, isT_dict_int, isT_dict_str, isT_dict_tup, isT_dict_lst, isT_list_non, isT_list_bl, isT_list_int, isT_list_str, isT_list_tup, isT_list_lst, isT_tuple_non, isT_tuple_bl, isT_tuple_int, isT_tuple_str, isT_tuple_tup, isT_tuple_lst, isT_bool_non, isT_bool_bl, isT_bool_int, isT_bool_str, isT_bool_tup, isT_bool_lst, isT_str_non, isT_str_bl, isT_str_int, isT_str_str, isT_str_tup, isT_str_lst, isT_int_non, isT_int_bl, isT_int_int, isT_int_str, isT_int_tup, isT_int_lst,
  atI0, atI1, atI2, atI3, atI4, ixN51, ixN52, ixN53, ixN54])
local macro_rules | `(tactic| walk_at "vh") => `(tactic| simp (maxSteps := 400000) only [tSeqD, tEitD, tEitS, tRevD, tRepD, tNewT, tPutT, gListT, gGcd3, gLt2, tFgtD, tIfSD, tRetD, retD, tSetD, tSetV, tVarD, tConD, tOpD, tUnD, tCaD, tCallD, tConsD, tNilD, tTupD, tLstD, tValD, tAndD, tOrD, tNotD, tIfD, tAndDV, tOrDV, tNotDV, tAsgD, tParD, tPar3D, tNamG, tTupG, tNilG, tConsG, tUnlG, tDropD, tNextD, tBrkD, tCntD, tNeverD, tStoD, tMetD, tSlLD, tNoPartD, tPartD, tChD, tIsiD, tIsiTD, tIsi3D, tFrzD, q0, tYesD, wipeD,
  gI0, gII, gIB, gAdd, gU, gEq, gIx, gIsN, gLen, gInt, gAbs, gBool, gList, gTupC, mAppend, mPop, mPopAt, mInsert, mReverse, rd, rds, vl, vls, slR, nob, mkArgs, bors, putOwns, edOf, outsP, noR, shD, eqD,
  List.getElem?_cons_zero, List.getElem?_cons_succ, List.getElem?_nil, List.set_cons_zero, List.set_cons_succ, List.cons_append, List.nil_append, List.length_cons, List.length_nil, List.replicate, Nat.add_sub_cancel, Nat.sub_self, Nat.reduceAdd, Nat.reduceSub, Int.reduceToNat, Int.reducePow, Int.reduceNeg, Int.reduceAdd, Int.reduceSub, Int.reduceMul, id_eq, true_and, and_true, List.nodup_nil, if_true, if_false, List.nodup_cons, List.not_mem_nil, not_false_eq_true, Bool.not_true, Bool.not_false, Bool.true_or, Bool.or_false, Bool.false_or, decide_eq_true_eq, Bool.false_eq_true, XF,
  Bool.or_true, bne_self_eq_false, isT_dict_non, isT_dict_bl, isT_dict_int, isT_dict_str, isT_dict_tup, isT_dict_lst, isT_list_non, isT_list_bl, isT_list_int, isT_list_str, isT_list_tup, isT_list_lst, isT_tuple_non, isT_tuple_bl, isT_tuple_int, isT_tuple_str, isT_tuple_tup, isT_tuple_lst, isT_bool_non, isT_bool_bl, isT_bool_int, isT_bool_str, isT_bool_tup, isT_bool_lst, isT_str_non, isT_str_bl, isT_str_int, isT_str_str, isT_str_tup, isT_str_lst, isT_int_non, isT_int_bl, isT_int_int, isT_int_str, isT_int_tup, isT_int_lst,
  atI0, atI1, atI2, atI3, atI4, ixN51, ixN52, ixN53, ixN54, *])
local macro_rules | `(tactic| walk_at "lf") => `(tactic| ((repeat' (with_reducible apply And.intro)) <;> first | exact mulR (by decide) (by decide) | exact pow1018 | exact pow3 (by omega) | exact divB (by omega) (by omega) | exact Int.emod_nonneg _ (by omega) | exact Int.emod_lt_of_pos _ (by omega) | exact Int.ediv_nonneg (by omega) (by omega) | omega | decide | assumption | skip))
local macro_rules | `(tactic| walk_at "vn") => `(tactic| simp (maxSteps := 400000) only [tSeqD, tEitD, tEitS, tRevD, tRepD, tNewT, tPutT, gListT, gGcd3, gLt2, tFgtD, tIfSD, tRetD, retD, tSetD, tSetV, tVarD, tConD, tOpD, tUnD, tCaD, tCallD, tConsD, tNilD, tTupD, tLstD, tValD, tAndD, tOrD, tNotD, tIfD, tAndDV, tOrDV, tNotDV, tAsgD, tParD, tPar3D, tNamG, tTupG, tNilG, tConsG, tUnlG, tDropD, tNextD, tBrkD, tCntD, tNeverD, tStoD, tMetD, tSlLD, tNoPartD, tPartD, tChD, tIsiD, tIsiTD, tIsi3D, tFrzD, q0, tYesD, wipeD,
  gI0, gII, gIB, gAdd, gU, gEq, gIx, gIsN, gLen, gInt, gAbs, gBool, gList, gTupC, mAppend, mPop, mPopAt, mInsert, mReverse, rd, rds, vl, vls, slR, nob, mkArgs, bors, putOwns, edOf, outsP, noR,
  List.getElem?_cons_zero, List.getElem?_cons_succ, List.getElem?_nil, List.set_cons_zero, List.set_cons_succ, List.cons_append, List.nil_append, List.length_cons, List.length_nil, List.replicate, Nat.add_sub_cancel, Nat.sub_self, Nat.reduceAdd, Nat.reduceSub, Int.reduceToNat, Int.reducePow, Int.reduceNeg, Int.reduceAdd, Int.reduceSub, Int.reduceMul, id_eq, true_and, and_true, List.nodup_nil, if_true, if_false, List.nodup_cons, List.not_mem_nil, not_false_eq_true, Bool.not_true, Bool.not_false, Bool.true_or, Bool.or_false, Bool.false_or, decide_eq_true_eq, Bool.false_eq_true, XF,
  Bool.or_true, bne_self_eq_false, isT_dict_non, isT_dict_bl, isT_dict_int, isT_dict_str, isT_dict_tup, isT_dict_lst, isT_list_non, isT_list_bl, isT_list_int, isT_list_str, isT_list_tup, isT_list_lst, isT_tuple_non, isT_tuple_bl, isT_tuple_int, isT_tuple_str, isT_tuple_tup, isT_tuple_lst, isT_bool_non, isT_bool_bl, isT_bool_int, isT_bool_str, isT_bool_tup, isT_bool_lst, isT_str_non, isT_str_bl, isT_str_int, isT_str_str, isT_str_tup, isT_str_lst, isT_int_non, isT_int_bl, isT_int_int, isT_int_str, isT_int_tup, isT_int_lst,
  atI0, atI1, atI2, atI3, atI4, ixN51, ixN52, ixN53, ixN54])

/-- slots: 0 told, 1 due, 2 a, 3 b -/
def T__law_like (sp0 : Spc) : TDs :=
  (tCutD (tIfSD (tOrD (tValD (tIsiD "dict" (tVarD 0))) (tValD (tIsiD "dict" (tVarD 1)))) (tSeqD tNeverD
  tNeverD) tNextD)
  (tSeqD (tIfSD (tValD (tIsiTD "list" "tuple" (tVarD 1))) (tSeqD (tIfSD (tOrD (tValD (tOpD (gEq not) (tIsiD "list" (tVarD 0)) (tIsiD "list" (tVarD 1)))) (tValD (tOpD (gEq not) (tIsiD "tuple" (tVarD 0)) (tIsiD "tuple" (tVarD 1))))) (tRetD (tConD (.bl false))) tNextD)
  (tRetD (tAndDV (tOpD (gEq id) (tCaD gLen (tConsD (tVarD 0) tNilD)) (tCaD gLen (tConsD (tVarD 1) tNilD))) (tCaD gAll (tConsD (tLcZ (tConsD (tVarD 0) (tConsD (tVarD 1) tNilD)) (tTupG 2 (tConsG (tNamG 2) (tConsG (tNamG 3) tNilG))) tYesD (tCallD 2 (q0 sp0) (tConsD (tVarD 2) (tConsD (tVarD 3) tNilD))) [2, 3]) tNilD))))) tNextD)
  (tSeqD (tIfSD (tValD (tIsiTD "list" "tuple" (tVarD 0))) (tRetD (tConD (.bl false))) tNextD)
  (tSeqD (tIfSD (tOrD (tValD (tOpD (gIsN id) (tVarD 1) (tConD .non))) (tValD (tOpD (gIsN id) (tVarD 0) (tConD .non)))) (tRetD (tAndDV (tOpD (gIsN id) (tVarD 1) (tConD .non)) (tOpD (gIsN id) (tVarD 0) (tConD .non)))) tNextD)
  (tSeqD (tIfSD (tOrD (tValD (tOpD (gEq not) (tIsiD "bool" (tVarD 0)) (tIsiD "bool" (tVarD 1)))) (tValD (tOpD (gEq not) (tIsiD "str" (tVarD 0)) (tIsiD "str" (tVarD 1))))) (tRetD (tConD (.bl false))) tNextD)
  (tRetD (tAndDV (tIsiTD "int" "str" (tVarD 0)) (tCaD gBool (tConsD (tOpD (gEq id) (tVarD 0) (tVarD 1)) tNilD)))))))))
theorem all_true : ∀ n : Nat, (List.replicate n true).all id = true
  | 0 => rfl
  | n + 1 => by rw [List.replicate_succ, List.all_cons, all_true n]; rfl
theorem rep_bl (n : Nat) : List.replicate n (D.bl true) = (List.replicate n true).map D.bl := by rw [List.map_replicate]
theorem rep_snoc {α : Type} (n : Nat) (x : α) : List.replicate n x ++ [x] = List.replicate (n + 1) x := (List.replicate_succ' ..).symm
theorem rd__law_like (n : Nat) {args : En} {Φ : Res → List D → Prop} {Ψ : Xc → List D → Prop} (h : sp__law_like n args Φ Ψ) : T__law_like (spL__law_like n) (edOf args Φ XN) (noR ["told", "due", "a", "b"] args) := by
  obtain ⟨d, rfl, hk, hd, h⟩ := h
  cases d with
  | non =>
    unfold T__law_like
    refine ⟨fun en => en = [.val (D.non), .val (D.non), .no, .no], by walk_at "vs", ?_⟩
    rintro _ rfl
    walk_at "vs"
    exact h
  | bl b =>
    unfold T__law_like
    refine ⟨fun en => en = [.val (D.bl b), .val (D.bl b), .no, .no], by walk_at "vs", ?_⟩
    rintro _ rfl
    walk_at "vs"
    simp
    exact h
  | int b =>
    unfold T__law_like
    refine ⟨fun en => en = [.val (D.int b), .val (D.int b), .no, .no], by walk_at "vs", ?_⟩
    rintro _ rfl
    walk_at "vs"
    exact h
  | str b =>
    unfold T__law_like
    refine ⟨fun en => en = [.val (D.str b), .val (D.str b), .no, .no], by walk_at "vs", ?_⟩
    rintro _ rfl
    walk_at "vs"
    simp only [okD] at hk
    have e : PyData.eqv (py (.str b)) (py (.str b)) = true := by simp [py, PyData.eqv]
    exact ⟨hk, hk, by rw [e]; exact h⟩
  | lst ds =>
    simp only [okD, Bool.and_eq_true, decide_eq_true_eq] at hk
    simp only [depD] at hd
    obtain ⟨m, rfl⟩ : ∃ m, n = m + 1 := ⟨n - 1, by omega⟩
    unfold T__law_like
    refine ⟨fun en => en = [.val (D.lst ds), .val (D.lst ds), .no, .no], by walk_at "vs", ?_⟩
    rintro _ rfl
    walk_at "vs"
    unfold tLcZ lcStep
    walk_at "vs"
    refine ⟨ds, ds, .inl ⟨rfl, rfl⟩, fun i acc en => acc = List.replicate i (.bl true) ∧ en = [.val (.lst ds), .val (.lst ds), .no, .no], ⟨rfl, rfl⟩, ?_, ?_⟩
    · rintro i d e acc en h1 h2 ⟨rfl, rfl⟩
      obtain rfl : d = e := by rw [h1] at h2; exact Option.some.inj h2
      walk_at "vs"
      have hi := (List.getElem?_eq_some_iff.mp h1).1
      refine ⟨d, rfl, okDs_get hk.1 h1, by have := depDs_get h1; omega, ?_⟩
      simp only [List.length_replicate]
      exact ⟨sz1001 (by omega), rep_snoc _ _⟩
    · rintro acc en p ⟨rfl, rfl⟩
      walk_at "vs"
      refine ⟨_, rep_bl _, ?_⟩
      rw [all_true]
      exact h
  | tup ds =>
    simp only [okD, Bool.and_eq_true, decide_eq_true_eq] at hk
    simp only [depD] at hd
    obtain ⟨m, rfl⟩ : ∃ m, n = m + 1 := ⟨n - 1, by omega⟩
    unfold T__law_like
    refine ⟨fun en => en = [.val (D.tup ds), .val (D.tup ds), .no, .no], by walk_at "vs", ?_⟩
    rintro _ rfl
    walk_at "vs"
    unfold tLcZ lcStep
    walk_at "vs"
    refine ⟨ds, ds, .inr ⟨rfl, rfl⟩, fun i acc en => acc = List.replicate i (.bl true) ∧ en = [.val (.tup ds), .val (.tup ds), .no, .no], ⟨rfl, rfl⟩, ?_, ?_⟩
    · rintro i d e acc en h1 h2 ⟨rfl, rfl⟩
      obtain rfl : d = e := by rw [h1] at h2; exact Option.some.inj h2
      walk_at "vs"
      have hi := (List.getElem?_eq_some_iff.mp h1).1
      refine ⟨d, rfl, okDs_get hk.1 h1, by have := depDs_get h1; omega, ?_⟩
      simp only [List.length_replicate]
      exact ⟨sz1001 (by omega), rep_snoc _ _⟩
    · rintro acc en p ⟨rfl, rfl⟩
      walk_at "vs"
      refine ⟨_, rep_bl _, ?_⟩
      rw [all_true]
      exact h
  | dct t ks ds => simp [okD] at hk
/-- slots: 0 a, 1 b, 2 one, 3 two -/
def T__law_gcd : TDs :=
  (tCutD (tParD 2 3 (tConsD (tCaD gAbs (tConsD (tVarD 0) tNilD)) (tConsD (tCaD gAbs (tConsD (tVarD 1) tNilD)) tNilD)))
  (tCutD (tWhileD (tValD (tOpD (gIB fun i j => decide (j < i)) (tVarD 3) (tConD (.int 0)))) (tParD 2 3 (tConsD (tVarD 3) (tConsD (tOpD (gII (fun _ j => 0 < j) (· % ·)) (tCaD gInt (tConsD (tVarD 2) tNilD)) (tVarD 3)) tNilD))))
  (tRetD (tVarD 2))))
def sp__law_gcd : Spc := fun args Φ _ => ∃ a b : Int, args = [.val (.int a), .val (.int b)] ∧ Φ (.val (.int (Int.gcd a b : Nat))) []
theorem abs_nat (a : Int) : (if a < 0 then -a else a) = (a.natAbs : Int) := by
  split <;> omega
theorem rd__law_gcd {args : En} {Φ : Res → List D → Prop} {Ψ : Xc → List D → Prop} (h : sp__law_gcd args Φ Ψ) : T__law_gcd (edOf args Φ XN) (noR ["a", "b", "one", "two"] args) := by
  obtain ⟨a, b, rfl, h⟩ := h
  unfold T__law_gcd
  refine ⟨fun en => en = [.val (.int a), .val (.int b), .val (.int (a.natAbs : Int)), .val (.int (b.natAbs : Int))], ?_, ?_⟩
  · walk_at "vs"
    first
      | rfl
      | (rw [abs_nat, abs_nat])
  rintro _ rfl
  refine ⟨fun en => en = [.val (.int a), .val (.int b), .val (.int (Int.gcd a b : Nat)), .val (.int 0)], ?_, ?_⟩
  · refine ⟨fun m en => ∃ x y : Nat, en = [.val (.int a), .val (.int b), .val (.int x), .val (.int y)] ∧ y = m ∧ Nat.gcd x y = Int.gcd a b, ⟨_, _, _, rfl, rfl, rfl⟩, ?_⟩
    rintro m _ ⟨x, y, rfl, rfl, hg⟩
    walk_at "vs"
    split
    · rename_i z
      refine ⟨z, x % y, Nat.mod_lt _ (by omega), y, x % y, by simp, rfl, ?_⟩
      rw [← hg, Nat.gcd_comm x y, Nat.gcd_rec y x, Nat.gcd_comm]
    · rename_i z
      obtain rfl : y = 0 := by omega
      rw [Nat.gcd_zero_right] at hg
      rw [hg]
      rfl
  · rintro _ rfl
    walk_at "vs"
    exact h
/-- how large the numbers of a point are -/
def dP (p : P3) : D := .tup [.int p.1, .int p.2.1, .int p.2.2]
def Bh (p : P3) : Prop := p.1.natAbs < 2 ^ 140 ∧ p.2.1.natAbs < 2 ^ 140 ∧ 0 < p.2.2 ∧ p.2.2 < 2 ^ 40
theorem Bh.w {p : P3} (h : Bh p) : PosW p := h.2.2.1
theorem Bh.low {p : P3} (h : Bh p) : Bh (lowI p) := by
  obtain ⟨h1, h2, h3⟩ := low_le p h.w
  have := (low_low h.w).w
  obtain ⟨b1, b2, b3, b4⟩ := h
  exact ⟨by omega, by omega, this, by omega⟩
theorem mulW {i j : Int} (h1 : 0 < j) (h2 : j < 2 ^ 40) : CMulA i j := mulR (by omega) (by omega)
theorem big {i j : Int} (hi : i.natAbs < 2 ^ 250) (hj : j.natAbs < 2 ^ 250) : CMulA i j := mulB 250 250 hi hj
theorem up {n m k : Nat} (h : n < 2 ^ m) (hm : m ≤ k) : n < 2 ^ k := Nat.lt_of_lt_of_le h (Nat.pow_le_pow_right (by decide) hm)
theorem mul_bd {x w : Int} {m : Nat} (hx : x.natAbs < 2 ^ m) (h1 : 0 < w) (h2 : w < 2 ^ 40) : (x * w).natAbs < 2 ^ (m + 40) := by
  rw [Int.natAbs_mul, Nat.pow_add]
  exact Nat.mul_lt_mul'' hx (by omega)
theorem mul_bd2 {x y : Int} {m n : Nat} (hx : x.natAbs < 2 ^ m) (hy : y.natAbs < 2 ^ n) : (x * y).natAbs < 2 ^ (m + n) := by
  rw [Int.natAbs_mul, Nat.pow_add]
  exact Nat.mul_lt_mul'' hx hy
theorem sub_bd {x y : Int} {m : Nat} (hx : x.natAbs < 2 ^ m) (hy : y.natAbs < 2 ^ m) : (x - y).natAbs < 2 ^ (m + 1) := by
  rw [Nat.pow_succ]
  omega
/-- slots: 0 x, 1 y, 2 w, 3 g -/
def T__law_lowest : TDs :=
  (tCutD (tSetV 3 (tCallD 2 (q0 sp__law_gcd) (tConsD (tCallD 2 (q0 sp__law_gcd) (tConsD (tVarD 0) (tConsD (tVarD 1) tNilD))) (tConsD (tVarD 2) tNilD))))
  (tRetD (tTupD (tConsD (tOpD (gII CDivW (· / ·)) (tVarD 0) (tVarD 3)) (tConsD (tOpD (gII CDivW (· / ·)) (tVarD 1) (tVarD 3)) (tConsD (tOpD (gII CDivW (· / ·)) (tVarD 2) (tVarD 3)) tNilD))))))
def sp__law_lowest : Spc := fun args Φ _ => ∃ p : P3, args = [.val (.int p.1), .val (.int p.2.1), .val (.int p.2.2)] ∧ Bh p ∧ Φ (.val (dP (lowI p))) []
theorem rd__law_lowest {args : En} {Φ : Res → List D → Prop} {Ψ : Xc → List D → Prop} (h : sp__law_lowest args Φ Ψ) : T__law_lowest (edOf args Φ XN) (noR ["x", "y", "w", "g"] args) := by
  obtain ⟨p, rfl, hp, h⟩ := h
  obtain ⟨g1, g2⟩ := gI_pos hp.w
  obtain ⟨_, _, _, w4⟩ := hp
  unfold T__law_lowest
  refine ⟨fun en => en = [.val (.int p.1), .val (.int p.2.1), .val (.int p.2.2), .val (.int (gI p))], ?_, ?_⟩
  · unfold sp__law_gcd
    walk_at "vs"
    exact ⟨_, _, rfl, _, _, rfl, rfl⟩
  rintro _ rfl
  walk_at "vs"
  exact ⟨divB g1 (by omega), divB g1 (by omega), divB g1 (by omega), sz1000 (by decide), h⟩
/-- slots: 0 x, 1 y, 2 w, 3 common -/
def T_point_of : TDs :=
  (tCutD (tSetV 3 (tCaD gGcd3 (tConsD (tVarD 0) (tConsD (tVarD 1) (tConsD (tVarD 2) tNilD)))))
  (tRetD (tTupD (tConsD (tOpD (gII CDivW (· / ·)) (tVarD 0) (tVarD 3)) (tConsD (tOpD (gII CDivW (· / ·)) (tVarD 1) (tVarD 3)) (tConsD (tOpD (gII CDivW (· / ·)) (tVarD 2) (tVarD 3)) tNilD))))))
def sp_point_of : Spc := sp__law_lowest
theorem rd_point_of {args : En} {Φ : Res → List D → Prop} {Ψ : Xc → List D → Prop} (h : sp_point_of args Φ Ψ) : T_point_of (edOf args Φ XN) (noR ["x", "y", "w", "common"] args) := by
  obtain ⟨p, rfl, hp, h⟩ := h
  obtain ⟨g1, g2⟩ := gI_pos hp.w
  obtain ⟨_, _, _, w4⟩ := hp
  unfold T_point_of
  refine ⟨fun en => en = [.val (.int p.1), .val (.int p.2.1), .val (.int p.2.2), .val (.int (gI p))], ?_, ?_⟩
  · walk_at "vs"
    rfl
  rintro _ rfl
  walk_at "vs"
  exact ⟨divB g1 (by omega), divB g1 (by omega), divB g1 (by omega), sz1000 (by decide), h⟩
def sp__law_turn : Spc := fun args Φ _ => ∃ p q r : P3, args = [.val (dP p), .val (dP q), .val (dP r)] ∧ Bh p ∧ Bh q ∧ Bh r ∧ Φ (.val (.int (turnI p q r))) []
/-- slots: 0 p, 1 q, 2 r -/
def T__law_turn : TDs :=
  (tRetD (tOpD gAdd (tOpD (gI0 (· - ·)) (tOpD (gII CMulA (· * ·)) (tOpD gIx (tVarD 0) (tConD (.int 0))) (tOpD (gI0 (· - ·)) (tOpD (gII CMulA (· * ·)) (tOpD gIx (tVarD 1) (tConD (.int 1))) (tOpD gIx (tVarD 2) (tConD (.int 2)))) (tOpD (gII CMulA (· * ·)) (tOpD gIx (tVarD 2) (tConD (.int 1))) (tOpD gIx (tVarD 1) (tConD (.int 2)))))) (tOpD (gII CMulA (· * ·)) (tOpD gIx (tVarD 0) (tConD (.int 1))) (tOpD (gI0 (· - ·)) (tOpD (gII CMulA (· * ·)) (tOpD gIx (tVarD 1) (tConD (.int 0))) (tOpD gIx (tVarD 2) (tConD (.int 2)))) (tOpD (gII CMulA (· * ·)) (tOpD gIx (tVarD 2) (tConD (.int 0))) (tOpD gIx (tVarD 1) (tConD (.int 2))))))) (tOpD (gII CMulA (· * ·)) (tOpD gIx (tVarD 0) (tConD (.int 2))) (tOpD (gI0 (· - ·)) (tOpD (gII CMulA (· * ·)) (tOpD gIx (tVarD 1) (tConD (.int 0))) (tOpD gIx (tVarD 2) (tConD (.int 1)))) (tOpD (gII CMulA (· * ·)) (tOpD gIx (tVarD 2) (tConD (.int 0))) (tOpD gIx (tVarD 1) (tConD (.int 1))))))))
theorem rd__law_turn {args : En} {Φ : Res → List D → Prop} {Ψ : Xc → List D → Prop} (h : sp__law_turn args Φ Ψ) : T__law_turn (edOf args Φ XN) (noR ["p", "q", "r"] args) := by
  obtain ⟨p, q, r, rfl, ⟨p1, p2, p3, p4⟩, ⟨q1, q2, q3, q4⟩, ⟨r1, r2, r3, r4⟩, h⟩ := h
  unfold T__law_turn dP
  walk_at "vs"
  exact ⟨mulW r3 r4, mulW q3 q4, big (up p1 (by decide)) (up (sub_bd (mul_bd q2 r3 r4) (mul_bd r2 q3 q4)) (by decide)), mulW r3 r4, mulW q3 q4, big (up p2 (by decide)) (up (sub_bd (mul_bd q1 r3 r4) (mul_bd r1 q3 q4)) (by decide)),
    big (up q1 (by decide)) (up r2 (by decide)), big (up r1 (by decide)) (up q2 (by decide)), mulL (by omega) (by omega), h⟩
/-- slots: 0 p, 1 q, 2 r -/
def T_left_turn : TDs :=
  (tRetD (tOpD gAdd (tOpD (gI0 (· - ·)) (tOpD (gII CMulA (· * ·)) (tOpD gIx (tVarD 0) (tConD (.int 0))) (tOpD (gI0 (· - ·)) (tOpD (gII CMulA (· * ·)) (tOpD gIx (tVarD 1) (tConD (.int 1))) (tOpD gIx (tVarD 2) (tConD (.int 2)))) (tOpD (gII CMulA (· * ·)) (tOpD gIx (tVarD 2) (tConD (.int 1))) (tOpD gIx (tVarD 1) (tConD (.int 2)))))) (tOpD (gII CMulA (· * ·)) (tOpD gIx (tVarD 0) (tConD (.int 1))) (tOpD (gI0 (· - ·)) (tOpD (gII CMulA (· * ·)) (tOpD gIx (tVarD 1) (tConD (.int 0))) (tOpD gIx (tVarD 2) (tConD (.int 2)))) (tOpD (gII CMulA (· * ·)) (tOpD gIx (tVarD 2) (tConD (.int 0))) (tOpD gIx (tVarD 1) (tConD (.int 2))))))) (tOpD (gII CMulA (· * ·)) (tOpD gIx (tVarD 0) (tConD (.int 2))) (tOpD (gI0 (· - ·)) (tOpD (gII CMulA (· * ·)) (tOpD gIx (tVarD 1) (tConD (.int 0))) (tOpD gIx (tVarD 2) (tConD (.int 1)))) (tOpD (gII CMulA (· * ·)) (tOpD gIx (tVarD 2) (tConD (.int 0))) (tOpD gIx (tVarD 1) (tConD (.int 1))))))))
def sp_left_turn : Spc := sp__law_turn
theorem rd_left_turn {args : En} {Φ : Res → List D → Prop} {Ψ : Xc → List D → Prop} (h : sp_left_turn args Φ Ψ) : T_left_turn (edOf args Φ XN) (noR ["p", "q", "r"] args) := by
  obtain ⟨p, q, r, rfl, ⟨p1, p2, p3, p4⟩, ⟨q1, q2, q3, q4⟩, ⟨r1, r2, r3, r4⟩, h⟩ := h
  unfold T_left_turn dP
  walk_at "vs"
  exact ⟨mulW r3 r4, mulW q3 q4, big (up p1 (by decide)) (up (sub_bd (mul_bd q2 r3 r4) (mul_bd r2 q3 q4)) (by decide)), mulW r3 r4, mulW q3 q4, big (up p2 (by decide)) (up (sub_bd (mul_bd q1 r3 r4) (mul_bd r1 q3 q4)) (by decide)),
    big (up q1 (by decide)) (up r2 (by decide)), big (up r1 (by decide)) (up q2 (by decide)), mulL (by omega) (by omega), h⟩
/-- slots: 0 c, 1 p -/
def T__law_far : TDs :=
  (tRetD (tOpD gAdd (tCaD gAbs (tConsD (tOpD (gI0 (· - ·)) (tOpD (gII CMulA (· * ·)) (tOpD gIx (tVarD 1) (tConD (.int 0))) (tOpD gIx (tVarD 0) (tConD (.int 2)))) (tOpD (gII CMulA (· * ·)) (tOpD gIx (tVarD 0) (tConD (.int 0))) (tOpD gIx (tVarD 1) (tConD (.int 2))))) tNilD)) (tCaD gAbs (tConsD (tOpD (gI0 (· - ·)) (tOpD (gII CMulA (· * ·)) (tOpD gIx (tVarD 1) (tConD (.int 1))) (tOpD gIx (tVarD 0) (tConD (.int 2)))) (tOpD (gII CMulA (· * ·)) (tOpD gIx (tVarD 0) (tConD (.int 1))) (tOpD gIx (tVarD 1) (tConD (.int 2))))) tNilD))))
def sp__law_far : Spc := fun args Φ _ => ∃ c p : P3, args = [.val (dP c), .val (dP p)] ∧ Bh c ∧ Bh p ∧ Φ (.val (.int (farI c p))) []
theorem rd__law_far {args : En} {Φ : Res → List D → Prop} {Ψ : Xc → List D → Prop} (h : sp__law_far args Φ Ψ) : T__law_far (edOf args Φ XN) (noR ["c", "p"] args) := by
  obtain ⟨c, p, rfl, ⟨c1, c2, c3, c4⟩, ⟨p1, p2, p3, p4⟩, h⟩ := h
  unfold farI dx dy at h
  unfold T__law_far dP
  walk_at "vs"
  rw [abs_nat, abs_nat]
  exact ⟨mulW c3 c4, mulW p3 p4, mulW c3 c4, mulW p3 p4, h⟩
/-- slots: 0 p, 1 q, 2 across -/
def T_is_before : TDs :=
  (tCutD (tSetV 2 (tOpD (gI0 (· - ·)) (tOpD (gII CMulA (· * ·)) (tOpD gIx (tVarD 0) (tConD (.int 0))) (tOpD gIx (tVarD 1) (tConD (.int 2)))) (tOpD (gII CMulA (· * ·)) (tOpD gIx (tVarD 1) (tConD (.int 0))) (tOpD gIx (tVarD 0) (tConD (.int 2))))))
  (tSeqD (tIfSD (tValD (tOpD (gEq not) (tVarD 2) (tConD (.int 0)))) (tRetD (tOpD (gIB fun i j => decide (i < j)) (tVarD 2) (tConD (.int 0)))) tNextD)
  (tRetD (tOpD (gIB fun i j => decide (i < j)) (tOpD (gII CMulA (· * ·)) (tOpD gIx (tVarD 0) (tConD (.int 1))) (tOpD gIx (tVarD 1) (tConD (.int 2)))) (tOpD (gII CMulA (· * ·)) (tOpD gIx (tVarD 1) (tConD (.int 1))) (tOpD gIx (tVarD 0) (tConD (.int 2))))))))
def sp_is_before : Spc := fun args Φ _ => ∃ p q : P3, args = [.val (dP p), .val (dP q)] ∧ Bh p ∧ Bh q ∧ Φ (.val (.bl (decide (LtP p q)))) []
theorem rd_is_before {args : En} {Φ : Res → List D → Prop} {Ψ : Xc → List D → Prop} (h : sp_is_before args Φ Ψ) : T_is_before (edOf args Φ XN) (noR ["p", "q", "across"] args) := by
  obtain ⟨p, q, rfl, ⟨p1, p2, p3, p4⟩, ⟨q1, q2, q3, q4⟩, h⟩ := h
  have key : ∀ b, (b = true ↔ LtP p q) → Φ (.val (.bl b)) [] := fun b e => by
    have : b = decide (LtP p q) := by
      by_cases z : LtP p q
      · rw [decide_eq_true z]; exact e.mpr z
      · rw [decide_eq_false z]
        cases b with
        | true => exact absurd (e.mp rfl) z
        | false => rfl
    rw [this]
    exact h
  unfold LtP dx dy at key
  unfold T_is_before
  refine ⟨fun en => en = [.val (dP p), .val (dP q), .val (.int (p.1 * q.2.2 - q.1 * p.2.2))], ?_, ?_⟩
  · unfold dP
    walk_at "vs"
    exact ⟨mulW q3 q4, mulW p3 p4⟩
  rintro _ rfl
  unfold dP
  walk_at "vs"
  split
  · rename_i z
    refine key _ ?_
    have : ¬ (p.1 * q.2.2 - q.1 * p.2.2 = 0) := by simpa using z
    rw [decide_eq_true_eq]
    omega
  · rename_i z
    have : p.1 * q.2.2 - q.1 * p.2.2 = 0 := by simpa using z
    refine ⟨mulW q3 q4, mulW p3 p4, key _ ?_⟩
    rw [decide_eq_true_eq]
    omega
end VS

namespace VS
open PySem L2 PySem.Spec PyProof.Rows
local macro_rules | `(tactic| walk_at "vs") => `(tactic| simp (maxSteps := 400000) only [tSeqD, tEitD, tEitS, tRevD, tRepD, tNewT, tPutT, gListT, gGcd3, gLt2, tFgtD, tIfSD, tRetD, retD, tSetD, tSetV, tVarD, tConD, tOpD, tUnD, tCaD, tCallD, tConsD, tNilD, tTupD, tLstD, tValD, tAndD, tOrD, tNotD, tIfD, tAndDV, tOrDV, tNotDV, tAsgD, tParD, tPar3D, tNamG, tTupG, tNilG, tConsG, tUnlG, tDropD, tNextD, tBrkD, tCntD, tNeverD, tStoD, tMetD, tSlLD, tNoPartD, tPartD, tChD, tIsiD, tIsiTD, tIsi3D, tFrzD, q0, tYesD, wipeD,
  gI0, gII, gIB, gAdd, gU, gEq, gIx, gIsN, gLen, gInt, gAbs, gBool, gList, gTupC, mAppend, mPop, mPopAt, mInsert, mReverse, rd, rds, vl, vls, slR, nob, mkArgs, bors, putOwns, edOf, outsP, noR, shD, eqD,
  List.getElem?_cons_zero, List.getElem?_cons_succ, List.getElem?_nil, List.set_cons_zero, List.set_cons_succ, List.cons_append, List.nil_append, List.length_cons, List.length_nil, List.replicate, Nat.add_sub_cancel, Nat.sub_self, Nat.reduceAdd, Nat.reduceSub, Int.reduceToNat, Int.reducePow, Int.reduceNeg, Int.reduceAdd, Int.reduceSub, Int.reduceMul, id_eq, true_and, and_true, List.nodup_nil, if_true, if_false, List.nodup_cons, List.not_mem_nil, not_false_eq_true, Bool.not_true, Bool.not_false, Bool.true_or, Bool.or_false, Bool.false_or, decide_eq_true_eq, Bool.false_eq_true, XF,
  Bool.or_true, bne_self_eq_false, isT_dict_non, isT_dict_bl, isT_dict_int, isT_dict_str, isT_dict_tup, isT_dict_lst, isT_list_non, isT_list_bl, isT_list_int, isT_list_str, isT_list_tup, isT_list_lst, isT_tuple_non, isT_tuple_bl, isT_tuple_int, isT_tuple_str, isT_tuple_tup, isT_tuple_lst, isT_bool_non, isT_bool_bl, isT_bool_int, isT_bool_str, isT_bool_tup, isT_bool_lst, isT_str_non, isT_str_bl, isT_str_int, isT_str_str, isT_str_tup, isT_str_lst, isT_int_non, isT_int_bl, isT_int_int, isT_int_str, isT_int_tup, isT_int_lst,
  atI0, atI1, atI2, atI3, atI4, ixN51, ixN52, ixN53, ixN54])
local macro_rules | `(tactic| walk_at "vh") => `(tactic| simp (maxSteps := 400000) only [tSeqD, tEitD, tEitS, tRevD, tRepD, tNewT, tPutT, gListT, gGcd3, gLt2, tFgtD, tIfSD, tRetD, retD, tSetD, tSetV, tVarD, tConD, tOpD, tUnD, tCaD, tCallD, tConsD, tNilD, tTupD, tLstD, tValD, tAndD, tOrD, tNotD, tIfD, tAndDV, tOrDV, tNotDV, tAsgD, tParD, tPar3D, tNamG, tTupG, tNilG, tConsG, tUnlG, tDropD, tNextD, tBrkD, tCntD, tNeverD, tStoD, tMetD, tSlLD, tNoPartD, tPartD, tChD, tIsiD, tIsiTD, tIsi3D, tFrzD, q0, tYesD, wipeD,
  gI0, gII, gIB, gAdd, gU, gEq, gIx, gIsN, gLen, gInt, gAbs, gBool, gList, gTupC, mAppend, mPop, mPopAt, mInsert, mReverse, rd, rds, vl, vls, slR, nob, mkArgs, bors, putOwns, edOf, outsP, noR, shD, eqD,
  List.getElem?_cons_zero, List.getElem?_cons_succ, List.getElem?_nil, List.set_cons_zero, List.set_cons_succ, List.cons_append, List.nil_append, List.length_cons, List.length_nil, List.replicate, Nat.add_sub_cancel, Nat.sub_self, Nat.reduceAdd, Nat.reduceSub, Int.reduceToNat, Int.reducePow, Int.reduceNeg, Int.reduceAdd, Int.reduceSub, Int.reduceMul, id_eq, true_and, and_true, List.nodup_nil, if_true, if_false, List.nodup_cons, List.not_mem_nil, not_false_eq_true, Bool.not_true, Bool.not_false, Bool.true_or, Bool.or_false, Bool.false_or, decide_eq_true_eq, Bool.false_eq_true, XF,
  Bool.or_true, bne_self_eq_false, isT_dict_non, isT_dict_bl, isT_dict_int, isT_dict_str, isT_dict_tup, isT_dict_lst, isT_list_non, isT_list_bl, isT_list_int, isT_list_str, isT_list_tup, isT_list_lst, isT_tuple_non, isT_tuple_bl, isT_tuple_int, isT_tuple_str, isT_tuple_tup, isT_tuple_lst, isT_bool_non, isT_bool_bl, isT_bool_int, isT_bool_str, isT_bool_tup, isT_bool_lst, isT_str_non, isT_str_bl, isT_str_int, isT_str_str, isT_str_tup, isT_str_lst, isT_int_non, isT_int_bl, isT_int_int, isT_int_str, isT_int_tup, isT_int_lst,
  atI0, atI1, atI2, atI3, atI4, ixN51, ixN52, ixN53, ixN54, *])
local macro_rules | `(tactic| walk_at "lf") => `(tactic| ((repeat' (with_reducible apply And.intro)) <;> first | exact mulR (by decide) (by decide) | exact pow1018 | exact pow3 (by omega) | exact divB (by omega) (by omega) | exact Int.emod_nonneg _ (by omega) | exact Int.emod_lt_of_pos _ (by omega) | exact Int.ediv_nonneg (by omega) (by omega) | omega | decide | assumption | skip))
local macro_rules | `(tactic| walk_at "vn") => `(tactic| simp (maxSteps := 400000) only [tSeqD, tEitD, tEitS, tRevD, tRepD, tNewT, tPutT, gListT, gGcd3, gLt2, tFgtD, tIfSD, tRetD, retD, tSetD, tSetV, tVarD, tConD, tOpD, tUnD, tCaD, tCallD, tConsD, tNilD, tTupD, tLstD, tValD, tAndD, tOrD, tNotD, tIfD, tAndDV, tOrDV, tNotDV, tAsgD, tParD, tPar3D, tNamG, tTupG, tNilG, tConsG, tUnlG, tDropD, tNextD, tBrkD, tCntD, tNeverD, tStoD, tMetD, tSlLD, tNoPartD, tPartD, tChD, tIsiD, tIsiTD, tIsi3D, tFrzD, q0, tYesD, wipeD,
  gI0, gII, gIB, gAdd, gU, gEq, gIx, gIsN, gLen, gInt, gAbs, gBool, gList, gTupC, mAppend, mPop, mPopAt, mInsert, mReverse, rd, rds, vl, vls, slR, nob, mkArgs, bors, putOwns, edOf, outsP, noR,
  List.getElem?_cons_zero, List.getElem?_cons_succ, List.getElem?_nil, List.set_cons_zero, List.set_cons_succ, List.cons_append, List.nil_append, List.length_cons, List.length_nil, List.replicate, Nat.add_sub_cancel, Nat.sub_self, Nat.reduceAdd, Nat.reduceSub, Int.reduceToNat, Int.reducePow, Int.reduceNeg, Int.reduceAdd, Int.reduceSub, Int.reduceMul, id_eq, true_and, and_true, List.nodup_nil, if_true, if_false, List.nodup_cons, List.not_mem_nil, not_false_eq_true, Bool.not_true, Bool.not_false, Bool.true_or, Bool.or_false, Bool.false_or, decide_eq_true_eq, Bool.false_eq_true, XF,
  Bool.or_true, bne_self_eq_false, isT_dict_non, isT_dict_bl, isT_dict_int, isT_dict_str, isT_dict_tup, isT_dict_lst, isT_list_non, isT_list_bl, isT_list_int, isT_list_str, isT_list_tup, isT_list_lst, isT_tuple_non, isT_tuple_bl, isT_tuple_int, isT_tuple_str, isT_tuple_tup, isT_tuple_lst, isT_bool_non, isT_bool_bl, isT_bool_int, isT_bool_str, isT_bool_tup, isT_bool_lst, isT_str_non, isT_str_bl, isT_str_int, isT_str_str, isT_str_tup, isT_str_lst, isT_int_non, isT_int_bl, isT_int_int, isT_int_str, isT_int_tup, isT_int_lst,
  atI0, atI1, atI2, atI3, atI4, ixN51, ixN52, ixN53, ixN54])

theorem at3_mem {ps : List P3} {i : Nat} (h : i < ps.length) : at3 ps i ∈ ps := by
  unfold at3
  simp [List.getD, h]
theorem map_get {ps : List P3} {i : Nat} (h : i < ps.length) : (ps.map dP)[i]? = some (dP (at3 ps i)) := by
  unfold at3
  simp [List.getD, h]
theorem atI_map {ps : List P3} {i : Int} (h0 : 0 ≤ i) (h : i.toNat < ps.length) : atI (ps.map dP) i = some (dP (at3 ps i.toNat)) := atI_int h0 (map_get h)
theorem sh_pt (p : P3) : SeqAt.shaped (py (dP p)) = true := by
  simp [SeqAt.shaped, py, pys, dP, PyData.canLay0, PyData.canLayAll0, PyData.depth, PyData.depthAll]
theorem eq_pt (p q : P3) : PyData.eqv (py (dP p)) (py (dP q)) = decide (p = q) := by
  obtain ⟨a, b, c⟩ := p
  obtain ⟨d, e, f⟩ := q
  simp only [py, pys, dP, PyData.eqv, PyData.eqvAll, Prod.mk.injEq, Bool.and_true]
  by_cases h1 : a = d <;> by_cases h2 : b = e <;> by_cases h3 : c = f <;> simp [h1, h2, h3]
theorem eqD_pt (p q : P3) : eqD (dP p) (dP q) = decide (p = q) := by rw [eqD_is, eq_pt]
theorem shD_pt (p : P3) : shD (dP p) := sh_pt p
/-- a list of points in lowest terms -/
def sp_in_order : Spc := fun args Φ _ => ∃ ps : List P3, args = [.val (.lst (ps.map dP))] ∧ ps.length ≤ 1000 ∧ (∀ p ∈ ps, LowP p ∧ Bh p) ∧ ∀ (a : Addr) (rs : List P3), Srt rs → (∀ x, x ∈ rs ↔ x ∈ ps) → rs.length ≤ ps.length → Φ (.own a (.lst (rs.map dP))) []
/-- slots: 0 points, 1 row, 2 p, 3 low, 4 high, 5 half -/
def T_in_order : TDs :=
  (tSeqD (tSetD 1 (tLstD tNilD))
  (tCutD (tForLD (tVarD 0) (tNamG 2) (tCutD (tSetV 3 (tConD (.int 0)))
  (tCutD (tSetV 4 (tCaD gLen (tConsD (tVarD 1) tNilD)))
  (tCutD (tWhileD (tValD (tOpD (gIB fun i j => decide (i < j)) (tVarD 3) (tVarD 4))) (tCutD (tSetV 5 (tOpD (gII CDivW (· / ·)) (tOpD gAdd (tVarD 3) (tVarD 4)) (tConD (.int 2))))
  (tIfSD (tValD (tCallD 2 (q0 sp_is_before) (tConsD (tOpD gIx (tVarD 1) (tVarD 5)) (tConsD (tVarD 2) tNilD)))) (tSetV 3 (tOpD gAdd (tVarD 5) (tConD (.int 1)))) (tSetV 4 (tVarD 5)))))
  (tIfSD (tOrD (tValD (tOpD (gEq id) (tVarD 3) (tCaD gLen (tConsD (tVarD 1) tNilD)))) (tValD (tOpD (gEq not) (tOpD gIx (tVarD 1) (tVarD 3)) (tVarD 2)))) (tDropD (tMetD 1 mInsert (tConsD (tVarD 3) (tConsD (tVarD 2) tNilD)))) tNextD)))))
  (tRetD (tVarD 1))))
theorem rd_in_order {args : En} {Φ : Res → List D → Prop} {Ψ : Xc → List D → Prop} (h : sp_in_order args Φ Ψ) : T_in_order (edOf args Φ XN) (noR ["points", "row", "p", "low", "high", "half"] args) := by
  obtain ⟨ps, rfl, hl, hb, h⟩ := h
  unfold T_in_order
  generalize hS : Sl.val (D.lst (ps.map dP)) = S
  walk_at "vs"
  refine ⟨sz1000 (by decide), fun a => ?_⟩
  refine ⟨fun en => ∃ (rs : List P3) (e2 e3 e4 e5 : Sl), en = [S, .own a (.lst (rs.map dP)), e2, e3, e4, e5] ∧ Srt rs ∧ (∀ x, x ∈ rs ↔ x ∈ ps) ∧ rs.length ≤ ps.length, ?_, ?_⟩
  · refine forL_i (fun i en => ∃ (rs : List P3) (e2 e3 e4 e5 : Sl), en = [S, .own a (.lst (rs.map dP)), e2, e3, e4, e5] ∧ Srt rs ∧ (∀ x, x ∈ rs ↔ x ∈ ps.take i) ∧ rs.length ≤ i) (en1 := [S, .own a (.lst []), .no, .no, .no, .no]) (ds := ps.map dP) (fun Φ z => ?_) ⟨[], _, _, _, _, rfl, List.Pairwise.nil, by simp, by simp⟩ ?_ ?_
    · subst hS
      walk_at "vs"
      exact z
    · rintro i d _ hd ⟨rs, e2, e3, e4, e5, rfl, srt, hm, hn⟩
      obtain ⟨p, hp, rfl⟩ := get_map hd
      have hi := (List.getElem?_eq_some_iff.mp hp).1
      obtain ⟨lp, bp⟩ := hb p (List.mem_of_getElem? hp)
      have mrs : ∀ x ∈ rs, LowP x ∧ Bh x := fun x hx => hb x (List.mem_of_mem_take ((hm x).mp hx))
      have hR : ∀ j, j < rs.length → LowP (at3 rs j) ∧ Bh (at3 rs j) := fun j hj => mrs _ (at3_mem hj)
      show tCutD _ _ _ _
      refine ⟨fun en => en = [S, .own a (.lst (rs.map dP)), .val (dP p), .val (.int 0), e4, e5], by walk_at "vs", ?_⟩
      rintro _ rfl
      refine ⟨fun en => en = [S, .own a (.lst (rs.map dP)), .val (dP p), .val (.int 0), .val (.int rs.length), e5], ?_, ?_⟩
      · walk_at "vs"
        rw [List.length_map]
      rintro _ rfl
      refine ⟨fun en => ∃ (k : Nat) (e5 : Sl), en = [S, .own a (.lst (rs.map dP)), .val (dP p), .val (.int k), .val (.int k), e5] ∧ k ≤ rs.length ∧ (∀ j, j < k → LtP (at3 rs j) p) ∧ (∀ j, k ≤ j → j < rs.length → ¬ LtP (at3 rs j) p), ?_, ?_⟩
      · refine ⟨fun m en => ∃ (lo hi : Nat) (e5 : Sl), en = [S, .own a (.lst (rs.map dP)), .val (dP p), .val (.int lo), .val (.int hi), e5] ∧ m = hi - lo ∧ lo ≤ hi ∧ hi ≤ rs.length ∧ (∀ j, j < lo → LtP (at3 rs j) p) ∧ (∀ j, hi ≤ j → j < rs.length → ¬ LtP (at3 rs j) p), ⟨_, 0, rs.length, e5, rfl, rfl, by omega, by omega, fun j hj => by omega, fun j h1 h2 => by omega⟩, ?_⟩
        rintro m _ ⟨lo, hi, e5, rfl, hm', l1, l2, c1, c2⟩
        walk_at "vs"
        split
        · rename_i z
          have z' : lo < hi := by omega
          show tCutD _ _ _ _
          refine ⟨fun en => en = [S, .own a (.lst (rs.map dP)), .val (dP p), .val (.int lo), .val (.int hi), .val (.int ((lo + hi) / 2 : Nat))], ?_, ?_⟩
          · walk_at "vs"
            refine ⟨divB (by decide) (by decide), ?_⟩
            simp
          rintro _ rfl
          have hh : (lo + hi) / 2 < rs.length := by omega
          have A : atI (rs.map dP) (((lo + hi) / 2 : Nat) : Int) = some (dP (at3 rs ((lo + hi) / 2))) := by
            rw [atI_map (Int.natCast_nonneg _) hh]
            rfl
          obtain ⟨lh, bh⟩ := hR _ hh
          unfold sp_is_before
          walk_at "vh"
          refine ⟨_, _, rfl, bh, bp, ?_⟩
          generalize hH : (lo + hi) / 2 = H at *
          split
          · rename_i q
            refine ⟨hi - (H + 1), by omega, H + 1, hi, .val (.int H), by simp, rfl, by omega, l2, fun j hj => ?_, c2⟩
            by_cases e : j = H
            · rw [e]; exact q
            · exact LtP.trans (hR j (by omega)).1.w lh.w lp.w (srt_get srt (by omega) hh) q
          · rename_i q
            refine ⟨H - lo, by omega, lo, H, .val (.int H), by simp, rfl, by omega, by omega, c1, fun j h1 h2 w => ?_⟩
            by_cases e : j = H
            · rw [e] at w; exact q w
            · exact q (LtP.trans lh.w (hR j h2).1.w lp.w (srt_get srt (by omega) h2) w)
        · rename_i z
          have e : lo = hi := by omega
          subst e
          exact ⟨lo, e5, rfl, l2, c1, c2⟩
      rintro _ ⟨k, e5, rfl, l2, c1, c2⟩
      have keep : p ∈ rs → ∃ (rs' : List P3) (e2 e3 e4 e5' : Sl), ([S, .own a (.lst (rs.map dP)), .val (dP p), .val (.int k), .val (.int k), e5] : En) = [S, .own a (.lst (rs'.map dP)), e2, e3, e4, e5'] ∧ Srt rs' ∧ (∀ x, x ∈ rs' ↔ x ∈ ps.take (i + 1)) ∧ rs'.length ≤ i + 1 := fun hp' => by
        refine ⟨rs, _, _, _, _, rfl, srt, fun x => ?_, by omega⟩
        rw [List.take_succ, hp]
        simp only [Option.toList_some, List.mem_append, List.mem_cons, List.not_mem_nil, or_false]
        constructor
        · exact fun z => .inl ((hm x).mp z)
        · rintro (z | z)
          · exact (hm x).mpr z
          · rw [z]; exact hp'
      have more : (∀ j, k ≤ j → j < rs.length → LtP p (at3 rs j)) → ∃ (rs' : List P3) (e2 e3 e4 e5' : Sl), ([S, .own a (.lst ((rs.map dP).take k ++ [dP p] ++ (rs.map dP).drop k)), .val (dP p), .val (.int k), .val (.int k), e5] : En) = [S, .own a (.lst (rs'.map dP)), e2, e3, e4, e5'] ∧ Srt rs' ∧ (∀ x, x ∈ rs' ↔ x ∈ ps.take (i + 1)) ∧ rs'.length ≤ i + 1 := fun hgt => by
        refine ⟨rs.take k ++ p :: rs.drop k, .val (dP p), .val (.int k), .val (.int k), e5, ?_, srt_insert srt l2 c1 hgt, fun x => ?_, ?_⟩
        · rw [List.map_append, List.map_cons, List.map_take, List.map_drop]
          simp
        · rw [mem_insert, List.take_succ, hp]
          simp only [Option.toList_some, List.mem_append, List.mem_cons, List.not_mem_nil, or_false]
          rw [hm x]
          exact Or.comm
        · have : (rs.take k ++ p :: rs.drop k).length = rs.length + 1 := by
            rw [List.length_append, List.length_cons, List.length_take, List.length_drop]
            omega
          omega
      have hs : (rs.map dP).length < sizeLine := by rw [List.length_map]; exact sz1001 (by omega)
      walk_at "vn"
      refine ⟨trivial, trivial, ?_⟩
      split
      · rename_i z
        have z : (k : Int) = rs.length := by simpa [eqD] using z
        refine ⟨hs, by omega, by omega, ?_⟩
        rw [show ((k : Int)).toNat = k from rfl]
        have := more fun j h1 h2 => by omega
        simpa using this
      · rename_i z
        have z : ¬ (k : Int) = rs.length := by simpa [eqD] using z
        have hk : k < rs.length := by omega
        have A : atI (rs.map dP) (k : Int) = some (dP (at3 rs k)) := by
          rw [atI_map (by omega) (by simpa using hk)]
          rfl
        rw [A]
        walk_at "vn"
        refine ⟨shD_pt _, shD_pt _, ?_⟩
        rw [eqD_pt]
        split
        · rename_i w
          have ne : at3 rs k ≠ p := by simpa using w
          refine ⟨hs, by omega, by omega, ?_⟩
          rw [show ((k : Int)).toNat = k from rfl]
          have gt : ∀ j, k ≤ j → j < rs.length → LtP p (at3 rs j) := fun j h1 h2 => by
            have gk : LtP p (at3 rs k) := by
              rcases low_tot (hR k hk).1 lp with e | e | e
              · exact absurd e ne
              · exact absurd e (c2 k (Nat.le_refl _) hk)
              · exact e
            by_cases e : j = k
            · rw [e]; exact gk
            · exact LtP.trans lp.w (hR k hk).1.w (hR j h2).1.w gk (srt_get srt (by omega) h2)
          simpa using more gt
        · rename_i w
          have eq : at3 rs k = p := by simpa using w
          exact keep (by rw [← eq]; exact at3_mem hk)
    · rintro _ ⟨rs, e2, e3, e4, e5, rfl, srt, hm, hn⟩
      rw [List.length_map] at hm hn
      rw [List.take_length] at hm
      exact ⟨rs, _, _, _, _, rfl, srt, hm, hn⟩
  rintro _ ⟨rs, e2, e3, e4, e5, rfl, srt, hm, hn⟩
  subst hS
  walk_at "vs"
  exact h a rs srt hm hn
end VS

namespace VS
open PySem L2 PySem.Spec PyProof.Rows
local macro_rules | `(tactic| walk_at "vs") => `(tactic| simp (maxSteps := 400000) only [tSeqD, tEitD, tEitS, tRevD, tRepD, tNewT, tPutT, gListT, gGcd3, gLt2, tFgtD, tIfSD, tRetD, retD, tSetD, tSetV, tVarD, tConD, tOpD, tUnD, tCaD, tCallD, tConsD, tNilD, tTupD, tLstD, tValD, tAndD, tOrD, tNotD, tIfD, tAndDV, tOrDV, tNotDV, tAsgD, tParD, tPar3D, tNamG, tTupG, tNilG, tConsG, tUnlG, tDropD, tNextD, tBrkD, tCntD, tNeverD, tStoD, tMetD, tSlLD, tNoPartD, tPartD, tChD, tIsiD, tIsiTD, tIsi3D, tFrzD, q0, tYesD, wipeD,
  gI0, gII, gIB, gAdd, gU, gEq, gIx, gIsN, gLen, gInt, gAbs, gBool, gList, gTupC, mAppend, mPop, mPopAt, mInsert, mReverse, rd, rds, vl, vls, slR, nob, mkArgs, bors, putOwns, edOf, outsP, noR, shD, eqD,
  List.getElem?_cons_zero, List.getElem?_cons_succ, List.getElem?_nil, List.set_cons_zero, List.set_cons_succ, List.cons_append, List.nil_append, List.length_cons, List.length_nil, List.replicate, Nat.add_sub_cancel, Nat.sub_self, Nat.reduceAdd, Nat.reduceSub, Int.reduceToNat, Int.reducePow, Int.reduceNeg, Int.reduceAdd, Int.reduceSub, Int.reduceMul, id_eq, true_and, and_true, List.nodup_nil, if_true, if_false, List.nodup_cons, List.not_mem_nil, not_false_eq_true, Bool.not_true, Bool.not_false, Bool.true_or, Bool.or_false, Bool.false_or, decide_eq_true_eq, Bool.false_eq_true, XF,
  Bool.or_true, bne_self_eq_false, isT_dict_non, isT_dict_bl, isT_dict_int, isT_dict_str, isT_dict_tup, isT_dict_lst, isT_list_non, isT_list_bl, isT_list_int, isT_list_str, isT_list_tup, isT_list_lst, isT_tuple_non, isT_tuple_bl, isT_tuple_int, isT_tuple_str, isT_tuple_tup, isT_tuple_lst, isT_bool_non, isT_bool_bl, isT_bool_int, isT_bool_str, isT_bool_tup, isT_bool_lst, isT_str_non, isT_str_bl, isT_str_int, isT_str_str, isT_str_tup, isT_str_lst, isT_int_non, isT_int_bl, isT_int_int, isT_int_str, isT_int_tup, isT_int_lst,
  atI0, atI1, atI2, atI3, atI4, ixN51, ixN52, ixN53, ixN54])
local macro_rules | `(tactic| walk_at "vh") => `(tactic| simp (maxSteps := 400000) only [tSeqD, tEitD, tEitS, tRevD, tRepD, tNewT, tPutT, gListT, gGcd3, gLt2, tFgtD, tIfSD, tRetD, retD, tSetD, tSetV, tVarD, tConD, tOpD, tUnD, tCaD, tCallD, tConsD, tNilD, tTupD, tLstD, tValD, tAndD, tOrD, tNotD, tIfD, tAndDV, tOrDV, tNotDV, tAsgD, tParD, tPar3D, tNamG, tTupG, tNilG, tConsG, tUnlG, tDropD, tNextD, tBrkD, tCntD, tNeverD, tStoD, tMetD, tSlLD, tNoPartD, tPartD, tChD, tIsiD, tIsiTD, tIsi3D, tFrzD, q0, tYesD, wipeD,
  gI0, gII, gIB, gAdd, gU, gEq, gIx, gIsN, gLen, gInt, gAbs, gBool, gList, gTupC, mAppend, mPop, mPopAt, mInsert, mReverse, rd, rds, vl, vls, slR, nob, mkArgs, bors, putOwns, edOf, outsP, noR, shD, eqD,
  List.getElem?_cons_zero, List.getElem?_cons_succ, List.getElem?_nil, List.set_cons_zero, List.set_cons_succ, List.cons_append, List.nil_append, List.length_cons, List.length_nil, List.replicate, Nat.add_sub_cancel, Nat.sub_self, Nat.reduceAdd, Nat.reduceSub, Int.reduceToNat, Int.reducePow, Int.reduceNeg, Int.reduceAdd, Int.reduceSub, Int.reduceMul, id_eq, true_and, and_true, List.nodup_nil, if_true, if_false, List.nodup_cons, List.not_mem_nil, not_false_eq_true, Bool.not_true, Bool.not_false, Bool.true_or, Bool.or_false, Bool.false_or, decide_eq_true_eq, Bool.false_eq_true, XF,
  Bool.or_true, bne_self_eq_false, isT_dict_non, isT_dict_bl, isT_dict_int, isT_dict_str, isT_dict_tup, isT_dict_lst, isT_list_non, isT_list_bl, isT_list_int, isT_list_str, isT_list_tup, isT_list_lst, isT_tuple_non, isT_tuple_bl, isT_tuple_int, isT_tuple_str, isT_tuple_tup, isT_tuple_lst, isT_bool_non, isT_bool_bl, isT_bool_int, isT_bool_str, isT_bool_tup, isT_bool_lst, isT_str_non, isT_str_bl, isT_str_int, isT_str_str, isT_str_tup, isT_str_lst, isT_int_non, isT_int_bl, isT_int_int, isT_int_str, isT_int_tup, isT_int_lst,
  atI0, atI1, atI2, atI3, atI4, ixN51, ixN52, ixN53, ixN54, *])
local macro_rules | `(tactic| walk_at "lf") => `(tactic| ((repeat' (with_reducible apply And.intro)) <;> first | exact mulR (by decide) (by decide) | exact pow1018 | exact pow3 (by omega) | exact divB (by omega) (by omega) | exact Int.emod_nonneg _ (by omega) | exact Int.emod_lt_of_pos _ (by omega) | exact Int.ediv_nonneg (by omega) (by omega) | omega | decide | assumption | skip))
local macro_rules | `(tactic| walk_at "vn") => `(tactic| simp (maxSteps := 400000) only [tSeqD, tEitD, tEitS, tRevD, tRepD, tNewT, tPutT, gListT, gGcd3, gLt2, tFgtD, tIfSD, tRetD, retD, tSetD, tSetV, tVarD, tConD, tOpD, tUnD, tCaD, tCallD, tConsD, tNilD, tTupD, tLstD, tValD, tAndD, tOrD, tNotD, tIfD, tAndDV, tOrDV, tNotDV, tAsgD, tParD, tPar3D, tNamG, tTupG, tNilG, tConsG, tUnlG, tDropD, tNextD, tBrkD, tCntD, tNeverD, tStoD, tMetD, tSlLD, tNoPartD, tPartD, tChD, tIsiD, tIsiTD, tIsi3D, tFrzD, q0, tYesD, wipeD,
  gI0, gII, gIB, gAdd, gU, gEq, gIx, gIsN, gLen, gInt, gAbs, gBool, gList, gTupC, mAppend, mPop, mPopAt, mInsert, mReverse, rd, rds, vl, vls, slR, nob, mkArgs, bors, putOwns, edOf, outsP, noR,
  List.getElem?_cons_zero, List.getElem?_cons_succ, List.getElem?_nil, List.set_cons_zero, List.set_cons_succ, List.cons_append, List.nil_append, List.length_cons, List.length_nil, List.replicate, Nat.add_sub_cancel, Nat.sub_self, Nat.reduceAdd, Nat.reduceSub, Int.reduceToNat, Int.reducePow, Int.reduceNeg, Int.reduceAdd, Int.reduceSub, Int.reduceMul, id_eq, true_and, and_true, List.nodup_nil, if_true, if_false, List.nodup_cons, List.not_mem_nil, not_false_eq_true, Bool.not_true, Bool.not_false, Bool.true_or, Bool.or_false, Bool.false_or, decide_eq_true_eq, Bool.false_eq_true, XF,
  Bool.or_true, bne_self_eq_false, isT_dict_non, isT_dict_bl, isT_dict_int, isT_dict_str, isT_dict_tup, isT_dict_lst, isT_list_non, isT_list_bl, isT_list_int, isT_list_str, isT_list_tup, isT_list_lst, isT_tuple_non, isT_tuple_bl, isT_tuple_int, isT_tuple_str, isT_tuple_tup, isT_tuple_lst, isT_bool_non, isT_bool_bl, isT_bool_int, isT_bool_str, isT_bool_tup, isT_bool_lst, isT_str_non, isT_str_bl, isT_str_int, isT_str_str, isT_str_tup, isT_str_lst, isT_int_non, isT_int_bl, isT_int_int, isT_int_str, isT_int_tup, isT_int_lst,
  atI0, atI1, atI2, atI3, atI4, ixN51, ixN52, ixN53, ixN54])

theorem atI_end {α : Type} (xs : List α) (x y : α) : atI (xs ++ [x, y]) (-2) = some x ∧ atI (xs ++ [x, y]) (-1) = some y := by
  constructor
  · unfold atI ixN
    rw [if_neg (by omega), if_pos (by simp; omega)]
    have : (-2 + ((xs ++ [x, y]).length : Int)).toNat = xs.length := by simp; omega
    simp only [Option.bind_some, this]
    simp
  · unfold atI ixN
    rw [if_neg (by omega), if_pos (by simp; omega)]
    have : (-1 + ((xs ++ [x, y]).length : Int)).toNat = xs.length + 1 := by simp; omega
    simp only [Option.bind_some, this]
    simp
theorem rim_snoc (p : P3) : ∀ (l st : List P3), rimT st (l ++ [p]) = p :: popT p (rimT st l)
  | [], _ => rfl
  | q :: l, st => rim_snoc p l (q :: popT q st)
theorem pop_sub (p : P3) : ∀ st : List P3, ∀ x ∈ popT p st, x ∈ st
  | [], _, h => h
  | [a], _, h => h
  | b :: a :: r, x, h => by
    rw [popT] at h
    split at h
    · exact List.mem_cons_of_mem _ (pop_sub p (a :: r) x h)
    · exact h
theorem rim_sub : ∀ (l st : List P3), ∀ x ∈ rimT st l, x ∈ st ∨ x ∈ l
  | [], _, x, h => .inl h
  | p :: l, st, x, h => by
    rcases rim_sub l (p :: popT p st) x h with h | h
    · rcases List.mem_cons.mp h with h | h
      · exact .inr (by simp [h])
      · exact .inl (pop_sub p st x h)
    · exact .inr (List.mem_cons_of_mem _ h)
theorem pop_len (p : P3) : ∀ st : List P3, (popT p st).length ≤ st.length
  | [] => Nat.le_refl _
  | [a] => Nat.le_refl _
  | b :: a :: r => by
    rw [popT]
    split
    · have := pop_len p (a :: r)
      simp only [List.length_cons] at this ⊢
      omega
    · exact Nat.le_refl _
theorem rim_len : ∀ (l st : List P3), (rimT st l).length ≤ st.length + l.length
  | [], _ => Nat.le_refl _
  | p :: l, st => by
    have h1 := rim_len l (p :: popT p st)
    have h2 := pop_len p st
    show (rimT (p :: popT p st) l).length ≤ _
    simp only [List.length_cons] at h1 ⊢
    omega
def sp_rim_along : Spc := fun args Φ _ => ∃ ps : List P3, args = [.val (.lst (ps.map dP))] ∧ ps.length ≤ 1000 ∧ (∀ p ∈ ps, Bh p) ∧ ∀ a, Φ (.own a (.lst ((lowerL ps).map dP))) []
/-- slots: 0 row, 1 kept, 2 p -/
def T_rim_along : TDs :=
  (tSeqD (tSetD 1 (tLstD tNilD))
  (tCutD (tForLD (tVarD 0) (tNamG 2) (tCutD (tWhileD (tAndD (tValD (tOpD (gIB fun i j => decide (j < i)) (tCaD gLen (tConsD (tVarD 1) tNilD)) (tConD (.int 1)))) (tValD (tOpD (gIB fun i j => decide (i ≤ j)) (tCallD 3 (q0 sp_left_turn) (tConsD (tOpD gIx (tVarD 1) (tUnD (gU fun i => -i) (tConD (.int 2)))) (tConsD (tOpD gIx (tVarD 1) (tUnD (gU fun i => -i) (tConD (.int 1)))) (tConsD (tVarD 2) tNilD)))) (tConD (.int 0))))) (tDropD (tMetD 1 mPop tNilD)))
  (tDropD (tMetD 1 mAppend (tConsD (tVarD 2) tNilD)))))
  (tRetD (tVarD 1))))
theorem rd_rim_along {args : En} {Φ : Res → List D → Prop} {Ψ : Xc → List D → Prop} (h : sp_rim_along args Φ Ψ) : T_rim_along (edOf args Φ XN) (noR ["row", "kept", "p"] args) := by
  obtain ⟨ps, rfl, hl, hb, h⟩ := h
  unfold T_rim_along
  generalize hS : Sl.val (D.lst (ps.map dP)) = S
  walk_at "vs"
  refine ⟨sz1000 (by decide), fun a => ?_⟩
  refine ⟨fun en => ∃ e2, en = [S, .own a (.lst ((lowerL ps).map dP)), e2], ?_, ?_⟩
  · refine forL_i (fun i en => ∃ e2, en = [S, .own a (.lst ((lowerL (ps.take i)).map dP)), e2]) (en1 := [S, .own a (.lst []), .no]) (ds := ps.map dP) (fun Φ z => ?_) ⟨_, rfl⟩ ?_ ?_
    · subst hS
      walk_at "vs"
      exact z
    · rintro i d _ hd ⟨e2, rfl⟩
      obtain ⟨p, hp, rfl⟩ := get_map hd
      have bp := hb p (List.mem_of_getElem? hp)
      have e1 : ps.take (i + 1) = ps.take i ++ [p] := by rw [List.take_succ, hp]; rfl
      have hsub : ∀ x ∈ rimT [] (ps.take i), Bh x := fun x hx => by
        rcases rim_sub _ _ x hx with h | h
        · cases h
        · exact hb x (List.mem_of_mem_take h)
      have hlen : (rimT [] (ps.take i)).length ≤ 1000 := by
        have := rim_len (ps.take i) []
        rw [List.length_take] at this
        simp at this
        omega
      have ge : lowerL (ps.take (i + 1)) = (p :: popT p (rimT [] (ps.take i))).reverse := by
        unfold lowerL
        rw [e1, rim_snoc]
      rw [ge]
      unfold lowerL
      generalize rimT [] (ps.take i) = st0 at *
      show tCutD _ _ _ _
      refine ⟨fun en => en = [S, .own a (.lst ((popT p st0).reverse.map dP)), .val (dP p)], ?_, ?_⟩
      · refine ⟨fun m en => ∃ st, en = [S, .own a (.lst (st.reverse.map dP)), .val (dP p)] ∧ m = st.length ∧ popT p st = popT p st0 ∧ (∀ x ∈ st, Bh x) ∧ st.length ≤ 1000, ⟨_, st0, rfl, rfl, rfl, hsub, hlen⟩, ?_⟩
        rintro m _ ⟨st, rfl, rfl, hpop, hst, hsl⟩
        match st, hpop, hst, hsl with
        | [], hpop, _, _ =>
          walk_at "vs"
          rw [if_neg (by simp)]
          try walk_at "vs"
          rw [← hpop]
          rfl
        | [b], hpop, _, _ =>
          walk_at "vs"
          rw [if_neg (by simp)]
          try walk_at "vs"
          rw [← hpop]
          rfl
        | b :: x :: r, hpop, hst, hsl =>
          have er : (b :: x :: r).reverse.map dP = r.reverse.map dP ++ [dP x, dP b] := by simp
          obtain ⟨A1, A2⟩ := atI_end (r.reverse.map dP) (dP x) (dP b)
          rw [er]
          unfold sp_left_turn sp__law_turn
          walk_at "vh"
          rw [if_pos (by simp; omega)]
          refine ⟨x, b, p, rfl, hst x (by simp), hst b (by simp), bp, ?_⟩
          rw [popT] at hpop
          by_cases t : turnI x b p ≤ 0
          · rw [if_pos t] at hpop ⊢
            have g : (r.reverse.map dP ++ [dP x, dP b])[(r.reverse.map dP ++ [dP x, dP b]).length - 1]? = some (dP b) := by simp
            rw [g]
            try walk_at "vs"
            refine ⟨(x :: r).length, by simp, x :: r, ?_, rfl, hpop, fun y hy => hst y (List.mem_cons_of_mem _ hy), by simp at hsl ⊢; omega⟩
            simp
          · rw [if_neg t] at hpop ⊢
            try walk_at "vs"
            rw [← hpop]
            simp
      rintro _ rfl
      walk_at "vs"
      refine ⟨sz1001 (by have := pop_len p st0; rw [List.length_map, List.length_reverse]; omega), ?_⟩
      simp
    · rintro _ ⟨e2, rfl⟩
      rw [List.length_map, List.take_length]
      exact ⟨e2, rfl⟩
  rintro _ ⟨e2, rfl⟩
  subst hS
  walk_at "vs"
  exact h a
section
variable {ti : TDe} {tG : TDg} {tt : TDt} {te : TDe} {vs : List Nat} {Ψ : Px} {en en1 : En} {Φ : Res → En → Prop} {ds : List D}
theorem lcT_map {f : D → D} (hl : ds.length ≤ 1000000) (hti : ∀ Φ : Res → En → Prop, Φ (.val (.tup ds)) en → ti Ψ en Φ) (hw : wipeD en vs = en)
    (step : ∀ d acc (J : List D → En → Prop), d ∈ ds → acc.length < sizeLine → J (acc ++ [f d]) en → lcStep tG tt te vs J d acc en) (fin : ∀ p, Φ (.own p (.lst (ds.map f))) en) : tLcT ti tG tt te vs Ψ en Φ :=
  lcT_i (fun i acc e => e = en ∧ acc = (ds.take i).map f) hti hw ⟨rfl, rfl⟩ (fun i d acc e hd ⟨h1, h2⟩ => by
    subst h1 h2
    have hi := (List.getElem?_eq_some_iff.mp hd).1
    refine step d _ _ (List.mem_of_getElem? hd) (sz1001 (by rw [List.length_map, List.length_take]; omega)) ⟨rfl, ?_⟩
    rw [List.take_succ, hd]
    simp) (fun acc e p ⟨h1, h2⟩ => by subst h1 h2; rw [List.take_length]; exact fin p)
end
theorem cut_last (xs : List P3) : cutD (xs.map dP) none (some (-1)) = xs.dropLast.map dP := by
  rw [cut_map]
  unfold cutG
  rw [HT.sIx_none]
  have e : HT.sIx xs.length xs.length (some (-1)) = xs.length - 1 := by
    unfold HT.sIx
    simp
    omega
  rw [e, List.drop_zero, Nat.sub_zero, List.dropLast_eq_take]
def lowF : D → D
  | .tup [.int x, .int y, .int w] => dP (lowI (x, y, w))
  | _ => .non
def HullOf (ps : List P3) (L : List P3) : Prop := ∃ v t, IsHull (fun x => x ∈ ps.map lowI) L v t
def sp_hull_corners : Spc := fun args Φ _ => ∃ (ps : List P3) (s : D), args = [.val s] ∧ (s = .lst (ps.map dP) ∨ s = .tup (ps.map dP)) ∧ ps ≠ [] ∧ ps.length ≤ 500 ∧ (∀ p ∈ ps, Bh p) ∧ ∀ (a : Addr) (L : List P3), HullOf ps L → L.length ≤ 2 * ps.length → Φ (.own a (.lst (L.map dP))) []
/-- slots: 0 points, 1 row, 2 lower, 3 upper, 4 x, 5 y, 6 w -/
def T_hull_corners : TDs :=
  (tCutD (tSetD 1 (tCallD 1 (q0 sp_in_order) (tConsD (tEitD (tLcL (tVarD 0) (tTupG 3 (tConsG (tNamG 4) (tConsG (tNamG 5) (tConsG (tNamG 6) tNilG)))) tYesD (tCallD 3 (q0 sp_point_of) (tConsD (tVarD 4) (tConsD (tVarD 5) (tConsD (tVarD 6) tNilD)))) [4, 5, 6]) (tLcT (tVarD 0) (tTupG 3 (tConsG (tNamG 4) (tConsG (tNamG 5) (tConsG (tNamG 6) tNilG)))) tYesD (tCallD 3 (q0 sp_point_of) (tConsD (tVarD 4) (tConsD (tVarD 5) (tConsD (tVarD 6) tNilD)))) [4, 5, 6])) tNilD)))
  (tCutD (tIfSD (tValD (tOpD (gIB fun i j => decide (i < j)) (tCaD gLen (tConsD (tVarD 1) tNilD)) (tConD (.int 3)))) (tRetD (tVarD 1)) tNextD)
  (tFrzD 1 (tCutD (tSetV 2 (tCallD 1 (q0 sp_rim_along) (tConsD (tVarD 1) tNilD)))
  (tCutD (tSetV 3 (tCallD 1 (q0 sp_rim_along) (tConsD (tRevD (tVarD 1)) tNilD)))
  (tRetD (tOpD gAdd (tSlLD (tVarD 2) tNoPartD (tPartD (tUnD (gU fun i => -i) (tConD (.int 1))))) (tSlLD (tVarD 3) tNoPartD (tPartD (tUnD (gU fun i => -i) (tConD (.int 1))))))))))))
theorem rd_hull_corners {args : En} {Φ : Res → List D → Prop} {Ψ : Xc → List D → Prop} (h : sp_hull_corners args Φ Ψ) : T_hull_corners (edOf args Φ XN) (noR ["points", "row", "lower", "upper", "x", "y", "w"] args) := by
  obtain ⟨ps, s, rfl, hs, hne, hl, hb, h⟩ := h
  unfold T_hull_corners
  refine ⟨fun en => ∃ (a : Addr) (rs : List P3), en = [.val s, .own a (.lst (rs.map dP)), .no, .no, .no, .no, .no] ∧ Srt rs ∧ (∀ x, x ∈ rs ↔ x ∈ ps.map lowI) ∧ rs.length ≤ ps.length, ?_, ?_⟩
  · have step : ∀ d acc (J : List D → En → Prop), d ∈ ps.map dP → acc.length < sizeLine → J (acc ++ [lowF d]) [.val s, .no, .no, .no, .no, .no, .no] →
        lcStep (tTupG 3 (tConsG (tNamG 4) (tConsG (tNamG 5) (tConsG (tNamG 6) tNilG)))) tYesD (tCallD 3 (q0 sp_point_of) (tConsD (tVarD 4) (tConsD (tVarD 5) (tConsD (tVarD 6) tNilD)))) [4, 5, 6] J d acc [.val s, .no, .no, .no, .no, .no, .no] := fun d acc J hd hacc hJ => by
      obtain ⟨p, hp, rfl⟩ := List.mem_map.mp hd
      have e : lowF (dP p) = dP (lowI p) := rfl
      rw [e] at hJ
      unfold lcStep sp_point_of sp__law_lowest
      have ed : dP p = .tup [.int p.1, .int p.2.1, .int p.2.2] := rfl
      rw [ed]
      walk_at "vs"
      exact ⟨p, rfl, hb p hp, hacc, hJ⟩
    have em : (ps.map dP).map lowF = (ps.map lowI).map dP := by
      rw [List.map_map, List.map_map]
      rfl
    have fin : ∀ q : Addr, ∃ ps_1 : List P3, ([.val (.lst ((ps.map dP).map lowF))] : En) = [.val (.lst (ps_1.map dP))] ∧ ps_1.length ≤ 1000 ∧ (∀ p ∈ ps_1, LowP p ∧ Bh p) ∧ ∀ (a : Addr) (rs : List P3), Srt rs → (∀ x, x ∈ rs ↔ x ∈ ps_1) → rs.length ≤ ps_1.length →
        ∃ (a_1 : Addr) (rs_1 : List P3), ([.val s, .own a (.lst (rs.map dP)), .no, .no, .no, .no, .no] : En) = [.val s, .own a_1 (.lst (rs_1.map dP)), .no, .no, .no, .no, .no] ∧ Srt rs_1 ∧ (∀ x, x ∈ rs_1 ↔ x ∈ ps.map lowI) ∧ rs_1.length ≤ ps.length := fun q =>
      ⟨ps.map lowI, by rw [em], by rw [List.length_map]; omega, fun x hx => by
        obtain ⟨p, hp, rfl⟩ := List.mem_map.mp hx
        exact ⟨low_low (hb p hp).w, (hb p hp).low⟩, fun a rs h1 h2 h3 => ⟨a, rs, rfl, h1, h2, by rw [List.length_map] at h3; exact h3⟩⟩
    unfold sp_in_order
    walk_at "vs"
    rcases hs with rfl | rfl
    · refine .inl (lcL_map (f := lowF) (ds := ps.map dP) (by rw [List.length_map]; omega) (fun Φ z => by walk_at "vs"; exact z) rfl step fun q => ?_)
      walk_at "vs"
      exact fin q
    · refine .inr (lcT_map (f := lowF) (ds := ps.map dP) (by rw [List.length_map]; omega) (fun Φ z => by walk_at "vs"; exact z) rfl step fun q => ?_)
      walk_at "vs"
      exact fin q
  rintro _ ⟨a, rs, rfl, srt, hm, hn⟩
  have hset : (fun x => x ∈ rs) = fun x => x ∈ ps.map lowI := by
    funext x
    exact propext (hm x)
  have hrb : ∀ x ∈ rs, LowP x ∧ Bh x := fun x hx => by
    obtain ⟨p, hp, rfl⟩ := List.mem_map.mp ((hm x).mp hx)
    exact ⟨low_low (hb p hp).w, (hb p hp).low⟩
  have rne : rs ≠ [] := fun e => by
    obtain ⟨p, hp⟩ := List.exists_mem_of_ne_nil _ hne
    have := (hm (lowI p)).mpr (List.mem_map.mpr ⟨p, hp, rfl⟩)
    rw [e] at this
    cases this
  obtain ⟨v, t, hh⟩ := hull_ok srt (fun p hp => (hrb p hp).1.w) rne
  rw [hset] at hh
  have hlen1 : (lowerL rs).length ≤ rs.length := by
    unfold lowerL
    rw [List.length_reverse]
    simpa using rim_len rs []
  have hlen2 : (lowerL rs.reverse).length ≤ rs.length := by
    unfold lowerL
    rw [List.length_reverse]
    simpa using rim_len rs.reverse []
  refine ⟨fun en => en = [.val s, .own a (.lst (rs.map dP)), .no, .no, .no, .no, .no] ∧ ¬ rs.length < 3, ?_, ?_⟩
  · walk_at "vs"
    rw [List.length_map]
    split
    · rename_i z
      have e : hullL rs = rs := by
        unfold hullL
        rw [if_pos (by omega)]
      rw [e] at hh
      exact h a rs ⟨v, t, hh⟩ (by omega)
    · rename_i z
      omega
  rintro _ ⟨rfl, h3⟩
  have e : hullL rs = (lowerL rs).dropLast ++ (lowerL rs.reverse).dropLast := by
    unfold hullL
    rw [if_neg h3]
  rw [e] at hh
  show tFrzD _ _ _ _
  walk_at "vs"
  refine ⟨fun en => en = [.val s, .val (.lst (rs.map dP)), .val (.lst ((lowerL rs).map dP)), .no, .no, .no, .no], ?_, ?_⟩
  · unfold sp_rim_along
    walk_at "vs"
    exact ⟨rs, rfl, by omega, fun p hp => (hrb p hp).2, fun _ => rfl⟩
  rintro _ rfl
  refine ⟨fun en => en = [.val s, .val (.lst (rs.map dP)), .val (.lst ((lowerL rs).map dP)), .val (.lst ((lowerL rs.reverse).map dP)), .no, .no, .no], ?_, ?_⟩
  · unfold sp_rim_along
    walk_at "vs"
    exact fun _ => ⟨rs.reverse, by rw [List.map_reverse], by rw [List.length_reverse]; omega, fun p hp => (hrb p (by simpa using hp)).2, fun _ => rfl⟩
  rintro _ rfl
  walk_at "vs"
  rw [cut_last, cut_last]
  intro p1 p2
  refine ⟨sz1000 (by rw [List.length_map, List.length_map, List.length_dropLast, List.length_dropLast]; omega), fun p3 => ?_⟩
  rw [← List.map_append]
  exact h p3 _ ⟨v, t, hh⟩ (by rw [List.length_append, List.length_dropLast, List.length_dropLast]; omega)
def sp_hull : Spc := sp_hull_corners
/-- slots: 0 points -/
def T_hull : TDs :=
  (tRetD (tCallD 1 (q0 sp_hull_corners) (tConsD (tVarD 0) tNilD)))
theorem rd_hull {args : En} {Φ : Res → List D → Prop} {Ψ : Xc → List D → Prop} (h : sp_hull args Φ Ψ) : T_hull (edOf args Φ XN) (noR ["points"] args) := by
  obtain ⟨ps, s, rfl, hs, hne, hl, hb, h⟩ := h
  unfold T_hull sp_hull_corners
  walk_at "vs"
  exact ⟨ps, s, rfl, hs, hne, hl, hb, h⟩
end VS

namespace VS
open PySem L2 PySem.Spec PyProof.Rows
local macro_rules | `(tactic| walk_at "vs") => `(tactic| simp (maxSteps := 400000) only [tSeqD, tEitD, tEitS, tRevD, tRepD, tNewT, tPutT, gListT, gGcd3, gLt2, tFgtD, tIfSD, tRetD, retD, tSetD, tSetV, tVarD, tConD, tOpD, tUnD, tCaD, tCallD, tConsD, tNilD, tTupD, tLstD, tValD, tAndD, tOrD, tNotD, tIfD, tAndDV, tOrDV, tNotDV, tAsgD, tParD, tPar3D, tNamG, tTupG, tNilG, tConsG, tUnlG, tDropD, tNextD, tBrkD, tCntD, tNeverD, tStoD, tMetD, tSlLD, tNoPartD, tPartD, tChD, tIsiD, tIsiTD, tIsi3D, tFrzD, q0, tYesD, wipeD,
  gI0, gII, gIB, gAdd, gU, gEq, gIx, gIsN, gLen, gInt, gAbs, gBool, gList, gTupC, mAppend, mPop, mPopAt, mInsert, mReverse, rd, rds, vl, vls, slR, nob, mkArgs, bors, putOwns, edOf, outsP, noR, shD, eqD,
  List.getElem?_cons_zero, List.getElem?_cons_succ, List.getElem?_nil, List.set_cons_zero, List.set_cons_succ, List.cons_append, List.nil_append, List.length_cons, List.length_nil, List.replicate, Nat.add_sub_cancel, Nat.sub_self, Nat.reduceAdd, Nat.reduceSub, Int.reduceToNat, Int.reducePow, Int.reduceNeg, Int.reduceAdd, Int.reduceSub, Int.reduceMul, id_eq, true_and, and_true, List.nodup_nil, if_true, if_false, List.nodup_cons, List.not_mem_nil, not_false_eq_true, Bool.not_true, Bool.not_false, Bool.true_or, Bool.or_false, Bool.false_or, decide_eq_true_eq, Bool.false_eq_true, XF,
  Bool.or_true, bne_self_eq_false, isT_dict_non, isT_dict_bl, isT_dict_int, isT_dict_str, isT_dict_tup, isT_dict_lst, isT_list_non, isT_list_bl, isT_list_int, isT_list_str, isT_list_tup, isT_list_lst, isT_tuple_non, isT_tuple_bl, isT_tuple_int, isT_tuple_str, isT_tuple_tup, isT_tuple_lst, isT_bool_non, isT_bool_bl, isT_bool_int, isT_bool_str, isT_bool_tup, isT_bool_lst, isT_str_non, isT_str_bl, isT_str_int, isT_str_str, isT_str_tup, isT_str_lst, isT_int_non, isT_int_bl, isT_int_int, isT_int_str, isT_int_tup, isT_int_lst,
  atI0, atI1, atI2, atI3, atI4, ixN51, ixN52, ixN53, ixN54])
local macro_rules | `(tactic| walk_at "vh") => `(tactic| simp (maxSteps := 400000) only [tSeqD, tEitD, tEitS, tRevD, tRepD, tNewT, tPutT, gListT, gGcd3, gLt2, tFgtD, tIfSD, tRetD, retD, tSetD, tSetV, tVarD, tConD, tOpD, tUnD, tCaD, tCallD, tConsD, tNilD, tTupD, tLstD, tValD, tAndD, tOrD, tNotD, tIfD, tAndDV, tOrDV, tNotDV, tAsgD, tParD, tPar3D, tNamG, tTupG, tNilG, tConsG, tUnlG, tDropD, tNextD, tBrkD, tCntD, tNeverD, tStoD, tMetD, tSlLD, tNoPartD, tPartD, tChD, tIsiD, tIsiTD, tIsi3D, tFrzD, q0, tYesD, wipeD,
  gI0, gII, gIB, gAdd, gU, gEq, gIx, gIsN, gLen, gInt, gAbs, gBool, gList, gTupC, mAppend, mPop, mPopAt, mInsert, mReverse, rd, rds, vl, vls, slR, nob, mkArgs, bors, putOwns, edOf, outsP, noR, shD, eqD,
  List.getElem?_cons_zero, List.getElem?_cons_succ, List.getElem?_nil, List.set_cons_zero, List.set_cons_succ, List.cons_append, List.nil_append, List.length_cons, List.length_nil, List.replicate, Nat.add_sub_cancel, Nat.sub_self, Nat.reduceAdd, Nat.reduceSub, Int.reduceToNat, Int.reducePow, Int.reduceNeg, Int.reduceAdd, Int.reduceSub, Int.reduceMul, id_eq, true_and, and_true, List.nodup_nil, if_true, if_false, List.nodup_cons, List.not_mem_nil, not_false_eq_true, Bool.not_true, Bool.not_false, Bool.true_or, Bool.or_false, Bool.false_or, decide_eq_true_eq, Bool.false_eq_true, XF,
  Bool.or_true, bne_self_eq_false, isT_dict_non, isT_dict_bl, isT_dict_int, isT_dict_str, isT_dict_tup, isT_dict_lst, isT_list_non, isT_list_bl, isT_list_int, isT_list_str, isT_list_tup, isT_list_lst, isT_tuple_non, isT_tuple_bl, isT_tuple_int, isT_tuple_str, isT_tuple_tup, isT_tuple_lst, isT_bool_non, isT_bool_bl, isT_bool_int, isT_bool_str, isT_bool_tup, isT_bool_lst, isT_str_non, isT_str_bl, isT_str_int, isT_str_str, isT_str_tup, isT_str_lst, isT_int_non, isT_int_bl, isT_int_int, isT_int_str, isT_int_tup, isT_int_lst,
  atI0, atI1, atI2, atI3, atI4, ixN51, ixN52, ixN53, ixN54, *])
local macro_rules | `(tactic| walk_at "lf") => `(tactic| ((repeat' (with_reducible apply And.intro)) <;> first | exact mulR (by decide) (by decide) | exact pow1018 | exact pow3 (by omega) | exact divB (by omega) (by omega) | exact Int.emod_nonneg _ (by omega) | exact Int.emod_lt_of_pos _ (by omega) | exact Int.ediv_nonneg (by omega) (by omega) | omega | decide | assumption | skip))
local macro_rules | `(tactic| walk_at "vn") => `(tactic| simp (maxSteps := 400000) only [tSeqD, tEitD, tEitS, tRevD, tRepD, tNewT, tPutT, gListT, gGcd3, gLt2, tFgtD, tIfSD, tRetD, retD, tSetD, tSetV, tVarD, tConD, tOpD, tUnD, tCaD, tCallD, tConsD, tNilD, tTupD, tLstD, tValD, tAndD, tOrD, tNotD, tIfD, tAndDV, tOrDV, tNotDV, tAsgD, tParD, tPar3D, tNamG, tTupG, tNilG, tConsG, tUnlG, tDropD, tNextD, tBrkD, tCntD, tNeverD, tStoD, tMetD, tSlLD, tNoPartD, tPartD, tChD, tIsiD, tIsiTD, tIsi3D, tFrzD, q0, tYesD, wipeD,
  gI0, gII, gIB, gAdd, gU, gEq, gIx, gIsN, gLen, gInt, gAbs, gBool, gList, gTupC, mAppend, mPop, mPopAt, mInsert, mReverse, rd, rds, vl, vls, slR, nob, mkArgs, bors, putOwns, edOf, outsP, noR,
  List.getElem?_cons_zero, List.getElem?_cons_succ, List.getElem?_nil, List.set_cons_zero, List.set_cons_succ, List.cons_append, List.nil_append, List.length_cons, List.length_nil, List.replicate, Nat.add_sub_cancel, Nat.sub_self, Nat.reduceAdd, Nat.reduceSub, Int.reduceToNat, Int.reducePow, Int.reduceNeg, Int.reduceAdd, Int.reduceSub, Int.reduceMul, id_eq, true_and, and_true, List.nodup_nil, if_true, if_false, List.nodup_cons, List.not_mem_nil, not_false_eq_true, Bool.not_true, Bool.not_false, Bool.true_or, Bool.or_false, Bool.false_or, decide_eq_true_eq, Bool.false_eq_true, XF,
  Bool.or_true, bne_self_eq_false, isT_dict_non, isT_dict_bl, isT_dict_int, isT_dict_str, isT_dict_tup, isT_dict_lst, isT_list_non, isT_list_bl, isT_list_int, isT_list_str, isT_list_tup, isT_list_lst, isT_tuple_non, isT_tuple_bl, isT_tuple_int, isT_tuple_str, isT_tuple_tup, isT_tuple_lst, isT_bool_non, isT_bool_bl, isT_bool_int, isT_bool_str, isT_bool_tup, isT_bool_lst, isT_str_non, isT_str_bl, isT_str_int, isT_str_str, isT_str_tup, isT_str_lst, isT_int_non, isT_int_bl, isT_int_int, isT_int_str, isT_int_tup, isT_int_lst,
  atI0, atI1, atI2, atI3, atI4, ixN51, ixN52, ixN53, ixN54])

def keyP (p : P3) : List Key := [.inl p.1, .inl p.2.1, .inl p.2.2]
theorem keyT_dP (p : P3) : keyT (dP p) = some (keyP p) := rfl
theorem keyP_inj {p q : P3} (h : keyP p = keyP q) : p = q := by
  obtain ⟨a, b, c⟩ := p
  obtain ⟨d, e, f⟩ := q
  simp only [keyP, List.cons.injEq, Sum.inl.injEq, and_true] at h
  simp [h]
def seenD (qs : List P3) : D := .dct true (qs.map dP) (qs.map fun _ => .bl true)
theorem dHas_pts (qs : List P3) (p : P3) : dHas (qs.map dP) (keyP p) = decide (p ∈ qs) := by
  induction qs with
  | nil => simp [dHas]
  | cons q r ih =>
    unfold dHas at ih ⊢
    rw [List.map_cons, List.any_cons, ih, keyT_dP]
    by_cases e : q = p
    · subst e
      simp
    · have : ¬ keyP q = keyP p := fun z => e (keyP_inj z)
      simp [this, Ne.symm e]
theorem zip_true (k : List Key) : ∀ qs : List P3, List.zipWith (fun d x => if keyT d = some k then D.bl true else x) (qs.map dP) (qs.map fun _ => .bl true) = qs.map fun _ => .bl true
  | [] => rfl
  | q :: r => by
    simp only [List.map_cons, List.zipWith_cons_cons, zip_true k r]
    split <;> rfl
theorem dPut_pts (qs : List P3) (p : P3) : dPut (qs.map dP) (qs.map fun _ => .bl true) (keyP p) (dP p) (.bl true) = seenD (if p ∈ qs then qs else qs ++ [p]) := by
  unfold dPut seenD
  rw [dHas_pts]
  by_cases e : p ∈ qs
  · rw [if_pos (by simp [e]), if_pos e, zip_true]
  · rw [if_neg (by simp [e]), if_neg e]
    simp
theorem dPut_pts' (qs : List P3) (p : P3) : dPut (qs.map dP) (qs.map fun _ => .bl true) [.inl p.1, .inl p.2.1, .inl p.2.2] (.tup [.int p.1, .int p.2.1, .int p.2.2]) (.bl true) = seenD (if p ∈ qs then qs else qs ++ [p]) := dPut_pts qs p
def sp__law_hull : Spc := fun args Φ _ => ∃ ps : List P3, args = [.val (.lst (ps.map dP))] ∧ ps ≠ [] ∧ ps.length ≤ 500 ∧ (∀ p ∈ ps, Bh p) ∧ ∀ (a : Addr) (L : List P3), HullOf ps L → L.length ≤ ps.length → Φ (.own a (.lst (L.map dP))) []
/-- slots: 0 some, 1 seen, 2 p, 3 rows, 4 first, 5 out, 6 k, 7 best, 8 c, 9 s -/
def T__law_hull : TDs :=
  (tSeqD (tSetD 1 tNewT)
  (tCutD (tForLD (tVarD 0) (tNamG 2) (tPutT 1 (tConD (.bl true)) (tCallD 3 (q0 sp__law_lowest) (tConsD (tOpD gIx (tVarD 2) (tConD (.int 0))) (tConsD (tOpD gIx (tVarD 2) (tConD (.int 1))) (tConsD (tOpD gIx (tVarD 2) (tConD (.int 2))) tNilD))))))
  (tCutD (tSetV 3 (tCaD gListT (tConsD (tVarD 1) tNilD)))
  (tCutD (tSetV 4 (tOpD gIx (tVarD 3) (tConD (.int 0))))
  (tCutD (tForLD (tVarD 3) (tNamG 2) (tIfSD (tValD (tOpD gLt2 (tTupD (tConsD (tOpD (gII CMulA (· * ·)) (tOpD gIx (tVarD 2) (tConD (.int 0))) (tOpD gIx (tVarD 4) (tConD (.int 2)))) (tConsD (tOpD (gII CMulA (· * ·)) (tOpD gIx (tVarD 2) (tConD (.int 1))) (tOpD gIx (tVarD 4) (tConD (.int 2)))) tNilD))) (tTupD (tConsD (tOpD (gII CMulA (· * ·)) (tOpD gIx (tVarD 4) (tConD (.int 0))) (tOpD gIx (tVarD 2) (tConD (.int 2)))) (tConsD (tOpD (gII CMulA (· * ·)) (tOpD gIx (tVarD 4) (tConD (.int 1))) (tOpD gIx (tVarD 2) (tConD (.int 2)))) tNilD))))) (tSetV 4 (tVarD 2)) tNextD))
  (tCutD (tSetD 5 (tLstD (tConsD (tVarD 4) tNilD)))
  (tCutD (tForR1 (tConsD (tCaD gLen (tConsD (tVarD 3) tNilD)) tNilD) (tNamG 6) (tCutD (tParD 7 8 (tConsD (tConD .non) (tConsD (tOpD gIx (tVarD 5) (tUnD (gU fun i => -i) (tConD (.int 1)))) tNilD)))
  (tCutD (tForLD (tVarD 3) (tNamG 2) (tIfSD (tValD (tOpD (gEq not) (tVarD 2) (tVarD 8))) (tCutD (tSetV 9 (tIfD (tValD (tOpD (gIsN id) (tVarD 7) (tConD .non))) (tConD (.int 0)) (tCallD 3 (q0 sp__law_turn) (tConsD (tVarD 8) (tConsD (tVarD 7) (tConsD (tVarD 2) tNilD))))))
  (tIfSD (tOrD (tValD (tOpD (gIsN id) (tVarD 7) (tConD .non))) (tOrD (tValD (tOpD (gIB fun i j => decide (i < j)) (tVarD 9) (tConD (.int 0)))) (tAndD (tValD (tOpD (gEq id) (tVarD 9) (tConD (.int 0)))) (tValD (tOpD (gIB fun i j => decide (j < i)) (tOpD (gII CMulA (· * ·)) (tCallD 2 (q0 sp__law_far) (tConsD (tVarD 8) (tConsD (tVarD 2) tNilD))) (tOpD gIx (tVarD 7) (tConD (.int 2)))) (tOpD (gII CMulA (· * ·)) (tCallD 2 (q0 sp__law_far) (tConsD (tVarD 8) (tConsD (tVarD 7) tNilD))) (tOpD gIx (tVarD 2) (tConD (.int 2))))))))) (tSetV 7 (tVarD 2)) tNextD)) tNextD))
  (tCutD (tIfSD (tOrD (tValD (tOpD (gIsN id) (tVarD 7) (tConD .non))) (tValD (tOpD (gEq id) (tVarD 7) (tVarD 4)))) (tRetD (tVarD 5)) tNextD)
  (tDropD (tMetD 5 mAppend (tConsD (tVarD 7) tNilD)))))))
  (tRetD (tVarD 5)))))))))
theorem rd__law_hull {args : En} {Φ : Res → List D → Prop} {Ψ : Xc → List D → Prop} (h : sp__law_hull args Φ Ψ) : T__law_hull (edOf args Φ XN) (noR ["some", "seen", "p", "rows", "first", "out", "k", "best", "c", "s"] args) := by
  obtain ⟨ps, rfl, hne, hl, hb, h⟩ := h
  unfold T__law_hull
  generalize hS : Sl.val (D.lst (ps.map dP)) = S
  walk_at "vs"
  intro a
  -- the different ones, in lowest terms
  refine ⟨fun en => ∃ (qs : List P3) (e2 : Sl), en = [S, .own a (seenD qs), e2, .no, .no, .no, .no, .no, .no, .no] ∧ (∀ x, x ∈ qs ↔ x ∈ ps.map lowI) ∧ qs.length ≤ ps.length, ?_, ?_⟩
  · refine forL_i (fun i en => ∃ (qs : List P3) (e2 : Sl), en = [S, .own a (seenD qs), e2, .no, .no, .no, .no, .no, .no, .no] ∧ (∀ x, x ∈ qs ↔ x ∈ (ps.take i).map lowI) ∧ qs.length ≤ i) (en1 := [S, .own a (seenD []), .no, .no, .no, .no, .no, .no, .no, .no]) (ds := ps.map dP) (fun Φ z => ?_) ⟨[], _, rfl, by simp, by simp⟩ ?_ ?_
    · subst hS
      walk_at "vs"
      exact z
    · rintro i d _ hd ⟨qs, e2, rfl, hm, hn⟩
      obtain ⟨p, hp, rfl⟩ := get_map hd
      have hi := (List.getElem?_eq_some_iff.mp hp).1
      have bp := hb p (List.mem_of_getElem? hp)
      unfold sp__law_lowest seenD
      have ed : dP p = .tup [.int p.1, .int p.2.1, .int p.2.2] := rfl
      rw [ed]
      walk_at "vs"
      refine ⟨p, rfl, bp, ?_⟩
      rw [keyT_dP]
      simp only
      rw [dPut_pts]
      refine ⟨by rw [List.length_map]; exact sz1001 (by omega), if lowI p ∈ qs then qs else qs ++ [lowI p], _, rfl, fun x => ?_, ?_⟩
      · rw [List.take_succ, hp]
        simp only [Option.toList_some, List.map_append, List.map_cons, List.map_nil, List.mem_append, List.mem_cons, List.not_mem_nil, or_false]
        split
        · rename_i w
          constructor
          · exact fun z => .inl ((hm x).mp z)
          · rintro (z | z)
            · exact (hm x).mpr z
            · rw [z]; exact w
        · rw [List.mem_append, hm x]
          simp
      · split
        · omega
        · rw [List.length_append]
          simp
          omega
    · rintro _ ⟨qs, e2, rfl, hm, hn⟩
      rw [List.length_map] at hm hn
      rw [List.take_length] at hm
      exact ⟨qs, e2, rfl, hm, hn⟩
  rintro _ ⟨qs, e2, rfl, hm, hn⟩
  have qb : ∀ x ∈ qs, LowP x ∧ Bh x := fun x hx => by
    obtain ⟨p, hp, rfl⟩ := List.mem_map.mp ((hm x).mp hx)
    exact ⟨low_low (hb p hp).w, (hb p hp).low⟩
  have qne : qs ≠ [] := fun e => by
    obtain ⟨p, hp⟩ := List.exists_mem_of_ne_nil _ hne
    have := (hm (lowI p)).mpr (List.mem_map.mpr ⟨p, hp, rfl⟩)
    rw [e] at this
    cases this
  have qp : 0 < qs.length := List.length_pos_iff.mpr qne
  obtain ⟨L, v, t, hh⟩ := hull_ex (fun p hp => (qb p hp).1) qne
  have hL := hull_len hh
  have hset : (fun x => x ∈ qs) = fun x => x ∈ ps.map lowI := by
    funext x
    exact propext (hm x)
  have hof : HullOf ps L := ⟨v, t, hset ▸ hh⟩
  have sv : v ∈ qs := hh.mem v (by rw [hh.eq]; simp)
  have Lb : ∀ x ∈ L, LowP x ∧ Bh x := fun x hx => qb x (hh.mem x hx)
  have Lp : 0 < L.length := by rw [hh.eq]; simp
  generalize hDd : Sl.own a (seenD qs) = Dd
  generalize hRw : Sl.val (D.lst (qs.map dP)) = Rw
  refine ⟨fun en => en = [S, Dd, e2, Rw, .no, .no, .no, .no, .no, .no], ?_, ?_⟩
  · subst hDd hRw
    unfold seenD
    walk_at "vs"
    exact fun _ => trivial
  rintro _ rfl
  refine ⟨fun en => en = [S, Dd, e2, Rw, .val (dP (at3 qs 0)), .no, .no, .no, .no, .no], ?_, ?_⟩
  · subst hRw
    have A : atI (qs.map dP) 0 = some (dP (at3 qs 0)) := atI_map (i := 0) (by omega) (by simpa using qp)
    walk_at "vh"
  rintro _ rfl
  -- the least one
  refine ⟨fun en => ∃ e2, en = [S, Dd, e2, Rw, .val (dP v), .no, .no, .no, .no, .no], ?_, ?_⟩
  · refine forL_i (fun i en => ∃ (f : P3) (e2 : Sl), en = [S, Dd, e2, Rw, .val (dP f), .no, .no, .no, .no, .no] ∧ f ∈ qs ∧ ∀ x ∈ qs.take i, x = f ∨ LtP f x) (en1 := [S, Dd, e2, Rw, .val (dP (at3 qs 0)), .no, .no, .no, .no, .no]) (ds := qs.map dP) (fun Φ z => ?_) ⟨_, _, rfl, at3_mem qp, by simp⟩ ?_ ?_
    · subst hRw
      walk_at "vs"
      exact z
    · rintro i d _ hd ⟨f, e2, rfl, hf, hx⟩
      obtain ⟨p, hp, rfl⟩ := get_map hd
      have mp : p ∈ qs := List.mem_of_getElem? hp
      obtain ⟨lp, bp⟩ := qb p mp
      obtain ⟨lf, bf⟩ := qb f hf
      have key : ∀ (B : Bool), (B = true ↔ LtP p f) → ∀ X Y : Prop, (LtP p f → X) → (¬ LtP p f → Y) → if B = true then X else Y := fun B hB X Y h1 h2 => by
        by_cases z : LtP p f
        · rw [if_pos (hB.mpr z)]; exact h1 z
        · rw [if_neg (fun w => z (hB.mp w))]; exact h2 z
      have e0 : dP p = .tup [.int p.1, .int p.2.1, .int p.2.2] := rfl
      have e1 : dP f = .tup [.int f.1, .int f.2.1, .int f.2.2] := rfl
      have tk : ∀ y : P3, (∀ x ∈ qs.take i, x = y ∨ LtP y x) → (p = y ∨ LtP y p) → ∀ x ∈ qs.take (i + 1), x = y ∨ LtP y x := fun y h1 h2 x hx' => by
        rw [List.take_succ, hp] at hx'
        simp only [Option.toList_some, List.mem_append, List.mem_cons, List.not_mem_nil, or_false] at hx'
        rcases hx' with z | z
        · exact h1 x z
        · rw [z]; exact h2
      have fin1 : LtP p f → ∃ (f' : P3) (e2 : Sl), ([S, Dd, .val (dP p), Rw, .val (dP p), .no, .no, .no, .no, .no] : En) = [S, Dd, e2, Rw, .val (dP f'), .no, .no, .no, .no, .no] ∧ f' ∈ qs ∧ ∀ x ∈ qs.take (i + 1), x = f' ∨ LtP f' x := fun w =>
        ⟨p, _, rfl, mp, tk p (fun x hx' => by
          rcases hx x hx' with z | z
          · rw [z]; exact .inr w
          · exact .inr (LtP.trans lp.w lf.w (qb x (List.mem_of_mem_take hx')).1.w w z)) (.inl rfl)⟩
      have fin2 : ¬ LtP p f → ∃ (f' : P3) (e2 : Sl), ([S, Dd, .val (dP p), Rw, .val (dP f), .no, .no, .no, .no, .no] : En) = [S, Dd, e2, Rw, .val (dP f'), .no, .no, .no, .no, .no] ∧ f' ∈ qs ∧ ∀ x ∈ qs.take (i + 1), x = f' ∨ LtP f' x := fun w =>
        ⟨f, _, rfl, hf, tk f hx (by
          rcases low_tot lp lf with z | z | z
          · exact .inl z
          · exact absurd z w
          · exact .inr z)⟩
      rw [e0] at fin1
      rw [e0, e1] at fin2
      rw [e0, e1]
      walk_at "vs"
      obtain ⟨_, _, w1, w2⟩ := bp
      obtain ⟨_, _, w3, w4⟩ := bf
      refine ⟨mulW w3 w4, mulW w3 w4, sz1000 (by decide), mulW w1 w2, mulW w1 w2, sz1000 (by decide), key _ ?_ _ _ fin1 fin2⟩
      unfold LtP dx dy
      split
      · rw [decide_eq_true_eq]
        omega
      · rw [decide_eq_true_eq]
        omega
    · rintro _ ⟨f, e2, rfl, hf, hx⟩
      rw [List.length_map, List.take_length] at hx
      have : v = f := by
        rcases hx v sv with z | z
        · exact z
        · rcases hh.least f hf with w | w
          · exact w.symm
          · exact absurd w z.asym
      rw [this]
      exact ⟨e2, rfl⟩
  rintro _ ⟨e2, rfl⟩
  generalize hFv : Sl.val (dP v) = Fv
  have L1 : L.take 1 = [v] := by rw [hh.eq]; rfl
  refine ⟨fun en => ∃ o, en = [S, Dd, e2, Rw, Fv, .own o (.lst ((L.take 1).map dP)), .no, .no, .no, .no], ?_, ?_⟩
  · subst hFv
    walk_at "vs"
    rw [L1]
    exact ⟨sz1000 (by decide), fun p => ⟨p, rfl⟩⟩
  rintro _ ⟨o, rfl⟩
  refine ⟨fun en => False, ?_, fun _ z => z.elim⟩
  refine forR1_i (fun k en => k < L.length ∧ ∃ e2 e6 e7 e8 e9 : Sl, en = [S, Dd, e2, Rw, Fv, .own o (.lst ((L.take (k + 1)).map dP)), e6, e7, e8, e9]) (en1 := [S, Dd, e2, Rw, Fv, .own o (.lst ((L.take 1).map dP)), .no, .no, .no, .no]) (n := qs.length) (fun Φ z => ?_) (by omega) (by omega) ⟨Lp, _, _, _, _, _, rfl⟩ ?_ ?_
  · subst hRw
    walk_at "vs"
    rw [List.length_map]
    exact z
  · rintro k _ hk ⟨hkL, e2, e6, e7, e8, e9, rfl⟩
    have mc : at3 L k ∈ L := at3_mem hkL
    have mcq : at3 L k ∈ qs := hh.mem _ mc
    obtain ⟨lc, bc⟩ := Lb _ mc
    have lastc : atI ((L.take (k + 1)).map dP) (-1) = some (dP (at3 L k)) := by
      refine atI_neg1 ?_
      rw [List.length_map, List.length_take, Nat.min_eq_left (by omega), Nat.add_sub_cancel, List.getElem?_map, List.getElem?_take, if_pos (by omega), ← List.getElem?_map]
      exact map_get hkL
    show tCutD _ _ _ _
    refine ⟨fun en => en = [S, Dd, e2, Rw, Fv, .own o (.lst ((L.take (k + 1)).map dP)), .val (.int k), .val .non, .val (dP (at3 L k)), e9], ?_, ?_⟩
    · walk_at "vh"
    rintro _ rfl
    generalize hO : Sl.own o (D.lst ((L.take (k + 1)).map dP)) = O
    -- what the search finds
    have found : (∃ e2 e9 : Sl, ∃ b : D, (b = .non ∧ (∀ q, q ∈ qs → q = v) ∧ L = [v] ∨ ∃ q, b = dP q ∧ Next (fun x => x ∈ qs) (at3 L k) q ∧ q = at3 (L ++ [v]) (k + 1)) ∧ True) → True := fun _ => trivial
    refine ⟨fun en => ∃ (e2 e9 : Sl) (b : D), en = [S, Dd, e2, Rw, Fv, O, .val (.int k), .val b, .val (dP (at3 L k)), e9] ∧ (b = .non ∧ L = [v] ∨ ∃ q, b = dP q ∧ Next (fun x => x ∈ qs) (at3 L k) q ∧ q = at3 (L ++ [v]) (k + 1)), ?_, ?_⟩
    · rcases hh.cyc with ⟨ht, hv⟩ | ⟨ht, hpath, hnv⟩
      · -- one point alone
        have eL : L = [v] := by rw [hh.eq, ht]
        have ec : at3 L k = v := by
          rw [eL] at hkL ⊢
          obtain rfl : k = 0 := by simpa using hkL
          rfl
        rw [ec]
        refine forL_i (fun i en => ∃ e2, en = [S, Dd, e2, Rw, Fv, O, .val (.int k), .val .non, .val (dP v), e9]) (en1 := [S, Dd, e2, Rw, Fv, O, .val (.int k), .val .non, .val (dP v), e9]) (ds := qs.map dP) (fun Φ z => ?_) ⟨_, rfl⟩ ?_ ?_
        · subst hRw
          walk_at "vs"
          exact z
        · rintro i d _ hd ⟨e2, rfl⟩
          obtain ⟨p, hp, rfl⟩ := get_map hd
          have ep : p = v := hv p (List.mem_of_getElem? hp)
          subst ep
          walk_at "vn"
          refine ⟨shD_pt _, shD_pt _, ?_⟩
          rw [eqD_pt]
          simp
        · rintro _ ⟨e2, rfl⟩
          exact ⟨e2, e9, _, rfl, .inl ⟨rfl, eL⟩⟩
      · have hnx : Next (fun x => x ∈ qs) (at3 L k) (at3 (L ++ [v]) (k + 1)) := by
          have := path_at (i := k) hpath (by simp; omega)
          rw [show at3 (L ++ [v]) k = at3 L k by unfold at3; simp [List.getD, List.getElem?_append, hkL]] at this
          exact this
        generalize hC : at3 L k = c at *
        generalize hQ : at3 (L ++ [v]) (k + 1) = q at *
        refine forL_i (fun i en => ∃ (e2 e9 : Sl) (b : D), en = [S, Dd, e2, Rw, Fv, O, .val (.int k), .val b, .val (dP c), e9] ∧ (b = .non ∧ (∀ x ∈ qs.take i, x = c) ∨ ∃ p, b = dP p ∧ p ∈ qs ∧ p ≠ c ∧ (q ∈ qs.take i → p = q))) (en1 := [S, Dd, e2, Rw, Fv, O, .val (.int k), .val .non, .val (dP c), e9]) (ds := qs.map dP) (fun Φ z => ?_) ⟨_, _, _, rfl, .inl ⟨rfl, by simp⟩⟩ ?_ ?_
        · subst hRw
          walk_at "vs"
          exact z
        · rintro i d _ hd ⟨e2, e9, b, rfl, hb'⟩
          obtain ⟨p, hp, rfl⟩ := get_map hd
          have mp : p ∈ qs := List.mem_of_getElem? hp
          obtain ⟨lp, bp⟩ := qb p mp
          have tk : ∀ x, x ∈ qs.take (i + 1) ↔ x ∈ qs.take i ∨ x = p := fun x => by
            rw [List.take_succ, hp]
            simp
          walk_at "vn"
          refine ⟨shD_pt _, shD_pt _, ?_⟩
          rw [eqD_pt]
          by_cases pc : p = c
          · rw [if_neg (by simp [pc])]
            refine ⟨_, _, b, rfl, ?_⟩
            rcases hb' with ⟨e, hx⟩ | ⟨y, e, hy, yc, hx⟩
            · refine .inl ⟨e, fun x hx' => ?_⟩
              rcases (tk x).mp hx' with z | z
              · exact hx x z
              · rw [z]; exact pc
            · refine .inr ⟨y, e, hy, yc, fun hq => ?_⟩
              rcases (tk q).mp hq with z | z
              · exact hx z
              · exact absurd (z.trans pc) hnx.ne
          · rw [if_pos (by simp [pc])]
            have take_p : ∀ e9 : Sl, (q ∈ qs.take (i + 1) → p = q) → ∃ (e2 e9_1 : Sl) (b : D), ([S, Dd, .val (dP p), Rw, Fv, O, .val (.int k), .val (dP p), .val (dP c), e9] : En) = [S, Dd, e2, Rw, Fv, O, .val (.int k), .val b, .val (dP c), e9_1] ∧ (b = .non ∧ (∀ x ∈ qs.take (i + 1), x = c) ∨ ∃ p, b = dP p ∧ p ∈ qs ∧ p ≠ c ∧ (q ∈ qs.take (i + 1) → p = q)) := fun e9 hx =>
              ⟨_, _, _, rfl, .inr ⟨p, rfl, mp, pc, hx⟩⟩
            rcases hb' with ⟨rfl, hx⟩ | ⟨y, rfl, hy, yc, hx⟩
            · refine ⟨fun en => en = [S, Dd, .val (dP p), Rw, Fv, O, .val (.int k), .val .non, .val (dP c), .val (.int 0)], by walk_at "vs", ?_⟩
              rintro _ rfl
              walk_at "vs"
              refine take_p _ fun hq => ?_
              rcases (tk q).mp hq with z | z
              · exact absurd (hx q z) hnx.ne
              · exact z.symm
            · obtain ⟨ly, byy⟩ := qb y hy
              refine ⟨fun en => en = [S, Dd, .val (dP p), Rw, Fv, O, .val (.int k), .val (dP y), .val (dP c), .val (.int (turnI c y p))], ?_, ?_⟩
              · unfold sp__law_turn
                have e : ∀ X Y : Prop, (match dP y with | .non => X | _ => Y) = Y := fun _ _ => rfl
                walk_at "vs"
                exact ⟨c, y, p, rfl, bc, byy, bp, rfl⟩
              rintro _ rfl
              have st := next_step hnx mp pc hy yc
              have keep_y : ¬ (turnI c y p < 0 ∨ turnI c y p = 0 ∧ farI c y * p.2.2 < farI c p * y.2.2) → ∃ (e2 e9_1 : Sl) (b : D), ([S, Dd, .val (dP p), Rw, Fv, O, .val (.int k), .val (dP y), .val (dP c), .val (.int (turnI c y p))] : En) = [S, Dd, e2, Rw, Fv, O, .val (.int k), .val b, .val (dP c), e9_1] ∧ (b = .non ∧ (∀ x ∈ qs.take (i + 1), x = c) ∨ ∃ p, b = dP p ∧ p ∈ qs ∧ p ≠ c ∧ (q ∈ qs.take (i + 1) → p = q)) := fun nT =>
                ⟨_, _, _, rfl, .inr ⟨y, rfl, hy, yc, fun hq => by
                  rcases (tk q).mp hq with z | z
                  · exact hx z
                  · by_cases e : y = q
                    · exact e
                    · exact absurd ((st _ Iff.rfl).2 z.symm e) nT⟩⟩
              have take_y : (turnI c y p < 0 ∨ turnI c y p = 0 ∧ farI c y * p.2.2 < farI c p * y.2.2) → ∃ (e2 e9_1 : Sl) (b : D), ([S, Dd, .val (dP p), Rw, Fv, O, .val (.int k), .val (dP p), .val (dP c), .val (.int (turnI c y p))] : En) = [S, Dd, e2, Rw, Fv, O, .val (.int k), .val b, .val (dP c), e9_1] ∧ (b = .non ∧ (∀ x ∈ qs.take (i + 1), x = c) ∨ ∃ p, b = dP p ∧ p ∈ qs ∧ p ≠ c ∧ (q ∈ qs.take (i + 1) → p = q)) := fun T =>
                take_p _ fun hq => by
                  rcases (tk q).mp hq with z | z
                  · exact absurd T ((st _ Iff.rfl).1 (hx z))
                  · exact z.symm
              have ey : dP y = .tup [.int y.1, .int y.2.1, .int y.2.2] := rfl
              have ep : dP p = .tup [.int p.1, .int p.2.1, .int p.2.2] := rfl
              unfold sp__law_far
              rw [ep] at take_y
              rw [ey, ep] at keep_y ⊢
              walk_at "vs"
              have bp0 := bp
              have by0 := byy
              obtain ⟨_, _, w1, w2⟩ := bp
              obtain ⟨_, _, w3, w4⟩ := byy
              split
              · rename_i z
                exact take_y (.inl z)
              · rename_i z
                split
                · rename_i z2
                  refine ⟨c, p, rfl, bc, bp0, mulW w3 w4, c, y, rfl, bc, by0, mulW w1 w2, ?_⟩
                  split
                  · rename_i z3
                    exact take_y (.inr ⟨z2, z3⟩)
                  · rename_i z3
                    exact keep_y fun w => w.elim z fun w => z3 w.2
                · rename_i z2
                  exact keep_y fun w => w.elim z fun w => z2 w.1
        · rintro _ ⟨e2, e9, b, rfl, hb'⟩
          rw [List.length_map, List.take_length] at hb'
          refine ⟨e2, e9, b, rfl, .inr ?_⟩
          rcases hb' with ⟨e, hx⟩ | ⟨y, e, hy, yc, hx⟩
          · exact absurd (hx q hnx.mem) hnx.ne
          · rw [hx hnx.mem] at e
            exact ⟨q, e, hnx, rfl⟩
    rintro _ ⟨e2, e9, b, rfl, hb'⟩
    subst hO hFv hS
    have done : L.length = k + 1 → Φ (.own o (.lst ((L.take (k + 1)).map dP))) [] := fun e => by
      rw [← e, List.take_length]
      exact h o L hof (by omega)
    rcases hb' with ⟨rfl, eL⟩ | ⟨q, rfl, hnx, hq⟩
    · refine ⟨fun en => False, ?_, fun _ z => z.elim⟩
      walk_at "vs"
      refine done ?_
      rw [eL] at hkL ⊢
      simp at hkL ⊢
      omega
    · have iff : q = v ↔ L.length = k + 1 := by
        constructor
        · intro e
          by_cases z : k + 1 < L.length
          · exfalso
            have e2 : at3 (L ++ [v]) (k + 1) = at3 L (k + 1) := by unfold at3; simp [List.getD, List.getElem?_append, z]
            rcases hh.cyc with ⟨ht, _⟩ | ⟨_, _, hnv⟩
            · rw [hh.eq, ht] at z
              simp at z
            · refine hnv ?_
              rw [← e, hq, e2, hh.eq]
              rw [hh.eq] at z
              exact at3_mem (ps := t) (i := k) (by simpa using z)
          · omega
        · intro e
          rw [hq, ← e]
          unfold at3
          simp [List.getD]
      have eq : dP q = .tup [.int q.1, .int q.2.1, .int q.2.2] := rfl
      have q1 := shD_pt q
      have q2 := eqD_pt q v
      rw [eq] at q1 q2 ⊢
      refine ⟨fun en => en = [.val (.lst (ps.map dP)), Dd, e2, Rw, .val (dP v), .own o (.lst ((L.take (k + 1)).map dP)), .val (.int k), .val (.tup [.int q.1, .int q.2.1, .int q.2.2]), .val (dP (at3 L k)), e9] ∧ ¬ L.length = k + 1, ?_, ?_⟩
      · walk_at "vn"
        refine ⟨q1, shD_pt v, ?_⟩
        rw [q2]
        split
        · rename_i z
          exact done (iff.mp (by simpa using z))
        · rename_i z
          exact fun w => z (by simpa using iff.mpr w)
      rintro _ ⟨rfl, ne⟩
      walk_at "vs"
      refine ⟨by rw [List.length_map, List.length_take]; exact sz1001 (by omega), by omega, e2, .val (.int k), .val (.tup [.int q.1, .int q.2.1, .int q.2.2]), .val (dP (at3 L k)), e9, ?_⟩
      have : L.take (k + 1 + 1) = L.take (k + 1) ++ [q] := by
        have z : k + 1 < L.length := by omega
        have e2 : at3 (L ++ [v]) (k + 1) = at3 L (k + 1) := by unfold at3; simp [List.getD, List.getElem?_append, z]
        rw [List.take_succ (i := k + 1)]
        rw [hq, e2]
        unfold at3
        simp [List.getD, z]
      rw [this, List.map_append]
      rfl
  · rintro _ ⟨hkL, _⟩
    have : ((qs.length : Int)).toNat = qs.length := rfl
    omega
end VS

namespace VS
open PySem L2 PySem.Spec PyProof.Rows
local macro_rules | `(tactic| walk_at "vs") => `(tactic| simp (maxSteps := 400000) only [tSeqD, tEitD, tEitS, tRevD, tRepD, tNewT, tPutT, gListT, gGcd3, gLt2, tFgtD, tIfSD, tRetD, retD, tSetD, tSetV, tVarD, tConD, tOpD, tUnD, tCaD, tCallD, tConsD, tNilD, tTupD, tLstD, tValD, tAndD, tOrD, tNotD, tIfD, tAndDV, tOrDV, tNotDV, tAsgD, tParD, tPar3D, tNamG, tTupG, tNilG, tConsG, tUnlG, tDropD, tNextD, tBrkD, tCntD, tNeverD, tStoD, tMetD, tSlLD, tNoPartD, tPartD, tChD, tIsiD, tIsiTD, tIsi3D, tFrzD, q0, tYesD, wipeD,
  gI0, gII, gIB, gAdd, gU, gEq, gIx, gIsN, gLen, gInt, gAbs, gBool, gList, gTupC, mAppend, mPop, mPopAt, mInsert, mReverse, rd, rds, vl, vls, slR, nob, mkArgs, bors, putOwns, edOf, outsP, noR, shD, eqD,
  List.getElem?_cons_zero, List.getElem?_cons_succ, List.getElem?_nil, List.set_cons_zero, List.set_cons_succ, List.cons_append, List.nil_append, List.length_cons, List.length_nil, List.replicate, Nat.add_sub_cancel, Nat.sub_self, Nat.reduceAdd, Nat.reduceSub, Int.reduceToNat, Int.reducePow, Int.reduceNeg, Int.reduceAdd, Int.reduceSub, Int.reduceMul, id_eq, true_and, and_true, List.nodup_nil, if_true, if_false, List.nodup_cons, List.not_mem_nil, not_false_eq_true, Bool.not_true, Bool.not_false, Bool.true_or, Bool.or_false, Bool.false_or, decide_eq_true_eq, Bool.false_eq_true, XF,
  Bool.or_true, bne_self_eq_false, isT_dict_non, isT_dict_bl, isT_dict_int, isT_dict_str, isT_dict_tup, isT_dict_lst, isT_list_non, isT_list_bl, isT_list_int, isT_list_str, isT_list_tup, isT_list_lst, isT_tuple_non, isT_tuple_bl, isT_tuple_int, isT_tuple_str, isT_tuple_tup, isT_tuple_lst, isT_bool_non, isT_bool_bl, isT_bool_int, isT_bool_str, isT_bool_tup, isT_bool_lst, isT_str_non, isT_str_bl, isT_str_int, isT_str_str, isT_str_tup, isT_str_lst, isT_int_non, isT_int_bl, isT_int_int, isT_int_str, isT_int_tup, isT_int_lst,
  atI0, atI1, atI2, atI3, atI4, ixN51, ixN52, ixN53, ixN54])
local macro_rules | `(tactic| walk_at "vh") => `(tactic| simp (maxSteps := 400000) only [tSeqD, tEitD, tEitS, tRevD, tRepD, tNewT, tPutT, gListT, gGcd3, gLt2, tFgtD, tIfSD, tRetD, retD, tSetD, tSetV, tVarD, tConD, tOpD, tUnD, tCaD, tCallD, tConsD, tNilD, tTupD, tLstD, tValD, tAndD, tOrD, tNotD, tIfD, tAndDV, tOrDV, tNotDV, tAsgD, tParD, tPar3D, tNamG, tTupG, tNilG, tConsG, tUnlG, tDropD, tNextD, tBrkD, tCntD, tNeverD, tStoD, tMetD, tSlLD, tNoPartD, tPartD, tChD, tIsiD, tIsiTD, tIsi3D, tFrzD, q0, tYesD, wipeD,
  gI0, gII, gIB, gAdd, gU, gEq, gIx, gIsN, gLen, gInt, gAbs, gBool, gList, gTupC, mAppend, mPop, mPopAt, mInsert, mReverse, rd, rds, vl, vls, slR, nob, mkArgs, bors, putOwns, edOf, outsP, noR, shD, eqD,
  List.getElem?_cons_zero, List.getElem?_cons_succ, List.getElem?_nil, List.set_cons_zero, List.set_cons_succ, List.cons_append, List.nil_append, List.length_cons, List.length_nil, List.replicate, Nat.add_sub_cancel, Nat.sub_self, Nat.reduceAdd, Nat.reduceSub, Int.reduceToNat, Int.reducePow, Int.reduceNeg, Int.reduceAdd, Int.reduceSub, Int.reduceMul, id_eq, true_and, and_true, List.nodup_nil, if_true, if_false, List.nodup_cons, List.not_mem_nil, not_false_eq_true, Bool.not_true, Bool.not_false, Bool.true_or, Bool.or_false, Bool.false_or, decide_eq_true_eq, Bool.false_eq_true, XF,
  Bool.or_true, bne_self_eq_false, isT_dict_non, isT_dict_bl, isT_dict_int, isT_dict_str, isT_dict_tup, isT_dict_lst, isT_list_non, isT_list_bl, isT_list_int, isT_list_str, isT_list_tup, isT_list_lst, isT_tuple_non, isT_tuple_bl, isT_tuple_int, isT_tuple_str, isT_tuple_tup, isT_tuple_lst, isT_bool_non, isT_bool_bl, isT_bool_int, isT_bool_str, isT_bool_tup, isT_bool_lst, isT_str_non, isT_str_bl, isT_str_int, isT_str_str, isT_str_tup, isT_str_lst, isT_int_non, isT_int_bl, isT_int_int, isT_int_str, isT_int_tup, isT_int_lst,
  atI0, atI1, atI2, atI3, atI4, ixN51, ixN52, ixN53, ixN54, *])
local macro_rules | `(tactic| walk_at "lf") => `(tactic| ((repeat' (with_reducible apply And.intro)) <;> first | exact mulR (by decide) (by decide) | exact pow1018 | exact pow3 (by omega) | exact divB (by omega) (by omega) | exact Int.emod_nonneg _ (by omega) | exact Int.emod_lt_of_pos _ (by omega) | exact Int.ediv_nonneg (by omega) (by omega) | omega | decide | assumption | skip))
local macro_rules | `(tactic| walk_at "vn") => `(tactic| simp (maxSteps := 400000) only [tSeqD, tEitD, tEitS, tRevD, tRepD, tNewT, tPutT, gListT, gGcd3, gLt2, tFgtD, tIfSD, tRetD, retD, tSetD, tSetV, tVarD, tConD, tOpD, tUnD, tCaD, tCallD, tConsD, tNilD, tTupD, tLstD, tValD, tAndD, tOrD, tNotD, tIfD, tAndDV, tOrDV, tNotDV, tAsgD, tParD, tPar3D, tNamG, tTupG, tNilG, tConsG, tUnlG, tDropD, tNextD, tBrkD, tCntD, tNeverD, tStoD, tMetD, tSlLD, tNoPartD, tPartD, tChD, tIsiD, tIsiTD, tIsi3D, tFrzD, q0, tYesD, wipeD,
  gI0, gII, gIB, gAdd, gU, gEq, gIx, gIsN, gLen, gInt, gAbs, gBool, gList, gTupC, mAppend, mPop, mPopAt, mInsert, mReverse, rd, rds, vl, vls, slR, nob, mkArgs, bors, putOwns, edOf, outsP, noR,
  List.getElem?_cons_zero, List.getElem?_cons_succ, List.getElem?_nil, List.set_cons_zero, List.set_cons_succ, List.cons_append, List.nil_append, List.length_cons, List.length_nil, List.replicate, Nat.add_sub_cancel, Nat.sub_self, Nat.reduceAdd, Nat.reduceSub, Int.reduceToNat, Int.reducePow, Int.reduceNeg, Int.reduceAdd, Int.reduceSub, Int.reduceMul, id_eq, true_and, and_true, List.nodup_nil, if_true, if_false, List.nodup_cons, List.not_mem_nil, not_false_eq_true, Bool.not_true, Bool.not_false, Bool.true_or, Bool.or_false, Bool.false_or, decide_eq_true_eq, Bool.false_eq_true, XF,
  Bool.or_true, bne_self_eq_false, isT_dict_non, isT_dict_bl, isT_dict_int, isT_dict_str, isT_dict_tup, isT_dict_lst, isT_list_non, isT_list_bl, isT_list_int, isT_list_str, isT_list_tup, isT_list_lst, isT_tuple_non, isT_tuple_bl, isT_tuple_int, isT_tuple_str, isT_tuple_tup, isT_tuple_lst, isT_bool_non, isT_bool_bl, isT_bool_int, isT_bool_str, isT_bool_tup, isT_bool_lst, isT_str_non, isT_str_bl, isT_str_int, isT_str_str, isT_str_tup, isT_str_lst, isT_int_non, isT_int_bl, isT_int_int, isT_int_str, isT_int_tup, isT_int_lst,
  atI0, atI1, atI2, atI3, atI4, ixN51, ixN52, ixN53, ixN54])

def Bz (k : Nat) (p : P3) : Prop := p.1.natAbs ≤ k ∧ p.2.1.natAbs ≤ k ∧ 0 < p.2.2 ∧ p.2.2 ≤ 60
def sp__law_point : Spc := fun args Φ _ => ∃ q d0 w, args = [.own q d0, .val (.int w)] ∧ BagOk d0 ∧ 0 ≤ w ∧ w ≤ 30 ∧ ∀ (p : P3) (d1 : D), Bz 1000 p → BagOk d1 → Φ (.val (dP p)) [d1]
/-- slots: 0 bag, 1 wide, 2 w, 3 k, 4 x, 5 y -/
def T__law_point : TDs :=
  (tCutD (tSetV 2 (tCallD 2 (q0 sp__law_of) (tConsD (tVarD 0) (tConsD (tLstD (tConsD (tConD (.int 1)) (tConsD (tConD (.int 1)) (tConsD (tConD (.int 2)) (tConsD (tConD (.int 1)) (tConsD (tConD (.int 3)) (tConsD (tConD (.int 1)) (tConsD (tConD (.int 6)) tNilD)))))))) tNilD))))
  (tCutD (tSetV 3 (tCallD 2 (q0 sp__law_of) (tConsD (tVarD 0) (tConsD (tLstD (tConsD (tConD (.int 1)) (tConsD (tConD (.int 1)) (tConsD (tConD (.int 1)) (tConsD (tConD (.int 2)) (tConsD (tConD (.int 5)) tNilD)))))) tNilD))))
  (tCutD (tParD 4 5 (tConsD (tOpD (gI0 (· - ·)) (tCallD 2 (q0 sp__law_draw) (tConsD (tVarD 0) (tConsD (tOpD gAdd (tOpD (gII CMulA (· * ·)) (tConD (.int 2)) (tVarD 1)) (tConD (.int 1))) tNilD))) (tVarD 1)) (tConsD (tOpD (gI0 (· - ·)) (tCallD 2 (q0 sp__law_draw) (tConsD (tVarD 0) (tConsD (tOpD gAdd (tOpD (gII CMulA (· * ·)) (tConD (.int 2)) (tVarD 1)) (tConD (.int 1))) tNilD))) (tVarD 1)) tNilD)))
  (tRetD (tTupD (tConsD (tOpD (gII CMulA (· * ·)) (tVarD 4) (tVarD 3)) (tConsD (tOpD (gII CMulA (· * ·)) (tVarD 5) (tVarD 3)) (tConsD (tOpD (gII CMulA (· * ·)) (tVarD 2) (tVarD 3)) tNilD))))))))
theorem rd__law_point {args : En} {Φ : Res → List D → Prop} {Ψ : Xc → List D → Prop} (h : sp__law_point args Φ Ψ) : T__law_point (edOf args Φ XN) (noR ["bag", "wide", "w", "k", "x", "y"] args) := by
  obtain ⟨q, d0, wd, rfl, hk, w0, w30, h⟩ := h
  unfold T__law_point
  refine ⟨fun en => ∃ (d1 : D) (w : Int), en = [.own q d1, .val (.int wd), .val (.int w), .no, .no, .no] ∧ BagOk d1 ∧ 1 ≤ w ∧ w ≤ 6, ?_, ?_⟩
  · unfold sp__law_of
    walk_at "vs"
    refine ⟨sz1000 (by decide), fun _ => ⟨q, d0, _, rfl, hk, by simp, by decide, ?_⟩⟩
    intro x d2 hx hk2
    simp only [List.mem_cons, List.not_mem_nil, or_false] at hx
    rcases hx with rfl | rfl | rfl | rfl | rfl | rfl | rfl <;> exact ⟨d2, _, rfl, hk2, by decide, by decide⟩
  rintro _ ⟨d1, w, rfl, hk1, w1, w6⟩
  refine ⟨fun en => ∃ (d1 : D) (k : Int), en = [.own q d1, .val (.int wd), .val (.int w), .val (.int k), .no, .no] ∧ BagOk d1 ∧ 1 ≤ k ∧ k ≤ 5, ?_, ?_⟩
  · unfold sp__law_of
    walk_at "vs"
    refine ⟨sz1000 (by decide), fun _ => ⟨q, d1, _, rfl, hk1, by simp, by decide, ?_⟩⟩
    intro x d2 hx hk2
    simp only [List.mem_cons, List.not_mem_nil, or_false] at hx
    rcases hx with rfl | rfl | rfl | rfl | rfl <;> exact ⟨d2, _, rfl, hk2, by decide, by decide⟩
  rintro _ ⟨d2, k, rfl, hk2, k1, k5⟩
  refine ⟨fun en => ∃ (d1 : D) (x y : Int), en = [.own q d1, .val (.int wd), .val (.int w), .val (.int k), .val (.int x), .val (.int y)] ∧ BagOk d1 ∧ x.natAbs ≤ 60 ∧ y.natAbs ≤ 60, ?_, ?_⟩
  · unfold sp__law_draw
    walk_at "vs"
    exact ⟨mulL (by decide) (by decide), q, d2, _, rfl, hk2, by omega, by omega, fun i d3 i0 i1 hk3 => ⟨mulL (by decide) (by decide), q, d3, _, rfl, hk3, by omega, by omega, fun j d4 j0 j1 hk4 => ⟨d4, _, _, rfl, hk4, by omega, by omega⟩⟩⟩
  rintro _ ⟨d3, x, y, rfl, hk3, hx, hy⟩
  walk_at "vs"
  have b1 : (x * k).natAbs ≤ 60 * 5 := by rw [Int.natAbs_mul]; exact Nat.mul_le_mul hx (by omega)
  have b2 : (y * k).natAbs ≤ 60 * 5 := by rw [Int.natAbs_mul]; exact Nat.mul_le_mul hy (by omega)
  have b3 : w * k ≤ 6 * 5 := Int.mul_le_mul w6 k5 (by omega) (by omega)
  have b4 : 0 < w * k := Int.mul_pos (by omega) (by omega)
  exact ⟨mulR (by omega) (by omega), mulR (by omega) (by omega), mulR (by omega) (by omega), sz1000 (by decide), h (x * k, y * k, w * k) d3 ⟨by show (x * k).natAbs ≤ 1000; omega, by show (y * k).natAbs ≤ 1000; omega, b4, by show w * k ≤ 60; omega⟩ hk3⟩
/-- [_law_point(bag, w) for k in range(size)] -/
theorem comp_points {Ψ : Px} {q : Addr} {d1 : D} {pk e4 e5 e6 e7 e8 e9 e10 e11 e12 : Sl} {size w : Int} {Φ : Res → En → Prop} (hk1 : BagOk d1) (s1 : 1 ≤ size) (s12 : size ≤ 12) (w0 : 0 ≤ w) (w30 : w ≤ 30)
    (h : ∀ (a : Addr) (ps : List P3) (d2 : D), BagOk d2 → ps ≠ [] → ps.length ≤ 12 → (∀ p ∈ ps, Bz 1000 p) → Φ (.own a (.lst (ps.map dP))) [.own q d2, pk, .val (.int size), .no, e4, e5, e6, e7, e8, e9, e10, e11, e12, .no, .no, .no]) :
    tLcR1 (tConsD (tVarD 2) tNilD) (tNamG 3) tYesD (tCallD 2 (q0 sp__law_point) (tConsD (tVarD 0) (tConsD (tConD (.int w)) tNilD))) [3] Ψ [.own q d1, pk, .val (.int size), .no, e4, e5, e6, e7, e8, e9, e10, e11, e12, .no, .no, .no] Φ := by
  refine lcR1_i (fun i acc en => ∃ (d2 : D) (ps : List P3), acc = ps.map dP ∧ ps.length = i ∧ (∀ p ∈ ps, Bz 1000 p) ∧ BagOk d2 ∧ en = [.own q d2, pk, .val (.int size), .no, e4, e5, e6, e7, e8, e9, e10, e11, e12, .no, .no, .no])
    (en1 := [.own q d1, pk, .val (.int size), .no, e4, e5, e6, e7, e8, e9, e10, e11, e12, .no, .no, .no]) (n := size) (fun Φ z => by walk_at "vs"; exact z) (by omega) (by omega) rfl ⟨d1, [], rfl, rfl, by simp, hk1, rfl⟩ ?_ ?_
  · rintro i acc en hi ⟨d2, ps, rfl, hn, hb, hk2, rfl⟩
    unfold lcStep sp__law_point
    walk_at "vs"
    refine ⟨q, d2, w, rfl, hk2, w0, w30, fun p d3 hp hk3 => ⟨by rw [List.length_map]; exact sz1001 (by omega), d3, ps ++ [p], by simp, by simp [hn], fun y hy => ?_, hk3, rfl⟩⟩
    rcases List.mem_append.mp hy with hy | hy
    · exact hb y hy
    · simp only [List.mem_cons, List.not_mem_nil, or_false] at hy
      exact hy ▸ hp
  · rintro acc en a ⟨d2, ps, rfl, hn, hb, hk2, rfl⟩
    exact h a ps d2 hk2 (fun e => by rw [e] at hn; simp at hn; omega) (by omega) hb
def sp__law_plane_points : Spc := fun args Φ _ => ∃ q d0, args = [.own q d0] ∧ BagOk d0 ∧ ∀ (a : Addr) (ps : List P3) (d1 : D), ps ≠ [] → ps.length ≤ 15 → (∀ p ∈ ps, p.1.natAbs < 2 ^ 110 ∧ p.2.1.natAbs < 2 ^ 110 ∧ 0 < p.2.2 ∧ p.2.2 < 2 ^ 12) → BagOk d1 → Φ (.own a (.lst (ps.map dP))) [d1]
theorem forLo_w {ta : TDe} {tg : TDg} {tb : TDs} {De : Ed} {en : En} (Pn : List D → En → Prop) (J : Nat → En → Prop) (hta : ∀ Φ : Res → En → Prop, (∀ ds e1 p, Pn ds e1 → Φ (.own p (.lst ds)) e1) → ta De.ex en Φ) (j0 : ∀ ds e1, Pn ds e1 → J 0 e1)
    (step : ∀ (ds : List D) (e1 : En) (i : Nat) (d : D) (en : En), Pn ds e1 → ds[i]? = some d → J i en → tg d en fun en2 => tb { De with nx := J (i + 1), ct := J (i + 1), bk := De.nx } en2) (fin : ∀ ds e1 en, Pn ds e1 → J ds.length en → De.nx en) : tForLD ta tg tb De en :=
  hta _ fun ds e1 _ hP => ⟨J, j0 ds e1 hP, fun i d en hd hj => step ds e1 i d en hP hd hj, fun en hj => fin ds e1 en hP hj⟩
theorem perm_map {α β : Type} {f : α → β} {l l' : List β} (h : l.Perm l') : ∀ rs : List α, l' = rs.map f → ∃ rs' : List α, rs'.Perm rs ∧ l = rs'.map f := by
  induction h with
  | nil => intro rs e; exact ⟨[], by rw [List.map_eq_nil_iff.mp e.symm], rfl⟩
  | cons x h ih =>
    intro rs e
    cases rs with
    | nil => cases e
    | cons r rs =>
      rw [List.map_cons] at e
      injection e with e1 e2
      obtain ⟨rs', p, e3⟩ := ih rs e2
      exact ⟨r :: rs', p.cons r, by rw [List.map_cons, e1, e3]⟩
  | swap x y l =>
    intro rs e
    cases rs with
    | nil => cases e
    | cons a rs =>
      cases rs with
      | nil => cases e
      | cons b rs =>
        simp only [List.map_cons] at e
        injection e with e1 e2
        injection e2 with e2 e3
        exact ⟨b :: a :: rs, List.Perm.swap a b rs, by simp only [List.map_cons]; rw [e1, e2, e3]⟩
  | trans h1 h2 ih1 ih2 =>
    intro rs e
    obtain ⟨r1, p1, e1⟩ := ih2 rs e
    obtain ⟨r2, p2, e2⟩ := ih1 r1 e1
    exact ⟨r2, p2.trans p1, e2⟩
/-- slots: 0 bag, 1 pick, 2 size, 3 k, 4 out, 5 x, 6 y, 7 a, 8 b, 9 steps, 10 t, 11 high, 12 s, 13 some, 14 p, 15 g -/
def T__law_plane_points : TDs :=
  (tCutD (tParD 1 2 (tConsD (tCallD 2 (q0 sp__law_draw) (tConsD (tVarD 0) (tConsD (tConD (.int 7)) tNilD))) (tConsD (tOpD gAdd (tConD (.int 1)) (tCallD 2 (q0 sp__law_draw) (tConsD (tVarD 0) (tConsD (tConD (.int 12)) tNilD)))) tNilD)))
  (tCutD (tIfSD (tValD (tOpD (gIB fun i j => decide (i < j)) (tVarD 1) (tConD (.int 2)))) (tSetD 4 (tLcR1 (tConsD (tVarD 2) tNilD) (tNamG 3) tYesD (tCallD 2 (q0 sp__law_point) (tConsD (tVarD 0) (tConsD (tConD (.int 3)) tNilD))) [3])) (tIfSD (tValD (tOpD (gEq id) (tVarD 1) (tConD (.int 2)))) (tCutD (tAsgD (tLcR1 (tConsD (tConD (.int 4)) tNilD) (tNamG 3) tYesD (tOpD (gI0 (· - ·)) (tCallD 2 (q0 sp__law_draw) (tConsD (tVarD 0) (tConsD (tConD (.int 9)) tNilD))) (tConD (.int 4))) [3]) (tUnlG 4 (tConsG (tNamG 5) (tConsG (tNamG 6) (tConsG (tNamG 7) (tConsG (tNamG 8) tNilG))))))
  (tCutD (tSetV 9 (tLcR1 (tConsD (tVarD 2) tNilD) (tNamG 3) tYesD (tOpD (gI0 (· - ·)) (tCallD 2 (q0 sp__law_draw) (tConsD (tVarD 0) (tConsD (tConD (.int 9)) tNilD))) (tConD (.int 4))) [3]))
  (tSetD 4 (tLcL (tVarD 9) (tNamG 10) tYesD (tTupD (tConsD (tOpD gAdd (tVarD 5) (tOpD (gII CMulA (· * ·)) (tVarD 7) (tVarD 10))) (tConsD (tOpD gAdd (tVarD 6) (tOpD (gII CMulA (· * ·)) (tVarD 8) (tVarD 10))) (tConsD (tOpD gAdd (tConD (.int 1)) (tOpD (gII CMulA (· * ·)) (tCallD 2 (q0 sp__law_draw) (tConsD (tVarD 0) (tConsD (tConD (.int 2)) tNilD))) (tCaD gInt (tConsD (tAndDV (tOpD (gEq id) (tVarD 5) (tConD (.int 0))) (tOpD (gEq id) (tVarD 6) (tConD (.int 0)))) tNilD)))) tNilD)))) [10])))) (tIfSD (tValD (tOpD (gEq id) (tVarD 1) (tConD (.int 3)))) (tCutD (tSetV 11 (tCallD 2 (q0 sp__law_of) (tConsD (tVarD 0) (tConsD (tLstD (tConsD (tOpD (gII CPow fun i j => i ^ j.toNat) (tConD (.int 10)) (tConD (.int 6))) (tConsD (tOpD (gII CPow fun i j => i ^ j.toNat) (tConD (.int 10)) (tConD (.int 12))) (tConsD (tOpD (gII CPow fun i j => i ^ j.toNat) (tConD (.int 10)) (tConD (.int 30))) tNilD)))) tNilD))))
  (tSeqD (tSetD 4 (tLstD tNilD))
  (tForR1 (tConsD (tVarD 2) tNilD) (tNamG 3) (tCutD (tAsgD (tTupD (tConsD (tOpD (gII CDivW (· / ·)) (tOpD (gII CMulA (· * ·)) (tCallD 2 (q0 sp__law_draw) (tConsD (tVarD 0) (tConsD (tConD (.int 4001)) tNilD))) (tVarD 11)) (tConD (.int 2000))) (tConsD (tOpD (gII CDivW (· / ·)) (tOpD (gII CMulA (· * ·)) (tCallD 2 (q0 sp__law_draw) (tConsD (tVarD 0) (tConsD (tConD (.int 4001)) tNilD))) (tVarD 11)) (tConD (.int 2000))) tNilD))) (tTupG 2 (tConsG (tNamG 5) (tConsG (tNamG 6) tNilG))))
  (tDropD (tMetD 4 mAppend (tConsD (tTupD (tConsD (tOpD gAdd (tOpD (gI0 (· - ·)) (tVarD 5) (tVarD 11)) (tCallD 2 (q0 sp__law_draw) (tConsD (tVarD 0) (tConsD (tConD (.int 3)) tNilD)))) (tConsD (tOpD (gI0 (· - ·)) (tVarD 6) (tVarD 11)) (tConsD (tOpD gAdd (tConD (.int 1)) (tCallD 2 (q0 sp__law_draw) (tConsD (tVarD 0) (tConsD (tConD (.int 5)) tNilD)))) tNilD)))) tNilD))))))) (tIfSD (tValD (tOpD (gEq id) (tVarD 1) (tConD (.int 4)))) (tCutD (tAsgD (tTupD (tConsD (tOpD gAdd (tConD (.int 1)) (tCallD 2 (q0 sp__law_draw) (tConsD (tVarD 0) (tConsD (tConD (.int 4)) tNilD)))) (tConsD (tOpD gAdd (tConD (.int 1)) (tCallD 2 (q0 sp__law_draw) (tConsD (tVarD 0) (tConsD (tConD (.int 4)) tNilD)))) tNilD))) (tTupG 2 (tConsG (tNamG 7) (tConsG (tNamG 8) tNilG))))
  (tSeqD (tSetD 4 (tLstD tNilD))
  (tForR1 (tConsD (tVarD 2) tNilD) (tNamG 3) (tCutD (tParD 12 10 (tConsD (tOpD (gI0 (· - ·)) (tCallD 2 (q0 sp__law_draw) (tConsD (tVarD 0) (tConsD (tOpD gAdd (tOpD (gII CMulA (· * ·)) (tConD (.int 2)) (tVarD 7)) (tConD (.int 1))) tNilD))) (tVarD 7)) (tConsD (tOpD (gI0 (· - ·)) (tCallD 2 (q0 sp__law_draw) (tConsD (tVarD 0) (tConsD (tOpD gAdd (tOpD (gII CMulA (· * ·)) (tConD (.int 2)) (tVarD 8)) (tConD (.int 1))) tNilD))) (tVarD 8)) tNilD)))
  (tDropD (tMetD 4 mAppend (tConsD (tCallD 2 (q0 sp__law_of) (tConsD (tVarD 0) (tConsD (tLstD (tConsD (tTupD (tConsD (tVarD 12) (tConsD (tVarD 8) (tConsD (tConD (.int 1)) tNilD)))) (tConsD (tTupD (tConsD (tVarD 12) (tConsD (tUnD (gU fun i => -i) (tVarD 8)) (tConsD (tConD (.int 1)) tNilD)))) (tConsD (tTupD (tConsD (tVarD 7) (tConsD (tVarD 10) (tConsD (tConD (.int 1)) tNilD)))) (tConsD (tTupD (tConsD (tUnD (gU fun i => -i) (tVarD 7)) (tConsD (tVarD 10) (tConsD (tConD (.int 1)) tNilD)))) (tConsD (tTupD (tConsD (tVarD 12) (tConsD (tVarD 10) (tConsD (tConD (.int 1)) tNilD)))) tNilD)))))) tNilD))) tNilD))))))) (tIfSD (tValD (tOpD (gEq id) (tVarD 1) (tConD (.int 5)))) (tSetD 4 (tRepD (tLstD (tConsD (tCallD 2 (q0 sp__law_point) (tConsD (tVarD 0) (tConsD (tConD (.int 2)) tNilD))) tNilD)) (tOpD gAdd (tConD (.int 1)) (tOpD (gII CDivW (· / ·)) (tVarD 2) (tConD (.int 4)))))) (tSetD 4 (tLcR1 (tConsD (tVarD 2) tNilD) (tNamG 3) tYesD (tCallD 2 (q0 sp__law_point) (tConsD (tVarD 0) (tConsD (tConD (.int 30)) tNilD))) [3])))))))
  (tSeqD (tSetD 13 (tLstD tNilD))
  (tCutD (tForLD (tOpD gAdd (tVarD 4) (tSlLD (tVarD 4) tNoPartD (tPartD (tCallD 2 (q0 sp__law_draw) (tConsD (tVarD 0) (tConsD (tConD (.int 4)) tNilD)))))) (tNamG 14) (tCutD (tSetV 15 (tCallD 2 (q0 sp__law_of) (tConsD (tVarD 0) (tConsD (tLstD (tConsD (tConD (.int 1)) (tConsD (tConD (.int 1)) (tConsD (tConD (.int 2)) (tConsD (tConD (.int 1)) (tConsD (tConD (.int 7)) tNilD)))))) tNilD))))
  (tDropD (tMetD 13 mAppend (tConsD (tTupD (tConsD (tOpD (gII CMulA (· * ·)) (tOpD gIx (tVarD 14) (tConD (.int 0))) (tVarD 15)) (tConsD (tOpD (gII CMulA (· * ·)) (tOpD gIx (tVarD 14) (tConD (.int 1))) (tVarD 15)) (tConsD (tOpD (gII CMulA (· * ·)) (tOpD gIx (tVarD 14) (tConD (.int 2))) (tVarD 15)) tNilD)))) tNilD)))))
  (tFrzD 13 (tRetD (tCallD 2 (q0 sp__law_shuffled) (tConsD (tVarD 0) (tConsD (tVarD 13) tNilD)))))))))
theorem rd__law_plane_points {args : En} {Φ : Res → List D → Prop} {Ψ : Xc → List D → Prop} (h : sp__law_plane_points args Φ Ψ) : T__law_plane_points (edOf args Φ XN) (noR ["bag", "pick", "size", "k", "out", "x", "y", "a", "b", "steps", "t", "high", "s", "some", "p", "g"] args) := by
  obtain ⟨q, d0, rfl, hk, h⟩ := h
  unfold T__law_plane_points
  refine ⟨fun en => ∃ (d1 : D) (pk size : Int), en = [.own q d1, .val (.int pk), .val (.int size), .no, .no, .no, .no, .no, .no, .no, .no, .no, .no, .no, .no, .no] ∧ BagOk d1 ∧ 1 ≤ size ∧ size ≤ 12, ?_, ?_⟩
  · unfold sp__law_draw
    walk_at "vs"
    exact ⟨q, d0, 7, rfl, hk, by decide, by decide, fun k d1 k0 k1 hk1 => ⟨q, d1, 12, rfl, hk1, by decide, by decide, fun j d2 j0 j1 hk2 => ⟨d2, k, 1 + j, rfl, hk2, by omega, by omega⟩⟩⟩
  rintro _ ⟨d1, pk, size, rfl, hk1, s1, s12⟩
  have big31 : ∀ p, Bz 1000 p → Bz (10 ^ 31) p := fun p ⟨h1, h2, h3, h4⟩ => ⟨by omega, by omega, h3, h4⟩
  refine ⟨fun en => ∃ (d2 : D) (a : Addr) (ps : List P3) (e3 e5 e6 e7 e8 e9 e10 e11 e12 : Sl), en = [.own q d2, .val (.int pk), .val (.int size), e3, .own a (.lst (ps.map dP)), e5, e6, e7, e8, e9, e10, e11, e12, .no, .no, .no] ∧ BagOk d2 ∧ ps ≠ [] ∧ ps.length ≤ 12 ∧ ∀ p ∈ ps, Bz (10 ^ 31) p, ?_, ?_⟩
  · walk_at "vs"
    split
    · refine comp_points hk1 s1 s12 (by decide) (by decide) fun a ps d2 hk2 h1 h2 h3 => ?_
      walk_at "vs"
      exact ⟨d2, a, ps, _, _, _, _, _, _, _, _, _, rfl, hk2, h1, h2, fun p hp => big31 p (h3 p hp)⟩
    split
    · -- on a line
      refine ⟨fun en => ∃ (d2 : D) (x y a b : Int), en = [.own q d2, .val (.int pk), .val (.int size), .no, .no, .val (.int x), .val (.int y), .val (.int a), .val (.int b), .no, .no, .no, .no, .no, .no, .no] ∧ BagOk d2 ∧ x.natAbs ≤ 4 ∧ y.natAbs ≤ 4 ∧ a.natAbs ≤ 4 ∧ b.natAbs ≤ 4, ?_, ?_⟩
      · unfold tAsgD
        refine lcR1_i (fun i acc en => ∃ (d2 : D) (ns : List Int), acc = ns.map D.int ∧ ns.length = i ∧ (∀ n ∈ ns, n.natAbs ≤ 4) ∧ BagOk d2 ∧ en = [.own q d2, .val (.int pk), .val (.int size), .no, .no, .no, .no, .no, .no, .no, .no, .no, .no, .no, .no, .no])
          (en1 := [.own q d1, .val (.int pk), .val (.int size), .no, .no, .no, .no, .no, .no, .no, .no, .no, .no, .no, .no, .no]) (n := 4) (fun Φ z => by walk_at "vs"; exact z) (by decide) (by decide) rfl ⟨d1, [], rfl, rfl, by simp, hk1, rfl⟩ ?_ ?_
        · rintro i acc en hi ⟨d2, ns, rfl, hn, hb, hk2, rfl⟩
          unfold lcStep sp__law_draw
          walk_at "vs"
          refine ⟨q, d2, 9, rfl, hk2, by decide, by decide, fun k d3 k0 k1 hk3 => ⟨by rw [List.length_map]; exact sz1001 (by omega), d3, ns ++ [k - 4], by simp, by simp [hn], fun y hy => ?_, hk3, rfl⟩⟩
          rcases List.mem_append.mp hy with hy | hy
          · exact hb y hy
          · simp only [List.mem_cons, List.not_mem_nil, or_false] at hy
            omega
        · rintro acc en a ⟨d2, ns, rfl, hn, hb, hk2, rfl⟩
          match ns, hn with
          | [x, y, a, b], _ =>
            simp only [List.map_cons, List.map_nil]
            walk_at "vs"
            exact ⟨d2, x, y, a, b, rfl, hk2, hb _ (by simp), hb _ (by simp), hb _ (by simp), hb _ (by simp)⟩
      rintro _ ⟨d2, x, y, a, b, rfl, hk2, hx, hy, ha, hb⟩
      refine ⟨fun en => ∃ (d2 : D) (ns : List Int), en = [.own q d2, .val (.int pk), .val (.int size), .no, .no, .val (.int x), .val (.int y), .val (.int a), .val (.int b), .val (.lst (ns.map D.int)), .no, .no, .no, .no, .no, .no] ∧ BagOk d2 ∧ ns ≠ [] ∧ ns.length ≤ 12 ∧ ∀ n ∈ ns, n.natAbs ≤ 4, ?_, ?_⟩
      · walk_at "vs"
        refine lcR1_i (fun i acc en => ∃ (d2 : D) (ns : List Int), acc = ns.map D.int ∧ ns.length = i ∧ (∀ n ∈ ns, n.natAbs ≤ 4) ∧ BagOk d2 ∧ en = [.own q d2, .val (.int pk), .val (.int size), .no, .no, .val (.int x), .val (.int y), .val (.int a), .val (.int b), .no, .no, .no, .no, .no, .no, .no])
          (en1 := [.own q d2, .val (.int pk), .val (.int size), .no, .no, .val (.int x), .val (.int y), .val (.int a), .val (.int b), .no, .no, .no, .no, .no, .no, .no]) (n := size) (fun Φ z => by walk_at "vs"; exact z) (by omega) (by omega) rfl ⟨d2, [], rfl, rfl, by simp, hk2, rfl⟩ ?_ ?_
        · rintro i acc en hi ⟨d2, ns, rfl, hn, hb, hk2, rfl⟩
          unfold lcStep sp__law_draw
          walk_at "vs"
          refine ⟨q, d2, 9, rfl, hk2, by decide, by decide, fun k d3 k0 k1 hk3 => ⟨by rw [List.length_map]; exact sz1001 (by omega), d3, ns ++ [k - 4], by simp, by simp [hn], fun y hy => ?_, hk3, rfl⟩⟩
          rcases List.mem_append.mp hy with hy | hy
          · exact hb y hy
          · simp only [List.mem_cons, List.not_mem_nil, or_false] at hy
            omega
        · rintro acc en a ⟨d2, ns, rfl, hn, hb, hk2, rfl⟩
          walk_at "vs"
          exact ⟨d2, ns, rfl, hk2, fun e => by rw [e] at hn; simp at hn; omega, by omega, hb⟩
      rintro _ ⟨d3, ns, rfl, hk3, nne, nl, hns⟩
      walk_at "vs"
      refine lcL_i (fun i acc en => ∃ (d2 : D) (ps : List P3), acc = ps.map dP ∧ ps.length = i ∧ (∀ p ∈ ps, Bz 1000 p) ∧ BagOk d2 ∧ en = [.own q d2, .val (.int pk), .val (.int size), .no, .no, .val (.int x), .val (.int y), .val (.int a), .val (.int b), .val (.lst (ns.map D.int)), .no, .no, .no, .no, .no, .no])
        (en1 := [.own q d3, .val (.int pk), .val (.int size), .no, .no, .val (.int x), .val (.int y), .val (.int a), .val (.int b), .val (.lst (ns.map D.int)), .no, .no, .no, .no, .no, .no]) (ds := ns.map D.int) (fun Φ z => by walk_at "vs"; exact z) rfl ⟨d3, [], rfl, rfl, by simp, hk3, rfl⟩ ?_ ?_
      · rintro i d acc en hd ⟨d2, ps, rfl, hn, hbp, hk2, rfl⟩
        obtain ⟨t, ht, rfl⟩ := get_map hd
        have ht4 := hns t (List.mem_of_getElem? ht)
        have b1 : (a * t).natAbs ≤ 4 * 4 := by rw [Int.natAbs_mul]; exact Nat.mul_le_mul ha ht4
        have b2 : (b * t).natAbs ≤ 4 * 4 := by rw [Int.natAbs_mul]; exact Nat.mul_le_mul hb ht4
        have hi := (List.getElem?_eq_some_iff.mp ht).1
        unfold lcStep sp__law_draw
        walk_at "vs"
        have fin : ∀ (j : Int) (d : D), 0 ≤ j → j < 2 → BagOk d → ∀ e : Int, 0 ≤ e → e ≤ 1 → CMulA j e ∧ 3 ≤ sizeLine ∧ (ps.map dP).length < sizeLine ∧ ∃ (d2 : D) (ps_1 : List P3), ps.map dP ++ [D.tup [.int (x + a * t), .int (y + b * t), .int (1 + j * e)]] = ps_1.map dP ∧ ps_1.length = i + 1 ∧ (∀ p ∈ ps_1, Bz 1000 p) ∧ BagOk d2 ∧ ([.own q d, .val (.int pk), .val (.int size), .no, .no, .val (.int x), .val (.int y), .val (.int a), .val (.int b), .val (.lst (ns.map D.int)), .no, .no, .no, .no, .no, .no] : En) = [.own q d2, .val (.int pk), .val (.int size), .no, .no, .val (.int x), .val (.int y), .val (.int a), .val (.int b), .val (.lst (ns.map D.int)), .no, .no, .no, .no, .no, .no] := fun j d j0 j1 hkd e e0 e1 => by
          have je : j * e = 0 ∨ j * e = 1 := by
            have h1 : j = 0 ∨ j = 1 := by omega
            have h2 : e = 0 ∨ e = 1 := by omega
            rcases h1 with rfl | rfl <;> rcases h2 with rfl | rfl <;> simp
          refine ⟨mulL (by omega) (by omega), sz1000 (by decide), by rw [List.length_map]; exact sz1001 (by omega), d, ps ++ [(x + a * t, y + b * t, 1 + j * e)], by simp [dP], by simp [hn], fun z hz => ?_, hkd, rfl⟩
          rcases List.mem_append.mp hz with hz | hz
          · exact hbp z hz
          · simp only [List.mem_cons, List.not_mem_nil, or_false] at hz
            subst hz
            exact ⟨by show (x + a * t).natAbs ≤ 1000; omega, by show (y + b * t).natAbs ≤ 1000; omega, by show 0 < 1 + j * e; omega, by show 1 + j * e ≤ 60; omega⟩
        refine ⟨mulR (by omega) (by omega), mulR (by omega) (by omega), q, d2, 2, rfl, hk2, by decide, by decide, fun k d' k0 k1 hkd => ?_⟩
        split
        · exact fin k d' k0 k1 hkd _ (by split <;> omega) (by split <;> omega)
        · exact fin k d' k0 k1 hkd 0 (by omega) (by omega)
      · rintro acc en a' ⟨d2, ps, rfl, hn, hbp, hk2, rfl⟩
        rw [List.length_map] at hn
        walk_at "vs"
        exact ⟨d2, a', ps, _, _, _, _, _, _, _, _, _, rfl, hk2, fun e => by rw [e] at hn; simp at hn; exact nne (List.length_eq_zero_iff.mp hn.symm), by omega, fun p hp => big31 p (hbp p hp)⟩
    split
    · -- great ones
      refine ⟨fun en => ∃ (d2 : D) (g : Int), en = [.own q d2, .val (.int pk), .val (.int size), .no, .no, .no, .no, .no, .no, .no, .no, .val (.int g), .no, .no, .no, .no] ∧ BagOk d2 ∧ 1 ≤ g ∧ g ≤ 10 ^ 30, ?_, ?_⟩
      · unfold sp__law_of
        walk_at "vs"
        refine ⟨⟨by decide, by decide, by decide⟩, ⟨by decide, by decide, by decide⟩, ⟨by decide, by decide, by decide⟩, sz1000 (by decide), fun _ => ⟨q, d1, _, rfl, hk1, by simp, by decide, ?_⟩⟩
        intro x d2 hx hk2
        simp only [List.mem_cons, List.not_mem_nil, or_false] at hx
        rcases hx with rfl | rfl | rfl <;> exact ⟨d2, _, rfl, hk2, by decide, by decide⟩
      rintro _ ⟨d2, g, rfl, hk2, g1, g30⟩
      walk_at "vs"
      refine ⟨sz1000 (by decide), fun a => ?_⟩
      refine forR1_i (fun i en => ∃ (d2 : D) (ps : List P3) (e3 e5 e6 : Sl), en = [.own q d2, .val (.int pk), .val (.int size), e3, .own a (.lst (ps.map dP)), e5, e6, .no, .no, .no, .no, .val (.int g), .no, .no, .no, .no] ∧ BagOk d2 ∧ ps.length = i ∧ ∀ p ∈ ps, Bz (10 ^ 31) p)
        (en1 := [.own q d2, .val (.int pk), .val (.int size), .no, .own a (.lst []), .no, .no, .no, .no, .no, .no, .val (.int g), .no, .no, .no, .no]) (n := size) (fun Φ z => by walk_at "vs"; exact z) (by omega) (by omega) ⟨d2, [], _, _, _, rfl, hk2, rfl, by simp⟩ ?_ ?_
      · rintro i _ hi ⟨d2, ps, e3, e5, e6, rfl, hk2, hn, hb⟩
        show tCutD _ _ _ _
        refine ⟨fun en => ∃ (d2 : D) (x y : Int), en = [.own q d2, .val (.int pk), .val (.int size), .val (.int i), .own a (.lst (ps.map dP)), .val (.int x), .val (.int y), .no, .no, .no, .no, .val (.int g), .no, .no, .no, .no] ∧ BagOk d2 ∧ 0 ≤ x ∧ x ≤ 2 * 10 ^ 30 ∧ 0 ≤ y ∧ y ≤ 2 * 10 ^ 30, ?_, ?_⟩
        · unfold sp__law_draw
          walk_at "vs"
          have bd : ∀ k : Int, 0 ≤ k → k < 4001 → 0 ≤ k * g / 2000 ∧ k * g / 2000 ≤ 2 * 10 ^ 30 := fun k k0 k1 => by
            have h1 : 0 ≤ k * g := sg_nn k0 (by omega)
            have h2 : k * g ≤ 4000 * 10 ^ 30 := Int.mul_le_mul (by omega) g30 (by omega) (by omega)
            omega
          refine ⟨q, d2, 4001, rfl, hk2, by decide, by decide, fun k d3 k0 k1 hk3 => ⟨mulL (by omega) (by omega), divB (by decide) (by decide), q, d3, 4001, rfl, hk3, by decide, by decide, fun j d4 j0 j1 hk4 => ⟨mulL (by omega) (by omega), divB (by decide) (by decide), sz1000 (by decide), ?_⟩⟩⟩
          have b1 := bd k k0 k1
          have b2 := bd j j0 j1
          exact ⟨d4, _, _, rfl, hk4, b1.1, b1.2, b2.1, b2.2⟩
        rintro _ ⟨d3, x, y, rfl, hk3, x0, x1, y0, y1⟩
        unfold sp__law_draw
        walk_at "vs"
        refine ⟨q, d3, 3, rfl, hk3, by decide, by decide, fun k d4 k0 k1 hk4 => ⟨q, d4, 5, rfl, hk4, by decide, by decide, fun j d5 j0 j1 hk5 => ⟨sz1000 (by decide), by rw [List.length_map]; exact sz1001 (by omega), d5, ps ++ [(x - g + k, y - g, 1 + j)], .val (.int i), .val (.int x), .val (.int y), by simp [dP], hk5, by simp [hn], fun z hz => ?_⟩⟩⟩
        rcases List.mem_append.mp hz with hz | hz
        · exact hb z hz
        · simp only [List.mem_cons, List.not_mem_nil, or_false] at hz
          subst hz
          exact ⟨by show (x - g + k).natAbs ≤ 10 ^ 31; omega, by show (y - g).natAbs ≤ 10 ^ 31; omega, by show 0 < 1 + j; omega, by show 1 + j ≤ 60; omega⟩
      · rintro _ ⟨d2, ps, e3, e5, e6, rfl, hk2, hn, hb⟩
        exact ⟨d2, a, ps, _, _, _, _, _, _, _, _, _, rfl, hk2, fun e => by rw [e] at hn; simp at hn; omega, by omega, hb⟩
    split
    · -- on the sides of a box
      refine ⟨fun en => ∃ (d2 : D) (u v : Int), en = [.own q d2, .val (.int pk), .val (.int size), .no, .no, .no, .no, .val (.int u), .val (.int v), .no, .no, .no, .no, .no, .no, .no] ∧ BagOk d2 ∧ 1 ≤ u ∧ u ≤ 4 ∧ 1 ≤ v ∧ v ≤ 4, ?_, ?_⟩
      · unfold sp__law_draw
        walk_at "vs"
        exact ⟨q, d1, 4, rfl, hk1, by decide, by decide, fun k d3 k0 k1 hk3 => ⟨q, d3, 4, rfl, hk3, by decide, by decide, fun j d4 j0 j1 hk4 => ⟨sz1000 (by decide), d4, 1 + k, 1 + j, rfl, hk4, by omega, by omega, by omega, by omega⟩⟩⟩
      rintro _ ⟨d2, u, v, rfl, hk2, u1, u4, v1, v4⟩
      walk_at "vs"
      refine ⟨sz1000 (by decide), fun a => ?_⟩
      refine forR1_i (fun i en => ∃ (d2 : D) (ps : List P3) (e3 e10 e12 : Sl), en = [.own q d2, .val (.int pk), .val (.int size), e3, .own a (.lst (ps.map dP)), .no, .no, .val (.int u), .val (.int v), .no, e10, .no, e12, .no, .no, .no] ∧ BagOk d2 ∧ ps.length = i ∧ ∀ p ∈ ps, Bz 1000 p)
        (en1 := [.own q d2, .val (.int pk), .val (.int size), .no, .own a (.lst []), .no, .no, .val (.int u), .val (.int v), .no, .no, .no, .no, .no, .no, .no]) (n := size) (fun Φ z => by walk_at "vs"; exact z) (by omega) (by omega) ⟨d2, [], _, _, _, rfl, hk2, rfl, by simp⟩ ?_ ?_
      · rintro i _ hi ⟨d2, ps, e3, e10, e12, rfl, hk2, hn, hb⟩
        show tCutD _ _ _ _
        refine ⟨fun en => ∃ (d2 : D) (s t : Int), en = [.own q d2, .val (.int pk), .val (.int size), .val (.int i), .own a (.lst (ps.map dP)), .no, .no, .val (.int u), .val (.int v), .no, .val (.int t), .no, .val (.int s), .no, .no, .no] ∧ BagOk d2 ∧ s.natAbs ≤ 4 ∧ t.natAbs ≤ 4, ?_, ?_⟩
        · unfold sp__law_draw
          walk_at "vs"
          exact ⟨mulL (by decide) (by decide), q, d2, _, rfl, hk2, by omega, by omega, fun k d3 k0 k1 hk3 => ⟨mulL (by decide) (by decide), q, d3, _, rfl, hk3, by omega, by omega, fun j d4 j0 j1 hk4 => ⟨d4, k - u, j - v, rfl, hk4, by omega, by omega⟩⟩⟩
        rintro _ ⟨d3, s, t, rfl, hk3, hs, ht⟩
        have s3 : 3 ≤ sizeLine := sz1000 (by decide)
        have fin : ∀ (d4 : D) (x y w : Int), BagOk d4 → x.natAbs ≤ 4 → y.natAbs ≤ 4 → w = 1 → (ps.map dP).length < sizeLine ∧ ∃ (d2 : D) (ps_1 : List P3) (e3 e10 e12 : Sl), ([.own q d4, .val (.int pk), .val (.int size), .val (.int i), .own a (.lst (ps.map dP ++ [.tup [.int x, .int y, .int w]])), .no, .no, .val (.int u), .val (.int v), .no, .val (.int t), .no, .val (.int s), .no, .no, .no] : En) = [.own q d2, .val (.int pk), .val (.int size), e3, .own a (.lst (ps_1.map dP)), .no, .no, .val (.int u), .val (.int v), .no, e10, .no, e12, .no, .no, .no] ∧ BagOk d2 ∧ ps_1.length = i + 1 ∧ ∀ p ∈ ps_1, Bz 1000 p := fun d4 x y w hk4 hx hy hw =>
          ⟨by rw [List.length_map]; exact sz1001 (by omega), d4, ps ++ [(x, y, w)], .val (.int i), .val (.int t), .val (.int s), by simp [dP], hk4, by simp [hn], fun z hz => by
            rcases List.mem_append.mp hz with hz | hz
            · exact hb z hz
            · simp only [List.mem_cons, List.not_mem_nil, or_false] at hz
              subst hz
              exact ⟨by show x.natAbs ≤ 1000; omega, by show y.natAbs ≤ 1000; omega, by show 0 < w; omega, by show w ≤ 60; omega⟩⟩
        unfold sp__law_of
        walk_at "vs"
        refine ⟨s3, s3, s3, s3, s3, sz1000 (by decide), fun _ => ⟨q, d3, _, rfl, hk3, by simp, by show (5 : Nat) < 2 ^ 62; decide, ?_⟩⟩
        intro x d4 hx hk4
        simp only [List.mem_cons, List.not_mem_nil, or_false] at hx
        rcases hx with rfl | rfl | rfl | rfl | rfl
        all_goals exact fin d4 _ _ _ hk4 (by omega) (by omega) rfl
      · rintro _ ⟨d2, ps, e3, e10, e12, rfl, hk2, hn, hb⟩
        exact ⟨d2, a, ps, _, _, _, _, _, _, _, _, _, rfl, hk2, fun e => by rw [e] at hn; simp at hn; omega, by omega, fun p hp => big31 p (hb p hp)⟩
    split
    · -- all alike
      unfold sp__law_point
      walk_at "vs"
      refine ⟨q, d1, 2, rfl, hk1, by decide, by decide, fun p d2 hp hk2 => ⟨sz1000 (by decide), fun _ => ⟨divB (by decide) (by decide), by omega, by omega, ?_, fun a => ?_⟩⟩⟩
      · exact sz1000 (by omega)
      · obtain ⟨n, hn⟩ : ∃ n : Nat, (1 + size / 4).toNat = n := ⟨_, rfl⟩
        rw [hn]
        have e : (List.replicate n [dP p]).flatten = (List.replicate n p).map dP := by
          rw [List.map_replicate]
          clear hn
          induction n with
          | zero => rfl
          | succ n ih => rw [List.replicate_succ, List.flatten_cons, ih, List.replicate_succ]; rfl
        rw [e]
        refine ⟨d2, a, List.replicate n p, _, _, _, _, _, _, _, _, _, rfl, hk2, fun e => ?_, by rw [List.length_replicate]; omega, fun y hy => big31 y ?_⟩
        · have := congrArg List.length e
          rw [List.length_replicate] at this
          simp at this
          omega
        · rw [(List.mem_replicate.mp hy).2]
          exact hp
    · refine comp_points hk1 s1 s12 (by decide) (by decide) fun a ps d2 hk2 h1 h2 h3 => ?_
      walk_at "vs"
      exact ⟨d2, a, ps, _, _, _, _, _, _, _, _, _, rfl, hk2, h1, h2, fun p hp => big31 p (h3 p hp)⟩
  rintro _ ⟨d2, a, ps, e3, e5, e6, e7, e8, e9, e10, e11, e12, rfl, hk2, hne, hl, hb⟩
  walk_at "vs"
  refine ⟨sz1000 (by decide), fun a' => ?_⟩
  refine ⟨fun en => ∃ (d3 : D) (rs : List P3) (e14 e15 : Sl), en = [.own q d3, .val (.int pk), .val (.int size), e3, .own a (.lst (ps.map dP)), e5, e6, e7, e8, e9, e10, e11, e12, .own a' (.lst (rs.map dP)), e14, e15] ∧ BagOk d3 ∧ rs ≠ [] ∧ rs.length ≤ 15 ∧ ∀ p ∈ rs, p.1.natAbs < 2 ^ 110 ∧ p.2.1.natAbs < 2 ^ 110 ∧ 0 < p.2.2 ∧ p.2.2 < 2 ^ 12, ?_, ?_⟩
  · refine forLo_w (fun ds en => ∃ ps2 : List P3, ds = ps2.map dP ∧ ps2 ≠ [] ∧ ps2.length ≤ 15 ∧ (∀ p ∈ ps2, Bz (10 ^ 31) p) ∧ ∃ d3, en = [.own q d3, .val (.int pk), .val (.int size), e3, .own a (.lst (ps.map dP)), e5, e6, e7, e8, e9, e10, e11, e12, .own a' (.lst []), .no, .no] ∧ BagOk d3)
      (fun i en => ∃ (d3 : D) (rs : List P3) (e14 e15 : Sl), en = [.own q d3, .val (.int pk), .val (.int size), e3, .own a (.lst (ps.map dP)), e5, e6, e7, e8, e9, e10, e11, e12, .own a' (.lst (rs.map dP)), e14, e15] ∧ BagOk d3 ∧ rs.length = i ∧ ∀ p ∈ rs, p.1.natAbs < 2 ^ 110 ∧ p.2.1.natAbs < 2 ^ 110 ∧ 0 < p.2.2 ∧ p.2.2 < 2 ^ 12) ?_ ?_ ?_ ?_
    · intro Φ z
      unfold sp__law_draw
      walk_at "vs"
      refine ⟨q, d2, 4, rfl, hk2, by decide, by decide, fun k d3 k0 k1 hk3 => fun p1 => ?_⟩
      rw [cut_map]
      have lc : (cutG ps none (some k)).length ≤ 3 := by
        unfold cutG
        rw [HT.sIx_none, List.drop_zero, List.length_take]
        have : HT.sIx ps.length ps.length (some k) ≤ 3 := by
          obtain ⟨n, rfl⟩ : ∃ n : Nat, k = n := ⟨k.toNat, by omega⟩
          rw [HT.sIx_nat]
          omega
        omega
      refine ⟨sz1000 (by rw [List.length_map, List.length_map]; omega), fun p2 => z _ _ p2 ⟨ps ++ cutG ps none (some k), by rw [List.map_append], by simp [hne], by rw [List.length_append]; omega, fun p hp => ?_, d3, rfl, hk3⟩⟩
      rcases List.mem_append.mp hp with hp | hp
      · exact hb p hp
      · exact hb p (List.mem_of_mem_drop (List.mem_of_mem_take hp))
    · rintro ds _ ⟨ps2, rfl, _, _, _, d3, rfl, hk3⟩
      exact ⟨d3, [], _, _, rfl, hk3, rfl, by simp⟩
    · rintro ds _ i d _ ⟨ps2, rfl, _, hl2, hb2, _⟩ hd ⟨d3, rs, e14, e15, rfl, hk3, hn, hrs⟩
      obtain ⟨p, hp, rfl⟩ := get_map hd
      have hi := (List.getElem?_eq_some_iff.mp hp).1
      obtain ⟨p1, p2, p3, p4⟩ := hb2 p (List.mem_of_getElem? hp)
      show tCutD _ _ _ _
      refine ⟨fun en => ∃ (d4 : D) (g : Int), en = [.own q d4, .val (.int pk), .val (.int size), e3, .own a (.lst (ps.map dP)), e5, e6, e7, e8, e9, e10, e11, e12, .own a' (.lst (rs.map dP)), .val (dP p), .val (.int g)] ∧ BagOk d4 ∧ 1 ≤ g ∧ g ≤ 7, ?_, ?_⟩
      · unfold sp__law_of
        walk_at "vs"
        refine ⟨sz1000 (by decide), fun _ => ⟨q, d3, _, rfl, hk3, by simp, by decide, ?_⟩⟩
        intro x d4 hx hk4
        simp only [List.mem_cons, List.not_mem_nil, or_false] at hx
        rcases hx with rfl | rfl | rfl | rfl | rfl <;> exact ⟨d4, _, rfl, hk4, by decide, by decide⟩
      rintro _ ⟨d4, g, rfl, hk4, g1, g7⟩
      have m1 : (p.1 * g).natAbs ≤ 10 ^ 31 * 7 := by rw [Int.natAbs_mul]; exact Nat.mul_le_mul p1 (by omega)
      have m2 : (p.2.1 * g).natAbs ≤ 10 ^ 31 * 7 := by rw [Int.natAbs_mul]; exact Nat.mul_le_mul p2 (by omega)
      have m3 : p.2.2 * g ≤ 60 * 7 := Int.mul_le_mul p4 g7 (by omega) (by omega)
      have m4 : 0 < p.2.2 * g := Int.mul_pos p3 (by omega)
      have ed : dP p = .tup [.int p.1, .int p.2.1, .int p.2.2] := rfl
      rw [ed]
      walk_at "vs"
      refine ⟨mulR (by omega) (by omega), mulR (by omega) (by omega), mulR (by omega) (by omega), sz1000 (by decide), by rw [List.length_map]; exact sz1001 (by omega), d4, rs ++ [(p.1 * g, p.2.1 * g, p.2.2 * g)], .val (.tup [.int p.1, .int p.2.1, .int p.2.2]), .val (.int g), by simp [dP], hk4, by simp [hn], fun z hz => ?_⟩
      rcases List.mem_append.mp hz with hz | hz
      · exact hrs z hz
      · simp only [List.mem_cons, List.not_mem_nil, or_false] at hz
        subst hz
        exact ⟨by show (p.1 * g).natAbs < 2 ^ 110; omega, by show (p.2.1 * g).natAbs < 2 ^ 110; omega, m4, by show p.2.2 * g < 2 ^ 12; omega⟩
    · rintro ds _ _ ⟨ps2, rfl, hne2, hl2, _⟩ ⟨d3, rs, e14, e15, rfl, hk3, hn, hrs⟩
      rw [List.length_map] at hn
      exact ⟨d3, rs, e14, e15, rfl, hk3, fun e => by rw [e] at hn; exact hne2 (List.length_eq_zero_iff.mp hn.symm), by omega, hrs⟩
  rintro _ ⟨d3, rs, e14, e15, rfl, hk3, rne, rl, hrs⟩
  show tFrzD _ _ _ _
  unfold sp__law_shuffled
  walk_at "vs"
  refine ⟨q, d3, _, rfl, hk3, by rw [List.length_map]; omega, fun b es d4 hp hk4 => ?_⟩
  obtain ⟨rs', hp', rfl⟩ := perm_map hp rs rfl
  exact h b rs' d4 (fun e => by rw [e] at hp'; exact rne (List.Perm.nil_eq hp').symm) (by rw [hp'.length_eq]; exact rl) (fun p hp => hrs p (hp'.mem_iff.mp hp)) hk4
end VS

namespace VS
open PySem L2 PySem.Spec PyProof.Rows
local macro_rules | `(tactic| walk_at "vs") => `(tactic| simp (maxSteps := 400000) only [tSeqD, tEitD, tEitS, tRevD, tRepD, tNewT, tPutT, gListT, gGcd3, gLt2, tFgtD, tIfSD, tRetD, retD, tSetD, tSetV, tVarD, tConD, tOpD, tUnD, tCaD, tCallD, tConsD, tNilD, tTupD, tLstD, tValD, tAndD, tOrD, tNotD, tIfD, tAndDV, tOrDV, tNotDV, tAsgD, tParD, tPar3D, tNamG, tTupG, tNilG, tConsG, tUnlG, tDropD, tNextD, tBrkD, tCntD, tNeverD, tStoD, tMetD, tSlLD, tNoPartD, tPartD, tChD, tIsiD, tIsiTD, tIsi3D, tFrzD, q0, tYesD, wipeD,
  gI0, gII, gIB, gAdd, gU, gEq, gIx, gIsN, gLen, gInt, gAbs, gBool, gList, gTupC, mAppend, mPop, mPopAt, mInsert, mReverse, rd, rds, vl, vls, slR, nob, mkArgs, bors, putOwns, edOf, outsP, noR, shD, eqD,
  List.getElem?_cons_zero, List.getElem?_cons_succ, List.getElem?_nil, List.set_cons_zero, List.set_cons_succ, List.cons_append, List.nil_append, List.length_cons, List.length_nil, List.replicate, Nat.add_sub_cancel, Nat.sub_self, Nat.reduceAdd, Nat.reduceSub, Int.reduceToNat, Int.reducePow, Int.reduceNeg, Int.reduceAdd, Int.reduceSub, Int.reduceMul, id_eq, true_and, and_true, List.nodup_nil, if_true, if_false, List.nodup_cons, List.not_mem_nil, not_false_eq_true, Bool.not_true, Bool.not_false, Bool.true_or, Bool.or_false, Bool.false_or, decide_eq_true_eq, Bool.false_eq_true, XF,
  Bool.or_true, bne_self_eq_false, isT_dict_non, isT_dict_bl, isT_dict_int, isT_dict_str, isT_dict_tup, isT_dict_lst, isT_list_non, isT_list_bl, isT_list_int, isT_list_str, isT_list_tup, isT_list_lst, isT_tuple_non, isT_tuple_bl, isT_tuple_int, isT_tuple_str, isT_tuple_tup, isT_tuple_lst, isT_bool_non, isT_bool_bl, isT_bool_int, isT_bool_str, isT_bool_tup, isT_bool_lst, isT_str_non, isT_str_bl, isT_str_int, isT_str_str, isT_str_tup, isT_str_lst, isT_int_non, isT_int_bl, isT_int_int, isT_int_str, isT_int_tup, isT_int_lst,
  atI0, atI1, atI2, atI3, atI4, ixN51, ixN52, ixN53, ixN54])
local macro_rules | `(tactic| walk_at "vh") => `(tactic| simp (maxSteps := 400000) only [tSeqD, tEitD, tEitS, tRevD, tRepD, tNewT, tPutT, gListT, gGcd3, gLt2, tFgtD, tIfSD, tRetD, retD, tSetD, tSetV, tVarD, tConD, tOpD, tUnD, tCaD, tCallD, tConsD, tNilD, tTupD, tLstD, tValD, tAndD, tOrD, tNotD, tIfD, tAndDV, tOrDV, tNotDV, tAsgD, tParD, tPar3D, tNamG, tTupG, tNilG, tConsG, tUnlG, tDropD, tNextD, tBrkD, tCntD, tNeverD, tStoD, tMetD, tSlLD, tNoPartD, tPartD, tChD, tIsiD, tIsiTD, tIsi3D, tFrzD, q0, tYesD, wipeD,
  gI0, gII, gIB, gAdd, gU, gEq, gIx, gIsN, gLen, gInt, gAbs, gBool, gList, gTupC, mAppend, mPop, mPopAt, mInsert, mReverse, rd, rds, vl, vls, slR, nob, mkArgs, bors, putOwns, edOf, outsP, noR, shD, eqD,
  List.getElem?_cons_zero, List.getElem?_cons_succ, List.getElem?_nil, List.set_cons_zero, List.set_cons_succ, List.cons_append, List.nil_append, List.length_cons, List.length_nil, List.replicate, Nat.add_sub_cancel, Nat.sub_self, Nat.reduceAdd, Nat.reduceSub, Int.reduceToNat, Int.reducePow, Int.reduceNeg, Int.reduceAdd, Int.reduceSub, Int.reduceMul, id_eq, true_and, and_true, List.nodup_nil, if_true, if_false, List.nodup_cons, List.not_mem_nil, not_false_eq_true, Bool.not_true, Bool.not_false, Bool.true_or, Bool.or_false, Bool.false_or, decide_eq_true_eq, Bool.false_eq_true, XF,
  Bool.or_true, bne_self_eq_false, isT_dict_non, isT_dict_bl, isT_dict_int, isT_dict_str, isT_dict_tup, isT_dict_lst, isT_list_non, isT_list_bl, isT_list_int, isT_list_str, isT_list_tup, isT_list_lst, isT_tuple_non, isT_tuple_bl, isT_tuple_int, isT_tuple_str, isT_tuple_tup, isT_tuple_lst, isT_bool_non, isT_bool_bl, isT_bool_int, isT_bool_str, isT_bool_tup, isT_bool_lst, isT_str_non, isT_str_bl, isT_str_int, isT_str_str, isT_str_tup, isT_str_lst, isT_int_non, isT_int_bl, isT_int_int, isT_int_str, isT_int_tup, isT_int_lst,
  atI0, atI1, atI2, atI3, atI4, ixN51, ixN52, ixN53, ixN54, *])
local macro_rules | `(tactic| walk_at "lf") => `(tactic| ((repeat' (with_reducible apply And.intro)) <;> first | exact mulR (by decide) (by decide) | exact pow1018 | exact pow3 (by omega) | exact divB (by omega) (by omega) | exact Int.emod_nonneg _ (by omega) | exact Int.emod_lt_of_pos _ (by omega) | exact Int.ediv_nonneg (by omega) (by omega) | omega | decide | assumption | skip))
local macro_rules | `(tactic| walk_at "vn") => `(tactic| simp (maxSteps := 400000) only [tSeqD, tEitD, tEitS, tRevD, tRepD, tNewT, tPutT, gListT, gGcd3, gLt2, tFgtD, tIfSD, tRetD, retD, tSetD, tSetV, tVarD, tConD, tOpD, tUnD, tCaD, tCallD, tConsD, tNilD, tTupD, tLstD, tValD, tAndD, tOrD, tNotD, tIfD, tAndDV, tOrDV, tNotDV, tAsgD, tParD, tPar3D, tNamG, tTupG, tNilG, tConsG, tUnlG, tDropD, tNextD, tBrkD, tCntD, tNeverD, tStoD, tMetD, tSlLD, tNoPartD, tPartD, tChD, tIsiD, tIsiTD, tIsi3D, tFrzD, q0, tYesD, wipeD,
  gI0, gII, gIB, gAdd, gU, gEq, gIx, gIsN, gLen, gInt, gAbs, gBool, gList, gTupC, mAppend, mPop, mPopAt, mInsert, mReverse, rd, rds, vl, vls, slR, nob, mkArgs, bors, putOwns, edOf, outsP, noR,
  List.getElem?_cons_zero, List.getElem?_cons_succ, List.getElem?_nil, List.set_cons_zero, List.set_cons_succ, List.cons_append, List.nil_append, List.length_cons, List.length_nil, List.replicate, Nat.add_sub_cancel, Nat.sub_self, Nat.reduceAdd, Nat.reduceSub, Int.reduceToNat, Int.reducePow, Int.reduceNeg, Int.reduceAdd, Int.reduceSub, Int.reduceMul, id_eq, true_and, and_true, List.nodup_nil, if_true, if_false, List.nodup_cons, List.not_mem_nil, not_false_eq_true, Bool.not_true, Bool.not_false, Bool.true_or, Bool.or_false, Bool.false_or, decide_eq_true_eq, Bool.false_eq_true, XF,
  Bool.or_true, bne_self_eq_false, isT_dict_non, isT_dict_bl, isT_dict_int, isT_dict_str, isT_dict_tup, isT_dict_lst, isT_list_non, isT_list_bl, isT_list_int, isT_list_str, isT_list_tup, isT_list_lst, isT_tuple_non, isT_tuple_bl, isT_tuple_int, isT_tuple_str, isT_tuple_tup, isT_tuple_lst, isT_bool_non, isT_bool_bl, isT_bool_int, isT_bool_str, isT_bool_tup, isT_bool_lst, isT_str_non, isT_str_bl, isT_str_int, isT_str_str, isT_str_tup, isT_str_lst, isT_int_non, isT_int_bl, isT_int_int, isT_int_str, isT_int_tup, isT_int_lst,
  atI0, atI1, atI2, atI3, atI4, ixN51, ixN52, ixN53, ixN54])

def sp_cross : Spc := fun args Φ _ => ∃ p q : P3, args = [.val (dP p), .val (dP q)] ∧ Bh p ∧ Bh q ∧ Φ (.val (.int (crossI p q))) []
/-- slots: 0 p, 1 q -/
def T_cross : TDs :=
  (tRetD (tOpD (gI0 (· - ·)) (tOpD (gII CMulA (· * ·)) (tOpD gIx (tVarD 0) (tConD (.int 0))) (tOpD gIx (tVarD 1) (tConD (.int 1)))) (tOpD (gII CMulA (· * ·)) (tOpD gIx (tVarD 0) (tConD (.int 1))) (tOpD gIx (tVarD 1) (tConD (.int 0))))))
theorem rd_cross {args : En} {Φ : Res → List D → Prop} {Ψ : Xc → List D → Prop} (h : sp_cross args Φ Ψ) : T_cross (edOf args Φ XN) (noR ["p", "q"] args) := by
  obtain ⟨p, q, rfl, ⟨p1, p2, p3, p4⟩, ⟨q1, q2, q3, q4⟩, h⟩ := h
  unfold T_cross dP
  walk_at "vs"
  exact ⟨big (up p1 (by decide)) (up q2 (by decide)), big (up p2 (by decide)) (up q1 (by decide)), h⟩
def optP : Option P3 → D
  | none => .non
  | some f => dP f
theorem fold_from : ∀ {l : List P3} {acc : Option P3} {f : P3}, l.foldl rstep acc = some f → acc = some f ∨ f ∈ l
  | [], _, _, h => .inl h
  | p :: l, acc, f, h => by
    rcases fold_from (l := l) (acc := rstep acc p) h with z | z
    · cases acc with
      | none =>
        unfold rstep at z
        simp only at z
        split at z
        · cases z; exact .inr (by simp)
        · cases z
      | some g =>
        unfold rstep at z
        simp only at z
        split at z
        · cases z; exact .inr (by simp)
        · exact .inl z
    · exact .inr (List.mem_cons_of_mem _ z)
def SeqP (ps : List P3) (s : D) : Prop := s = .lst (ps.map dP) ∨ s = .tup (ps.map dP)
def sp_rightmost : Spc := fun args Φ _ => ∃ (ps : List P3) (s : D), args = [.val s] ∧ SeqP ps s ∧ ps.length ≤ 100 ∧ (∀ p ∈ ps, Bh p) ∧ Φ (.val (optP (rightm ps))) []
/-- slots: 0 points, 1 first, 2 p -/
def T_rightmost : TDs :=
  (tSeqD (tSetV 1 (tConD .non))
  (tCutD (tForLD (tOpD gAdd (tCaD gList (tConsD (tVarD 0) tNilD)) (tCaD gList (tConsD (tVarD 0) tNilD))) (tNamG 2) (tIfSD (tValD (tOpD (gIsN id) (tVarD 1) (tConD .non))) (tIfSD (tOrD (tValD (tOpD (gEq not) (tOpD gIx (tVarD 2) (tConD (.int 0))) (tConD (.int 0)))) (tValD (tOpD (gEq not) (tOpD gIx (tVarD 2) (tConD (.int 1))) (tConD (.int 0))))) (tSetV 1 (tVarD 2)) tNextD) (tIfSD (tValD (tOpD (gIB fun i j => decide (i < j)) (tCallD 2 (q0 sp_cross) (tConsD (tVarD 1) (tConsD (tVarD 2) tNilD))) (tConD (.int 0)))) (tSetV 1 (tVarD 2)) tNextD)))
  (tRetD (tVarD 1))))
theorem rd_rightmost {args : En} {Φ : Res → List D → Prop} {Ψ : Xc → List D → Prop} (h : sp_rightmost args Φ Ψ) : T_rightmost (edOf args Φ XN) (noR ["points", "first", "p"] args) := by
  obtain ⟨ps, s, rfl, hs, hl, hb, h⟩ := h
  unfold T_rightmost
  walk_at "vs"
  refine ⟨fun en => ∃ e2, en = [.val s, .val (optP (rightm ps)), e2], ?_, ?_⟩
  · refine forLo_i (fun i en => ∃ e2, en = [.val s, .val (optP (((ps ++ ps).take i).foldl rstep none)), e2]) (en1 := [.val s, .val .non, .no]) (ds := (ps ++ ps).map dP) (fun Φ z => ?_) ⟨_, rfl⟩ ?_ ?_
    · rw [List.map_append] at z
      rcases hs with rfl | rfl
      · walk_at "vs"
        intro p1 p2
        exact ⟨sz1000 (by rw [List.length_map]; omega), z⟩
      · walk_at "vs"
        intro p1 p2
        exact ⟨sz1000 (by rw [List.length_map]; omega), z⟩
    · rintro i d _ hd ⟨e2, rfl⟩
      obtain ⟨p, hp, rfl⟩ := get_map hd
      have mp : p ∈ ps := (List.mem_append.mp (List.mem_of_getElem? hp)).elim id id
      have bp := hb p mp
      have es : ((ps ++ ps).take (i + 1)).foldl rstep none = rstep (((ps ++ ps).take i).foldl rstep none) p := by
        rw [List.take_succ, hp, List.foldl_append]
        rfl
      have hg : ∀ f, ((ps ++ ps).take i).foldl rstep none = some f → f ∈ ps := fun f hf => by
        rcases fold_from hf with z | z
        · cases z
        · exact (List.mem_append.mp (List.mem_of_mem_take z)).elim id id
      rw [es]
      generalize hA : ((ps ++ ps).take i).foldl rstep none = A at *
      have ed : dP p = .tup [.int p.1, .int p.2.1, .int p.2.2] := rfl
      cases A with
      | none =>
        have e : optP (rstep none p) = if nzP p then dP p else .non := by
          unfold rstep
          simp only
          split <;> rfl
        rw [e]
        show _
        have e0 : optP none = .non := rfl
        rw [e0, ed]
        walk_at "vs"
        unfold nzP
        by_cases z1 : p.1 = 0
        · by_cases z2 : p.2.1 = 0
          · simp [z1, z2]
          · simp [z1, z2]
        · simp [z1]
      | some f =>
        have e : optP (rstep (some f) p) = if crossI f p < 0 then dP p else dP f := by
          unfold rstep
          simp only
          split <;> rfl
        rw [e]
        have e0 : optP (some f) = .tup [.int f.1, .int f.2.1, .int f.2.2] := rfl
        have e1 : dP f = .tup [.int f.1, .int f.2.1, .int f.2.2] := rfl
        rw [e0]
        unfold sp_cross
        walk_at "vs"
        refine ⟨f, p, by rw [e1], hb f (hg f rfl), bp, ?_⟩
        rw [e1]
        split
        · exact ⟨_, rfl⟩
        · exact ⟨_, rfl⟩
    · rintro _ ⟨e2, rfl⟩
      rw [List.length_map, List.take_length]
      exact ⟨e2, rfl⟩
  rintro _ ⟨e2, rfl⟩
  walk_at "vs"
  exact h
def sideD (ps : List P3) : D := match rightm ps with
  | none => .tup [.int 1, .int 0]
  | some f => if ∀ p ∈ ps, 0 ≤ crossI f p then .tup [.int (-f.2.1), .int f.1] else .non
def sp_side_found : Spc := fun args Φ _ => ∃ (ps : List P3) (s : D), args = [.val s] ∧ SeqP ps s ∧ ps.length ≤ 100 ∧ (∀ p ∈ ps, Bh p) ∧ Φ (.val (sideD ps)) []
/-- slots: 0 points, 1 first, 2 p -/
def T_side_found : TDs :=
  (tCutD (tSetV 1 (tCallD 1 (q0 sp_rightmost) (tConsD (tVarD 0) tNilD)))
  (tCutD (tIfSD (tValD (tOpD (gIsN id) (tVarD 1) (tConD .non))) (tRetD (tTupD (tConsD (tConD (.int 1)) (tConsD (tConD (.int 0)) tNilD)))) tNextD)
  (tCutD (tEitS (tForLD (tVarD 0) (tNamG 2) (tIfSD (tValD (tOpD (gIB fun i j => decide (i < j)) (tCallD 2 (q0 sp_cross) (tConsD (tVarD 1) (tConsD (tVarD 2) tNilD))) (tConD (.int 0)))) (tRetD (tConD .non)) tNextD)) (tForTD (tVarD 0) (tNamG 2) (tIfSD (tValD (tOpD (gIB fun i j => decide (i < j)) (tCallD 2 (q0 sp_cross) (tConsD (tVarD 1) (tConsD (tVarD 2) tNilD))) (tConD (.int 0)))) (tRetD (tConD .non)) tNextD)))
  (tRetD (tTupD (tConsD (tUnD (gU fun i => -i) (tOpD gIx (tVarD 1) (tConD (.int 1)))) (tConsD (tOpD gIx (tVarD 1) (tConD (.int 0))) tNilD)))))))
theorem rd_side_found {args : En} {Φ : Res → List D → Prop} {Ψ : Xc → List D → Prop} (h : sp_side_found args Φ Ψ) : T_side_found (edOf args Φ XN) (noR ["points", "first", "p"] args) := by
  obtain ⟨ps, s, rfl, hs, hl, hb, h⟩ := h
  unfold T_side_found
  refine ⟨fun en => en = [.val s, .val (optP (rightm ps)), .no], ?_, ?_⟩
  · unfold sp_rightmost
    walk_at "vs"
    exact ⟨ps, s, rfl, hs, hl, hb, rfl⟩
  rintro _ rfl
  unfold sideD at h
  cases hA : rightm ps with
  | none =>
    rw [hA] at h
    have e0 : optP none = .non := rfl
    rw [e0]
    refine ⟨fun _ => False, ?_, fun _ z => z.elim⟩
    walk_at "vs"
    exact ⟨sz1000 (by decide), h⟩
  | some f =>
    rw [hA] at h
    simp only at h
    have mf := (rightm_mem hA).1
    have bf := hb f mf
    have e0 : optP (some f) = dP f := rfl
    have e1 : dP f = .tup [.int f.1, .int f.2.1, .int f.2.2] := rfl
    rw [e0]
    refine ⟨fun en => en = [.val s, .val (dP f), .no], ?_, ?_⟩
    · rw [e1]
      walk_at "vs"
    rintro _ rfl
    refine ⟨fun en => (∃ e2, en = [.val s, .val (dP f), e2]) ∧ ∀ p ∈ ps, 0 ≤ crossI f p, ?_, ?_⟩
    · have no : ∀ p ∈ ps, crossI f p < 0 → Φ (.val .non) [] := fun p hp z => by
        rw [if_neg (fun k => by have := k p hp; omega)] at h
        exact h
      have tk : ∀ {i : Nat} {p : P3}, ps[i]? = some p → (∀ x ∈ ps.take i, 0 ≤ crossI f x) → 0 ≤ crossI f p → ∀ x ∈ ps.take (i + 1), 0 ≤ crossI f x := fun {i p} hp h1 h2 x hx => by
        rw [List.take_succ, hp] at hx
        simp only [Option.toList_some, List.mem_append, List.mem_cons, List.not_mem_nil, or_false] at hx
        rcases hx with z | z
        · exact h1 x z
        · rw [z]; exact h2
      rcases hs with rfl | rfl
      · generalize hS : Sl.val (D.lst (ps.map dP)) = S at *
        refine .inl (forL_i (fun i en => (∃ e2, en = [S, .val (dP f), e2]) ∧ ∀ x ∈ ps.take i, 0 ≤ crossI f x) (en1 := [S, .val (dP f), .no]) (ds := ps.map dP) (fun Φ z => ?_) ⟨⟨_, rfl⟩, by simp⟩ ?_ ?_)
        · subst hS
          walk_at "vs"
          exact z
        · rintro i d _ hd ⟨⟨e2, rfl⟩, hx⟩
          obtain ⟨p, hp, rfl⟩ := get_map hd
          have mp := List.mem_of_getElem? hp
          unfold sp_cross
          walk_at "vs"
          refine ⟨f, p, rfl, bf, hb p mp, ?_⟩
          split
          · rename_i z
            subst hS
            exact no p mp z
          · rename_i z
            exact ⟨⟨_, rfl⟩, tk hp hx (by omega)⟩
        · rintro _ ⟨⟨e2, rfl⟩, hx⟩
          rw [List.length_map, List.take_length] at hx
          exact ⟨⟨e2, rfl⟩, hx⟩
      · generalize hS : Sl.val (D.tup (ps.map dP)) = S at *
        refine .inr (forT_i (fun i en => (∃ e2, en = [S, .val (dP f), e2]) ∧ ∀ x ∈ ps.take i, 0 ≤ crossI f x) (en1 := [S, .val (dP f), .no]) (ds := ps.map dP) (fun Φ z => ?_) ⟨⟨_, rfl⟩, by simp⟩ ?_ ?_)
        · subst hS
          walk_at "vs"
          exact z
        · rintro i d _ hd ⟨⟨e2, rfl⟩, hx⟩
          obtain ⟨p, hp, rfl⟩ := get_map hd
          have mp := List.mem_of_getElem? hp
          unfold sp_cross
          walk_at "vs"
          refine ⟨f, p, rfl, bf, hb p mp, ?_⟩
          split
          · rename_i z
            subst hS
            exact no p mp z
          · rename_i z
            exact ⟨⟨_, rfl⟩, tk hp hx (by omega)⟩
        · rintro _ ⟨⟨e2, rfl⟩, hx⟩
          rw [List.length_map, List.take_length] at hx
          exact ⟨⟨e2, rfl⟩, hx⟩
    rintro _ ⟨⟨e2, rfl⟩, hx⟩
    rw [if_pos hx] at h
    rw [e1]
    walk_at "vs"
    exact ⟨sz1000 (by decide), h⟩
def sp_touches_zero : Spc := fun args Φ _ => ∃ (ps : List P3) (s : D), args = [.val s] ∧ SeqP ps s ∧ ps.length ≤ 100 ∧ (∀ p ∈ ps, Bh p) ∧ ∀ b : Bool, (b = true ↔ Touch ps) → Φ (.val (.bl b)) []
/-- slots: 0 points, 1 first, 2 p, 3 turn -/
def T_touches_zero : TDs :=
  (tCutD (tSetV 1 (tCallD 1 (q0 sp_rightmost) (tConsD (tVarD 0) tNilD)))
  (tCutD (tIfSD (tValD (tOpD (gIsN id) (tVarD 1) (tConD .non))) (tRetD (tConD (.bl true))) tNextD)
  (tCutD (tEitS (tForLD (tVarD 0) (tNamG 2) (tCutD (tSetV 3 (tCallD 2 (q0 sp_cross) (tConsD (tVarD 1) (tConsD (tVarD 2) tNilD))))
  (tCutD (tIfSD (tValD (tOpD (gIB fun i j => decide (i < j)) (tVarD 3) (tConD (.int 0)))) (tRetD (tConD (.bl true))) tNextD)
  (tIfSD (tAndD (tValD (tOpD (gEq id) (tVarD 3) (tConD (.int 0)))) (tValD (tOpD (gIB fun i j => decide (i ≤ j)) (tOpD gAdd (tOpD (gII CMulA (· * ·)) (tOpD gIx (tVarD 1) (tConD (.int 0))) (tOpD gIx (tVarD 2) (tConD (.int 0)))) (tOpD (gII CMulA (· * ·)) (tOpD gIx (tVarD 1) (tConD (.int 1))) (tOpD gIx (tVarD 2) (tConD (.int 1))))) (tConD (.int 0))))) (tRetD (tConD (.bl true))) tNextD)))) (tForTD (tVarD 0) (tNamG 2) (tCutD (tSetV 3 (tCallD 2 (q0 sp_cross) (tConsD (tVarD 1) (tConsD (tVarD 2) tNilD))))
  (tCutD (tIfSD (tValD (tOpD (gIB fun i j => decide (i < j)) (tVarD 3) (tConD (.int 0)))) (tRetD (tConD (.bl true))) tNextD)
  (tIfSD (tAndD (tValD (tOpD (gEq id) (tVarD 3) (tConD (.int 0)))) (tValD (tOpD (gIB fun i j => decide (i ≤ j)) (tOpD gAdd (tOpD (gII CMulA (· * ·)) (tOpD gIx (tVarD 1) (tConD (.int 0))) (tOpD gIx (tVarD 2) (tConD (.int 0)))) (tOpD (gII CMulA (· * ·)) (tOpD gIx (tVarD 1) (tConD (.int 1))) (tOpD gIx (tVarD 2) (tConD (.int 1))))) (tConD (.int 0))))) (tRetD (tConD (.bl true))) tNextD)))))
  (tRetD (tConD (.bl false))))))
theorem rd_touches_zero {args : En} {Φ : Res → List D → Prop} {Ψ : Xc → List D → Prop} (h : sp_touches_zero args Φ Ψ) : T_touches_zero (edOf args Φ XN) (noR ["points", "first", "p", "turn"] args) := by
  obtain ⟨ps, s, rfl, hs, hl, hb, h⟩ := h
  unfold T_touches_zero
  refine ⟨fun en => en = [.val s, .val (optP (rightm ps)), .no, .no], ?_, ?_⟩
  · unfold sp_rightmost
    walk_at "vs"
    exact ⟨ps, s, rfl, hs, hl, hb, rfl⟩
  rintro _ rfl
  unfold Touch at h
  cases hA : rightm ps with
  | none =>
    rw [hA] at h
    have e0 : optP none = .non := rfl
    rw [e0]
    refine ⟨fun _ => False, ?_, fun _ z => z.elim⟩
    walk_at "vs"
    exact h true (by simp)
  | some f =>
    rw [hA] at h
    simp only at h
    have mf := (rightm_mem hA).1
    have bf := hb f mf
    obtain ⟨f1, f2, _, _⟩ := bf
    have bf := hb f mf
    have e0 : optP (some f) = dP f := rfl
    have e1 : dP f = .tup [.int f.1, .int f.2.1, .int f.2.2] := rfl
    rw [e0]
    refine ⟨fun en => en = [.val s, .val (dP f), .no, .no], ?_, ?_⟩
    · rw [e1]
      walk_at "vs"
    rintro _ rfl
    have yes : ∀ p ∈ ps, (crossI f p < 0 ∨ crossI f p = 0 ∧ dotI f p ≤ 0) → Φ (.val (.bl true)) [] := fun p hp z => h true (by simp only [true_iff]; exact ⟨p, hp, z⟩)
    refine ⟨fun en => (∃ e2 e3, en = [.val s, .val (dP f), e2, e3]) ∧ ∀ p ∈ ps, ¬ (crossI f p < 0 ∨ crossI f p = 0 ∧ dotI f p ≤ 0), ?_, ?_⟩
    · have tk : ∀ {i : Nat} {p : P3}, ps[i]? = some p → (∀ x ∈ ps.take i, ¬ (crossI f x < 0 ∨ crossI f x = 0 ∧ dotI f x ≤ 0)) → ¬ (crossI f p < 0 ∨ crossI f p = 0 ∧ dotI f p ≤ 0) → ∀ x ∈ ps.take (i + 1), ¬ (crossI f x < 0 ∨ crossI f x = 0 ∧ dotI f x ≤ 0) := fun {i p} hp h1 h2 x hx => by
        rw [List.take_succ, hp] at hx
        simp only [Option.toList_some, List.mem_append, List.mem_cons, List.not_mem_nil, or_false] at hx
        rcases hx with z | z
        · exact h1 x z
        · rw [z]; exact h2
      rcases hs with rfl | rfl
      · generalize hS : Sl.val (D.lst (ps.map dP)) = S at *
        refine .inl (forL_i (fun i en => (∃ e2 e3, en = [S, .val (dP f), e2, e3]) ∧ ∀ x ∈ ps.take i, ¬ (crossI f x < 0 ∨ crossI f x = 0 ∧ dotI f x ≤ 0)) (en1 := [S, .val (dP f), .no, .no]) (ds := ps.map dP) (fun Φ z => ?_) ⟨⟨_, _, rfl⟩, by simp⟩ ?_ ?_)
        · subst hS
          walk_at "vs"
          exact z
        · rintro i d _ hd ⟨⟨e2, e3, rfl⟩, hx⟩
          obtain ⟨p, hp, rfl⟩ := get_map hd
          have mp := List.mem_of_getElem? hp
          obtain ⟨p1, p2, _, _⟩ := hb p mp
          have ed : dP p = .tup [.int p.1, .int p.2.1, .int p.2.2] := rfl
          show tCutD _ _ _ _
          refine ⟨fun en => en = [S, .val (dP f), .val (dP p), .val (.int (crossI f p))], ?_, ?_⟩
          · unfold sp_cross
            walk_at "vs"
            exact ⟨f, p, rfl, bf, hb p mp, rfl⟩
          rintro _ rfl
          refine ⟨fun en => en = [S, .val (dP f), .val (dP p), .val (.int (crossI f p))] ∧ ¬ crossI f p < 0, ?_, ?_⟩
          · walk_at "vs"
            split
            · rename_i z
              subst hS
              exact yes p mp (.inl z)
            · rename_i z
              exact z
          rintro _ ⟨rfl, nz⟩
          have fin : ¬ (crossI f p = 0 ∧ dotI f p ≤ 0) → (∃ e2 e3, ([S, .val (dP f), .val (dP p), .val (.int (crossI f p))] : En) = [S, .val (dP f), e2, e3]) ∧ ∀ x ∈ ps.take (i + 1), ¬ (crossI f x < 0 ∨ crossI f x = 0 ∧ dotI f x ≤ 0) := fun z =>
            ⟨⟨_, _, rfl⟩, tk hp hx (by omega)⟩
          have fin2 := yes p mp
          unfold dotI at fin fin2
          rw [e1, ed] at fin ⊢
          walk_at "vs"
          split
          · rename_i z
            refine ⟨big (up f1 (by decide)) (up p1 (by decide)), big (up f2 (by decide)) (up p2 (by decide)), ?_⟩
            split
            · rename_i w
              subst hS
              exact fin2 (.inr ⟨by simpa using z, w⟩)
            · rename_i w
              exact fin fun k => w k.2
          · rename_i z
            exact fin fun k => z (by simpa using k.1)
        · rintro _ ⟨⟨e2, e3, rfl⟩, hx⟩
          rw [List.length_map, List.take_length] at hx
          exact ⟨⟨e2, e3, rfl⟩, hx⟩
      · generalize hS : Sl.val (D.tup (ps.map dP)) = S at *
        refine .inr (forT_i (fun i en => (∃ e2 e3, en = [S, .val (dP f), e2, e3]) ∧ ∀ x ∈ ps.take i, ¬ (crossI f x < 0 ∨ crossI f x = 0 ∧ dotI f x ≤ 0)) (en1 := [S, .val (dP f), .no, .no]) (ds := ps.map dP) (fun Φ z => ?_) ⟨⟨_, _, rfl⟩, by simp⟩ ?_ ?_)
        · subst hS
          walk_at "vs"
          exact z
        · rintro i d _ hd ⟨⟨e2, e3, rfl⟩, hx⟩
          obtain ⟨p, hp, rfl⟩ := get_map hd
          have mp := List.mem_of_getElem? hp
          obtain ⟨p1, p2, _, _⟩ := hb p mp
          have ed : dP p = .tup [.int p.1, .int p.2.1, .int p.2.2] := rfl
          show tCutD _ _ _ _
          refine ⟨fun en => en = [S, .val (dP f), .val (dP p), .val (.int (crossI f p))], ?_, ?_⟩
          · unfold sp_cross
            walk_at "vs"
            exact ⟨f, p, rfl, bf, hb p mp, rfl⟩
          rintro _ rfl
          refine ⟨fun en => en = [S, .val (dP f), .val (dP p), .val (.int (crossI f p))] ∧ ¬ crossI f p < 0, ?_, ?_⟩
          · walk_at "vs"
            split
            · rename_i z
              subst hS
              exact yes p mp (.inl z)
            · rename_i z
              exact z
          rintro _ ⟨rfl, nz⟩
          have fin : ¬ (crossI f p = 0 ∧ dotI f p ≤ 0) → (∃ e2 e3, ([S, .val (dP f), .val (dP p), .val (.int (crossI f p))] : En) = [S, .val (dP f), e2, e3]) ∧ ∀ x ∈ ps.take (i + 1), ¬ (crossI f x < 0 ∨ crossI f x = 0 ∧ dotI f x ≤ 0) := fun z =>
            ⟨⟨_, _, rfl⟩, tk hp hx (by omega)⟩
          have fin2 := yes p mp
          unfold dotI at fin fin2
          rw [e1, ed] at fin ⊢
          walk_at "vs"
          split
          · rename_i z
            refine ⟨big (up f1 (by decide)) (up p1 (by decide)), big (up f2 (by decide)) (up p2 (by decide)), ?_⟩
            split
            · rename_i w
              subst hS
              exact fin2 (.inr ⟨by simpa using z, w⟩)
            · rename_i w
              exact fin fun k => w k.2
          · rename_i z
            exact fin fun k => z (by simpa using k.1)
        · rintro _ ⟨⟨e2, e3, rfl⟩, hx⟩
          rw [List.length_map, List.take_length] at hx
          exact ⟨⟨e2, e3, rfl⟩, hx⟩
    rintro _ ⟨⟨e2, e3, rfl⟩, hx⟩
    walk_at "vs"
    exact h false ⟨fun z => (by cases z), fun ⟨p, hp, z⟩ => absurd z (hx p hp)⟩
theorem sideD_none {ps : List P3} : (∃ a b, sideD ps = .tup [.int a, .int b] ∧ Sided ps) ∨ sideD ps = .non ∧ ¬ Sided ps := by
  have k := sided_iff ps
  unfold sideD
  cases e : rightm ps with
  | none =>
    rw [e] at k
    exact .inl ⟨_, _, rfl, k.mpr trivial⟩
  | some f =>
    rw [e] at k
    simp only at k ⊢
    split
    · rename_i z
      exact .inl ⟨_, _, rfl, k.mpr z⟩
    · rename_i z
      exact .inr ⟨rfl, fun w => z (k.mp w)⟩
def sp_inner : Spc := fun args Φ _ => ∃ (ps : List P3) (s : D), args = [.val s] ∧ SeqP ps s ∧ ps.length ≤ 100 ∧ (∀ p ∈ ps, Bh p) ∧ ∀ b : Bool, (b = true ↔ ¬ Sided ps) → Φ (.val (.bl b)) []
/-- slots: 0 points -/
def T_inner : TDs :=
  (tRetD (tOpD (gIsN id) (tCallD 1 (q0 sp_side_found) (tConsD (tVarD 0) tNilD)) (tConD .non)))
theorem rd_inner {args : En} {Φ : Res → List D → Prop} {Ψ : Xc → List D → Prop} (h : sp_inner args Φ Ψ) : T_inner (edOf args Φ XN) (noR ["points"] args) := by
  obtain ⟨ps, s, rfl, hs, hl, hb, h⟩ := h
  unfold T_inner sp_side_found
  walk_at "vs"
  refine ⟨ps, s, rfl, hs, hl, hb, ?_⟩
  rcases sideD_none (ps := ps) with ⟨a, b, e, k⟩ | ⟨e, k⟩
  · rw [e]
    try walk_at "vs"
    exact h false ⟨fun z => (by cases z), fun z => absurd k z⟩
  · rw [e]
    try walk_at "vs"
    exact h true ⟨fun _ => k, fun _ => rfl⟩
def sp_touches : Spc := sp_touches_zero
/-- slots: 0 points -/
def T_touches : TDs :=
  (tRetD (tCallD 1 (q0 sp_touches_zero) (tConsD (tVarD 0) tNilD)))
theorem rd_touches {args : En} {Φ : Res → List D → Prop} {Ψ : Xc → List D → Prop} (h : sp_touches args Φ Ψ) : T_touches (edOf args Φ XN) (noR ["points"] args) := by
  obtain ⟨ps, s, rfl, hs, hl, hb, h⟩ := h
  unfold T_touches sp_touches_zero
  walk_at "vs"
  exact ⟨ps, s, rfl, hs, hl, hb, h⟩
def sp_side : Spc := sp_side_found
/-- slots: 0 points -/
def T_side : TDs :=
  (tRetD (tCallD 1 (q0 sp_side_found) (tConsD (tVarD 0) tNilD)))
theorem rd_side {args : En} {Φ : Res → List D → Prop} {Ψ : Xc → List D → Prop} (h : sp_side args Φ Ψ) : T_side (edOf args Φ XN) (noR ["points"] args) := by
  obtain ⟨ps, s, rfl, hs, hl, hb, h⟩ := h
  unfold T_side sp_side_found
  walk_at "vs"
  exact ⟨ps, s, rfl, hs, hl, hb, h⟩
end VS

namespace VS
open PySem L2 PySem.Spec PyProof.Rows
local macro_rules | `(tactic| walk_at "vs") => `(tactic| simp (maxSteps := 400000) only [tSeqD, tEitD, tEitS, tRevD, tRepD, tNewT, tPutT, gListT, gGcd3, gLt2, tFgtD, gAny, gMin, tIfSD, tRetD, retD, tSetD, tSetV, tVarD, tConD, tOpD, tUnD, tCaD, tCallD, tConsD, tNilD, tTupD, tLstD, tValD, tAndD, tOrD, tNotD, tIfD, tAndDV, tOrDV, tNotDV, tAsgD, tParD, tPar3D, tNamG, tTupG, tNilG, tConsG, tUnlG, tDropD, tNextD, tBrkD, tCntD, tNeverD, tStoD, tMetD, tSlLD, tNoPartD, tPartD, tChD, tIsiD, tIsiTD, tIsi3D, tFrzD, q0, tYesD, wipeD,
  gI0, gII, gIB, gAdd, gU, gEq, gIx, gIsN, gLen, gInt, gAbs, gBool, gList, gTupC, mAppend, mPop, mPopAt, mInsert, mReverse, rd, rds, vl, vls, slR, nob, mkArgs, bors, putOwns, edOf, outsP, noR, shD, eqD,
  List.getElem?_cons_zero, List.getElem?_cons_succ, List.getElem?_nil, List.set_cons_zero, List.set_cons_succ, List.cons_append, List.nil_append, List.length_cons, List.length_nil, List.replicate, Nat.add_sub_cancel, Nat.sub_self, Nat.reduceAdd, Nat.reduceSub, Int.reduceToNat, Int.reducePow, Int.reduceNeg, Int.reduceAdd, Int.reduceSub, Int.reduceMul, id_eq, true_and, and_true, List.nodup_nil, if_true, if_false, List.nodup_cons, List.not_mem_nil, not_false_eq_true, Bool.not_true, Bool.not_false, Bool.true_or, Bool.or_false, Bool.false_or, decide_eq_true_eq, Bool.false_eq_true, XF,
  Bool.or_true, bne_self_eq_false, isT_dict_non, isT_dict_bl, isT_dict_int, isT_dict_str, isT_dict_tup, isT_dict_lst, isT_list_non, isT_list_bl, isT_list_int, isT_list_str, isT_list_tup, isT_list_lst, isT_tuple_non, isT_tuple_bl, isT_tuple_int, isT_tuple_str, isT_tuple_tup, isT_tuple_lst, isT_bool_non, isT_bool_bl, isT_bool_int, isT_bool_str, isT_bool_tup, isT_bool_lst, isT_str_non, isT_str_bl, isT_str_int, isT_str_str, isT_str_tup, isT_str_lst, isT_int_non, isT_int_bl, isT_int_int, isT_int_str, isT_int_tup, isT_int_lst,
  atI0, atI1, atI2, atI3, atI4, ixN51, ixN52, ixN53, ixN54])
local macro_rules | `(tactic| walk_at "vh") => `(tactic| simp (maxSteps := 400000) only [tSeqD, tEitD, tEitS, tRevD, tRepD, tNewT, tPutT, gListT, gGcd3, gLt2, tFgtD, gAny, gMin, tIfSD, tRetD, retD, tSetD, tSetV, tVarD, tConD, tOpD, tUnD, tCaD, tCallD, tConsD, tNilD, tTupD, tLstD, tValD, tAndD, tOrD, tNotD, tIfD, tAndDV, tOrDV, tNotDV, tAsgD, tParD, tPar3D, tNamG, tTupG, tNilG, tConsG, tUnlG, tDropD, tNextD, tBrkD, tCntD, tNeverD, tStoD, tMetD, tSlLD, tNoPartD, tPartD, tChD, tIsiD, tIsiTD, tIsi3D, tFrzD, q0, tYesD, wipeD,
  gI0, gII, gIB, gAdd, gU, gEq, gIx, gIsN, gLen, gInt, gAbs, gBool, gList, gTupC, mAppend, mPop, mPopAt, mInsert, mReverse, rd, rds, vl, vls, slR, nob, mkArgs, bors, putOwns, edOf, outsP, noR, shD, eqD,
  List.getElem?_cons_zero, List.getElem?_cons_succ, List.getElem?_nil, List.set_cons_zero, List.set_cons_succ, List.cons_append, List.nil_append, List.length_cons, List.length_nil, List.replicate, Nat.add_sub_cancel, Nat.sub_self, Nat.reduceAdd, Nat.reduceSub, Int.reduceToNat, Int.reducePow, Int.reduceNeg, Int.reduceAdd, Int.reduceSub, Int.reduceMul, id_eq, true_and, and_true, List.nodup_nil, if_true, if_false, List.nodup_cons, List.not_mem_nil, not_false_eq_true, Bool.not_true, Bool.not_false, Bool.true_or, Bool.or_false, Bool.false_or, decide_eq_true_eq, Bool.false_eq_true, XF,
  Bool.or_true, bne_self_eq_false, isT_dict_non, isT_dict_bl, isT_dict_int, isT_dict_str, isT_dict_tup, isT_dict_lst, isT_list_non, isT_list_bl, isT_list_int, isT_list_str, isT_list_tup, isT_list_lst, isT_tuple_non, isT_tuple_bl, isT_tuple_int, isT_tuple_str, isT_tuple_tup, isT_tuple_lst, isT_bool_non, isT_bool_bl, isT_bool_int, isT_bool_str, isT_bool_tup, isT_bool_lst, isT_str_non, isT_str_bl, isT_str_int, isT_str_str, isT_str_tup, isT_str_lst, isT_int_non, isT_int_bl, isT_int_int, isT_int_str, isT_int_tup, isT_int_lst,
  atI0, atI1, atI2, atI3, atI4, ixN51, ixN52, ixN53, ixN54, *])
local macro_rules | `(tactic| walk_at "lf") => `(tactic| ((repeat' (with_reducible apply And.intro)) <;> first | exact mulR (by decide) (by decide) | exact pow1018 | exact pow3 (by omega) | exact divB (by omega) (by omega) | exact Int.emod_nonneg _ (by omega) | exact Int.emod_lt_of_pos _ (by omega) | exact Int.ediv_nonneg (by omega) (by omega) | omega | decide | assumption | skip))
local macro_rules | `(tactic| walk_at "vn") => `(tactic| simp (maxSteps := 400000) only [tSeqD, tEitD, tEitS, tRevD, tRepD, tNewT, tPutT, gListT, gGcd3, gLt2, tFgtD, gAny, gMin, tIfSD, tRetD, retD, tSetD, tSetV, tVarD, tConD, tOpD, tUnD, tCaD, tCallD, tConsD, tNilD, tTupD, tLstD, tValD, tAndD, tOrD, tNotD, tIfD, tAndDV, tOrDV, tNotDV, tAsgD, tParD, tPar3D, tNamG, tTupG, tNilG, tConsG, tUnlG, tDropD, tNextD, tBrkD, tCntD, tNeverD, tStoD, tMetD, tSlLD, tNoPartD, tPartD, tChD, tIsiD, tIsiTD, tIsi3D, tFrzD, q0, tYesD, wipeD,
  gI0, gII, gIB, gAdd, gU, gEq, gIx, gIsN, gLen, gInt, gAbs, gBool, gList, gTupC, mAppend, mPop, mPopAt, mInsert, mReverse, rd, rds, vl, vls, slR, nob, mkArgs, bors, putOwns, edOf, outsP, noR,
  List.getElem?_cons_zero, List.getElem?_cons_succ, List.getElem?_nil, List.set_cons_zero, List.set_cons_succ, List.cons_append, List.nil_append, List.length_cons, List.length_nil, List.replicate, Nat.add_sub_cancel, Nat.sub_self, Nat.reduceAdd, Nat.reduceSub, Int.reduceToNat, Int.reducePow, Int.reduceNeg, Int.reduceAdd, Int.reduceSub, Int.reduceMul, id_eq, true_and, and_true, List.nodup_nil, if_true, if_false, List.nodup_cons, List.not_mem_nil, not_false_eq_true, Bool.not_true, Bool.not_false, Bool.true_or, Bool.or_false, Bool.false_or, decide_eq_true_eq, Bool.false_eq_true, XF,
  Bool.or_true, bne_self_eq_false, isT_dict_non, isT_dict_bl, isT_dict_int, isT_dict_str, isT_dict_tup, isT_dict_lst, isT_list_non, isT_list_bl, isT_list_int, isT_list_str, isT_list_tup, isT_list_lst, isT_tuple_non, isT_tuple_bl, isT_tuple_int, isT_tuple_str, isT_tuple_tup, isT_tuple_lst, isT_bool_non, isT_bool_bl, isT_bool_int, isT_bool_str, isT_bool_tup, isT_bool_lst, isT_str_non, isT_str_bl, isT_str_int, isT_str_str, isT_str_tup, isT_str_lst, isT_int_non, isT_int_bl, isT_int_int, isT_int_str, isT_int_tup, isT_int_lst,
  atI0, atI1, atI2, atI3, atI4, ixN51, ixN52, ixN53, ixN54])

theorem bh_zP : Bh zP := ⟨by decide, by decide, by decide, by decide⟩
theorem cut_at1 (v : P3) (t : List P3) : cutD ((v :: t).map dP) (some 1) none = t.map dP := by
  rw [cut_map]
  unfold cutG
  rw [HT.sIx_none]
  have e : HT.sIx (v :: t).length 0 (some 1) = 1 := by
    unfold HT.sIx
    simp
  rw [e]
  simp
theorem cut_to1 (v : P3) (t : List P3) : cutD ((v :: t).map dP) none (some 1) = [dP v] := by
  rw [cut_map]
  unfold cutG
  rw [HT.sIx_none]
  have e : HT.sIx (v :: t).length (v :: t).length (some 1) = 1 := by
    unfold HT.sIx
    simp
  rw [e]
  simp
theorem con_turns {v : P3} {t : List P3} : Con (fun a b => 0 ≤ crossI a b) (v :: t ++ [v]) ↔ ∀ i, i < (v :: t).length → 0 ≤ turnI (at3 (v :: t) i) (at3 (t ++ [v]) i) zP := by
  have e : ∀ a b, turnI a b zP = crossI a b := fun a b => by
    have := turn_zero a b 1
    unfold zP
    omega
  have e1 : ∀ i, i < (v :: t).length → at3 (v :: t ++ [v]) i = at3 (v :: t) i := fun i hi => by
    unfold at3
    simp only [List.getD]
    rw [List.getElem?_append_left hi]
  have e2 : ∀ i, at3 (v :: t ++ [v]) (i + 1) = at3 (t ++ [v]) i := fun i => rfl
  constructor
  · intro h i hi
    have := at_con (i := i) h (by simp at hi ⊢; omega)
    rw [e1 i hi, e2] at this
    rw [e]
    exact this
  · intro h
    refine con_at fun i hi => ?_
    have hi' : i < (v :: t).length := by simp at hi ⊢; omega
    rw [e1 i hi', e2, ← e]
    exact h i hi'
def sp__law_where : Spc := fun args Φ _ => ∃ L : List P3, args = [.val (.lst (L.map dP)), .val (.tup [.int 0, .int 0, .int 1])] ∧ L ≠ [] ∧ L.length ≤ 100 ∧ (∀ p ∈ L, Bh p) ∧ ∀ k : Int, (0 ≤ k ↔ MetL L) → Φ (.val (.int k)) []
/-- slots: 0 corners, 1 v, 2 p, 3 q, 4 dots, 5 least, 6 a, 7 b -/
def T__law_where : TDs :=
  (tCutD (tParD 2 3 (tConsD (tOpD gIx (tVarD 0) (tConD (.int 0))) (tConsD (tOpD gIx (tVarD 0) (tUnD (gU fun i => -i) (tConD (.int 1)))) tNilD)))
  (tSeqD (tIfSD (tValD (tOpD (gIB fun i j => decide (i < j)) (tCaD gLen (tConsD (tVarD 0) tNilD)) (tConD (.int 3)))) (tCutD (tSetV 4 (tOpD gAdd (tOpD (gII CMulA (· * ·)) (tOpD (gI0 (· - ·)) (tOpD (gII CMulA (· * ·)) (tOpD gIx (tVarD 2) (tConD (.int 0))) (tOpD gIx (tVarD 1) (tConD (.int 2)))) (tOpD (gII CMulA (· * ·)) (tOpD gIx (tVarD 1) (tConD (.int 0))) (tOpD gIx (tVarD 2) (tConD (.int 2))))) (tOpD (gI0 (· - ·)) (tOpD (gII CMulA (· * ·)) (tOpD gIx (tVarD 3) (tConD (.int 0))) (tOpD gIx (tVarD 1) (tConD (.int 2)))) (tOpD (gII CMulA (· * ·)) (tOpD gIx (tVarD 1) (tConD (.int 0))) (tOpD gIx (tVarD 3) (tConD (.int 2)))))) (tOpD (gII CMulA (· * ·)) (tOpD (gI0 (· - ·)) (tOpD (gII CMulA (· * ·)) (tOpD gIx (tVarD 2) (tConD (.int 1))) (tOpD gIx (tVarD 1) (tConD (.int 2)))) (tOpD (gII CMulA (· * ·)) (tOpD gIx (tVarD 1) (tConD (.int 1))) (tOpD gIx (tVarD 2) (tConD (.int 2))))) (tOpD (gI0 (· - ·)) (tOpD (gII CMulA (· * ·)) (tOpD gIx (tVarD 3) (tConD (.int 1))) (tOpD gIx (tVarD 1) (tConD (.int 2)))) (tOpD (gII CMulA (· * ·)) (tOpD gIx (tVarD 1) (tConD (.int 1))) (tOpD gIx (tVarD 3) (tConD (.int 2))))))))
  (tRetD (tIfD (tAndD (tValD (tOpD (gEq id) (tCallD 3 (q0 sp__law_turn) (tConsD (tVarD 2) (tConsD (tVarD 3) (tConsD (tVarD 1) tNilD)))) (tConD (.int 0)))) (tValD (tOpD (gIB fun i j => decide (i ≤ j)) (tVarD 4) (tConD (.int 0))))) (tConD (.int 0)) (tUnD (gU fun i => -i) (tConD (.int 1)))))) tNextD)
  (tCutD (tSetV 5 (tCaD gMin (tConsD (tLcZ (tConsD (tVarD 0) (tConsD (tOpD gAdd (tSlLD (tVarD 0) (tPartD (tConD (.int 1))) tNoPartD) (tSlLD (tVarD 0) tNoPartD (tPartD (tConD (.int 1))))) tNilD)) (tTupG 2 (tConsG (tNamG 6) (tConsG (tNamG 7) tNilG))) tYesD (tCallD 3 (q0 sp__law_turn) (tConsD (tVarD 6) (tConsD (tVarD 7) (tConsD (tVarD 1) tNilD)))) [6, 7]) tNilD)))
  (tRetD (tIfD (tValD (tOpD (gIB fun i j => decide (j < i)) (tVarD 5) (tConD (.int 0)))) (tConD (.int 1)) (tIfD (tValD (tOpD (gEq id) (tVarD 5) (tConD (.int 0)))) (tConD (.int 0)) (tUnD (gU fun i => -i) (tConD (.int 1)))))))))
theorem rd__law_where {args : En} {Φ : Res → List D → Prop} {Ψ : Xc → List D → Prop} (h : sp__law_where args Φ Ψ) : T__law_where (edOf args Φ XN) (noR ["corners", "v", "p", "q", "dots", "least", "a", "b"] args) := by
  obtain ⟨L, rfl, hne, hl, hb, h⟩ := h
  unfold T__law_where
  have ez : (D.tup [.int 0, .int 0, .int 1] : D) = dP zP := rfl
  have Lp : 0 < L.length := List.length_pos_iff.mpr hne
  have mp0 : at3 L 0 ∈ L := at3_mem Lp
  have mq0 : at3 L (L.length - 1) ∈ L := at3_mem (by omega)
  have bp := hb _ mp0
  have bq := hb _ mq0
  refine ⟨fun en => en = [.val (.lst (L.map dP)), .val (dP zP), .val (dP (at3 L 0)), .val (dP (at3 L (L.length - 1))), .no, .no, .no, .no], ?_, ?_⟩
  · have A : atI (L.map dP) 0 = some (dP (at3 L 0)) := atI_map (i := 0) (by omega) (by simpa using Lp)
    have B : atI (L.map dP) (-1) = some (dP (at3 L (L.length - 1))) := by
      refine atI_neg1 ?_
      rw [List.length_map]
      exact map_get (by omega)
    walk_at "vh"
    first
      | done
      | rfl
      | exact ez ▸ rfl
  rintro _ rfl
  generalize hC : Sl.val (D.lst (L.map dP)) = C
  by_cases h3 : L.length < 3
  · unfold MetL at h
    rw [if_pos h3] at h
    generalize hP : at3 L 0 = p at *
    generalize hQ : at3 L (L.length - 1) = q at *
    have bpp := bp
    have bqq := bq
    obtain ⟨p1, p2, p3, p4⟩ := bp
    obtain ⟨q1, q2, q3, q4⟩ := bq
    have ep : dP p = .tup [.int p.1, .int p.2.1, .int p.2.2] := rfl
    have eq : dP q = .tup [.int q.1, .int q.2.1, .int q.2.2] := rfl
    have ezz : dP zP = .tup [.int 0, .int 0, .int 1] := rfl
    have m1 : ∀ x : Int, CMulA x 1 := fun x => mulR (by decide) (by decide)
    have m0 : ∀ x : Int, CMulA 0 x := fun x => mulL (by decide) (by decide)
    have ed : ∀ x : Int, x * 1 - 0 * q.2.2 = x := fun x => by omega
    have goal2 : (tSeqD (tIfSD (tValD (tOpD (gIB fun i j => decide (i < j)) (tCaD gLen (tConsD (tVarD 0) tNilD)) (tConD (.int 3)))) tNextD tNextD) tNextD) = (tSeqD (tIfSD (tValD (tOpD (gIB fun i j => decide (i < j)) (tCaD gLen (tConsD (tVarD 0) tNilD)) (tConD (.int 3)))) tNextD tNextD) tNextD) := rfl
    subst hC
    walk_at "vs"
    rw [List.length_map, if_pos (by omega)]
    refine ⟨fun en => en = [.val (.lst (L.map dP)), .val (dP zP), .val (dP p), .val (dP q), .val (.int (dotI p q)), .no, .no, .no], ?_, ?_⟩
    · rw [ep, eq, ezz]
      have fin : ([.val (.lst (L.map dP)), .val (.tup [.int 0, .int 0, .int 1]), .val (.tup [.int p.1, .int p.2.1, .int p.2.2]), .val (.tup [.int q.1, .int q.2.1, .int q.2.2]), .val (.int ((p.1 * 1 - 0 * p.2.2) * (q.1 * 1 - 0 * q.2.2) + (p.2.1 * 1 - 0 * p.2.2) * (q.2.1 * 1 - 0 * q.2.2))), .no, .no, .no] : En) = [.val (.lst (L.map dP)), .val (.tup [.int 0, .int 0, .int 1]), .val (.tup [.int p.1, .int p.2.1, .int p.2.2]), .val (.tup [.int q.1, .int q.2.1, .int q.2.2]), .val (.int (dotI p q)), .no, .no, .no] := by
        have : (p.1 * 1 - 0 * p.2.2) * (q.1 * 1 - 0 * q.2.2) + (p.2.1 * 1 - 0 * p.2.2) * (q.2.1 * 1 - 0 * q.2.2) = dotI p q := by
          simp only [Int.mul_one, Int.zero_mul, Int.sub_zero]
          rfl
        rw [this]
      have bg : ∀ {x y : Int} (u v : Int), x.natAbs < 2 ^ 140 → y.natAbs < 2 ^ 140 → CMulA (x * 1 - 0 * u) (y * 1 - 0 * v) := fun {x y} u v hx hy => by
        simp only [Int.mul_one, Int.zero_mul, Int.sub_zero]
        exact big (up hx (by decide)) (up hy (by decide))
      walk_at "vs"
      exact ⟨m1 _, m0 _, m1 _, m0 _, bg _ _ p1 q1, m1 _, m0 _, m1 _, m0 _, bg _ _ p2 q2, fin⟩
    rintro _ rfl
    unfold sp__law_turn
    walk_at "vs"
    refine ⟨p, q, zP, rfl, bpp, bqq, bh_zP, ?_⟩
    have e : turnI p q zP = crossI p q := by
      have := turn_zero p q 1
      unfold zP
      omega
    rw [e]
    by_cases z1 : crossI p q = 0
    · by_cases z2 : dotI p q ≤ 0
      · simp only [z1, z2, decide_true, if_true]
        first
          | exact h 0 ⟨fun _ => ⟨z1, z2⟩, fun _ => by decide⟩
          | (rw [if_pos trivial]; exact h 0 ⟨fun _ => ⟨z1, z2⟩, fun _ => by decide⟩)
      · simp only [z1, z2, decide_true, if_true, if_false]
        exact h (-1) ⟨fun k => by omega, fun k => absurd k.2 z2⟩
    · simp only [z1, decide_false, Bool.false_eq_true, if_false]
      exact h (-1) ⟨fun k => by omega, fun k => absurd k.1 z1⟩
  · have hM : MetL L ↔ Con (fun a b => 0 ≤ crossI a b) (L ++ [at3 L 0]) := by
      unfold MetL
      rw [if_neg h3]
    obtain ⟨v, t, rfl⟩ : ∃ v t, L = v :: t := by
      cases L with
      | nil => exact absurd rfl hne
      | cons v t => exact ⟨v, t, rfl⟩
    have e0 : at3 (v :: t) 0 = v := rfl
    rw [e0, con_turns] at hM
    rw [e0]
    generalize hQ : at3 (v :: t) ((v :: t).length - 1) = q at *
    have hN : (List.map dP (v :: t)).length = t.length + 1 := by simp
    subst hC
    walk_at "vs"
    rw [List.length_map, if_neg (by omega)]
    refine ⟨fun en => ∃ m : Int, en = [.val (.lst ((v :: t).map dP)), .val (dP zP), .val (dP v), .val (dP q), .no, .val (.int m), .no, .no] ∧ (0 ≤ m ↔ MetL (v :: t)), ?_, ?_⟩
    · unfold tLcZ
      walk_at "vs"
      rw [cut_at1, cut_to1]
      intro p1 p2
      refine ⟨sz1000 (by simp at hl ⊢; omega), fun p3 => ?_⟩
      have eM : t.map dP ++ [dP v] = (t ++ [v]).map dP := by simp
      refine ⟨_, _, .inl ⟨rfl, rfl⟩, fun i acc en => acc = ((List.range i).map fun j => D.int (turnI (at3 (v :: t) j) (at3 (t ++ [v]) j) zP)) ∧ en = [.val (.lst ((v :: t).map dP)), .val (dP zP), .val (dP v), .val (dP q), .no, .no, .no, .no], ⟨rfl, rfl⟩, ?_, ?_⟩
      · rintro i d e acc en hd he ⟨rfl, rfl⟩
        rw [eM] at he
        have hi := (List.getElem?_eq_some_iff.mp hd).1
        rw [List.length_map] at hi
        rw [map_get hi] at hd
        rw [map_get (by simp at hi ⊢; omega)] at he
        cases hd
        cases he
        have ba := hb _ (at3_mem hi)
        have mb : at3 (t ++ [v]) i ∈ v :: t := by
          have := at3_mem (ps := t ++ [v]) (i := i) (by simp at hi ⊢; omega)
          rcases List.mem_append.mp this with z | z
          · exact List.mem_cons_of_mem _ z
          · have z' : at3 (t ++ [v]) i = v := by simpa using z
            rw [z']
            simp
        unfold lcStep sp__law_turn
        walk_at "vs"
        refine ⟨_, _, zP, rfl, ba, hb _ mb, bh_zP, ?_⟩
        rw [List.length_map, List.length_range]
        refine ⟨sz1001 (by simp at hi hl; omega), ?_⟩
        rw [List.range_succ, List.map_append]
        rfl
      · rintro acc en p ⟨rfl, rfl⟩
        rw [eM]
        have hn : min (List.map dP (v :: t)).length (List.map dP (t ++ [v])).length = (v :: t).length := by simp
        rw [hn]
        walk_at "vs"
        refine ⟨(List.range (v :: t).length).map fun j => turnI (at3 (v :: t) j) (at3 (t ++ [v]) j) zP, by rw [List.map_map]; rfl, by simp, fun m hm hle => ⟨m, rfl, ?_⟩⟩
        rw [hM]
        constructor
        · intro h0 i hi
          have := hle _ (List.mem_map.mpr ⟨i, List.mem_range.mpr hi, rfl⟩)
          omega
        · intro h0
          obtain ⟨i, hi, rfl⟩ := List.mem_map.mp hm
          exact h0 i (List.mem_range.mp hi)
    rintro _ ⟨m, rfl, hm⟩
    walk_at "vs"
    split
    · exact h 1 ⟨fun _ => hm.mp (by omega), fun _ => by decide⟩
    · split
      · rename_i z
        have : m = 0 := by simpa using z
        exact h 0 ⟨fun _ => hm.mp (by omega), fun _ => by decide⟩
      · rename_i z w
        have : ¬ m = 0 := by simpa using w
        exact h (-1) ⟨fun k => by omega, fun k => by have := hm.mpr k; omega⟩
def dU (u : Int × Int) : D := .tup [.int u.1, .int u.2]
def triesOf (ps : List P3) : List (Int × Int) := (1, 0) :: ps.flatMap fun p => if nzP p then [(-p.2.1, p.1), (p.2.1, -p.1)] else []
theorem tries_snoc (ps : List P3) (p : P3) : triesOf (ps ++ [p]) = triesOf ps ++ if nzP p then [(-p.2.1, p.1), (p.2.1, -p.1)] else [] := by
  unfold triesOf
  rw [List.flatMap_append]
  simp
def okU (ps : List P3) (u : Int × Int) : Bool := ps.all fun p => decide (0 ≤ u.1 * p.1 + u.2 * p.2.1)
theorem tries_sided (ps : List P3) : (triesOf ps).any (okU ps) = true ↔ Sided ps := by
  rw [sided_try, List.any_eq_true]
  have k : ∀ u, okU ps u = true ↔ ∀ p ∈ ps, 0 ≤ u.1 * p.1 + u.2 * p.2.1 := fun u => by
    unfold okU
    rw [List.all_eq_true]
    simp only [decide_eq_true_eq]
  unfold triesOf
  constructor
  · rintro ⟨u, hu, hk⟩
    rw [k] at hk
    rcases List.mem_cons.mp hu with e | e
    · rw [e] at hk
      refine .inl fun p hp => ?_
      have := hk p hp
      simp only at this
      omega
    · obtain ⟨q, hq, e⟩ := List.mem_flatMap.mp e
      split at e
      · rename_i nz
        refine .inr ⟨q, hq, nz, ?_⟩
        simp only [List.mem_cons, List.not_mem_nil, or_false] at e
        rcases e with e | e
        · refine .inl fun p hp => ?_
          have := hk p hp
          rw [e] at this
          simp only [Int.neg_mul] at this
          unfold crossI
          omega
        · refine .inr fun p hp => ?_
          have := hk p hp
          rw [e] at this
          simp only [Int.neg_mul] at this
          unfold crossI
          omega
      · cases e
  · rintro (h | ⟨q, hq, nz, h⟩)
    · refine ⟨(1, 0), by simp, (k _).mpr fun p hp => ?_⟩
      have := h p hp
      simp only
      omega
    · have mm : ∀ u, u ∈ [(-q.2.1, q.1), (q.2.1, -q.1)] → u ∈ (1, 0) :: ps.flatMap fun p => if nzP p then [(-p.2.1, p.1), (p.2.1, -p.1)] else [] := fun u hu =>
        List.mem_cons_of_mem _ (List.mem_flatMap.mpr ⟨q, hq, by rw [if_pos nz]; exact hu⟩)
      rcases h with h | h
      · refine ⟨(-q.2.1, q.1), mm _ (by simp), (k _).mpr fun p hp => ?_⟩
        have := h p hp
        unfold crossI at this
        simp only [Int.neg_mul]
        omega
      · refine ⟨(q.2.1, -q.1), mm _ (by simp), (k _).mpr fun p hp => ?_⟩
        have := h p hp
        unfold crossI at this
        simp only [Int.neg_mul]
        omega
theorem tries_bd {ps : List P3} (hb : ∀ p ∈ ps, Bh p) : ∀ u ∈ triesOf ps, u.1.natAbs < 2 ^ 140 ∧ u.2.natAbs < 2 ^ 140 := by
  intro u hu
  unfold triesOf at hu
  rcases List.mem_cons.mp hu with e | e
  · rw [e]; exact ⟨by decide, by decide⟩
  · obtain ⟨q, hq, e⟩ := List.mem_flatMap.mp e
    obtain ⟨q1, q2, _, _⟩ := hb q hq
    split at e
    · simp only [List.mem_cons, List.not_mem_nil, or_false] at e
      rcases e with e | e <;> rw [e] <;> simp only [Int.natAbs_neg] <;> exact ⟨by assumption, by assumption⟩
    · cases e
theorem tries_len : ∀ ps : List P3, (triesOf ps).length ≤ 2 * ps.length + 1 := by
  intro ps
  have : ∀ l : List P3, (l.flatMap fun p => if nzP p then [(-p.2.1, p.1), (p.2.1, -p.1)] else []).length ≤ 2 * l.length := by
    intro l
    induction l with
    | nil => simp
    | cons p r ih =>
      rw [List.flatMap_cons, List.length_append, List.length_cons]
      split <;> simp only [List.length_cons, List.length_nil] <;> omega
  have := this ps
  unfold triesOf
  rw [List.length_cons]
  omega
def inU (a b : Int) : D → D
  | .tup [.int x, .int y, .int _] => .bl (decide (0 ≤ a * x + b * y))
  | _ => .non
def outU (ps : List P3) : D → D
  | .tup [.int a, .int b] => .bl (okU ps (a, b))
  | _ => .non
theorem inU_map (a b : Int) (ps : List P3) : (ps.map dP).map (inU a b) = (ps.map fun p => decide (0 ≤ a * p.1 + b * p.2.1)).map D.bl := by
  rw [List.map_map, List.map_map]
  rfl
theorem all_okU (ps : List P3) (a b : Int) : (ps.map fun p => decide (0 ≤ a * p.1 + b * p.2.1)).all id = okU ps (a, b) := by
  unfold okU
  rw [List.all_map]
  rfl
def sp__law_one_handed : Spc := fun args Φ _ => ∃ ps : List P3, args = [.val (.lst (ps.map dP))] ∧ ps.length ≤ 100 ∧ (∀ p ∈ ps, Bh p) ∧ ∀ b : Bool, (b = true ↔ Sided ps) → Φ (.val (.bl b)) []
/-- slots: 0 some, 1 tries, 2 p, 3 u -/
def T__law_one_handed : TDs :=
  (tCutD (tSetV 1 (tLstD (tConsD (tTupD (tConsD (tConD (.int 1)) (tConsD (tConD (.int 0)) tNilD))) tNilD)))
  (tCutD (tForLD (tVarD 0) (tNamG 2) (tIfSD (tOrD (tValD (tOpD (gEq not) (tOpD gIx (tVarD 2) (tConD (.int 0))) (tConD (.int 0)))) (tValD (tOpD (gEq not) (tOpD gIx (tVarD 2) (tConD (.int 1))) (tConD (.int 0))))) (tSetV 1 (tOpD gAdd (tVarD 1) (tLstD (tConsD (tTupD (tConsD (tUnD (gU fun i => -i) (tOpD gIx (tVarD 2) (tConD (.int 1)))) (tConsD (tOpD gIx (tVarD 2) (tConD (.int 0))) tNilD))) (tConsD (tTupD (tConsD (tOpD gIx (tVarD 2) (tConD (.int 1))) (tConsD (tUnD (gU fun i => -i) (tOpD gIx (tVarD 2) (tConD (.int 0)))) tNilD))) tNilD))))) tNextD))
  (tFgtD 2 (tRetD (tCaD gAny (tConsD (tLcL (tVarD 1) (tNamG 3) tYesD (tCaD gAll (tConsD (tLcL (tVarD 0) (tNamG 2) tYesD (tOpD (gIB fun i j => decide (j ≤ i)) (tOpD gAdd (tOpD (gII CMulA (· * ·)) (tOpD gIx (tVarD 3) (tConD (.int 0))) (tOpD gIx (tVarD 2) (tConD (.int 0)))) (tOpD (gII CMulA (· * ·)) (tOpD gIx (tVarD 3) (tConD (.int 1))) (tOpD gIx (tVarD 2) (tConD (.int 1))))) (tConD (.int 0))) [2]) tNilD)) [3]) tNilD))))))
theorem rd__law_one_handed {args : En} {Φ : Res → List D → Prop} {Ψ : Xc → List D → Prop} (h : sp__law_one_handed args Φ Ψ) : T__law_one_handed (edOf args Φ XN) (noR ["some", "tries", "p", "u"] args) := by
  obtain ⟨ps, rfl, hl, hb, h⟩ := h
  unfold T__law_one_handed
  generalize hS : Sl.val (D.lst (ps.map dP)) = S
  refine ⟨fun en => en = [S, .val (.lst ((triesOf []).map dU)), .no, .no], ?_, ?_⟩
  · walk_at "vs"
    exact ⟨sz1000 (by decide), sz1000 (by decide), fun _ => rfl⟩
  rintro _ rfl
  refine ⟨fun en => ∃ e2, en = [S, .val (.lst ((triesOf ps).map dU)), e2, .no], ?_, ?_⟩
  · refine forL_i (fun i en => ∃ e2, en = [S, .val (.lst ((triesOf (ps.take i)).map dU)), e2, .no]) (en1 := [S, .val (.lst ((triesOf []).map dU)), .no, .no]) (ds := ps.map dP) (fun Φ z => ?_) ⟨_, rfl⟩ ?_ ?_
    · subst hS
      walk_at "vs"
      exact z
    · rintro i d _ hd ⟨e2, rfl⟩
      obtain ⟨p, hp, rfl⟩ := get_map hd
      have es : triesOf (ps.take (i + 1)) = triesOf (ps.take i) ++ if nzP p then [(-p.2.1, p.1), (p.2.1, -p.1)] else [] := by
        rw [List.take_succ, hp]
        exact tries_snoc _ _
      have el : (triesOf (ps.take i)).length ≤ 2 * 100 + 1 := by
        have := tries_len (ps.take i)
        rw [List.length_take] at this
        omega
      rw [es]
      generalize triesOf (ps.take i) = us at *
      have ed : dP p = .tup [.int p.1, .int p.2.1, .int p.2.2] := rfl
      have put : nzP p → ∃ e2, ([S, .val (.lst (us.map dU ++ [.tup [.int (-p.2.1), .int p.1], .tup [.int p.2.1, .int (-p.1)]])), .val (dP p), .no] : En) = [S, .val (.lst ((us ++ if nzP p then [(-p.2.1, p.1), (p.2.1, -p.1)] else []).map dU)), e2, .no] := fun nz => by
        rw [if_pos nz, List.map_append]
        exact ⟨_, rfl⟩
      have keep : ¬ nzP p → ∃ e2, ([S, .val (.lst (us.map dU)), .val (dP p), .no] : En) = [S, .val (.lst ((us ++ if nzP p then [(-p.2.1, p.1), (p.2.1, -p.1)] else []).map dU)), e2, .no] := fun nz => by
        rw [if_neg nz, List.append_nil]
        exact ⟨_, rfl⟩
      generalize (us ++ if nzP p then [(-p.2.1, p.1), (p.2.1, -p.1)] else []).map dU = R at put keep ⊢
      rw [ed] at put keep ⊢
      unfold nzP at put keep
      by_cases z1 : p.1 = 0
      · by_cases z2 : p.2.1 = 0
        · have := keep (by omega)
          walk_at "vs"
          simp only [z1, z2, decide_true, Bool.not_true, Bool.false_eq_true, if_false] at this ⊢
          exact this
        · have := put (by omega)
          walk_at "vs"
          simp only [z1, z2, decide_true, decide_false, Bool.not_true, Bool.not_false, Bool.false_eq_true, if_false, if_true] at this ⊢
          exact ⟨sz1000 (by decide), sz1000 (by decide), sz1000 (by decide), fun _ => ⟨sz1000 (by rw [List.length_map]; omega), fun _ => this⟩⟩
      · have := put (by omega)
        walk_at "vs"
        simp only [z1, decide_false, Bool.not_false, if_true] at this ⊢
        exact ⟨sz1000 (by decide), sz1000 (by decide), sz1000 (by decide), fun _ => ⟨sz1000 (by rw [List.length_map]; omega), fun _ => this⟩⟩
    · rintro _ ⟨e2, rfl⟩
      rw [List.length_map, List.take_length]
      exact ⟨e2, rfl⟩
  rintro _ ⟨e2, rfl⟩
  have tl := tries_len ps
  have tb := tries_bd hb
  have hB := tries_sided ps
  generalize hU : triesOf ps = us at *
  have outM : (us.map dU).map (outU ps) = (us.map (okU ps)).map D.bl := by
    rw [List.map_map, List.map_map]
    rfl
  have fin : Φ (.val (.bl ((us.map (okU ps)).any id))) [] := h _ (by rw [List.any_map]; exact hB)
  walk_at "vs"
  refine lcL_map (f := outU ps) (ds := us.map dU) (by rw [List.length_map]; omega) (fun Φ z => by walk_at "vs"; exact z) rfl (fun d acc J hd hacc hJ => ?_) (fun q => ?_)
  · obtain ⟨u, hu, rfl⟩ := List.mem_map.mp hd
    obtain ⟨b1, b2⟩ := tb u hu
    have eo : outU ps (dU u) = .bl (okU ps u) := rfl
    have eu : dU u = .tup [.int u.1, .int u.2] := rfl
    rw [eo] at hJ
    rw [eu]
    unfold lcStep
    walk_at "vs"
    refine lcL_map (f := inU u.1 u.2) (ds := ps.map dP) (by rw [List.length_map]; omega) (fun Φ z => by subst hS; walk_at "vs"; exact z) rfl (fun d acc J hd hacc hJ => ?_) (fun q => ?_)
    · obtain ⟨p, hp, rfl⟩ := List.mem_map.mp hd
      obtain ⟨p1, p2, _, _⟩ := hb p hp
      have ei : inU u.1 u.2 (dP p) = .bl (decide (0 ≤ u.1 * p.1 + u.2 * p.2.1)) := rfl
      have ed : dP p = .tup [.int p.1, .int p.2.1, .int p.2.2] := rfl
      rw [ei] at hJ
      rw [ed]
      unfold lcStep
      walk_at "vs"
      exact ⟨big (up b1 (by decide)) (up p1 (by decide)), big (up b2 (by decide)) (up p2 (by decide)), hacc, hJ⟩
    · rw [inU_map]
      walk_at "vs"
      refine ⟨_, rfl, ?_⟩
      rw [all_okU]
      exact ⟨hacc, hJ⟩
  · rw [outM]
    walk_at "vs"
    subst hS
    exact ⟨_, rfl, fin⟩
def isI : D → D := fun _ => .bl true
def sp__law_right_side : Spc := fun args Φ _ => ∃ (a b : Int) (ps : List P3), args = [.val (.tup [.int a, .int b]), .val (.lst (ps.map dP))] ∧ (a ≠ 0 ∨ b ≠ 0) ∧ a.natAbs < 2 ^ 140 ∧ b.natAbs < 2 ^ 140 ∧ ps.length ≤ 100 ∧ (∀ p ∈ ps, Bh p) ∧ (∀ p ∈ ps, 0 ≤ a * p.1 + b * p.2.1) ∧ Φ (.val (.bl true)) []
/-- slots: 0 told, 1 some, 2 p, 3 x -/
def T__law_right_side : TDs :=
  (tCutD (tIfSD (tOrD (tNotD (tValD (tIsiD "tuple" (tVarD 0)))) (tValD (tOpD (gEq not) (tCaD gLen (tConsD (tVarD 0) tNilD)) (tConD (.int 2))))) (tRetD (tConD (.bl false))) tNextD)
  (tCutD (tIfSD (tOrD (tNotD (tValD (tCaD gAll (tConsD (tLcT (tVarD 0) (tNamG 3) tYesD (tAndDV (tIsiD "int" (tVarD 3)) (tNotDV (tIsiD "bool" (tVarD 3)))) [3]) tNilD)))) (tAndD (tValD (tOpD (gEq id) (tOpD gIx (tVarD 0) (tConD (.int 0))) (tConD (.int 0)))) (tValD (tOpD (gEq id) (tOpD gIx (tVarD 0) (tConD (.int 1))) (tConD (.int 0)))))) (tRetD (tConD (.bl false))) tNextD)
  (tRetD (tCaD gAll (tConsD (tLcL (tVarD 1) (tNamG 2) tYesD (tOpD (gIB fun i j => decide (j ≤ i)) (tOpD gAdd (tOpD (gII CMulA (· * ·)) (tOpD gIx (tVarD 0) (tConD (.int 0))) (tOpD gIx (tVarD 2) (tConD (.int 0)))) (tOpD (gII CMulA (· * ·)) (tOpD gIx (tVarD 0) (tConD (.int 1))) (tOpD gIx (tVarD 2) (tConD (.int 1))))) (tConD (.int 0))) [2]) tNilD)))))
theorem rd__law_right_side {args : En} {Φ : Res → List D → Prop} {Ψ : Xc → List D → Prop} (h : sp__law_right_side args Φ Ψ) : T__law_right_side (edOf args Φ XN) (noR ["told", "some", "p", "x"] args) := by
  obtain ⟨a, b, ps, rfl, nz, ha, hb', hl, hb, hs, h⟩ := h
  unfold T__law_right_side
  generalize hS : Sl.val (D.lst (ps.map dP)) = S
  refine ⟨fun en => en = [.val (.tup [.int a, .int b]), S, .no, .no], ?_, ?_⟩
  · walk_at "vs"
    first
      | done
      | simp
  rintro _ rfl
  refine ⟨fun en => en = [.val (.tup [.int a, .int b]), S, .no, .no], ?_, ?_⟩
  · walk_at "vs"
    refine lcT_map (f := isI) (ds := [.int a, .int b]) (by simp) (fun Φ z => by walk_at "vs"; exact z) rfl (fun d acc J hd hacc hJ => ?_) (fun q => ?_)
    · have : d = .int a ∨ d = .int b := by simpa using hd
      unfold lcStep
      unfold isI at hJ
      rcases this with rfl | rfl
      · walk_at "vs"
        exact ⟨hacc, hJ⟩
      · walk_at "vs"
        exact ⟨hacc, hJ⟩
    · have e : [D.int a, D.int b].map isI = [true, true].map D.bl := rfl
      rw [e]
      walk_at "vs"
      refine ⟨_, rfl, ?_⟩
      have e2 : [true, true].all id = true := rfl
      rw [e2]
      by_cases z1 : a = 0
      · have z2 : ¬ b = 0 := by omega
        simp [z1, z2]
      · simp [z1]
  rintro _ rfl
  walk_at "vs"
  refine lcL_map (f := inU a b) (ds := ps.map dP) (by rw [List.length_map]; omega) (fun Φ z => by subst hS; walk_at "vs"; exact z) rfl (fun d acc J hd hacc hJ => ?_) (fun q => ?_)
  · obtain ⟨p, hp, rfl⟩ := List.mem_map.mp hd
    obtain ⟨p1, p2, _, _⟩ := hb p hp
    have ei : inU a b (dP p) = .bl (decide (0 ≤ a * p.1 + b * p.2.1)) := rfl
    have ed : dP p = .tup [.int p.1, .int p.2.1, .int p.2.2] := rfl
    rw [ei] at hJ
    rw [ed]
    unfold lcStep
    walk_at "vs"
    exact ⟨big (up ha (by decide)) (up p1 (by decide)), big (up hb' (by decide)) (up p2 (by decide)), hacc, hJ⟩
  · rw [inU_map]
    walk_at "vs"
    refine ⟨_, rfl, ?_⟩
    rw [all_okU]
    have : okU ps (a, b) = true := by
      unfold okU
      rw [List.all_eq_true]
      intro p hp
      rw [decide_eq_true_eq]
      exact hs p hp
    rw [this]
    subst hS
    exact h
end VS

namespace VS
open PySem L2 PySem.Spec PyProof.Rows
local macro_rules | `(tactic| walk_at "vs") => `(tactic| simp (maxSteps := 400000) only [tSeqD, tEitD, tEitS, tRevD, tRepD, tNewT, tPutT, gListT, gGcd3, gLt2, tFgtD, gAny, gMin, tIfSD, tRetD, retD, tSetD, tSetV, tVarD, tConD, tOpD, tUnD, tCaD, tCallD, tConsD, tNilD, tTupD, tLstD, tValD, tAndD, tOrD, tNotD, tIfD, tAndDV, tOrDV, tNotDV, tAsgD, tParD, tPar3D, tNamG, tTupG, tNilG, tConsG, tUnlG, tDropD, tNextD, tBrkD, tCntD, tNeverD, tStoD, tMetD, tSlLD, tNoPartD, tPartD, tChD, tIsiD, tIsiTD, tIsi3D, tFrzD, q0, tYesD, wipeD,
  gI0, gII, gIB, gAdd, gU, gEq, gIx, gIsN, gLen, gInt, gAbs, gBool, gList, gTupC, mAppend, mPop, mPopAt, mInsert, mReverse, rd, rds, vl, vls, slR, nob, mkArgs, bors, putOwns, edOf, outsP, noR, shD, eqD,
  List.getElem?_cons_zero, List.getElem?_cons_succ, List.getElem?_nil, List.set_cons_zero, List.set_cons_succ, List.cons_append, List.nil_append, List.length_cons, List.length_nil, List.replicate, Nat.add_sub_cancel, Nat.sub_self, Nat.reduceAdd, Nat.reduceSub, Int.reduceToNat, Int.reducePow, Int.reduceNeg, Int.reduceAdd, Int.reduceSub, Int.reduceMul, id_eq, true_and, and_true, List.nodup_nil, if_true, if_false, List.nodup_cons, List.not_mem_nil, not_false_eq_true, Bool.not_true, Bool.not_false, Bool.true_or, Bool.or_false, Bool.false_or, decide_eq_true_eq, Bool.false_eq_true, XF,
  Bool.or_true, bne_self_eq_false, isT_dict_non, isT_dict_bl, isT_dict_int, isT_dict_str, isT_dict_tup, isT_dict_lst, isT_list_non, isT_list_bl, isT_list_int, isT_list_str, isT_list_tup, isT_list_lst, isT_tuple_non, isT_tuple_bl, isT_tuple_int, isT_tuple_str, isT_tuple_tup, isT_tuple_lst, isT_bool_non, isT_bool_bl, isT_bool_int, isT_bool_str, isT_bool_tup, isT_bool_lst, isT_str_non, isT_str_bl, isT_str_int, isT_str_str, isT_str_tup, isT_str_lst, isT_int_non, isT_int_bl, isT_int_int, isT_int_str, isT_int_tup, isT_int_lst,
  atI0, atI1, atI2, atI3, atI4, ixN51, ixN52, ixN53, ixN54])
local macro_rules | `(tactic| walk_at "vh") => `(tactic| simp (maxSteps := 400000) only [tSeqD, tEitD, tEitS, tRevD, tRepD, tNewT, tPutT, gListT, gGcd3, gLt2, tFgtD, gAny, gMin, tIfSD, tRetD, retD, tSetD, tSetV, tVarD, tConD, tOpD, tUnD, tCaD, tCallD, tConsD, tNilD, tTupD, tLstD, tValD, tAndD, tOrD, tNotD, tIfD, tAndDV, tOrDV, tNotDV, tAsgD, tParD, tPar3D, tNamG, tTupG, tNilG, tConsG, tUnlG, tDropD, tNextD, tBrkD, tCntD, tNeverD, tStoD, tMetD, tSlLD, tNoPartD, tPartD, tChD, tIsiD, tIsiTD, tIsi3D, tFrzD, q0, tYesD, wipeD,
  gI0, gII, gIB, gAdd, gU, gEq, gIx, gIsN, gLen, gInt, gAbs, gBool, gList, gTupC, mAppend, mPop, mPopAt, mInsert, mReverse, rd, rds, vl, vls, slR, nob, mkArgs, bors, putOwns, edOf, outsP, noR, shD, eqD,
  List.getElem?_cons_zero, List.getElem?_cons_succ, List.getElem?_nil, List.set_cons_zero, List.set_cons_succ, List.cons_append, List.nil_append, List.length_cons, List.length_nil, List.replicate, Nat.add_sub_cancel, Nat.sub_self, Nat.reduceAdd, Nat.reduceSub, Int.reduceToNat, Int.reducePow, Int.reduceNeg, Int.reduceAdd, Int.reduceSub, Int.reduceMul, id_eq, true_and, and_true, List.nodup_nil, if_true, if_false, List.nodup_cons, List.not_mem_nil, not_false_eq_true, Bool.not_true, Bool.not_false, Bool.true_or, Bool.or_false, Bool.false_or, decide_eq_true_eq, Bool.false_eq_true, XF,
  Bool.or_true, bne_self_eq_false, isT_dict_non, isT_dict_bl, isT_dict_int, isT_dict_str, isT_dict_tup, isT_dict_lst, isT_list_non, isT_list_bl, isT_list_int, isT_list_str, isT_list_tup, isT_list_lst, isT_tuple_non, isT_tuple_bl, isT_tuple_int, isT_tuple_str, isT_tuple_tup, isT_tuple_lst, isT_bool_non, isT_bool_bl, isT_bool_int, isT_bool_str, isT_bool_tup, isT_bool_lst, isT_str_non, isT_str_bl, isT_str_int, isT_str_str, isT_str_tup, isT_str_lst, isT_int_non, isT_int_bl, isT_int_int, isT_int_str, isT_int_tup, isT_int_lst,
  atI0, atI1, atI2, atI3, atI4, ixN51, ixN52, ixN53, ixN54, *])
local macro_rules | `(tactic| walk_at "lf") => `(tactic| ((repeat' (with_reducible apply And.intro)) <;> first | exact mulR (by decide) (by decide) | exact pow1018 | exact pow3 (by omega) | exact divB (by omega) (by omega) | exact Int.emod_nonneg _ (by omega) | exact Int.emod_lt_of_pos _ (by omega) | exact Int.ediv_nonneg (by omega) (by omega) | omega | decide | assumption | skip))
local macro_rules | `(tactic| walk_at "vn") => `(tactic| simp (maxSteps := 400000) only [tSeqD, tEitD, tEitS, tRevD, tRepD, tNewT, tPutT, gListT, gGcd3, gLt2, tFgtD, gAny, gMin, tIfSD, tRetD, retD, tSetD, tSetV, tVarD, tConD, tOpD, tUnD, tCaD, tCallD, tConsD, tNilD, tTupD, tLstD, tValD, tAndD, tOrD, tNotD, tIfD, tAndDV, tOrDV, tNotDV, tAsgD, tParD, tPar3D, tNamG, tTupG, tNilG, tConsG, tUnlG, tDropD, tNextD, tBrkD, tCntD, tNeverD, tStoD, tMetD, tSlLD, tNoPartD, tPartD, tChD, tIsiD, tIsiTD, tIsi3D, tFrzD, q0, tYesD, wipeD,
  gI0, gII, gIB, gAdd, gU, gEq, gIx, gIsN, gLen, gInt, gAbs, gBool, gList, gTupC, mAppend, mPop, mPopAt, mInsert, mReverse, rd, rds, vl, vls, slR, nob, mkArgs, bors, putOwns, edOf, outsP, noR,
  List.getElem?_cons_zero, List.getElem?_cons_succ, List.getElem?_nil, List.set_cons_zero, List.set_cons_succ, List.cons_append, List.nil_append, List.length_cons, List.length_nil, List.replicate, Nat.add_sub_cancel, Nat.sub_self, Nat.reduceAdd, Nat.reduceSub, Int.reduceToNat, Int.reducePow, Int.reduceNeg, Int.reduceAdd, Int.reduceSub, Int.reduceMul, id_eq, true_and, and_true, List.nodup_nil, if_true, if_false, List.nodup_cons, List.not_mem_nil, not_false_eq_true, Bool.not_true, Bool.not_false, Bool.true_or, Bool.or_false, Bool.false_or, decide_eq_true_eq, Bool.false_eq_true, XF,
  Bool.or_true, bne_self_eq_false, isT_dict_non, isT_dict_bl, isT_dict_int, isT_dict_str, isT_dict_tup, isT_dict_lst, isT_list_non, isT_list_bl, isT_list_int, isT_list_str, isT_list_tup, isT_list_lst, isT_tuple_non, isT_tuple_bl, isT_tuple_int, isT_tuple_str, isT_tuple_tup, isT_tuple_lst, isT_bool_non, isT_bool_bl, isT_bool_int, isT_bool_str, isT_bool_tup, isT_bool_lst, isT_str_non, isT_str_bl, isT_str_int, isT_str_str, isT_str_tup, isT_str_lst, isT_int_non, isT_int_bl, isT_int_int, isT_int_str, isT_int_tup, isT_int_lst,
  atI0, atI1, atI2, atI3, atI4, ixN51, ixN52, ixN53, ixN54])

def Bw (p : P3) : Prop := p.1.natAbs < 2 ^ 110 ∧ p.2.1.natAbs < 2 ^ 110 ∧ 0 < p.2.2 ∧ p.2.2 < 2 ^ 12
def sp__law_some : Spc := fun args Φ _ => ∃ q d0, args = [.own q d0] ∧ BagOk d0 ∧ ∀ (a : Addr) (ps : List P3) (d1 : D), ps ≠ [] → ps.length ≤ 18 → (∀ p ∈ ps, Bw p) → BagOk d1 → Φ (.own a (.lst (ps.map dP))) [d1]
theorem pts1 (p : P3) : [dP p] = [p].map dP := rfl
theorem cut_some (xs : List P3) (n : Int) : ∃ ys : List P3, cutD (xs.map dP) none (some n) = ys.map dP ∧ (∀ y ∈ ys, y ∈ xs) ∧ ys.length ≤ xs.length ∧ (0 < n → ys.length ≤ n.toNat ∧ (xs ≠ [] → ys ≠ [])) := by
  rw [cut_map]
  unfold cutG
  rw [HT.sIx_none]
  refine ⟨_, rfl, fun y hy => List.mem_of_mem_drop (List.mem_of_mem_take hy), by rw [List.length_take, List.length_drop]; omega, fun h0 => ?_⟩
  have e : HT.sIx xs.length xs.length (some n) = min n.toNat xs.length := by
    unfold HT.sIx
    simp
    omega
  rw [e, List.drop_zero, Nat.sub_zero]
  refine ⟨by rw [List.length_take]; omega, fun hne z => ?_⟩
  have := List.length_pos_iff.mpr hne
  have l := congrArg List.length z
  rw [List.length_take, List.length_nil] at l
  omega
section
variable {ta te : TDe} {ts : TDa} {tG : TDg} {tt : TDt} {vs : List Nat} {Ψ : Px} {en : En} {Φ : Res → En → Prop}
theorem lcR1_w (Pn : Int → En → Prop) (J : Nat → List D → En → Prop) (hti : ∀ Φ : List Res → En → Prop, (∀ n en1, Pn n en1 → Φ [.val (.int n)] en1) → ts Ψ en Φ) (hb : ∀ n en1, Pn n en1 → -(2 ^ 62) ≤ n ∧ n < 2 ^ 62 ∧ wipeD en1 vs = en1 ∧ J 0 [] en1)
    (step : ∀ (n : Int) (e1 : En), Pn n e1 → ∀ (i : Nat) acc en, (i : Int) < n → J i acc en → lcStep tG tt te vs (J (i + 1)) (.int i) acc en) (fin : ∀ n e1, Pn n e1 → ∀ acc en2 p, J n.toNat acc en2 → Φ (.own p (.lst acc)) en2) : tLcR1 ts tG tt te vs Ψ en Φ :=
  hti _ fun n en1 hP => ⟨(hb n en1 hP).1, (hb n en1 hP).2.1, (hb n en1 hP).2.2.1, J, (hb n en1 hP).2.2.2, step n en1 hP, fin n en1 hP⟩
end
def ngD : D → D
  | .tup [.int x, .int y, w] => .tup [.int (-x), .int (-y), w]
  | _ => .non
theorem ngD_map (ys : List P3) : (ys.map dP).map ngD = (ys.map ngP).map dP := by
  rw [List.map_map, List.map_map]
  rfl
theorem bw_ng {p : P3} (h : Bw p) : Bw (ngP p) := by
  obtain ⟨h1, h2, h3, h4⟩ := h
  refine ⟨?_, ?_, h3, h4⟩
  · show (-p.1).natAbs < _
    omega
  · show (-p.2.1).natAbs < _
    omega
/-- slots: 0 bag, 1 pick, 2 out, 3 a, 4 b, 5 flipped, 6 p, 7 s, 8 ends, 9 n, 10 k -/
def T__law_some : TDs :=
  (tCutD (tSetV 1 (tCallD 2 (q0 sp__law_draw) (tConsD (tVarD 0) (tConsD (tConD (.int 6)) tNilD))))
  (tCutD (tSetV 2 (tCallD 1 (q0 sp__law_plane_points) (tConsD (tVarD 0) tNilD)))
  (tCutD (tIfSD (tValD (tOpD (gEq id) (tVarD 1) (tConD (.int 0)))) (tCutD (tAsgD (tCallD 2 (q0 sp__law_of) (tConsD (tVarD 0) (tConsD (tLstD (tConsD (tTupD (tConsD (tConD (.int 1)) (tConsD (tConD (.int 0)) tNilD))) (tConsD (tTupD (tConsD (tConD (.int 0)) (tConsD (tConD (.int 1)) tNilD))) (tConsD (tTupD (tConsD (tUnD (gU fun i => -i) (tConD (.int 1))) (tConsD (tConD (.int 0)) tNilD))) (tConsD (tTupD (tConsD (tConD (.int 0)) (tConsD (tUnD (gU fun i => -i) (tConD (.int 1))) tNilD))) (tConsD (tTupD (tConsD (tConD (.int 2)) (tConsD (tConD (.int 1)) tNilD))) (tConsD (tTupD (tConsD (tUnD (gU fun i => -i) (tConD (.int 1))) (tConsD (tConD (.int 3)) tNilD))) (tConsD (tTupD (tConsD (tConD (.int 3)) (tConsD (tUnD (gU fun i => -i) (tConD (.int 2))) tNilD))) tNilD)))))))) tNilD))) (tTupG 2 (tConsG (tNamG 3) (tConsG (tNamG 4) tNilG))))
  (tSeqD (tSetD 5 (tLstD tNilD))
  (tCutD (tForLD (tVarD 2) (tNamG 6) (tCutD (tSetV 7 (tIfD (tValD (tOpD (gIB fun i j => decide (i < j)) (tOpD gAdd (tOpD (gII CMulA (· * ·)) (tVarD 3) (tOpD gIx (tVarD 6) (tConD (.int 0)))) (tOpD (gII CMulA (· * ·)) (tVarD 4) (tOpD gIx (tVarD 6) (tConD (.int 1))))) (tConD (.int 0)))) (tUnD (gU fun i => -i) (tConD (.int 1))) (tConD (.int 1))))
  (tDropD (tMetD 5 mAppend (tConsD (tTupD (tConsD (tOpD (gII CMulA (· * ·)) (tVarD 7) (tOpD gIx (tVarD 6) (tConD (.int 0)))) (tConsD (tOpD (gII CMulA (· * ·)) (tVarD 7) (tOpD gIx (tVarD 6) (tConD (.int 1)))) (tConsD (tOpD gIx (tVarD 6) (tConD (.int 2))) tNilD)))) tNilD)))))
  (tCutD (tSetV 8 (tLstD (tConsD (tTupD (tConsD (tVarD 4) (tConsD (tUnD (gU fun i => -i) (tVarD 3)) (tConsD (tConD (.int 1)) tNilD)))) (tConsD (tTupD (tConsD (tUnD (gU fun i => -i) (tVarD 4)) (tConsD (tVarD 3) (tConsD (tConD (.int 2)) tNilD)))) (tConsD (tTupD (tConsD (tOpD (gII CMulA (· * ·)) (tUnD (gU fun i => -i) (tConD (.int 2))) (tVarD 4)) (tConsD (tOpD (gII CMulA (· * ·)) (tConD (.int 2)) (tVarD 3)) (tConsD (tConD (.int 1)) tNilD)))) (tConsD (tTupD (tConsD (tConD (.int 0)) (tConsD (tConD (.int 0)) (tConsD (tConD (.int 1)) tNilD)))) tNilD))))))
  (tFrzD 5 (tSetV 2 (tOpD gAdd (tVarD 5) (tLcR1 (tConsD (tCallD 2 (q0 sp__law_draw) (tConsD (tVarD 0) (tConsD (tConD (.int 4)) tNilD))) tNilD) (tNamG 10) tYesD (tCallD 2 (q0 sp__law_of) (tConsD (tVarD 0) (tConsD (tVarD 8) tNilD))) [10])))))))) (tIfSD (tValD (tOpD (gEq id) (tVarD 1) (tConD (.int 1)))) (tSeqD (tSetV 2 (tSlLD (tVarD 2) tNoPartD (tPartD (tConD (.int 6)))))
  (tSetV 2 (tOpD gAdd (tVarD 2) (tLcL (tVarD 2) (tNamG 6) tYesD (tTupD (tConsD (tUnD (gU fun i => -i) (tOpD gIx (tVarD 6) (tConD (.int 0)))) (tConsD (tUnD (gU fun i => -i) (tOpD gIx (tVarD 6) (tConD (.int 1)))) (tConsD (tOpD gIx (tVarD 6) (tConD (.int 2))) tNilD)))) [6])))) (tIfSD (tValD (tOpD (gEq id) (tVarD 1) (tConD (.int 2)))) (tCutD (tSetV 9 (tOpD gAdd (tCallD 2 (q0 sp__law_of) (tConsD (tVarD 0) (tConsD (tLstD (tConsD (tConD (.int 5)) (tConsD (tOpD (gII CPow fun i j => i ^ j.toNat) (tConD (.int 10)) (tConD (.int 6))) (tConsD (tOpD (gII CPow fun i j => i ^ j.toNat) (tConD (.int 10)) (tConD (.int 20))) tNilD)))) tNilD))) (tCallD 2 (q0 sp__law_draw) (tConsD (tVarD 0) (tConsD (tConD (.int 3)) tNilD)))))
  (tCutD (tSetV 7 (tOpD (gI0 (· - ·)) (tCallD 2 (q0 sp__law_draw) (tConsD (tVarD 0) (tConsD (tConD (.int 3)) tNilD))) (tConD (.int 1))))
  (tSetV 2 (tLstD (tConsD (tTupD (tConsD (tVarD 9) (tConsD (tConD (.int 1)) (tConsD (tConD (.int 1)) tNilD)))) (tConsD (tTupD (tConsD (tOpD (gI0 (· - ·)) (tVarD 7) (tVarD 9)) (tConsD (tCallD 2 (q0 sp__law_of) (tConsD (tVarD 0) (tConsD (tLstD (tConsD (tUnD (gU fun i => -i) (tConD (.int 1))) (tConsD (tConD (.int 0)) (tConsD (tUnD (gU fun i => -i) (tConD (.int 2))) tNilD)))) tNilD))) (tConsD (tConD (.int 1)) tNilD)))) (tConsD (tTupD (tConsD (tOpD (gI0 (· - ·)) (tCallD 2 (q0 sp__law_draw) (tConsD (tVarD 0) (tConsD (tConD (.int 3)) tNilD))) (tConD (.int 1))) (tConsD (tOpD (gI0 (· - ·)) (tCallD 2 (q0 sp__law_draw) (tConsD (tVarD 0) (tConsD (tConD (.int 5)) tNilD))) (tConD (.int 2))) (tConsD (tConD (.int 1)) tNilD)))) tNilD))))))) (tIfSD (tValD (tOpD (gEq id) (tVarD 1) (tConD (.int 3)))) (tSetV 2 (tOpD gAdd (tSlLD (tVarD 2) tNoPartD (tPartD (tConD (.int 5)))) (tLstD (tConsD (tTupD (tConsD (tConD (.int 0)) (tConsD (tConD (.int 0)) (tConsD (tOpD gAdd (tConD (.int 1)) (tCallD 2 (q0 sp__law_draw) (tConsD (tVarD 0) (tConsD (tConD (.int 3)) tNilD)))) tNilD)))) tNilD)))) tNextD))))
  (tRetD (tCallD 2 (q0 sp__law_shuffled) (tConsD (tVarD 0) (tConsD (tVarD 2) tNilD)))))))
theorem rd__law_some {args : En} {Φ : Res → List D → Prop} {Ψ : Xc → List D → Prop} (h : sp__law_some args Φ Ψ) : T__law_some (edOf args Φ XN) (noR ["bag", "pick", "out", "a", "b", "flipped", "p", "s", "ends", "n", "k"] args) := by
  obtain ⟨q, d0, rfl, hk, h⟩ := h
  unfold T__law_some
  refine ⟨fun en => ∃ (d1 : D) (k : Int), en = [.own q d1, .val (.int k), .no, .no, .no, .no, .no, .no, .no, .no, .no] ∧ BagOk d1, ?_, ?_⟩
  · unfold sp__law_draw
    walk_at "vs"
    exact ⟨q, d0, 6, rfl, hk, by decide, by decide, fun k d1 k0 k1 hk1 => ⟨d1, k, rfl, hk1⟩⟩
  rintro _ ⟨d1, k, rfl, hk1⟩
  clear hk
  refine ⟨fun en => ∃ (d2 : D) (ps : List P3), en = [.own q d2, .val (.int k), .val (.lst (ps.map dP)), .no, .no, .no, .no, .no, .no, .no, .no] ∧ BagOk d2 ∧ ps ≠ [] ∧ ps.length ≤ 15 ∧ ∀ p ∈ ps, Bw p, ?_, ?_⟩
  · unfold sp__law_plane_points
    walk_at "vs"
    exact ⟨q, d1, rfl, hk1, fun a ps d2 h1 h2 h3 hk2 => ⟨d2, ps, rfl, hk2, h1, h2, h3⟩⟩
  rintro _ ⟨d2, ps, rfl, hk2, hne, hl, hb⟩
  clear hk1
  refine ⟨fun en => ∃ (d3 : D) (rs : List P3) (e3 e4 e5 e6 e7 e8 e9 e10 : Sl), en = [.own q d3, .val (.int k), .val (.lst (rs.map dP)), e3, e4, e5, e6, e7, e8, e9, e10] ∧ BagOk d3 ∧ rs ≠ [] ∧ rs.length ≤ 18 ∧ ∀ p ∈ rs, Bw p, ?_, ?_⟩
  · generalize hS : Sl.val (D.lst (ps.map dP)) = S
    show tIfSD _ _ _ _ _
    have w1 : ∀ {T F : TDs} {e : En} {De : Ed} {j : Int}, e[1]? = some (.val (.int k)) → ((if k = j then T De e else F De e) → tIfSD (tValD (tOpD (gEq id) (tVarD 1) (tConD (.int j)))) T F De e) := fun {T F e De j} he hh => by
      simp only [tIfSD, tValD, tOpD, tVarD, tConD, he, rd, gEq, shD, eqD]
      simpa using hh
    refine w1 rfl ?_
    split
    · -- flipped to a side
      refine ⟨fun en => ∃ (d3 : D) (a b : Int), en = [.own q d3, .val (.int k), S, .val (.int a), .val (.int b), .no, .no, .no, .no, .no, .no] ∧ BagOk d3 ∧ a.natAbs ≤ 3 ∧ b.natAbs ≤ 3, ?_, ?_⟩
      · unfold sp__law_of
        walk_at "vs"
        refine ⟨sz1000 (by decide), sz1000 (by decide), sz1000 (by decide), sz1000 (by decide), sz1000 (by decide), sz1000 (by decide), sz1000 (by decide), sz1000 (by decide), fun _ => ⟨q, d2, _, rfl, hk2, by simp, by simp, fun x d3 hx hk3 => ?_⟩⟩
        simp only [List.mem_cons, List.not_mem_nil, or_false] at hx
        rcases hx with rfl | rfl | rfl | rfl | rfl | rfl | rfl <;> walk_at "vs" <;> exact ⟨d3, _, _, rfl, hk3, by decide, by decide⟩
      rintro _ ⟨d3, a, b, rfl, hk3, ha, hb'⟩
      clear hk2
      walk_at "vs"
      refine ⟨sz1000 (by decide), fun fa => ?_⟩
      have lin : ∀ {x : Int} (y : Int), x.natAbs ≤ 3 → CMulA x y := fun y hx => mulL (by omega) (by omega)
      refine ⟨fun en => ∃ (fs : List P3) (e6 e7 : Sl), en = [.own q d3, .val (.int k), S, .val (.int a), .val (.int b), .own fa (.lst (fs.map dP)), e6, e7, .no, .no, .no] ∧ fs.length = ps.length ∧ ∀ p ∈ fs, Bw p, ?_, ?_⟩
      · refine forL_i (fun i en => ∃ (fs : List P3) (e6 e7 : Sl), en = [.own q d3, .val (.int k), S, .val (.int a), .val (.int b), .own fa (.lst (fs.map dP)), e6, e7, .no, .no, .no] ∧ fs.length = i ∧ ∀ p ∈ fs, Bw p) (en1 := [.own q d3, .val (.int k), S, .val (.int a), .val (.int b), .own fa (.lst []), .no, .no, .no, .no, .no]) (ds := ps.map dP) (fun Φ z => ?_) ⟨[], _, _, rfl, rfl, by simp⟩ ?_ ?_
        · subst hS
          walk_at "vs"
          exact z
        · rintro i d _ hd ⟨fs, e6, e7, rfl, hn, hf⟩
          obtain ⟨p, hp, rfl⟩ := get_map hd
          have hi := (List.getElem?_eq_some_iff.mp hp).1
          obtain ⟨p1, p2, p3, p4⟩ := hb p (List.mem_of_getElem? hp)
          have ed : dP p = .tup [.int p.1, .int p.2.1, .int p.2.2] := rfl
          show tCutD _ _ _ _
          refine ⟨fun en => ∃ s : Int, en = [.own q d3, .val (.int k), S, .val (.int a), .val (.int b), .own fa (.lst (fs.map dP)), .val (dP p), .val (.int s), .no, .no, .no] ∧ (s = 1 ∨ s = -1), ?_, ?_⟩
          · rw [ed]
            walk_at "vs"
            refine ⟨lin _ ha, lin _ hb', ?_⟩
            split
            · exact ⟨_, rfl, .inr rfl⟩
            · exact ⟨_, rfl, .inl rfl⟩
          rintro _ ⟨s, rfl, hs⟩
          have sl : ∀ y, CMulA s y := fun y => mulL (by omega) (by omega)
          have fin : ∃ (gs : List P3) (e6 e7 : Sl), ([.own q d3, .val (.int k), S, .val (.int a), .val (.int b), .own fa (.lst (fs.map dP ++ [.tup [.int (s * p.1), .int (s * p.2.1), .int p.2.2]])), .val (dP p), .val (.int s), .no, .no, .no] : En) = [.own q d3, .val (.int k), S, .val (.int a), .val (.int b), .own fa (.lst (gs.map dP)), e6, e7, .no, .no, .no] ∧ gs.length = i + 1 ∧ ∀ p ∈ gs, Bw p := by
            refine ⟨fs ++ [(s * p.1, s * p.2.1, p.2.2)], _, _, by rw [List.map_append]; rfl, by simp [hn], fun y hy => ?_⟩
            rcases List.mem_append.mp hy with z | z
            · exact hf y z
            · obtain rfl : y = (s * p.1, s * p.2.1, p.2.2) := by simpa using z
              refine ⟨?_, ?_, p3, p4⟩
              · show (s * p.1).natAbs < _
                rcases hs with rfl | rfl
                · omega
                · omega
              · show (s * p.2.1).natAbs < _
                rcases hs with rfl | rfl
                · omega
                · omega
          rw [ed] at fin ⊢
          walk_at "vs"
          refine ⟨sl _, sl _, sz1000 (by decide), sz1001 (by rw [List.length_map]; omega), fin⟩
        · rintro _ ⟨fs, e6, e7, rfl, hn, hf⟩
          rw [List.length_map] at hn
          exact ⟨fs, e6, e7, rfl, hn, hf⟩
      rintro _ ⟨fs, e6, e7, rfl, hn, hf⟩
      refine ⟨fun en => en = [.own q d3, .val (.int k), S, .val (.int a), .val (.int b), .own fa (.lst (fs.map dP)), e6, e7, .val (.lst ([(b, -a, 1), (-b, a, 2), (-2 * b, 2 * a, 1), (0, 0, 1)].map dP)), .no, .no], ?_, ?_⟩
      · walk_at "vs"
        exact ⟨sz1000 (by decide), sz1000 (by decide), lin _ (by decide), lin _ (by decide), sz1000 (by decide), sz1000 (by decide), sz1000 (by decide), fun _ => rfl⟩
      rintro _ rfl
      have be : ∀ p ∈ [(b, -a, 1), (-b, a, 2), (-2 * b, 2 * a, 1), ((0, 0, 1) : P3)], Bw p := fun p hp => by
        simp only [List.mem_cons, List.not_mem_nil, or_false] at hp
        unfold Bw
        rcases hp with rfl | rfl | rfl | rfl <;> simp only <;> refine ⟨?_, ?_, by decide, by decide⟩ <;> omega
      have hes : [(b, -a, 1), (-b, a, 2), (-2 * b, 2 * a, 1), ((0, 0, 1) : P3)] ≠ [] ∧ [(b, -a, 1), (-b, a, 2), (-2 * b, 2 * a, 1), ((0, 0, 1) : P3)].length ≤ 4 := ⟨by simp, by simp⟩
      generalize [(b, -a, 1), (-b, a, 2), (-2 * b, 2 * a, 1), ((0, 0, 1) : P3)] = es at be hes ⊢
      have ee : es ≠ [] ∧ es.length ≤ 4 := hes
      show tFrzD _ _ _ _
      unfold tFrzD
      walk_at "vs"
      refine lcR1_w (fun n en => 0 ≤ n ∧ n ≤ 3 ∧ ∃ d4, en = [.own q d4, .val (.int k), S, .val (.int a), .val (.int b), .val (.lst (fs.map dP)), e6, e7, .val (.lst (es.map dP)), .no, .no] ∧ BagOk d4)
        (fun i acc en => ∃ (d4 : D) (zs : List P3), acc = zs.map dP ∧ zs.length = i ∧ (∀ p ∈ zs, Bw p) ∧ en = [.own q d4, .val (.int k), S, .val (.int a), .val (.int b), .val (.lst (fs.map dP)), e6, e7, .val (.lst (es.map dP)), .no, .no] ∧ BagOk d4) (fun Φ z => ?_) ?_ ?_ ?_
      · unfold sp__law_draw
        walk_at "vs"
        exact ⟨q, d3, 4, rfl, hk3, by decide, by decide, fun n d4 n0 n1 hk4 => z _ _ ⟨n0, by omega, d4, rfl, hk4⟩⟩
      · rintro n _ ⟨n0, n3, d4, rfl, hk4⟩
        exact ⟨by omega, by omega, rfl, d4, [], rfl, rfl, by simp, rfl, hk4⟩
      · rintro n _ ⟨n0, n3, _⟩ i acc _ hi ⟨d4, zs, rfl, hz, hzb, rfl, hk4⟩
        unfold lcStep sp__law_of
        walk_at "vs"
        refine ⟨q, d4, _, rfl, hk4, by simp [ee.1], by rw [List.length_map]; omega, fun x d5 hx hk5 => ?_⟩
        obtain ⟨p, hp, rfl⟩ := List.mem_map.mp hx
        refine ⟨by rw [List.length_map]; exact sz1001 (by omega), d5, zs ++ [p], by simp, by simp [hz], fun y hy => ?_, rfl, hk5⟩
        rcases List.mem_append.mp hy with w | w
        · exact hzb y w
        · obtain rfl : y = p := by simpa using w
          exact be y hp
      · rintro n _ ⟨n0, n3, _⟩ acc _ p ⟨d4, zs, rfl, hz, hzb, rfl, hk4⟩
        walk_at "vs"
        refine ⟨sz1000 (by rw [List.length_map, List.length_map]; omega), fun _ => ⟨d4, fs ++ zs, _, _, _, _, _, _, _, _, by rw [List.map_append], hk4, fun z => ?_, by rw [List.length_append]; omega, fun y hy => ?_⟩⟩
        · have := List.length_pos_iff.mpr hne
          have l := congrArg List.length z
          rw [List.length_append, List.length_nil] at l
          omega
        · rcases List.mem_append.mp hy with w | w
          · exact hf y w
          · exact hzb y w
    refine w1 rfl ?_
    split
    · -- turned by half a turn
      subst hS
      obtain ⟨ys, ey, ym, yl, yn⟩ := cut_some ps 6
      obtain ⟨y6, yne⟩ := yn (by decide)
      have yne := yne hne
      walk_at "vs"
      rw [ey]
      intro p1
      refine lcL_map (f := ngD) (ds := ys.map dP) (by rw [List.length_map]; omega) (fun Φ z => by walk_at "vs"; exact z) rfl (fun d acc J hd hacc hJ => ?_) (fun r => ?_)
      · obtain ⟨p, hp, rfl⟩ := List.mem_map.mp hd
        have ed : dP p = .tup [.int p.1, .int p.2.1, .int p.2.2] := rfl
        rw [ed] at hJ ⊢
        unfold ngD at hJ
        unfold lcStep
        walk_at "vs"
        exact ⟨sz1000 (by decide), hacc, hJ⟩
      · rw [ngD_map]
        walk_at "vs"
        refine ⟨sz1000 (by rw [List.length_map, List.length_map, List.length_map]; omega), fun _ => ⟨d2, ys ++ ys.map ngP, _, _, _, _, _, _, _, _, by rw [List.map_append], hk2, fun z => ?_, by rw [List.length_append, List.length_map]; omega, fun y hy => ?_⟩⟩
        · exact yne (List.append_eq_nil_iff.mp z).1
        · rcases List.mem_append.mp hy with w | w
          · exact hb y (ym y w)
          · obtain ⟨x, hx, rfl⟩ := List.mem_map.mp w
            exact bw_ng (hb x (ym x hx))
    refine w1 rfl ?_
    split
    · -- near the line through (0, 0)
      refine ⟨fun en => ∃ (d3 : D) (n : Int), en = [.own q d3, .val (.int k), S, .no, .no, .no, .no, .no, .no, .val (.int n), .no] ∧ BagOk d3 ∧ 0 ≤ n ∧ n ≤ 10 ^ 20 + 2, ?_, ?_⟩
      · unfold sp__law_of sp__law_draw
        walk_at "vs"
        refine ⟨⟨by decide, by decide, by decide⟩, ⟨by decide, by decide, by decide⟩, sz1000 (by decide), fun _ => ⟨q, d2, _, rfl, hk2, by simp, by decide, ?_⟩⟩
        intro x d3 hx hk3
        simp only [List.mem_cons, List.not_mem_nil, or_false] at hx
        rcases hx with rfl | rfl | rfl <;> exact ⟨q, d3, 3, rfl, hk3, by decide, by decide, fun j d4 j0 j1 hk4 => ⟨d4, _, rfl, hk4, by omega, by omega⟩⟩
      rintro _ ⟨d3, n, rfl, hk3, n0, n20⟩
      clear hk2
      refine ⟨fun en => ∃ (d4 : D) (s : Int), en = [.own q d4, .val (.int k), S, .no, .no, .no, .no, .val (.int s), .no, .val (.int n), .no] ∧ BagOk d4 ∧ -1 ≤ s ∧ s ≤ 1, ?_, ?_⟩
      · unfold sp__law_draw
        walk_at "vs"
        exact ⟨q, d3, 3, rfl, hk3, by decide, by decide, fun j d4 j0 j1 hk4 => ⟨d4, _, rfl, hk4, by omega, by omega⟩⟩
      rintro _ ⟨d4, s, rfl, hk4, s0, s1⟩
      have fin : ∀ (d : D) (x i j : Int), BagOk d → (x = -1 ∨ x = 0 ∨ x = -2) → 0 ≤ i → i < 3 → 0 ≤ j → j < 5 → ∃ (d3 : D) (rs : List P3) (e3 e4 e5 e6 e7 e8 e9 e10 : Sl), ([.own q d, .val (.int k), .val (.lst [.tup [.int n, .int 1, .int 1], .tup [.int (s - n), .int x, .int 1], .tup [.int (i - 1), .int (j - 2), .int 1]]), .no, .no, .no, .no, .val (.int s), .no, .val (.int n), .no] : En) = [.own q d3, .val (.int k), .val (.lst (rs.map dP)), e3, e4, e5, e6, e7, e8, e9, e10] ∧ BagOk d3 ∧ rs ≠ [] ∧ rs.length ≤ 18 ∧ ∀ p ∈ rs, Bw p := fun d x i j hk hx i0 i1 j0 j1 => by
        refine ⟨d, [(n, 1, 1), (s - n, x, 1), (i - 1, j - 2, 1)], _, _, _, _, _, _, _, _, rfl, hk, by simp, by simp, fun p hp => ?_⟩
        simp only [List.mem_cons, List.not_mem_nil, or_false] at hp
        unfold Bw
        rcases hp with rfl | rfl | rfl <;> simp only <;> refine ⟨?_, ?_, by decide, by decide⟩ <;> omega
      unfold sp__law_of sp__law_draw
      walk_at "vs"
      refine ⟨sz1000 (by decide), sz1000 (by decide), fun _ => ⟨q, d4, _, rfl, hk4, by simp, by simp, fun x d5 hx hk5 => ?_⟩⟩
      simp only [List.mem_cons, List.not_mem_nil, or_false] at hx
      rcases hx with rfl | rfl | rfl <;> exact ⟨sz1000 (by decide), q, d5, 3, rfl, hk5, by decide, by decide, fun i d6 i0 i1 hk6 => ⟨q, d6, 5, rfl, hk6, by decide, by decide, fun j d7 j0 j1 hk7 => ⟨sz1000 (by decide), sz1000 (by decide), fun _ => fin d7 _ i j hk7 (by omega) i0 i1 j0 j1⟩⟩⟩
    refine w1 rfl ?_
    split
    · -- with (0, 0) itself
      subst hS
      obtain ⟨ys, ey, ym, yl, yn⟩ := cut_some ps 5
      obtain ⟨y6, yne⟩ := yn (by decide)
      unfold sp__law_draw
      walk_at "vs"
      rw [ey]
      intro p1
      refine ⟨q, d2, 3, rfl, hk2, by decide, by decide, fun j d3 j0 j1 hk3 => ?_⟩
      refine ⟨sz1000 (by decide), sz1000 (by decide), fun _ => ⟨sz1000 (by rw [List.length_map]; omega), fun _ => ⟨d3, ys ++ [(0, 0, 1 + j)], _, _, _, _, _, _, _, _, by rw [List.map_append]; rfl, hk3, by simp, by rw [List.length_append]; simp; omega, fun y hy => ?_⟩⟩⟩
      rcases List.mem_append.mp hy with w | w
      · exact hb y (ym y w)
      · obtain rfl : y = (0, 0, 1 + j) := by simpa using w
        exact ⟨by show (0 : Int).natAbs < _; decide, by show (0 : Int).natAbs < _; decide, by show 0 < 1 + j; omega, by show 1 + j < 2 ^ 12; omega⟩
    · subst hS
      walk_at "vs"
      exact ⟨d2, ps, _, _, _, _, _, _, _, _, rfl, hk2, hne, by omega, hb⟩
  rintro _ ⟨d3, rs, e3, e4, e5, e6, e7, e8, e9, e10, rfl, hk3, hne3, hl3, hb3⟩
  unfold sp__law_shuffled
  walk_at "vs"
  refine ⟨q, d3, _, rfl, hk3, by rw [List.length_map]; omega, fun c es d4 hp hk4 => ?_⟩
  obtain ⟨rs', hp', rfl⟩ := perm_map hp rs rfl
  exact h c rs' d4 (fun e => by rw [e] at hp'; exact hne3 (List.Perm.nil_eq hp').symm) (by rw [hp'.length_eq]; exact hl3) (fun m hm => hb3 m (hp'.mem_iff.mp hm)) hk4
end VS

namespace VS
open PySem L2 PySem.Spec PyProof.Rows
local macro_rules | `(tactic| walk_at "vs") => `(tactic| simp (maxSteps := 400000) only [tSeqD, tEitD, tEitS, tRevD, tRepD, tNewT, tPutT, gListT, gGcd3, gLt2, tFgtD, gAny, gMin, tIfSD, tRetD, retD, tSetD, tSetV, tVarD, tConD, tOpD, tUnD, tCaD, tCallD, tConsD, tNilD, tTupD, tLstD, tValD, tAndD, tOrD, tNotD, tIfD, tAndDV, tOrDV, tNotDV, tAsgD, tParD, tPar3D, tNamG, tTupG, tNilG, tConsG, tUnlG, tDropD, tNextD, tBrkD, tCntD, tNeverD, tStoD, tMetD, tSlLD, tNoPartD, tPartD, tChD, tIsiD, tIsiTD, tIsi3D, tFrzD, q0, tYesD, wipeD,
  gI0, gII, gIB, gAdd, gU, gEq, gIx, gIsN, gLen, gInt, gAbs, gBool, gList, gTupC, mAppend, mPop, mPopAt, mInsert, mReverse, rd, rds, vl, vls, slR, nob, mkArgs, bors, putOwns, edOf, outsP, noR, shD, eqD,
  List.getElem?_cons_zero, List.getElem?_cons_succ, List.getElem?_nil, List.set_cons_zero, List.set_cons_succ, List.cons_append, List.nil_append, List.length_cons, List.length_nil, List.replicate, Nat.add_sub_cancel, Nat.sub_self, Nat.reduceAdd, Nat.reduceSub, Int.reduceToNat, Int.reducePow, Int.reduceNeg, Int.reduceAdd, Int.reduceSub, Int.reduceMul, id_eq, true_and, and_true, List.nodup_nil, if_true, if_false, List.nodup_cons, List.not_mem_nil, not_false_eq_true, Bool.not_true, Bool.not_false, Bool.true_or, Bool.or_false, Bool.false_or, decide_eq_true_eq, Bool.false_eq_true, XF,
  Bool.or_true, bne_self_eq_false, isT_dict_non, isT_dict_bl, isT_dict_int, isT_dict_str, isT_dict_tup, isT_dict_lst, isT_list_non, isT_list_bl, isT_list_int, isT_list_str, isT_list_tup, isT_list_lst, isT_tuple_non, isT_tuple_bl, isT_tuple_int, isT_tuple_str, isT_tuple_tup, isT_tuple_lst, isT_bool_non, isT_bool_bl, isT_bool_int, isT_bool_str, isT_bool_tup, isT_bool_lst, isT_str_non, isT_str_bl, isT_str_int, isT_str_str, isT_str_tup, isT_str_lst, isT_int_non, isT_int_bl, isT_int_int, isT_int_str, isT_int_tup, isT_int_lst,
  atI0, atI1, atI2, atI3, atI4, ixN51, ixN52, ixN53, ixN54])
local macro_rules | `(tactic| walk_at "vh") => `(tactic| simp (maxSteps := 400000) only [tSeqD, tEitD, tEitS, tRevD, tRepD, tNewT, tPutT, gListT, gGcd3, gLt2, tFgtD, gAny, gMin, tIfSD, tRetD, retD, tSetD, tSetV, tVarD, tConD, tOpD, tUnD, tCaD, tCallD, tConsD, tNilD, tTupD, tLstD, tValD, tAndD, tOrD, tNotD, tIfD, tAndDV, tOrDV, tNotDV, tAsgD, tParD, tPar3D, tNamG, tTupG, tNilG, tConsG, tUnlG, tDropD, tNextD, tBrkD, tCntD, tNeverD, tStoD, tMetD, tSlLD, tNoPartD, tPartD, tChD, tIsiD, tIsiTD, tIsi3D, tFrzD, q0, tYesD, wipeD,
  gI0, gII, gIB, gAdd, gU, gEq, gIx, gIsN, gLen, gInt, gAbs, gBool, gList, gTupC, mAppend, mPop, mPopAt, mInsert, mReverse, rd, rds, vl, vls, slR, nob, mkArgs, bors, putOwns, edOf, outsP, noR, shD, eqD,
  List.getElem?_cons_zero, List.getElem?_cons_succ, List.getElem?_nil, List.set_cons_zero, List.set_cons_succ, List.cons_append, List.nil_append, List.length_cons, List.length_nil, List.replicate, Nat.add_sub_cancel, Nat.sub_self, Nat.reduceAdd, Nat.reduceSub, Int.reduceToNat, Int.reducePow, Int.reduceNeg, Int.reduceAdd, Int.reduceSub, Int.reduceMul, id_eq, true_and, and_true, List.nodup_nil, if_true, if_false, List.nodup_cons, List.not_mem_nil, not_false_eq_true, Bool.not_true, Bool.not_false, Bool.true_or, Bool.or_false, Bool.false_or, decide_eq_true_eq, Bool.false_eq_true, XF,
  Bool.or_true, bne_self_eq_false, isT_dict_non, isT_dict_bl, isT_dict_int, isT_dict_str, isT_dict_tup, isT_dict_lst, isT_list_non, isT_list_bl, isT_list_int, isT_list_str, isT_list_tup, isT_list_lst, isT_tuple_non, isT_tuple_bl, isT_tuple_int, isT_tuple_str, isT_tuple_tup, isT_tuple_lst, isT_bool_non, isT_bool_bl, isT_bool_int, isT_bool_str, isT_bool_tup, isT_bool_lst, isT_str_non, isT_str_bl, isT_str_int, isT_str_str, isT_str_tup, isT_str_lst, isT_int_non, isT_int_bl, isT_int_int, isT_int_str, isT_int_tup, isT_int_lst,
  atI0, atI1, atI2, atI3, atI4, ixN51, ixN52, ixN53, ixN54, *])
local macro_rules | `(tactic| walk_at "lf") => `(tactic| ((repeat' (with_reducible apply And.intro)) <;> first | exact mulR (by decide) (by decide) | exact pow1018 | exact pow3 (by omega) | exact divB (by omega) (by omega) | exact Int.emod_nonneg _ (by omega) | exact Int.emod_lt_of_pos _ (by omega) | exact Int.ediv_nonneg (by omega) (by omega) | omega | decide | assumption | skip))
local macro_rules | `(tactic| walk_at "vn") => `(tactic| simp (maxSteps := 400000) only [tSeqD, tEitD, tEitS, tRevD, tRepD, tNewT, tPutT, gListT, gGcd3, gLt2, tFgtD, gAny, gMin, tIfSD, tRetD, retD, tSetD, tSetV, tVarD, tConD, tOpD, tUnD, tCaD, tCallD, tConsD, tNilD, tTupD, tLstD, tValD, tAndD, tOrD, tNotD, tIfD, tAndDV, tOrDV, tNotDV, tAsgD, tParD, tPar3D, tNamG, tTupG, tNilG, tConsG, tUnlG, tDropD, tNextD, tBrkD, tCntD, tNeverD, tStoD, tMetD, tSlLD, tNoPartD, tPartD, tChD, tIsiD, tIsiTD, tIsi3D, tFrzD, q0, tYesD, wipeD,
  gI0, gII, gIB, gAdd, gU, gEq, gIx, gIsN, gLen, gInt, gAbs, gBool, gList, gTupC, mAppend, mPop, mPopAt, mInsert, mReverse, rd, rds, vl, vls, slR, nob, mkArgs, bors, putOwns, edOf, outsP, noR,
  List.getElem?_cons_zero, List.getElem?_cons_succ, List.getElem?_nil, List.set_cons_zero, List.set_cons_succ, List.cons_append, List.nil_append, List.length_cons, List.length_nil, List.replicate, Nat.add_sub_cancel, Nat.sub_self, Nat.reduceAdd, Nat.reduceSub, Int.reduceToNat, Int.reducePow, Int.reduceNeg, Int.reduceAdd, Int.reduceSub, Int.reduceMul, id_eq, true_and, and_true, List.nodup_nil, if_true, if_false, List.nodup_cons, List.not_mem_nil, not_false_eq_true, Bool.not_true, Bool.not_false, Bool.true_or, Bool.or_false, Bool.false_or, decide_eq_true_eq, Bool.false_eq_true, XF,
  Bool.or_true, bne_self_eq_false, isT_dict_non, isT_dict_bl, isT_dict_int, isT_dict_str, isT_dict_tup, isT_dict_lst, isT_list_non, isT_list_bl, isT_list_int, isT_list_str, isT_list_tup, isT_list_lst, isT_tuple_non, isT_tuple_bl, isT_tuple_int, isT_tuple_str, isT_tuple_tup, isT_tuple_lst, isT_bool_non, isT_bool_bl, isT_bool_int, isT_bool_str, isT_bool_tup, isT_bool_lst, isT_str_non, isT_str_bl, isT_str_int, isT_str_str, isT_str_tup, isT_str_lst, isT_int_non, isT_int_bl, isT_int_int, isT_int_str, isT_int_tup, isT_int_lst,
  atI0, atI1, atI2, atI3, atI4, ixN51, ixN52, ixN53, ixN54])

theorem hullOf_one {ps L L' : List P3} (h : HullOf ps L) (h' : HullOf ps L') : L = L' := by
  obtain ⟨v, t, h⟩ := h
  obtain ⟨v', t', h'⟩ := h'
  exact hull_one h h'
theorem hullOf_congr {ps ps' L : List P3} (e : ∀ x, x ∈ ps.map lowI ↔ x ∈ ps'.map lowI) (h : HullOf ps L) : HullOf ps' L := by
  obtain ⟨v, t, h⟩ := h
  have : (fun x => x ∈ ps.map lowI) = fun x => x ∈ ps'.map lowI := by
    funext x
    exact propext (e x)
  rw [this] at h
  exact ⟨v, t, h⟩
theorem hullOf_perm {ps ps' L : List P3} (p : ps'.Perm ps) (h : HullOf ps L) : HullOf ps' L := hullOf_congr (fun x => (p.map lowI).mem_iff.symm) h
theorem lowmap {ps : List P3} (hb : ∀ p ∈ ps, PosW p) : ∀ x ∈ ps.map lowI, LowP x := fun x hx => by
  obtain ⟨p, hp, rfl⟩ := List.mem_map.mp hx
  exact low_low (hb p hp)
theorem hullOf_mid {ps rs L : List P3} (hb : ∀ p ∈ ps, PosW p) (hr : ∀ p ∈ rs, PosW p) (hs : ∀ x ∈ ps, x ∈ rs) (hm : ∀ m ∈ rs, m ∈ ps ∨ ∃ p ∈ ps, ∃ r ∈ ps, m = lowI (p.1 * r.2.2 + r.1 * p.2.2, p.2.1 * r.2.2 + r.2.1 * p.2.2, 2 * p.2.2 * r.2.2)) (h : HullOf ps L) : HullOf rs L := by
  obtain ⟨v, t, h⟩ := h
  refine ⟨v, t, hull_mid (fun q hq => (lowmap hr q hq).w) (fun q t hq ht => low_tot (lowmap hr q hq) (lowmap hr t ht)) (fun x hx => ?_) (fun m hm' => ?_) h⟩
  · obtain ⟨p, hp, rfl⟩ := List.mem_map.mp hx
    exact List.mem_map.mpr ⟨p, hs p hp, rfl⟩
  · obtain ⟨y, hy, rfl⟩ := List.mem_map.mp hm'
    rcases hm y hy with z | ⟨p, hp, r, hr', e⟩
    · exact .inl (List.mem_map.mpr ⟨y, z, rfl⟩)
    · refine .inr ⟨lowI p, lowI r, List.mem_map.mpr ⟨p, hp, rfl⟩, List.mem_map.mpr ⟨r, hr', rfl⟩, ?_⟩
      have wt : PosW (p.1 * r.2.2 + r.1 * p.2.2, p.2.1 * r.2.2 + r.2.1 * p.2.2, 2 * p.2.2 * r.2.2) := Int.mul_pos (Int.mul_pos (by decide) (hb p hp)) (hb r hr')
      have := mid_low (hb p hp) (hb r hr')
      rw [e, low_id (low_low wt)]
      exact this
theorem hullOf_mem {ps L : List P3} (h : HullOf ps L) : ∀ x ∈ L, x ∈ ps.map lowI := by
  obtain ⟨v, t, h⟩ := h
  exact h.mem
theorem hullOf_ne {ps L : List P3} (h : HullOf ps L) : L ≠ [] := by
  obtain ⟨v, t, h⟩ := h
  rw [h.eq]
  simp
theorem hullOf_self {ps L : List P3} (hb : ∀ p ∈ ps, PosW p) (h : HullOf ps L) : HullOf L L := by
  have hm := hullOf_mem h
  obtain ⟨v, t, h⟩ := h
  have e : L.map lowI = L := by
    have : ∀ x ∈ L, lowI x = x := fun x hx => low_id (lowmap hb x (hm x hx))
    conv => rhs; rw [← List.map_id L]
    exact List.map_congr_left this
  refine ⟨v, t, hull_sub h (fun x hx => ?_) (fun x hx => ?_)⟩
  · rw [e] at hx
    exact hm x hx
  · show x ∈ L.map lowI
    rw [e]
    exact hx
theorem ok_pts : ∀ ps : List P3, okDs (ps.map dP) = true := fun ps => okDs_map fun p _ => by simp [dP, okD, okDs]
theorem dep_pts2 : ∀ ps : List P3, depDs (ps.map dP) ≤ 1 := fun ps => depDs_map fun p _ => by simp [dP, depD, depDs]
theorem ok_lst {ps : List P3} (h : ps.length ≤ 1000) : okD (.lst (ps.map dP)) = true := by
  simp only [okD, ok_pts, Bool.true_and, decide_eq_true_eq, List.length_map]
  omega
theorem dep_lst (ps : List P3) : depD (.lst (ps.map dP)) ≤ 3 := by
  have := dep_pts2 ps
  simp only [depD]
  omega
theorem Bw.bh {p : P3} (h : Bw p) : Bh p := ⟨by have := h.1; omega, by have := h.2.1; omega, h.2.2.1, by have := h.2.2.2; omega⟩
theorem met_touch {ps L : List P3} (hb : ∀ p ∈ ps, PosW p) (hne : ps ≠ []) (h : HullOf ps L) : MetL L ↔ Touch ps := by
  obtain ⟨v, t, h⟩ := h
  rw [met_open (lowmap hb) h, touch_open hne, open_low hb]
/-- as good as the points themselves, to an asker who asks about sides -/
structure Alike (ps qs : List P3) : Prop where
  ne : qs ≠ []
  len : qs.length ≤ 100
  bh : ∀ q ∈ qs, Bh q
  sided : Sided qs ↔ Sided ps
  touch : Touch qs ↔ Touch ps
  cov : ∀ f, nzP f → (∀ q ∈ qs, 0 ≤ crossI f q) → ∀ p ∈ ps, 0 ≤ crossI f p
theorem alike_perm {ps qs : List P3} (hl : ps.length ≤ 100) (hb : ∀ p ∈ ps, Bh p) (hne : ps ≠ []) (h : qs.Perm ps) : Alike ps qs := by
  have ne : qs ≠ [] := fun e => by rw [e] at h; exact hne (List.Perm.nil_eq h).symm
  have m : ∀ x, x ∈ qs ↔ x ∈ ps := fun x => h.mem_iff
  refine ⟨ne, by rw [h.length_eq]; exact hl, fun q hq => hb q ((m q).mp hq), ⟨sided_sub fun x hx => (m x).mpr hx, sided_sub fun x hx => (m x).mp hx⟩, ?_, fun f _ k p hp => k p ((m p).mpr hp)⟩
  rw [touch_open ne, touch_open hne]
  exact ⟨fun k z => k (open_sub (fun x hx => (m x).mp hx) z), fun k z => k (open_sub (fun x hx => (m x).mpr hx) z)⟩
theorem alike_hull {ps L : List P3} (hl : L.length ≤ 100) (hb : ∀ p ∈ ps, Bh p) (hne : ps ≠ []) (h : HullOf ps L) : Alike ps L := by
  have hW : ∀ p ∈ ps, PosW p := fun p hp => (hb p hp).w
  have Lb : ∀ x ∈ L, Bh x := fun x hx => by
    obtain ⟨q, hq, rfl⟩ := List.mem_map.mp (hullOf_mem h x hx)
    exact (hb q hq).low
  have Lne := hullOf_ne h
  refine ⟨Lne, hl, Lb, ?_, ?_, ?_⟩
  · obtain ⟨v, t, k⟩ := h
    rw [sided_low hW, sided_hull (lowmap hW) k]
  · rw [← met_touch hW hne h, ← met_touch (fun x hx => (Lb x hx).w) Lne (hullOf_self hW h)]
  · intro f nf k p hp
    obtain ⟨v, t, kk⟩ := h
    have := side_in (lowmap hW) kk nf k (lowI p) (List.mem_map.mpr ⟨p, hp, rfl⟩)
    rw [cross_low (hW p hp)]
    exact sg_nn (Int.le_of_lt (gI_pos (hW p hp)).1) this
theorem side_good {ps qs : List P3} (h : Alike ps qs) {a b : Int} (e : sideD qs = .tup [.int a, .int b]) : (a ≠ 0 ∨ b ≠ 0) ∧ a.natAbs < 2 ^ 140 ∧ b.natAbs < 2 ^ 140 ∧ ∀ p ∈ ps, 0 ≤ a * p.1 + b * p.2.1 := by
  have cr : ∀ (a b : Int) (p : P3), crossI (b, -a, 1) p = a * p.1 + b * p.2.1 := fun a b p => by
    unfold crossI
    simp only [Int.neg_mul]
    omega
  have fin : ∀ a b : Int, (a ≠ 0 ∨ b ≠ 0) → (∀ q ∈ qs, 0 ≤ crossI (b, -a, 1) q) → ∀ p ∈ ps, 0 ≤ a * p.1 + b * p.2.1 := fun a b nz k p hp => by
    rw [← cr]
    exact h.cov _ (by unfold nzP; simp only; omega) k p hp
  unfold sideD at e
  cases hA : rightm qs with
  | none =>
    rw [hA] at e
    simp only [D.tup.injEq, List.cons.injEq, D.int.injEq, and_true] at e
    obtain ⟨rfl, rfl⟩ := e
    refine ⟨.inl (by decide), by decide, by decide, fin 1 0 (.inl (by decide)) fun q hq => ?_⟩
    have := rightm_none.mp hA q hq
    unfold nzP at this
    rw [cr]
    omega
  | some f =>
    have ⟨mf, nf⟩ := rightm_mem hA
    obtain ⟨f1, f2, _, _⟩ := h.bh f mf
    rw [hA] at e
    simp only at e
    split at e
    · rename_i z
      simp only [D.tup.injEq, List.cons.injEq, D.int.injEq, and_true] at e
      obtain ⟨rfl, rfl⟩ := e
      have nz : -f.2.1 ≠ 0 ∨ f.1 ≠ 0 := by unfold nzP at nf; omega
      refine ⟨nz, by omega, f1, fin _ _ nz fun q hq => ?_⟩
      have e2 : crossI (f.1, -(-f.2.1), 1) q = crossI f q := by
        unfold crossI
        simp
      rw [e2]
      exact z q hq
    · cases e
theorem bool_iff {a b : Bool} {P : Prop} (h1 : a = true ↔ P) (h2 : b = true ↔ P) : a = b := by
  cases a <;> cases b <;> simp_all
def sp_law : Spc := fun args Φ _ => ∃ ns : List Int, args = [.val (.lst (ns.map D.int))] ∧ Φ (.val (.bl true)) []
/-- slots: 0 script, 1 bag, 2 k, 3 some, 4 free, 5 met, 6 handed, 7 rows, 8 told -/
def T_law : TDs :=
  (tCutD (tSetD 1 (tCallD 1 (q0 sp__law_bag) (tConsD (tVarD 0) tNilD)))
  (tCutD (tForR1 (tConsD (tConD (.int 5)) tNilD) (tNamG 2) (tCutD (tSetV 3 (tCallD 1 (q0 sp__law_some) (tConsD (tVarD 1) tNilD)))
  (tCutD (tSetV 4 (tNotDV (tCallD 1 (q0 sp__law_one_handed) (tConsD (tVarD 3) tNilD))))
  (tCutD (tSetV 5 (tOpD (gIB fun i j => decide (j ≤ i)) (tCallD 2 (q0 sp__law_where) (tConsD (tCallD 1 (q0 sp__law_hull) (tConsD (tVarD 3) tNilD)) (tConsD (tTupD (tConsD (tConD (.int 0)) (tConsD (tConD (.int 0)) (tConsD (tConD (.int 1)) tNilD)))) tNilD))) (tConD (.int 0))))
  (tCutD (tSetV 6 (tCaD gList (tConsD (tVarD 3) tNilD)))
  (tCutD (tForLD (tLstD (tConsD (tVarD 6) (tConsD (tCallD 1 (q0 sp_hull) (tConsD (tCaD gList (tConsD (tVarD 3) tNilD)) tNilD)) (tConsD (tCaD gTupC (tConsD (tCallD 2 (q0 sp__law_shuffled) (tConsD (tVarD 1) (tConsD (tVarD 3) tNilD))) tNilD)) tNilD)))) (tNamG 7) (tCutD (tIfSD (tOrD (tNotD (tValD (tCallD 2 (q0 (sp__law_like 3)) (tConsD (tCallD 1 (q0 sp_inner) (tConsD (tVarD 7) tNilD)) (tConsD (tVarD 4) tNilD))))) (tNotD (tValD (tCallD 2 (q0 (sp__law_like 3)) (tConsD (tCallD 1 (q0 sp_touches) (tConsD (tVarD 7) tNilD)) (tConsD (tVarD 5) tNilD)))))) (tRetD (tConD (.bl false))) tNextD)
  (tCutD (tSetV 8 (tCallD 1 (q0 sp_side) (tConsD (tVarD 7) tNilD)))
  (tIfSD (tOrD (tAndD (tValD (tVarD 4)) (tValD (tOpD (gIsN not) (tVarD 8) (tConD .non)))) (tAndD (tNotD (tValD (tVarD 4))) (tNotD (tValD (tCallD 2 (q0 sp__law_right_side) (tConsD (tVarD 8) (tConsD (tVarD 3) tNilD))))))) (tRetD (tConD (.bl false))) tNextD))))
  (tCutD (tIfSD (tNotD (tValD (tCallD 2 (q0 (sp__law_like 3)) (tConsD (tVarD 6) (tConsD (tVarD 3) tNilD))))) (tRetD (tConD (.bl false))) tNextD)
  (tIfSD (tAndD (tValD (tOpD (gEq id) (tCallD 2 (q0 sp__law_draw) (tConsD (tVarD 1) (tConsD (tConD (.int 2)) tNilD))) (tConD (.int 0)))) (tNotD (tValD (tCallD 2 (q0 (sp__law_like 3)) (tConsD (tCallD 1 (q0 sp_inner) (tConsD (tSlLD (tVarD 3) tNoPartD (tPartD (tConD (.int 1)))) tNilD)) (tConsD (tConD (.bl false)) tNilD)))))) (tRetD (tConD (.bl false))) tNextD))))))))
  (tRetD (tConD (.bl true)))))
theorem rd_law {args : En} {Φ : Res → List D → Prop} {Ψ : Xc → List D → Prop} (h : sp_law args Φ Ψ) : T_law (edOf args Φ XN) (noR ["script", "bag", "k", "some", "free", "met", "handed", "rows", "told"] args) := by
  obtain ⟨ns, rfl, h⟩ := h
  unfold T_law
  generalize hSc : Sl.val (D.lst (ns.map D.int)) = Sc
  refine ⟨fun en => ∃ (p : Addr) (d1 : D), en = [Sc, .own p d1, .no, .no, .no, .no, .no, .no, .no] ∧ BagOk d1, ?_, ?_⟩
  · subst hSc
    unfold sp__law_bag
    walk_at "vs"
    exact ⟨ns, rfl, fun p d hd => ⟨p, d, rfl, hd⟩⟩
  rintro _ ⟨p, d1, rfl, hk1⟩
  refine ⟨fun en => ∃ (d1 : D) (e2 e3 e4 e5 e6 e7 e8 : Sl), en = [Sc, .own p d1, e2, e3, e4, e5, e6, e7, e8] ∧ BagOk d1, ?_, ?_⟩
  · refine forR1_i (fun _ en => ∃ (d1 : D) (e2 e3 e4 e5 e6 e7 e8 : Sl), en = [Sc, .own p d1, e2, e3, e4, e5, e6, e7, e8] ∧ BagOk d1)
      (en1 := [Sc, .own p d1, .no, .no, .no, .no, .no, .no, .no]) (n := 5) ?_ (by decide) (by decide) ⟨d1, _, _, _, _, _, _, _, rfl, hk1⟩ ?_ (fun en z => z)
    · intro Φ z
      walk_at "vs"
      exact z
    rintro i _ hi ⟨d1, e2, e3, e4, e5, e6, e7, e8, rfl, hk1⟩
    show tCutD _ _ _ _
    refine ⟨fun en => ∃ (d2 : D) (ps : List P3), en = [Sc, .own p d2, .val (.int i), .val (.lst (ps.map dP)), e4, e5, e6, e7, e8] ∧ BagOk d2 ∧ ps ≠ [] ∧ ps.length ≤ 18 ∧ ∀ p ∈ ps, Bw p, ?_, ?_⟩
    · unfold sp__law_some
      walk_at "vs"
      exact ⟨p, d1, rfl, hk1, fun a ps d2 h1 h2 h3 hk2 => ⟨d2, ps, rfl, hk2, h1, h2, h3⟩⟩
    rintro _ ⟨d2, ps, rfl, hk2, hne, hl, hbw⟩
    clear hk1
    have hB : ∀ p ∈ ps, Bh p := fun p hp => (hbw p hp).bh
    have hW : ∀ p ∈ ps, PosW p := fun p hp => (hB p hp).w
    generalize hS : Sl.val (D.lst (ps.map dP)) = S
    refine ⟨fun en => ∃ fr : Bool, en = [Sc, .own p d2, .val (.int i), S, .val (.bl fr), e5, e6, e7, e8] ∧ (fr = true ↔ ¬ Sided ps), ?_, ?_⟩
    · subst hS
      unfold sp__law_one_handed
      walk_at "vs"
      refine ⟨ps, rfl, by omega, hB, fun b hb => ?_⟩
      cases b with
      | true => exact ⟨false, rfl, by simp [hb.mp rfl]⟩
      | false => exact ⟨true, rfl, by simp only [true_iff]; exact fun z => by cases hb.mpr z⟩
    rintro _ ⟨fr, rfl, hfr⟩
    refine ⟨fun en => ∃ me : Bool, en = [Sc, .own p d2, .val (.int i), S, .val (.bl fr), .val (.bl me), e6, e7, e8] ∧ (me = true ↔ Touch ps), ?_, ?_⟩
    · subst hS
      unfold sp__law_where sp__law_hull
      walk_at "vs"
      refine ⟨ps, rfl, hne, by omega, hB, fun a L hL hLl => ⟨sz1000 (by decide), L, rfl, hullOf_ne hL, by omega, fun x hx => ?_, fun k hk => ⟨decide (0 ≤ k), rfl, ?_⟩⟩⟩
      · obtain ⟨q, hq, rfl⟩ := List.mem_map.mp (hullOf_mem hL x hx)
        exact (hB q hq).low
      · rw [decide_eq_true_eq, hk, met_touch hW hne hL]
    rintro _ ⟨me, rfl, hme⟩
    refine ⟨fun en => en = [Sc, .own p d2, .val (.int i), S, .val (.bl fr), .val (.bl me), S, e7, e8], ?_, ?_⟩
    · subst hS
      walk_at "vs"
      exact fun _ => trivial
    rintro _ rfl
    refine ⟨fun en => ∃ (d4 : D) (e7 e8 : Sl), en = [Sc, .own p d4, .val (.int i), S, .val (.bl fr), .val (.bl me), S, e7, e8] ∧ BagOk d4, ?_, ?_⟩
    · refine forLo_p (fun ds en => ∃ (d4 : D) (L ps' : List P3), ds = [.lst (ps.map dP), .lst (L.map dP), .tup (ps'.map dP)] ∧ HullOf ps L ∧ L.length ≤ 100 ∧ ps'.Perm ps ∧ en = [Sc, .own p d4, .val (.int i), S, .val (.bl fr), .val (.bl me), S, e7, e8] ∧ BagOk d4)
        (fun _ en => ∃ (d4 : D) (e7 e8 : Sl), en = [Sc, .own p d4, .val (.int i), S, .val (.bl fr), .val (.bl me), S, e7, e8] ∧ BagOk d4) (fun Φ z => ?_) ?_ ?_ ?_
      · subst hS
        unfold sp_hull sp_hull_corners sp__law_shuffled
        walk_at "vs"
        intro p1
        refine ⟨ps, _, rfl, .inl rfl, hne, by omega, hB, fun a L hL hLl => ⟨p, d2, _, rfl, hk2, by rw [List.length_map]; omega, fun b es d4 hp hk4 => ?_⟩⟩
        obtain ⟨ps', hp', rfl⟩ := perm_map hp ps rfl
        exact ⟨sz1000 (by decide), fun q => z q _ _ ⟨d4, L, ps', rfl, hL, by omega, hp', rfl, hk4⟩⟩
      · rintro ds _ ⟨d4, L, ps', rfl, hL, hLl, hp, rfl, hk4⟩
        exact ⟨d4, _, _, rfl, hk4⟩
      · rintro ds _ ⟨_, L, ps', rfl, hL, hLl, hp, _, _⟩ j d _ hd ⟨d4, e7, e8, rfl, hk4⟩
        have al : ∃ qs, Alike ps qs ∧ SeqP qs d := by
          match j, hd with
          | 0, hd => cases hd; exact ⟨ps, alike_perm (by omega) hB hne (List.Perm.refl _), .inl rfl⟩
          | 1, hd => cases hd; exact ⟨L, alike_hull hLl hB hne hL, .inl rfl⟩
          | 2, hd => cases hd; exact ⟨ps', alike_perm (by omega) hB hne hp, .inr rfl⟩
          | j + 3, hd => simp at hd
        obtain ⟨qs, al, sq⟩ := al
        clear hd
        show tCutD _ _ _ _
        refine ⟨fun en => en = [Sc, .own p d4, .val (.int i), S, .val (.bl fr), .val (.bl me), S, .val d, e8], ?_, ?_⟩
        · unfold sp__law_like sp_inner sp_touches sp_touches_zero
          walk_at "vs"
          refine ⟨qs, d, rfl, sq, al.len, al.bh, fun b hb => ?_⟩
          have eb : b = fr := bool_iff hb (by rw [hfr, al.sided])
          subst eb
          refine ⟨.bl b, rfl, rfl, by simp [depD], ?_⟩
          try walk_at "vs"
          refine ⟨qs, d, rfl, sq, al.len, al.bh, fun c hc => ?_⟩
          have ec : c = me := bool_iff hc (by rw [hme, al.touch])
          subst ec
          exact ⟨.bl c, rfl, rfl, by simp [depD]⟩
        rintro _ rfl
        refine ⟨fun en => en = [Sc, .own p d4, .val (.int i), S, .val (.bl fr), .val (.bl me), S, .val d, .val (sideD qs)], ?_, ?_⟩
        · unfold sp_side sp_side_found
          walk_at "vs"
          exact ⟨qs, d, rfl, sq, al.len, al.bh, rfl⟩
        rintro _ rfl
        rcases sideD_none (ps := qs) with ⟨a, b, e, k⟩ | ⟨e, k⟩
        · have ef : fr = false := by
            cases fr with
            | false => rfl
            | true => exact absurd (al.sided.mp k) (hfr.mp rfl)
          obtain ⟨g1, g2, g3, g4⟩ := side_good al e
          subst hS ef
          rw [e]
          unfold sp__law_right_side
          walk_at "vs"
          exact ⟨a, b, ps, rfl, g1, g2, g3, by omega, hB, g4, d4, _, _, rfl, hk4⟩
        · have ef : fr = true := hfr.mpr fun z => k (al.sided.mpr z)
          subst ef
          rw [e]
          walk_at "vs"
          exact ⟨d4, _, _, rfl, hk4⟩
      · rintro ds _ _ _ ⟨d4, e7, e8, rfl, hk4⟩
        exact ⟨d4, _, _, rfl, hk4⟩
    rintro _ ⟨d4, e7, e8, rfl, hk4⟩
    refine ⟨fun en => en = [Sc, .own p d4, .val (.int i), S, .val (.bl fr), .val (.bl me), S, e7, e8], ?_, ?_⟩
    · subst hS
      unfold sp__law_like
      walk_at "vs"
      exact ⟨_, rfl, ok_lst (by omega), dep_lst ps⟩
    rintro _ rfl
    subst hS
    obtain ⟨ys, ey, ym, yl, yn⟩ := cut_some ps 1
    obtain ⟨y1, yne⟩ := yn (by decide)
    have yne := yne hne
    obtain ⟨y, rfl⟩ : ∃ y, ys = [y] := by
      match ys, yne, y1 with
      | [y], _, _ => exact ⟨y, rfl⟩
    unfold sp__law_draw sp__law_like sp_inner
    walk_at "vs"
    refine ⟨p, d4, 2, rfl, hk4, by decide, by decide, fun k d5 k0 k1 hk5 => ?_⟩
    have done : ∃ (d1 : D) (f2 f3 f4 f5 f6 f7 f8 : Sl), ([Sc, .own p d5, .val (.int i), .val (.lst (ps.map dP)), .val (.bl fr), .val (.bl me), .val (.lst (ps.map dP)), e7, e8] : En) = [Sc, .own p d1, f2, f3, f4, f5, f6, f7, f8] ∧ BagOk d1 := ⟨d5, _, _, _, _, _, _, _, rfl, hk5⟩
    split
    · rw [ey]
      intro p1
      refine ⟨[y], _, rfl, .inl rfl, by simp, fun q hq => hB q (ym q hq), fun b hb => ?_⟩
      have eb : b = false := by
        cases b with
        | false => rfl
        | true => exact absurd (sided_one y) (hb.mp rfl)
      subst eb
      refine ⟨.bl false, rfl, rfl, by simp [depD], ?_⟩
      try walk_at "vs"
      exact done
    · exact done
  · rintro _ ⟨d1, e2, e3, e4, e5, e6, e7, e8, rfl, hk1⟩
    walk_at "vs"
    subst hSc
    exact h
end VS

namespace VS
open PySem L2 PySem.Spec PyProof.Rows

def top (i : Nat) : Stmt := PySem.Challenge.pw_surelycrossed_k02_whole_inner_or_side.main.body.getD i (.Pass ⟨0, 0, 0, 0⟩)
section
variable {P : Program} {w : World} {K : PySem.W.Frag} {mg : Str → Option Value} {base : Heap}

abbrev s_point_of : Stmt := top 2
abbrev N_point_of : List Str := (["x", "y", "w", "common"] : List Str)
theorem sc_point_of : FnScope N_point_of ["x", "y", "w"] (defScope s_point_of) := ⟨rfl, rfl, rfl, by decide +kernel, rfl, by decide +kernel, by decide +kernel⟩

theorem ok_point_of {f : Addr} {fd : FuncData} (F : Fun K "point_of" "point_of" s_point_of f fd)
    (m_gcd : mg "gcd" = some (.builtin "math.gcd")) : FnOk P w K mg base CX0 1 f fd ["x", "y", "w"] (lSp K 3 sp_point_of) := by
  refine fn_vs F sc_point_of rfl (fun cdv A outer s H E hr => ?_)
  exact ⟨T_point_of, (dss_cut (ds_setV (i := 3) sc_point_of.nd rfl (Or.inl rfl) (de_gcd3 m_gcd (da_cons (dv 0) (da_cons (dv 1) (da_cons (dv 2) da_nil)))))
  (dss_one (ds_ret (de_tup (da_cons (de_fdiv (dv 0) (dv 3)) (da_cons (de_fdiv (dv 1) (dv 3)) (da_cons (de_fdiv (dv 2) (dv 3)) da_nil))))))), fun args Φ hl h => rd_point_of h⟩
abbrev s_left_turn : Stmt := top 4
abbrev N_left_turn : List Str := (["p", "q", "r"] : List Str)
theorem sc_left_turn : FnScope N_left_turn ["p", "q", "r"] (defScope s_left_turn) := ⟨rfl, rfl, rfl, by decide +kernel, rfl, by decide +kernel, by decide +kernel⟩

theorem ok_left_turn {f : Addr} {fd : FuncData} (F : Fun K "left_turn" "left_turn" s_left_turn f fd)
     : FnOk P w K mg base CX0 1 f fd ["p", "q", "r"] (lSp K 3 sp_left_turn) := by
  refine fn_vs F sc_left_turn rfl (fun cdv A outer s H E hr => ?_)
  exact ⟨T_left_turn, (dss_one (ds_ret (de_addA (de_sub (de_mulA (de_item (dv 0) de_int) (de_sub (de_mulA (de_item (dv 1) de_int) (de_item (dv 2) de_int)) (de_mulA (de_item (dv 2) de_int) (de_item (dv 1) de_int)))) (de_mulA (de_item (dv 0) de_int) (de_sub (de_mulA (de_item (dv 1) de_int) (de_item (dv 2) de_int)) (de_mulA (de_item (dv 2) de_int) (de_item (dv 1) de_int))))) (de_mulA (de_item (dv 0) de_int) (de_sub (de_mulA (de_item (dv 1) de_int) (de_item (dv 2) de_int)) (de_mulA (de_item (dv 2) de_int) (de_item (dv 1) de_int))))))), fun args Φ hl h => rd_left_turn h⟩
abbrev s_is_before : Stmt := top 5
abbrev N_is_before : List Str := (["p", "q", "across"] : List Str)
theorem sc_is_before : FnScope N_is_before ["p", "q"] (defScope s_is_before) := ⟨rfl, rfl, rfl, by decide +kernel, rfl, by decide +kernel, by decide +kernel⟩

theorem ok_is_before {f : Addr} {fd : FuncData} (F : Fun K "is_before" "is_before" s_is_before f fd)
     : FnOk P w K mg base CX0 1 f fd ["p", "q"] (lSp K 2 sp_is_before) := by
  refine fn_vs F sc_is_before rfl (fun cdv A outer s H E hr => ?_)
  exact ⟨T_is_before, (dss_cut (ds_setV (i := 2) sc_is_before.nd rfl (Or.inl rfl) (de_sub (de_mulA (de_item (dv 0) de_int) (de_item (dv 1) de_int)) (de_mulA (de_item (dv 1) de_int) (de_item (dv 0) de_int))))
  (dss_cons (ds_if (dt_ne hr.units (dv 2) de_int) (dss_one (ds_ret (de_lt (dv 2) de_int))) dss_nil)
  (dss_one (ds_ret (de_lt (de_mulA (de_item (dv 0) de_int) (de_item (dv 1) de_int)) (de_mulA (de_item (dv 1) de_int) (de_item (dv 0) de_int))))))), fun args Φ hl h => rd_is_before h⟩
abbrev s_in_order : Stmt := top 6
abbrev N_in_order : List Str := (["points", "row", "p", "low", "high", "half"] : List Str)
theorem sc_in_order : FnScope N_in_order ["points"] (defScope s_in_order) := ⟨rfl, rfl, rfl, by decide +kernel, rfl, by decide +kernel, by decide +kernel⟩

theorem ok_in_order {f : Addr} {fd : FuncData} (F : Fun K "in_order" "in_order" s_in_order f fd)
    {f_is_before : Addr} {d_is_before : FuncData} (G_is_before : Cal P w K mg base CX0 1 2 sp_is_before "is_before" f_is_before d_is_before ["p", "q"])
    (m_len : mg "len" = none) : FnOk P w K mg base CX0 2 f fd ["points"] (lSp K 1 sp_in_order) := by
  refine fn_vs F sc_in_order rfl (fun cdv A outer s H E hr => ?_)
  exact ⟨T_in_order, (dss_cons (ds_set (i := 1) sc_in_order.nd rfl (Or.inl rfl) (de_lst da_nil))
  (dss_cut (ds_forL PassesOwn.never rfl (dv 0) (dg_name (i := 2) sc_in_order.nd rfl (Or.inl rfl)) (dss_cut (ds_setV (i := 3) sc_in_order.nd rfl (Or.inl rfl) de_int)
  (dss_cut (ds_setV (i := 4) sc_in_order.nd rfl (Or.inl rfl) (de_len m_len (da_cons (dv 1) da_nil)))
  (dss_cut (ds_while PassesOwn.never (dt_lt (dv 3) (dv 4)) (dss_cut (ds_setV (i := 5) sc_in_order.nd rfl (Or.inl rfl) (de_fdiv (de_addA (dv 3) (dv 4)) de_int))
  (dss_one (ds_if (dt_val (dc G_is_before hr (da_cons (de_item (dv 1) (dv 5)) (da_cons (dv 2) da_nil)))) (dss_one (ds_setV (i := 3) sc_in_order.nd rfl (Or.inl rfl) (de_addA (dv 5) de_int))) (dss_one (ds_setV (i := 4) sc_in_order.nd rfl (Or.inl rfl) (dv 5)))))))
  (dss_one (ds_if (dt_w (dw_or (dt_eq hr.units (dv 3) (de_len m_len (da_cons (dv 1) da_nil))) (dw_or1 (dt_ne hr.units (de_item (dv 1) (dv 3)) (dv 2))))) (dss_one (ds_expr (dm_insert (pv 1) (da_cons (dv 3) (da_cons (dv 2) da_nil))))) dss_nil))))))
  (dss_one (ds_ret (dv 1))))), fun args Φ hl h => rd_in_order h⟩
abbrev s_rim_along : Stmt := top 7
abbrev N_rim_along : List Str := (["row", "kept", "p"] : List Str)
theorem sc_rim_along : FnScope N_rim_along ["row"] (defScope s_rim_along) := ⟨rfl, rfl, rfl, by decide +kernel, rfl, by decide +kernel, by decide +kernel⟩

theorem ok_rim_along {f : Addr} {fd : FuncData} (F : Fun K "rim_along" "rim_along" s_rim_along f fd)
    {f_left_turn : Addr} {d_left_turn : FuncData} (G_left_turn : Cal P w K mg base CX0 1 3 sp_left_turn "left_turn" f_left_turn d_left_turn ["p", "q", "r"])
    (m_len : mg "len" = none) : FnOk P w K mg base CX0 2 f fd ["row"] (lSp K 1 sp_rim_along) := by
  refine fn_vs F sc_rim_along rfl (fun cdv A outer s H E hr => ?_)
  exact ⟨T_rim_along, (dss_cons (ds_set (i := 1) sc_rim_along.nd rfl (Or.inl rfl) (de_lst da_nil))
  (dss_cut (ds_forL PassesOwn.never rfl (dv 0) (dg_name (i := 2) sc_rim_along.nd rfl (Or.inl rfl)) (dss_cut (ds_while PassesOwn.never (dt_w (dw_and (dt_gt (de_len m_len (da_cons (dv 1) da_nil)) de_int) (dw_and1 (dt_le (dc G_left_turn hr (da_cons (de_item (dv 1) (de_neg de_int)) (da_cons (de_item (dv 1) (de_neg de_int)) (da_cons (dv 2) da_nil)))) de_int)))) (dss_one (ds_expr (dm_pop (pv 1)))))
  (dss_one (ds_expr (dm_append (pv 1) (da_cons (dv 2) da_nil))))))
  (dss_one (ds_ret (dv 1))))), fun args Φ hl h => rd_rim_along h⟩
abbrev s_hull_corners : Stmt := top 8
abbrev N_hull_corners : List Str := (["points", "row", "lower", "upper", "x", "y", "w"] : List Str)
theorem sc_hull_corners : FnScope N_hull_corners ["points"] (defScope s_hull_corners) := ⟨rfl, rfl, rfl, by decide +kernel, rfl, by decide +kernel, by decide +kernel⟩

theorem ok_hull_corners {f : Addr} {fd : FuncData} (F : Fun K "hull_corners" "hull_corners" s_hull_corners f fd)
    {f_rim_along : Addr} {d_rim_along : FuncData} (G_rim_along : Cal P w K mg base CX0 2 1 sp_rim_along "rim_along" f_rim_along d_rim_along ["row"])
    {f_in_order : Addr} {d_in_order : FuncData} (G_in_order : Cal P w K mg base CX0 2 1 sp_in_order "in_order" f_in_order d_in_order ["points"])
    {f_point_of : Addr} {d_point_of : FuncData} (G_point_of : Cal P w K mg base CX0 1 3 sp_point_of "point_of" f_point_of d_point_of ["x", "y", "w"])
    (m_len : mg "len" = none) : FnOk P w K mg base CX0 3 f fd ["points"] (lSp K 1 sp_hull_corners) := by
  refine fn_vs F sc_hull_corners rfl (fun cdv A outer s H E hr => ?_)
  exact ⟨T_hull_corners, (dss_cut (ds_set (i := 1) sc_hull_corners.nd rfl (Or.inl rfl) (dc G_in_order hr (da_cons (de_eit (de_lcL (own := [("x", 4), ("y", 5), ("w", 6)]) rfl sc_hull_corners.nd (dv 0) (blkOk_by (N := N_hull_corners) (sc := defScope s_hull_corners) (own := [("x", 4), ("y", 5), ("w", 6)]) (by decide +kernel)) (fun _ _ _ _ _ => (dg_tup rfl (dgs_cons (dg_name (i := 4) sc_hull_corners.nd rfl (Or.inl rfl)) (dgs_cons (dg_name (i := 5) sc_hull_corners.nd rfl (Or.inl rfl)) (dgs_cons (dg_name (i := 6) sc_hull_corners.nd rfl (Or.inl rfl)) dgs_nil))))) (fun _ _ _ _ _ => dts_nil) (fun _ _ _ _ _ => (dc G_point_of hr (da_cons (dv 4) (da_cons (dv 5) (da_cons (dv 6) da_nil)))))) (de_lcT (own := [("x", 4), ("y", 5), ("w", 6)]) rfl sc_hull_corners.nd (dv 0) (blkOk_by (N := N_hull_corners) (sc := defScope s_hull_corners) (own := [("x", 4), ("y", 5), ("w", 6)]) (by decide +kernel)) (fun _ _ _ _ _ => (dg_tup rfl (dgs_cons (dg_name (i := 4) sc_hull_corners.nd rfl (Or.inl rfl)) (dgs_cons (dg_name (i := 5) sc_hull_corners.nd rfl (Or.inl rfl)) (dgs_cons (dg_name (i := 6) sc_hull_corners.nd rfl (Or.inl rfl)) dgs_nil))))) (fun _ _ _ _ _ => dts_nil) (fun _ _ _ _ _ => (dc G_point_of hr (da_cons (dv 4) (da_cons (dv 5) (da_cons (dv 6) da_nil))))))) da_nil)))
  (dss_cut (ds_if (dt_lt (de_len m_len (da_cons (dv 1) da_nil)) de_int) (dss_one (ds_ret (dv 1))) dss_nil)
  (dss_frz 1 (dss_cut (ds_setV (i := 2) sc_hull_corners.nd rfl (Or.inl rfl) (dc G_rim_along hr (da_cons (dv 1) da_nil)))
  (dss_cut (ds_setV (i := 3) sc_hull_corners.nd rfl (Or.inl rfl) (dc G_rim_along hr (da_cons (de_rev (dv 1)) da_nil)))
  (dss_one (ds_ret (de_addA (de_slL (dv 2) do_none (do_some (de_neg de_int))) (de_slL (dv 3) do_none (do_some (de_neg de_int))))))))))), fun args Φ hl h => rd_hull_corners h⟩
abbrev s_cross : Stmt := top 10
abbrev N_cross : List Str := (["p", "q"] : List Str)
theorem sc_cross : FnScope N_cross ["p", "q"] (defScope s_cross) := ⟨rfl, rfl, rfl, by decide +kernel, rfl, by decide +kernel, by decide +kernel⟩

theorem ok_cross {f : Addr} {fd : FuncData} (F : Fun K "cross" "cross" s_cross f fd)
     : FnOk P w K mg base CX0 1 f fd ["p", "q"] (lSp K 2 sp_cross) := by
  refine fn_vs F sc_cross rfl (fun cdv A outer s H E hr => ?_)
  exact ⟨T_cross, (dss_one (ds_ret (de_sub (de_mulA (de_item (dv 0) de_int) (de_item (dv 1) de_int)) (de_mulA (de_item (dv 0) de_int) (de_item (dv 1) de_int))))), fun args Φ hl h => rd_cross h⟩
abbrev s_rightmost : Stmt := top 11
abbrev N_rightmost : List Str := (["points", "first", "p"] : List Str)
theorem sc_rightmost : FnScope N_rightmost ["points"] (defScope s_rightmost) := ⟨rfl, rfl, rfl, by decide +kernel, rfl, by decide +kernel, by decide +kernel⟩

theorem ok_rightmost {f : Addr} {fd : FuncData} (F : Fun K "rightmost" "rightmost" s_rightmost f fd)
    {f_cross : Addr} {d_cross : FuncData} (G_cross : Cal P w K mg base CX0 1 2 sp_cross "cross" f_cross d_cross ["p", "q"])
    (m_list : mg "list" = none) : FnOk P w K mg base CX0 2 f fd ["points"] (lSp K 1 sp_rightmost) := by
  refine fn_vs F sc_rightmost rfl (fun cdv A outer s H E hr => ?_)
  exact ⟨T_rightmost, (dss_cons (ds_setV (i := 1) sc_rightmost.nd rfl (Or.inl rfl) de_non)
  (dss_cut (ds_forL PassesOwn.never rfl (de_addA (de_listc m_list (da_cons (dv 0) da_nil)) (de_listc m_list (da_cons (dv 0) da_nil))) (dg_name (i := 2) sc_rightmost.nd rfl (Or.inl rfl)) (dss_one (ds_if (dt_isN (dv 1) de_non) (dss_one (ds_if (dt_w (dw_or (dt_ne hr.units (de_item (dv 2) de_int) de_int) (dw_or1 (dt_ne hr.units (de_item (dv 2) de_int) de_int)))) (dss_one (ds_setV (i := 1) sc_rightmost.nd rfl (Or.inl rfl) (dv 2))) dss_nil)) (dss_one (ds_if (dt_lt (dc G_cross hr (da_cons (dv 1) (da_cons (dv 2) da_nil))) de_int) (dss_one (ds_setV (i := 1) sc_rightmost.nd rfl (Or.inl rfl) (dv 2))) dss_nil)))))
  (dss_one (ds_ret (dv 1))))), fun args Φ hl h => rd_rightmost h⟩
abbrev s_side_found : Stmt := top 12
abbrev N_side_found : List Str := (["points", "first", "p"] : List Str)
theorem sc_side_found : FnScope N_side_found ["points"] (defScope s_side_found) := ⟨rfl, rfl, rfl, by decide +kernel, rfl, by decide +kernel, by decide +kernel⟩

theorem ok_side_found {f : Addr} {fd : FuncData} (F : Fun K "side_found" "side_found" s_side_found f fd)
    {f_cross : Addr} {d_cross : FuncData} (G_cross : Cal P w K mg base CX0 1 2 sp_cross "cross" f_cross d_cross ["p", "q"])
    {f_rightmost : Addr} {d_rightmost : FuncData} (G_rightmost : Cal P w K mg base CX0 2 1 sp_rightmost "rightmost" f_rightmost d_rightmost ["points"]) : FnOk P w K mg base CX0 3 f fd ["points"] (lSp K 1 sp_side_found) := by
  refine fn_vs F sc_side_found rfl (fun cdv A outer s H E hr => ?_)
  exact ⟨T_side_found, (dss_cut (ds_setV (i := 1) sc_side_found.nd rfl (Or.inl rfl) (dc G_rightmost hr (da_cons (dv 0) da_nil)))
  (dss_cut (ds_if (dt_isN (dv 1) de_non) (dss_one (ds_ret (de_tup (da_cons de_int (da_cons de_int da_nil))))) dss_nil)
  (dss_cut (ds_eit (ds_forL PassesOwn.never rfl (dv 0) (dg_name (i := 2) sc_side_found.nd rfl (Or.inl rfl)) (dss_one (ds_if (dt_lt (dc G_cross hr (da_cons (dv 1) (da_cons (dv 2) da_nil))) de_int) (dss_one (ds_ret de_non)) dss_nil))) (ds_forT PassesOwn.never rfl (dv 0) (dg_name (i := 2) sc_side_found.nd rfl (Or.inl rfl)) (dss_one (ds_if (dt_lt (dc G_cross hr (da_cons (dv 1) (da_cons (dv 2) da_nil))) de_int) (dss_one (ds_ret de_non)) dss_nil))))
  (dss_one (ds_ret (de_tup (da_cons (de_neg (de_item (dv 1) de_int)) (da_cons (de_item (dv 1) de_int) da_nil)))))))), fun args Φ hl h => rd_side_found h⟩
abbrev s_touches_zero : Stmt := top 13
abbrev N_touches_zero : List Str := (["points", "first", "p", "turn"] : List Str)
theorem sc_touches_zero : FnScope N_touches_zero ["points"] (defScope s_touches_zero) := ⟨rfl, rfl, rfl, by decide +kernel, rfl, by decide +kernel, by decide +kernel⟩

theorem ok_touches_zero {f : Addr} {fd : FuncData} (F : Fun K "touches_zero" "touches_zero" s_touches_zero f fd)
    {f_cross : Addr} {d_cross : FuncData} (G_cross : Cal P w K mg base CX0 1 2 sp_cross "cross" f_cross d_cross ["p", "q"])
    {f_rightmost : Addr} {d_rightmost : FuncData} (G_rightmost : Cal P w K mg base CX0 2 1 sp_rightmost "rightmost" f_rightmost d_rightmost ["points"]) : FnOk P w K mg base CX0 3 f fd ["points"] (lSp K 1 sp_touches_zero) := by
  refine fn_vs F sc_touches_zero rfl (fun cdv A outer s H E hr => ?_)
  exact ⟨T_touches_zero, (dss_cut (ds_setV (i := 1) sc_touches_zero.nd rfl (Or.inl rfl) (dc G_rightmost hr (da_cons (dv 0) da_nil)))
  (dss_cut (ds_if (dt_isN (dv 1) de_non) (dss_one (ds_ret de_bl)) dss_nil)
  (dss_cut (ds_eit (ds_forL PassesOwn.never rfl (dv 0) (dg_name (i := 2) sc_touches_zero.nd rfl (Or.inl rfl)) (dss_cut (ds_setV (i := 3) sc_touches_zero.nd rfl (Or.inl rfl) (dc G_cross hr (da_cons (dv 1) (da_cons (dv 2) da_nil))))
  (dss_cut (ds_if (dt_lt (dv 3) de_int) (dss_one (ds_ret de_bl)) dss_nil)
  (dss_one (ds_if (dt_w (dw_and (dt_eq hr.units (dv 3) de_int) (dw_and1 (dt_le (de_addA (de_mulA (de_item (dv 1) de_int) (de_item (dv 2) de_int)) (de_mulA (de_item (dv 1) de_int) (de_item (dv 2) de_int))) de_int)))) (dss_one (ds_ret de_bl)) dss_nil))))) (ds_forT PassesOwn.never rfl (dv 0) (dg_name (i := 2) sc_touches_zero.nd rfl (Or.inl rfl)) (dss_cut (ds_setV (i := 3) sc_touches_zero.nd rfl (Or.inl rfl) (dc G_cross hr (da_cons (dv 1) (da_cons (dv 2) da_nil))))
  (dss_cut (ds_if (dt_lt (dv 3) de_int) (dss_one (ds_ret de_bl)) dss_nil)
  (dss_one (ds_if (dt_w (dw_and (dt_eq hr.units (dv 3) de_int) (dw_and1 (dt_le (de_addA (de_mulA (de_item (dv 1) de_int) (de_item (dv 2) de_int)) (de_mulA (de_item (dv 1) de_int) (de_item (dv 2) de_int))) de_int)))) (dss_one (ds_ret de_bl)) dss_nil))))))
  (dss_one (ds_ret de_bl))))), fun args Φ hl h => rd_touches_zero h⟩
abbrev s_hull : Stmt := top 15
abbrev N_hull : List Str := (["points"] : List Str)
theorem sc_hull : FnScope N_hull ["points"] (defScope s_hull) := ⟨rfl, rfl, rfl, by decide +kernel, rfl, by decide +kernel, by decide +kernel⟩

theorem ok_hull {f : Addr} {fd : FuncData} (F : Fun K "hull" "hull" s_hull f fd)
    {f_hull_corners : Addr} {d_hull_corners : FuncData} (G_hull_corners : Cal P w K mg base CX0 3 1 sp_hull_corners "hull_corners" f_hull_corners d_hull_corners ["points"]) : FnOk P w K mg base CX0 4 f fd ["points"] (lSp K 1 sp_hull) := by
  refine fn_vs F sc_hull rfl (fun cdv A outer s H E hr => ?_)
  exact ⟨T_hull, (dss_one (ds_ret (dc G_hull_corners hr (da_cons (dv 0) da_nil)))), fun args Φ hl h => rd_hull h⟩
abbrev s_inner : Stmt := top 16
abbrev N_inner : List Str := (["points"] : List Str)
theorem sc_inner : FnScope N_inner ["points"] (defScope s_inner) := ⟨rfl, rfl, rfl, by decide +kernel, rfl, by decide +kernel, by decide +kernel⟩

theorem ok_inner {f : Addr} {fd : FuncData} (F : Fun K "inner" "inner" s_inner f fd)
    {f_side_found : Addr} {d_side_found : FuncData} (G_side_found : Cal P w K mg base CX0 3 1 sp_side_found "side_found" f_side_found d_side_found ["points"]) : FnOk P w K mg base CX0 4 f fd ["points"] (lSp K 1 sp_inner) := by
  refine fn_vs F sc_inner rfl (fun cdv A outer s H E hr => ?_)
  exact ⟨T_inner, (dss_one (ds_ret (de_isN (dc G_side_found hr (da_cons (dv 0) da_nil)) de_non))), fun args Φ hl h => rd_inner h⟩
abbrev s_touches : Stmt := top 17
abbrev N_touches : List Str := (["points"] : List Str)
theorem sc_touches : FnScope N_touches ["points"] (defScope s_touches) := ⟨rfl, rfl, rfl, by decide +kernel, rfl, by decide +kernel, by decide +kernel⟩

theorem ok_touches {f : Addr} {fd : FuncData} (F : Fun K "touches" "touches" s_touches f fd)
    {f_touches_zero : Addr} {d_touches_zero : FuncData} (G_touches_zero : Cal P w K mg base CX0 3 1 sp_touches_zero "touches_zero" f_touches_zero d_touches_zero ["points"]) : FnOk P w K mg base CX0 4 f fd ["points"] (lSp K 1 sp_touches) := by
  refine fn_vs F sc_touches rfl (fun cdv A outer s H E hr => ?_)
  exact ⟨T_touches, (dss_one (ds_ret (dc G_touches_zero hr (da_cons (dv 0) da_nil)))), fun args Φ hl h => rd_touches h⟩
abbrev s_side : Stmt := top 18
abbrev N_side : List Str := (["points"] : List Str)
theorem sc_side : FnScope N_side ["points"] (defScope s_side) := ⟨rfl, rfl, rfl, by decide +kernel, rfl, by decide +kernel, by decide +kernel⟩

theorem ok_side {f : Addr} {fd : FuncData} (F : Fun K "side" "side" s_side f fd)
    {f_side_found : Addr} {d_side_found : FuncData} (G_side_found : Cal P w K mg base CX0 3 1 sp_side_found "side_found" f_side_found d_side_found ["points"]) : FnOk P w K mg base CX0 4 f fd ["points"] (lSp K 1 sp_side) := by
  refine fn_vs F sc_side rfl (fun cdv A outer s H E hr => ?_)
  exact ⟨T_side, (dss_one (ds_ret (dc G_side_found hr (da_cons (dv 0) da_nil)))), fun args Φ hl h => rd_side h⟩
abbrev s__law_bag : Stmt := top 20
abbrev N__law_bag : List Str := (["script", "seed", "item"] : List Str)
theorem sc__law_bag : FnScope N__law_bag ["script"] (defScope s__law_bag) := ⟨rfl, rfl, rfl, by decide +kernel, rfl, by decide +kernel, by decide +kernel⟩

theorem ok__law_bag {f : Addr} {fd : FuncData} (F : Fun K "_law_bag" "_law_bag" s__law_bag f fd)
    (m_int : mg "int" = none)
    (m_list : mg "list" = none) : FnOk P w K mg base CX0 1 f fd ["script"] (lSp K 1 sp__law_bag) := by
  refine fn_vs F sc__law_bag rfl (fun cdv A outer s H E hr => ?_)
  exact ⟨T__law_bag, (dss_cons (ds_setV (i := 1) sc__law_bag.nd rfl (Or.inl rfl) de_int)
  (dss_cut (ds_forL PassesOwn.never rfl (de_slL (dv 0) do_none (do_some de_int)) (dg_name (i := 2) sc__law_bag.nd rfl (Or.inl rfl)) (dss_one (ds_setV (i := 1) sc__law_bag.nd rfl (Or.inl rfl) (de_mod (de_intc m_int (da_cons (de_addA (de_addA (de_mulA (dv 1) de_int) (de_mod (de_intc m_int (da_cons (dv 2) da_nil)) de_int)) de_int) da_nil)) de_int))))
  (dss_one (ds_ret (de_lst (da_cons (de_listc m_list (da_cons (de_slL (dv 0) do_none (do_some de_int)) da_nil)) (da_cons de_int (da_cons de_int (da_cons (dv 1) (da_cons de_int da_nil)))))))))), fun args Φ hl h => rd__law_bag h⟩
abbrev s__law_draw : Stmt := top 21
abbrev N__law_draw : List Str := (["bag", "limit", "item", "digit"] : List Str)
theorem sc__law_draw : FnScope N__law_draw ["bag", "limit"] (defScope s__law_draw) := ⟨rfl, rfl, rfl, by decide +kernel, rfl, by decide +kernel, by decide +kernel⟩

theorem ok__law_draw {f : Addr} {fd : FuncData} (F : Fun K "_law_draw" "_law_draw" s__law_draw f fd)
    (m_int : mg "int" = none)
    (m_len : mg "len" = none) : FnOk P w K mg base CX0 1 f fd ["bag", "limit"] (lSp K 2 sp__law_draw) := by
  refine fn_vs F sc__law_draw rfl (fun cdv A outer s H E hr => ?_)
  exact ⟨T__law_draw, (dss_cons (ds_sto (de_addA (de_item (dv 0) de_int) de_int) (pv 0) de_int)
  (dss_cons (ds_if (dt_w (dw_and (dt_eq hr.units (de_item (dv 0) de_int) de_int) (dw_and1 (dt_lt (de_item (dv 0) de_int) (de_len m_len (da_cons (de_item (dv 0) de_int) da_nil)))))) (dss_cons (ds_setV (i := 2) sc__law_draw.nd rfl (Or.inl rfl) (de_item (de_item (dv 0) de_int) (de_item (dv 0) de_int)))
  (dss_cons (ds_sto (de_addA (de_item (dv 0) de_int) de_int) (pv 0) de_int)
  (dss_one (ds_if (dt_ge (dv 2) (de_pow de_int de_int)) (dss_one (ds_sto (dv 2) (pv 0) de_int)) (dss_one (ds_sto (de_mod (de_intc m_int (da_cons (de_addA (de_addA (de_mulA (de_item (dv 0) de_int) de_int) (de_mulA (de_mod (de_intc m_int (da_cons (dv 2) da_nil)) de_int) de_int)) de_int) da_nil)) de_int) (pv 0) de_int)))))) dss_nil)
  (dss_cons (ds_if (dt_gt (de_item (dv 0) de_int) de_int) (dss_cons (ds_setV (i := 3) sc__law_draw.nd rfl (Or.inl rfl) (de_mod (de_intc m_int (da_cons (de_item (dv 0) de_int) da_nil)) (dv 1)))
  (dss_cons (ds_sto (de_fdiv (de_item (dv 0) de_int) (dv 1)) (pv 0) de_int)
  (dss_one (ds_ret (dv 3))))) dss_nil)
  (dss_cons (ds_sto (de_mod (de_intc m_int (da_cons (de_addA (de_addA (de_pow (de_item (dv 0) de_int) de_int) (de_mulA (de_item (dv 0) de_int) de_int)) de_int) da_nil)) de_int) (pv 0) de_int)
  (dss_one (ds_ret (de_mod (de_intc m_int (da_cons (de_addA (de_fdiv (de_item (dv 0) de_int) de_int) (de_mulA (de_mod (de_intc m_int (da_cons (de_item (dv 0) de_int) da_nil)) de_int) de_int)) da_nil)) (dv 1)))))))), fun args Φ hl h => rd__law_draw h⟩
abbrev s__law_of : Stmt := top 22
abbrev N__law_of : List Str := (["bag", "things"] : List Str)
theorem sc__law_of : FnScope N__law_of ["bag", "things"] (defScope s__law_of) := ⟨rfl, rfl, rfl, by decide +kernel, rfl, by decide +kernel, by decide +kernel⟩

theorem ok__law_of {f : Addr} {fd : FuncData} (F : Fun K "_law_of" "_law_of" s__law_of f fd)
    {f__law_draw : Addr} {d__law_draw : FuncData} (G__law_draw : Cal P w K mg base CX0 1 2 sp__law_draw "_law_draw" f__law_draw d__law_draw ["bag", "limit"])
    (m_len : mg "len" = none) : FnOk P w K mg base CX0 2 f fd ["bag", "things"] (lSp K 2 sp__law_of) := by
  refine fn_vs F sc__law_of rfl (fun cdv A outer s H E hr => ?_)
  exact ⟨T__law_of, (dss_one (ds_ret (de_item (dv 1) (dc G__law_draw hr (da_cons (dv 0) (da_cons (de_len m_len (da_cons (dv 1) da_nil)) da_nil)))))), fun args Φ hl h => rd__law_of h⟩
abbrev s__law_shuffled : Stmt := top 23
abbrev N__law_shuffled : List Str := (["bag", "things", "left", "out", "k"] : List Str)
theorem sc__law_shuffled : FnScope N__law_shuffled ["bag", "things"] (defScope s__law_shuffled) := ⟨rfl, rfl, rfl, by decide +kernel, rfl, by decide +kernel, by decide +kernel⟩

theorem ok__law_shuffled {f : Addr} {fd : FuncData} (F : Fun K "_law_shuffled" "_law_shuffled" s__law_shuffled f fd)
    {f__law_draw : Addr} {d__law_draw : FuncData} (G__law_draw : Cal P w K mg base CX0 1 2 sp__law_draw "_law_draw" f__law_draw d__law_draw ["bag", "limit"])
    (m_len : mg "len" = none)
    (m_list : mg "list" = none)
    (m_range : mg "range" = none) : FnOk P w K mg base CX0 2 f fd ["bag", "things"] (lSp K 2 sp__law_shuffled) := by
  refine fn_vs F sc__law_shuffled rfl (fun cdv A outer s H E hr => ?_)
  exact ⟨T__law_shuffled, (dss_cut (ds_par (i := 2) (j := 3) rfl sc__law_shuffled.nd rfl rfl (by decide) rfl rfl (da_cons (de_listc m_list (da_cons (dv 1) da_nil)) (da_cons (de_lst da_nil) da_nil)))
  (dss_cut (ds_forR1 m_range PassesOwn.never rfl (da_cons (de_len m_len (da_cons (dv 1) da_nil)) da_nil) (dg_name (i := 4) sc__law_shuffled.nd rfl (Or.inl rfl)) (dss_one (ds_expr (dm_append (pv 3) (da_cons (dm_popAt (pv 2) (da_cons (dc G__law_draw hr (da_cons (dv 0) (da_cons (de_len m_len (da_cons (dv 2) da_nil)) da_nil))) da_nil)) da_nil)))))
  (dss_one (ds_ret (dv 3))))), fun args Φ hl h => rd__law_shuffled h⟩
abbrev s__law_like : Stmt := top 24
abbrev N__law_like : List Str := (["told", "due", "a", "b"] : List Str)
theorem sc__law_like : FnScope N__law_like ["told", "due"] (defScope s__law_like) := ⟨rfl, rfl, rfl, by decide +kernel, rfl, by decide +kernel, by decide +kernel⟩

theorem ok__law_like {f : Addr} {fd : FuncData} (F : Fun K "_law_like" "_law_like" s__law_like f fd)
    (n : Nat) {f__law_like : Addr} {d__law_like : FuncData} (G__law_like : Cal P w K mg base CX0 n 2 (spL__law_like n) "_law_like" f__law_like d__law_like ["told", "due"])
    (m_all : mg "all" = none)
    (m_bool : mg "bool" = none)
    (m_dict : mg "dict" = none)
    (m_int : mg "int" = none)
    (m_isinstance : mg "isinstance" = none)
    (m_len : mg "len" = none)
    (m_list : mg "list" = none)
    (m_str : mg "str" = none)
    (m_tuple : mg "tuple" = none)
    (m_zip : mg "zip" = none) : FnOk P w K mg base CX0 (n + 1) f fd ["told", "due"] (lSp K 2 (sp__law_like n)) := by
  refine fn_vs F sc__law_like rfl (fun cdv A outer s H E hr => ?_)
  exact ⟨T__law_like (spL__law_like n), (dss_cut (ds_if (dt_w (dw_or (dt_val (de_isi m_isinstance (dv 0) rfl m_dict (by decide +kernel) isD_dict)) (dw_or1 (dt_val (de_isi m_isinstance (dv 1) rfl m_dict (by decide +kernel) isD_dict))))) (dss_cons ds_never
  (dss_one ds_never)) dss_nil)
  (dss_cons (ds_if (dt_val (de_isiT2 m_isinstance (dv 1) rfl m_list (by decide +kernel) isD_list rfl m_tuple (by decide +kernel) isD_tuple)) (dss_cons (ds_if (dt_w (dw_or (dt_ne hr.units (de_isi m_isinstance (dv 0) rfl m_list (by decide +kernel) isD_list) (de_isi m_isinstance (dv 1) rfl m_list (by decide +kernel) isD_list)) (dw_or1 (dt_ne hr.units (de_isi m_isinstance (dv 0) rfl m_tuple (by decide +kernel) isD_tuple) (de_isi m_isinstance (dv 1) rfl m_tuple (by decide +kernel) isD_tuple))))) (dss_one (ds_ret de_bl)) dss_nil)
  (dss_one (ds_ret (de_and (de_eq hr.units (de_len m_len (da_cons (dv 0) da_nil)) (de_len m_len (da_cons (dv 1) da_nil))) (de_one (de_all rfl m_all (da_cons (de_lcZ (own := [("a", 2), ("b", 3)]) m_zip rfl sc__law_like.nd (da_cons (dv 0) (da_cons (dv 1) da_nil)) (blkOk_by (N := N__law_like) (sc := defScope s__law_like) (own := [("a", 2), ("b", 3)]) (by decide +kernel)) (fun _ _ _ _ _ => (dg_tup rfl (dgs_cons (dg_name (i := 2) sc__law_like.nd rfl (Or.inl rfl)) (dgs_cons (dg_name (i := 3) sc__law_like.nd rfl (Or.inl rfl)) dgs_nil)))) (fun _ _ _ _ _ => dts_nil) (fun _ _ _ _ _ => (dc G__law_like hr (da_cons (dv 2) (da_cons (dv 3) da_nil)) (Nat.le_refl _)))) da_nil))))))) dss_nil)
  (dss_cons (ds_if (dt_val (de_isiT2 m_isinstance (dv 0) rfl m_list (by decide +kernel) isD_list rfl m_tuple (by decide +kernel) isD_tuple)) (dss_one (ds_ret de_bl)) dss_nil)
  (dss_cons (ds_if (dt_w (dw_or (dt_isN (dv 1) de_non) (dw_or1 (dt_isN (dv 0) de_non)))) (dss_one (ds_ret (de_and (de_isN (dv 1) de_non) (de_one (de_isN (dv 0) de_non))))) dss_nil)
  (dss_cons (ds_if (dt_w (dw_or (dt_ne hr.units (de_isi m_isinstance (dv 0) rfl m_bool (by decide +kernel) isD_bool) (de_isi m_isinstance (dv 1) rfl m_bool (by decide +kernel) isD_bool)) (dw_or1 (dt_ne hr.units (de_isi m_isinstance (dv 0) rfl m_str (by decide +kernel) isD_str) (de_isi m_isinstance (dv 1) rfl m_str (by decide +kernel) isD_str))))) (dss_one (ds_ret de_bl)) dss_nil)
  (dss_one (ds_ret (de_and (de_isiT2 m_isinstance (dv 0) rfl m_int (by decide +kernel) isD_int rfl m_str (by decide +kernel) isD_str) (de_one (de_boolc m_bool (da_cons (de_eq hr.units (dv 0) (dv 1)) da_nil))))))))))), fun args Φ hl h => rd__law_like n h⟩
theorem all__law_like {f : Addr} {fd : FuncData} (F : Fun K "_law_like" "_law_like" s__law_like f fd) (hm : mg "_law_like" = some (.ref f)) (hb : Binds K fd ["told", "due"] [])
    (m_all : mg "all" = none) (m_bool : mg "bool" = none) (m_dict : mg "dict" = none) (m_int : mg "int" = none) (m_isinstance : mg "isinstance" = none) (m_len : mg "len" = none) (m_list : mg "list" = none) (m_str : mg "str" = none) (m_tuple : mg "tuple" = none) (m_zip : mg "zip" = none) : ∀ n, FnOk P w K mg base CX0 (n + 1) f fd ["told", "due"] (lSp K 2 (sp__law_like n))
  | 0 => ok__law_like F 0 ⟨⟨fun vs H Q E h => h.1, fun A outer s H args us vs Q E hr he hB hV h => by
      obtain ⟨_, C, args', Φ, Ψ, _, _, _, hf, _⟩ := h
      exact hf.elim⟩, hm, F.kp, hb⟩ m_all m_bool m_dict m_int m_isinstance m_len m_list m_str m_tuple m_zip
  | n + 1 => ok__law_like F (n + 1) ⟨all__law_like F hm hb m_all m_bool m_dict m_int m_isinstance m_len m_list m_str m_tuple m_zip n, hm, F.kp, hb⟩ m_all m_bool m_dict m_int m_isinstance m_len m_list m_str m_tuple m_zip
abbrev s__law_gcd : Stmt := top 25
abbrev N__law_gcd : List Str := (["a", "b", "one", "two"] : List Str)
theorem sc__law_gcd : FnScope N__law_gcd ["a", "b"] (defScope s__law_gcd) := ⟨rfl, rfl, rfl, by decide +kernel, rfl, by decide +kernel, by decide +kernel⟩

theorem ok__law_gcd {f : Addr} {fd : FuncData} (F : Fun K "_law_gcd" "_law_gcd" s__law_gcd f fd)
    (m_abs : mg "abs" = none)
    (m_int : mg "int" = none) : FnOk P w K mg base CX0 1 f fd ["a", "b"] (lSp K 2 sp__law_gcd) := by
  refine fn_vs F sc__law_gcd rfl (fun cdv A outer s H E hr => ?_)
  exact ⟨T__law_gcd, (dss_cut (ds_par (i := 2) (j := 3) rfl sc__law_gcd.nd rfl rfl (by decide) rfl rfl (da_cons (de_abs m_abs (da_cons (dv 0) da_nil)) (da_cons (de_abs m_abs (da_cons (dv 1) da_nil)) da_nil)))
  (dss_cut (ds_while PassesOwn.never (dt_gt (dv 3) de_int) (dss_one (ds_par (i := 2) (j := 3) rfl sc__law_gcd.nd rfl rfl (by decide) rfl rfl (da_cons (dv 3) (da_cons (de_mod (de_intc m_int (da_cons (dv 2) da_nil)) (dv 3)) da_nil)))))
  (dss_one (ds_ret (dv 2))))), fun args Φ hl h => rd__law_gcd h⟩
abbrev s__law_lowest : Stmt := top 26
abbrev N__law_lowest : List Str := (["x", "y", "w", "g"] : List Str)
theorem sc__law_lowest : FnScope N__law_lowest ["x", "y", "w"] (defScope s__law_lowest) := ⟨rfl, rfl, rfl, by decide +kernel, rfl, by decide +kernel, by decide +kernel⟩

theorem ok__law_lowest {f : Addr} {fd : FuncData} (F : Fun K "_law_lowest" "_law_lowest" s__law_lowest f fd)
    {f__law_gcd : Addr} {d__law_gcd : FuncData} (G__law_gcd : Cal P w K mg base CX0 1 2 sp__law_gcd "_law_gcd" f__law_gcd d__law_gcd ["a", "b"]) : FnOk P w K mg base CX0 2 f fd ["x", "y", "w"] (lSp K 3 sp__law_lowest) := by
  refine fn_vs F sc__law_lowest rfl (fun cdv A outer s H E hr => ?_)
  exact ⟨T__law_lowest, (dss_cut (ds_setV (i := 3) sc__law_lowest.nd rfl (Or.inl rfl) (dc G__law_gcd hr (da_cons (dc G__law_gcd hr (da_cons (dv 0) (da_cons (dv 1) da_nil))) (da_cons (dv 2) da_nil))))
  (dss_one (ds_ret (de_tup (da_cons (de_fdiv (dv 0) (dv 3)) (da_cons (de_fdiv (dv 1) (dv 3)) (da_cons (de_fdiv (dv 2) (dv 3)) da_nil))))))), fun args Φ hl h => rd__law_lowest h⟩
abbrev s__law_turn : Stmt := top 27
abbrev N__law_turn : List Str := (["p", "q", "r"] : List Str)
theorem sc__law_turn : FnScope N__law_turn ["p", "q", "r"] (defScope s__law_turn) := ⟨rfl, rfl, rfl, by decide +kernel, rfl, by decide +kernel, by decide +kernel⟩

theorem ok__law_turn {f : Addr} {fd : FuncData} (F : Fun K "_law_turn" "_law_turn" s__law_turn f fd)
     : FnOk P w K mg base CX0 1 f fd ["p", "q", "r"] (lSp K 3 sp__law_turn) := by
  refine fn_vs F sc__law_turn rfl (fun cdv A outer s H E hr => ?_)
  exact ⟨T__law_turn, (dss_one (ds_ret (de_addA (de_sub (de_mulA (de_item (dv 0) de_int) (de_sub (de_mulA (de_item (dv 1) de_int) (de_item (dv 2) de_int)) (de_mulA (de_item (dv 2) de_int) (de_item (dv 1) de_int)))) (de_mulA (de_item (dv 0) de_int) (de_sub (de_mulA (de_item (dv 1) de_int) (de_item (dv 2) de_int)) (de_mulA (de_item (dv 2) de_int) (de_item (dv 1) de_int))))) (de_mulA (de_item (dv 0) de_int) (de_sub (de_mulA (de_item (dv 1) de_int) (de_item (dv 2) de_int)) (de_mulA (de_item (dv 2) de_int) (de_item (dv 1) de_int))))))), fun args Φ hl h => rd__law_turn h⟩
abbrev s__law_far : Stmt := top 28
abbrev N__law_far : List Str := (["c", "p"] : List Str)
theorem sc__law_far : FnScope N__law_far ["c", "p"] (defScope s__law_far) := ⟨rfl, rfl, rfl, by decide +kernel, rfl, by decide +kernel, by decide +kernel⟩

theorem ok__law_far {f : Addr} {fd : FuncData} (F : Fun K "_law_far" "_law_far" s__law_far f fd)
    (m_abs : mg "abs" = none) : FnOk P w K mg base CX0 1 f fd ["c", "p"] (lSp K 2 sp__law_far) := by
  refine fn_vs F sc__law_far rfl (fun cdv A outer s H E hr => ?_)
  exact ⟨T__law_far, (dss_one (ds_ret (de_addA (de_abs m_abs (da_cons (de_sub (de_mulA (de_item (dv 1) de_int) (de_item (dv 0) de_int)) (de_mulA (de_item (dv 0) de_int) (de_item (dv 1) de_int))) da_nil)) (de_abs m_abs (da_cons (de_sub (de_mulA (de_item (dv 1) de_int) (de_item (dv 0) de_int)) (de_mulA (de_item (dv 0) de_int) (de_item (dv 1) de_int))) da_nil))))), fun args Φ hl h => rd__law_far h⟩
abbrev s__law_hull : Stmt := top 29
abbrev N__law_hull : List Str := (["some", "seen", "p", "rows", "first", "out", "k", "best", "c", "s"] : List Str)
theorem sc__law_hull : FnScope N__law_hull ["some"] (defScope s__law_hull) := ⟨rfl, rfl, rfl, by decide +kernel, rfl, by decide +kernel, by decide +kernel⟩

theorem ok__law_hull {f : Addr} {fd : FuncData} (F : Fun K "_law_hull" "_law_hull" s__law_hull f fd)
    {f__law_far : Addr} {d__law_far : FuncData} (G__law_far : Cal P w K mg base CX0 1 2 sp__law_far "_law_far" f__law_far d__law_far ["c", "p"])
    {f__law_turn : Addr} {d__law_turn : FuncData} (G__law_turn : Cal P w K mg base CX0 1 3 sp__law_turn "_law_turn" f__law_turn d__law_turn ["p", "q", "r"])
    {f__law_lowest : Addr} {d__law_lowest : FuncData} (G__law_lowest : Cal P w K mg base CX0 2 3 sp__law_lowest "_law_lowest" f__law_lowest d__law_lowest ["x", "y", "w"])
    (m_len : mg "len" = none)
    (m_list : mg "list" = none)
    (m_range : mg "range" = none) : FnOk P w K mg base CX0 3 f fd ["some"] (lSp K 1 sp__law_hull) := by
  refine fn_vs F sc__law_hull rfl (fun cdv A outer s H E hr => ?_)
  exact ⟨T__law_hull, (dss_cons (ds_set (i := 1) sc__law_hull.nd rfl (Or.inl rfl) de_newT)
  (dss_cut (ds_forL PassesOwn.never rfl (dv 0) (dg_name (i := 2) sc__law_hull.nd rfl (Or.inl rfl)) (dss_one (ds_putT hr.units de_bl (pv 1) (dc G__law_lowest hr (da_cons (de_item (dv 2) de_int) (da_cons (de_item (dv 2) de_int) (da_cons (de_item (dv 2) de_int) da_nil)))))))
  (dss_cut (ds_setV (i := 3) sc__law_hull.nd rfl (Or.inl rfl) (de_listT rfl m_list (da_cons (dv 1) da_nil)))
  (dss_cut (ds_setV (i := 4) sc__law_hull.nd rfl (Or.inl rfl) (de_item (dv 3) de_int))
  (dss_cut (ds_forL PassesOwn.never rfl (dv 3) (dg_name (i := 2) sc__law_hull.nd rfl (Or.inl rfl)) (dss_one (ds_if (dt_lt2 hr.units (de_tup (da_cons (de_mulA (de_item (dv 2) de_int) (de_item (dv 4) de_int)) (da_cons (de_mulA (de_item (dv 2) de_int) (de_item (dv 4) de_int)) da_nil))) (de_tup (da_cons (de_mulA (de_item (dv 4) de_int) (de_item (dv 2) de_int)) (da_cons (de_mulA (de_item (dv 4) de_int) (de_item (dv 2) de_int)) da_nil)))) (dss_one (ds_setV (i := 4) sc__law_hull.nd rfl (Or.inl rfl) (dv 2))) dss_nil)))
  (dss_cut (ds_set (i := 5) sc__law_hull.nd rfl (Or.inl rfl) (de_lst (da_cons (dv 4) da_nil)))
  (dss_cut (ds_forR1 m_range PassesOwn.never rfl (da_cons (de_len m_len (da_cons (dv 3) da_nil)) da_nil) (dg_name (i := 6) sc__law_hull.nd rfl (Or.inl rfl)) (dss_cut (ds_par (i := 7) (j := 8) rfl sc__law_hull.nd rfl rfl (by decide) rfl rfl (da_cons de_non (da_cons (de_item (dv 5) (de_neg de_int)) da_nil)))
  (dss_cut (ds_forL PassesOwn.never rfl (dv 3) (dg_name (i := 2) sc__law_hull.nd rfl (Or.inl rfl)) (dss_one (ds_if (dt_ne hr.units (dv 2) (dv 8)) (dss_cut (ds_setV (i := 9) sc__law_hull.nd rfl (Or.inl rfl) (de_if (dt_isN (dv 7) de_non) de_int (dc G__law_turn hr (da_cons (dv 8) (da_cons (dv 7) (da_cons (dv 2) da_nil))))))
  (dss_one (ds_if (dt_w (dw_or (dt_isN (dv 7) de_non) (dw_or (dt_lt (dv 9) de_int) (dw_or1 (dt_w (dw_and (dt_eq hr.units (dv 9) de_int) (dw_and1 (dt_gt (de_mulA (dc G__law_far hr (da_cons (dv 8) (da_cons (dv 2) da_nil))) (de_item (dv 7) de_int)) (de_mulA (dc G__law_far hr (da_cons (dv 8) (da_cons (dv 7) da_nil))) (de_item (dv 2) de_int)))))))))) (dss_one (ds_setV (i := 7) sc__law_hull.nd rfl (Or.inl rfl) (dv 2))) dss_nil))) dss_nil)))
  (dss_cut (ds_if (dt_w (dw_or (dt_isN (dv 7) de_non) (dw_or1 (dt_eq hr.units (dv 7) (dv 4))))) (dss_one (ds_ret (dv 5))) dss_nil)
  (dss_one (ds_expr (dm_append (pv 5) (da_cons (dv 7) da_nil))))))))
  (dss_one (ds_ret (dv 5)))))))))), fun args Φ hl h => rd__law_hull h⟩
abbrev s__law_where : Stmt := top 30
abbrev N__law_where : List Str := (["corners", "v", "p", "q", "dots", "least", "a", "b"] : List Str)
theorem sc__law_where : FnScope N__law_where ["corners", "v"] (defScope s__law_where) := ⟨rfl, rfl, rfl, by decide +kernel, rfl, by decide +kernel, by decide +kernel⟩

theorem ok__law_where {f : Addr} {fd : FuncData} (F : Fun K "_law_where" "_law_where" s__law_where f fd)
    {f__law_turn : Addr} {d__law_turn : FuncData} (G__law_turn : Cal P w K mg base CX0 1 3 sp__law_turn "_law_turn" f__law_turn d__law_turn ["p", "q", "r"])
    (m_len : mg "len" = none)
    (m_min : mg "min" = none)
    (m_zip : mg "zip" = none) : FnOk P w K mg base CX0 2 f fd ["corners", "v"] (lSp K 2 sp__law_where) := by
  refine fn_vs F sc__law_where rfl (fun cdv A outer s H E hr => ?_)
  exact ⟨T__law_where, (dss_cut (ds_par (i := 2) (j := 3) rfl sc__law_where.nd rfl rfl (by decide) rfl rfl (da_cons (de_item (dv 0) de_int) (da_cons (de_item (dv 0) (de_neg de_int)) da_nil)))
  (dss_cons (ds_if (dt_lt (de_len m_len (da_cons (dv 0) da_nil)) de_int) (dss_cut (ds_setV (i := 4) sc__law_where.nd rfl (Or.inl rfl) (de_addA (de_mulA (de_sub (de_mulA (de_item (dv 2) de_int) (de_item (dv 1) de_int)) (de_mulA (de_item (dv 1) de_int) (de_item (dv 2) de_int))) (de_sub (de_mulA (de_item (dv 3) de_int) (de_item (dv 1) de_int)) (de_mulA (de_item (dv 1) de_int) (de_item (dv 3) de_int)))) (de_mulA (de_sub (de_mulA (de_item (dv 2) de_int) (de_item (dv 1) de_int)) (de_mulA (de_item (dv 1) de_int) (de_item (dv 2) de_int))) (de_sub (de_mulA (de_item (dv 3) de_int) (de_item (dv 1) de_int)) (de_mulA (de_item (dv 1) de_int) (de_item (dv 3) de_int))))))
  (dss_one (ds_ret (de_if (dt_w (dw_and (dt_eq hr.units (dc G__law_turn hr (da_cons (dv 2) (da_cons (dv 3) (da_cons (dv 1) da_nil)))) de_int) (dw_and1 (dt_le (dv 4) de_int)))) de_int (de_neg de_int))))) dss_nil)
  (dss_cut (ds_setV (i := 5) sc__law_where.nd rfl (Or.inl rfl) (de_min rfl m_min (da_cons (de_lcZ (own := [("a", 6), ("b", 7)]) m_zip rfl sc__law_where.nd (da_cons (dv 0) (da_cons (de_addA (de_slL (dv 0) (do_some de_int) do_none) (de_slL (dv 0) do_none (do_some de_int))) da_nil)) (blkOk_by (N := N__law_where) (sc := defScope s__law_where) (own := [("a", 6), ("b", 7)]) (by decide +kernel)) (fun _ _ _ _ _ => (dg_tup rfl (dgs_cons (dg_name (i := 6) sc__law_where.nd rfl (Or.inl rfl)) (dgs_cons (dg_name (i := 7) sc__law_where.nd rfl (Or.inl rfl)) dgs_nil)))) (fun _ _ _ _ _ => dts_nil) (fun _ _ _ _ _ => (dc G__law_turn hr (da_cons (dv 6) (da_cons (dv 7) (da_cons (dv 1) da_nil)))))) da_nil)))
  (dss_one (ds_ret (de_if (dt_gt (dv 5) de_int) de_int (de_if (dt_eq hr.units (dv 5) de_int) de_int (de_neg de_int)))))))), fun args Φ hl h => rd__law_where h⟩
abbrev s__law_point : Stmt := top 31
abbrev N__law_point : List Str := (["bag", "wide", "w", "k", "x", "y"] : List Str)
theorem sc__law_point : FnScope N__law_point ["bag", "wide"] (defScope s__law_point) := ⟨rfl, rfl, rfl, by decide +kernel, rfl, by decide +kernel, by decide +kernel⟩

theorem ok__law_point {f : Addr} {fd : FuncData} (F : Fun K "_law_point" "_law_point" s__law_point f fd)
    {f__law_draw : Addr} {d__law_draw : FuncData} (G__law_draw : Cal P w K mg base CX0 1 2 sp__law_draw "_law_draw" f__law_draw d__law_draw ["bag", "limit"])
    {f__law_of : Addr} {d__law_of : FuncData} (G__law_of : Cal P w K mg base CX0 2 2 sp__law_of "_law_of" f__law_of d__law_of ["bag", "things"]) : FnOk P w K mg base CX0 3 f fd ["bag", "wide"] (lSp K 2 sp__law_point) := by
  refine fn_vs F sc__law_point rfl (fun cdv A outer s H E hr => ?_)
  exact ⟨T__law_point, (dss_cut (ds_setV (i := 2) sc__law_point.nd rfl (Or.inl rfl) (dc G__law_of hr (da_cons (dv 0) (da_cons (de_lst (da_cons de_int (da_cons de_int (da_cons de_int (da_cons de_int (da_cons de_int (da_cons de_int (da_cons de_int da_nil)))))))) da_nil))))
  (dss_cut (ds_setV (i := 3) sc__law_point.nd rfl (Or.inl rfl) (dc G__law_of hr (da_cons (dv 0) (da_cons (de_lst (da_cons de_int (da_cons de_int (da_cons de_int (da_cons de_int (da_cons de_int da_nil)))))) da_nil))))
  (dss_cut (ds_par (i := 4) (j := 5) rfl sc__law_point.nd rfl rfl (by decide) rfl rfl (da_cons (de_sub (dc G__law_draw hr (da_cons (dv 0) (da_cons (de_addA (de_mulA de_int (dv 1)) de_int) da_nil))) (dv 1)) (da_cons (de_sub (dc G__law_draw hr (da_cons (dv 0) (da_cons (de_addA (de_mulA de_int (dv 1)) de_int) da_nil))) (dv 1)) da_nil)))
  (dss_one (ds_ret (de_tup (da_cons (de_mulA (dv 4) (dv 3)) (da_cons (de_mulA (dv 5) (dv 3)) (da_cons (de_mulA (dv 2) (dv 3)) da_nil))))))))), fun args Φ hl h => rd__law_point h⟩
abbrev s__law_plane_points : Stmt := top 32
abbrev N__law_plane_points : List Str := (["bag", "pick", "size", "k", "out", "x", "y", "a", "b", "steps", "t", "high", "s", "some", "p", "g"] : List Str)
theorem sc__law_plane_points : FnScope N__law_plane_points ["bag"] (defScope s__law_plane_points) := ⟨rfl, rfl, rfl, by decide +kernel, rfl, by decide +kernel, by decide +kernel⟩

theorem ok__law_plane_points {f : Addr} {fd : FuncData} (F : Fun K "_law_plane_points" "_law_plane_points" s__law_plane_points f fd)
    {f__law_shuffled : Addr} {d__law_shuffled : FuncData} (G__law_shuffled : Cal P w K mg base CX0 2 2 sp__law_shuffled "_law_shuffled" f__law_shuffled d__law_shuffled ["bag", "things"])
    {f__law_of : Addr} {d__law_of : FuncData} (G__law_of : Cal P w K mg base CX0 2 2 sp__law_of "_law_of" f__law_of d__law_of ["bag", "things"])
    {f__law_draw : Addr} {d__law_draw : FuncData} (G__law_draw : Cal P w K mg base CX0 1 2 sp__law_draw "_law_draw" f__law_draw d__law_draw ["bag", "limit"])
    {f__law_point : Addr} {d__law_point : FuncData} (G__law_point : Cal P w K mg base CX0 3 2 sp__law_point "_law_point" f__law_point d__law_point ["bag", "wide"])
    (m_int : mg "int" = none)
    (m_range : mg "range" = none) : FnOk P w K mg base CX0 4 f fd ["bag"] (lSp K 1 sp__law_plane_points) := by
  refine fn_vs F sc__law_plane_points rfl (fun cdv A outer s H E hr => ?_)
  exact ⟨T__law_plane_points, (dss_cut (ds_par (i := 1) (j := 2) rfl sc__law_plane_points.nd rfl rfl (by decide) rfl rfl (da_cons (dc G__law_draw hr (da_cons (dv 0) (da_cons de_int da_nil))) (da_cons (de_addA de_int (dc G__law_draw hr (da_cons (dv 0) (da_cons de_int da_nil)))) da_nil)))
  (dss_cut (ds_if (dt_lt (dv 1) de_int) (dss_one (ds_setDlcR1 (own := [("k", 3)]) m_range rfl sc__law_plane_points.nd rfl rfl (sw_true rfl rfl rfl (by decide +kernel)) (da_cons (dv 2) da_nil) (blkOk_by (N := N__law_plane_points) (sc := defScope s__law_plane_points) (own := [("k", 3)]) (by decide +kernel)) (fun _ _ _ _ _ => (dg_name (i := 3) sc__law_plane_points.nd rfl (Or.inl rfl))) (fun _ _ _ _ _ => dts_nil) (fun _ _ _ _ _ => (dc G__law_point hr (da_cons (dv 0) (da_cons de_int da_nil)))))) (dss_one (ds_if (dt_eq hr.units (dv 1) de_int) (dss_cut (ds_asg (de_lcR1 (own := [("k", 3)]) m_range rfl sc__law_plane_points.nd (da_cons de_int da_nil) (blkOk_by (N := N__law_plane_points) (sc := defScope s__law_plane_points) (own := [("k", 3)]) (by decide +kernel)) (fun _ _ _ _ _ => (dg_name (i := 3) sc__law_plane_points.nd rfl (Or.inl rfl))) (fun _ _ _ _ _ => dts_nil) (fun _ _ _ _ _ => (de_sub (dc G__law_draw hr (da_cons (dv 0) (da_cons de_int da_nil))) de_int))) (dg_unl rfl (dgs_cons (dg_name (i := 5) sc__law_plane_points.nd rfl (Or.inr rfl)) (dgs_cons (dg_name (i := 6) sc__law_plane_points.nd rfl (Or.inr rfl)) (dgs_cons (dg_name (i := 7) sc__law_plane_points.nd rfl (Or.inr rfl)) (dgs_cons (dg_name (i := 8) sc__law_plane_points.nd rfl (Or.inr rfl)) dgs_nil))))))
  (dss_cut (ds_setVlcR1 (own := [("k", 3)]) m_range rfl sc__law_plane_points.nd rfl rfl (sw_true rfl rfl rfl (by decide +kernel)) (da_cons (dv 2) da_nil) (blkOk_by (N := N__law_plane_points) (sc := defScope s__law_plane_points) (own := [("k", 3)]) (by decide +kernel)) (fun _ _ _ _ _ => (dg_name (i := 3) sc__law_plane_points.nd rfl (Or.inl rfl))) (fun _ _ _ _ _ => dts_nil) (fun _ _ _ _ _ => (de_sub (dc G__law_draw hr (da_cons (dv 0) (da_cons de_int da_nil))) de_int)))
  (dss_one (ds_setDlcL (own := [("t", 10)]) rfl sc__law_plane_points.nd rfl rfl (sw_true rfl rfl rfl (by decide +kernel)) (dv 9) (blkOk_by (N := N__law_plane_points) (sc := defScope s__law_plane_points) (own := [("t", 10)]) (by decide +kernel)) (fun _ _ _ _ _ => (dg_name (i := 10) sc__law_plane_points.nd rfl (Or.inl rfl))) (fun _ _ _ _ _ => dts_nil) (fun _ _ _ _ _ => (de_tup (da_cons (de_addA (dv 5) (de_mulA (dv 7) (dv 10))) (da_cons (de_addA (dv 6) (de_mulA (dv 8) (dv 10))) (da_cons (de_addA de_int (de_mulA (dc G__law_draw hr (da_cons (dv 0) (da_cons de_int da_nil))) (de_intc m_int (da_cons (de_and (de_eq hr.units (dv 5) de_int) (de_one (de_eq hr.units (dv 6) de_int))) da_nil)))) da_nil))))))))) (dss_one (ds_if (dt_eq hr.units (dv 1) de_int) (dss_cut (ds_setV (i := 11) sc__law_plane_points.nd rfl (Or.inl rfl) (dc G__law_of hr (da_cons (dv 0) (da_cons (de_lst (da_cons (de_pow de_int de_int) (da_cons (de_pow de_int de_int) (da_cons (de_pow de_int de_int) da_nil)))) da_nil))))
  (dss_cons (ds_set (i := 4) sc__law_plane_points.nd rfl (Or.inl rfl) (de_lst da_nil))
  (dss_one (ds_forR1 m_range PassesOwn.never rfl (da_cons (dv 2) da_nil) (dg_name (i := 3) sc__law_plane_points.nd rfl (Or.inl rfl)) (dss_cut (ds_asg (de_tup (da_cons (de_fdiv (de_mulA (dc G__law_draw hr (da_cons (dv 0) (da_cons de_int da_nil))) (dv 11)) de_int) (da_cons (de_fdiv (de_mulA (dc G__law_draw hr (da_cons (dv 0) (da_cons de_int da_nil))) (dv 11)) de_int) da_nil))) (dg_tup rfl (dgs_cons (dg_name (i := 5) sc__law_plane_points.nd rfl (Or.inr rfl)) (dgs_cons (dg_name (i := 6) sc__law_plane_points.nd rfl (Or.inr rfl)) dgs_nil))))
  (dss_one (ds_expr (dm_append (pv 4) (da_cons (de_tup (da_cons (de_addA (de_sub (dv 5) (dv 11)) (dc G__law_draw hr (da_cons (dv 0) (da_cons de_int da_nil)))) (da_cons (de_sub (dv 6) (dv 11)) (da_cons (de_addA de_int (dc G__law_draw hr (da_cons (dv 0) (da_cons de_int da_nil)))) da_nil)))) da_nil))))))))) (dss_one (ds_if (dt_eq hr.units (dv 1) de_int) (dss_cut (ds_asg (de_tup (da_cons (de_addA de_int (dc G__law_draw hr (da_cons (dv 0) (da_cons de_int da_nil)))) (da_cons (de_addA de_int (dc G__law_draw hr (da_cons (dv 0) (da_cons de_int da_nil)))) da_nil))) (dg_tup rfl (dgs_cons (dg_name (i := 7) sc__law_plane_points.nd rfl (Or.inr rfl)) (dgs_cons (dg_name (i := 8) sc__law_plane_points.nd rfl (Or.inr rfl)) dgs_nil))))
  (dss_cons (ds_set (i := 4) sc__law_plane_points.nd rfl (Or.inl rfl) (de_lst da_nil))
  (dss_one (ds_forR1 m_range PassesOwn.never rfl (da_cons (dv 2) da_nil) (dg_name (i := 3) sc__law_plane_points.nd rfl (Or.inl rfl)) (dss_cut (ds_par (i := 12) (j := 10) rfl sc__law_plane_points.nd rfl rfl (by decide) rfl rfl (da_cons (de_sub (dc G__law_draw hr (da_cons (dv 0) (da_cons (de_addA (de_mulA de_int (dv 7)) de_int) da_nil))) (dv 7)) (da_cons (de_sub (dc G__law_draw hr (da_cons (dv 0) (da_cons (de_addA (de_mulA de_int (dv 8)) de_int) da_nil))) (dv 8)) da_nil)))
  (dss_one (ds_expr (dm_append (pv 4) (da_cons (dc G__law_of hr (da_cons (dv 0) (da_cons (de_lst (da_cons (de_tup (da_cons (dv 12) (da_cons (dv 8) (da_cons de_int da_nil)))) (da_cons (de_tup (da_cons (dv 12) (da_cons (de_neg (dv 8)) (da_cons de_int da_nil)))) (da_cons (de_tup (da_cons (dv 7) (da_cons (dv 10) (da_cons de_int da_nil)))) (da_cons (de_tup (da_cons (de_neg (dv 7)) (da_cons (dv 10) (da_cons de_int da_nil)))) (da_cons (de_tup (da_cons (dv 12) (da_cons (dv 10) (da_cons de_int da_nil)))) da_nil)))))) da_nil))) da_nil))))))))) (dss_one (ds_if (dt_eq hr.units (dv 1) de_int) (dss_one (ds_set (i := 4) sc__law_plane_points.nd rfl (Or.inl rfl) (de_rep (de_lst (da_cons (dc G__law_point hr (da_cons (dv 0) (da_cons de_int da_nil))) da_nil)) (de_addA de_int (de_fdiv (dv 2) de_int))))) (dss_one (ds_setDlcR1 (own := [("k", 3)]) m_range rfl sc__law_plane_points.nd rfl rfl (sw_true rfl rfl rfl (by decide +kernel)) (da_cons (dv 2) da_nil) (blkOk_by (N := N__law_plane_points) (sc := defScope s__law_plane_points) (own := [("k", 3)]) (by decide +kernel)) (fun _ _ _ _ _ => (dg_name (i := 3) sc__law_plane_points.nd rfl (Or.inl rfl))) (fun _ _ _ _ _ => dts_nil) (fun _ _ _ _ _ => (dc G__law_point hr (da_cons (dv 0) (da_cons de_int da_nil)))))))))))))))
  (dss_cons (ds_set (i := 13) sc__law_plane_points.nd rfl (Or.inl rfl) (de_lst da_nil))
  (dss_cut (ds_forL PassesOwn.never rfl (de_addA (dv 4) (de_slL (dv 4) do_none (do_some (dc G__law_draw hr (da_cons (dv 0) (da_cons de_int da_nil)))))) (dg_name (i := 14) sc__law_plane_points.nd rfl (Or.inl rfl)) (dss_cut (ds_setV (i := 15) sc__law_plane_points.nd rfl (Or.inl rfl) (dc G__law_of hr (da_cons (dv 0) (da_cons (de_lst (da_cons de_int (da_cons de_int (da_cons de_int (da_cons de_int (da_cons de_int da_nil)))))) da_nil))))
  (dss_one (ds_expr (dm_append (pv 13) (da_cons (de_tup (da_cons (de_mulA (de_item (dv 14) de_int) (dv 15)) (da_cons (de_mulA (de_item (dv 14) de_int) (dv 15)) (da_cons (de_mulA (de_item (dv 14) de_int) (dv 15)) da_nil)))) da_nil))))))
  (dss_frz 13 (dss_one (ds_ret (dc G__law_shuffled hr (da_cons (dv 0) (da_cons (dv 13) da_nil)))))))))), fun args Φ hl h => rd__law_plane_points h⟩
abbrev s__law_one_handed : Stmt := top 33
abbrev N__law_one_handed : List Str := (["some", "tries", "p", "u"] : List Str)
theorem sc__law_one_handed : FnScope N__law_one_handed ["some"] (defScope s__law_one_handed) := ⟨rfl, rfl, rfl, by decide +kernel, rfl, by decide +kernel, by decide +kernel⟩

theorem ok__law_one_handed {f : Addr} {fd : FuncData} (F : Fun K "_law_one_handed" "_law_one_handed" s__law_one_handed f fd)
    (m_all : mg "all" = none)
    (m_any : mg "any" = none) : FnOk P w K mg base CX0 1 f fd ["some"] (lSp K 1 sp__law_one_handed) := by
  refine fn_vs F sc__law_one_handed rfl (fun cdv A outer s H E hr => ?_)
  exact ⟨T__law_one_handed, (dss_cut (ds_setV (i := 1) sc__law_one_handed.nd rfl (Or.inl rfl) (de_lst (da_cons (de_tup (da_cons de_int (da_cons de_int da_nil))) da_nil)))
  (dss_cut (ds_forL PassesOwn.never rfl (dv 0) (dg_name (i := 2) sc__law_one_handed.nd rfl (Or.inl rfl)) (dss_one (ds_if (dt_w (dw_or (dt_ne hr.units (de_item (dv 2) de_int) de_int) (dw_or1 (dt_ne hr.units (de_item (dv 2) de_int) de_int)))) (dss_one (ds_setV (i := 1) sc__law_one_handed.nd rfl (Or.inl rfl) (de_addA (dv 1) (de_lst (da_cons (de_tup (da_cons (de_neg (de_item (dv 2) de_int)) (da_cons (de_item (dv 2) de_int) da_nil))) (da_cons (de_tup (da_cons (de_item (dv 2) de_int) (da_cons (de_neg (de_item (dv 2) de_int)) da_nil))) da_nil)))))) dss_nil)))
  (dss_fgt 2 (dss_one (ds_ret (de_any rfl m_any (da_cons (de_lcL (own := [("u", 3)]) rfl sc__law_one_handed.nd (dv 1) (blkOk_by (N := N__law_one_handed) (sc := defScope s__law_one_handed) (own := [("u", 3)]) (by decide +kernel)) (fun _ _ _ _ _ => (dg_name (i := 3) sc__law_one_handed.nd rfl (Or.inr rfl))) (fun _ _ _ _ _ => dts_nil) (fun _ _ _ _ _ => (de_all rfl m_all (da_cons (de_lcL (own := [("p", 2)]) rfl sc__law_one_handed.nd (dv 0) (blkOk_by (N := N__law_one_handed) (own := [("p", 2)]) (by kernel_rfl)) (fun _ _ _ _ _ => (dg_name (i := 2) sc__law_one_handed.nd rfl (Or.inl rfl))) (fun _ _ _ _ _ => dts_nil) (fun _ _ _ _ _ => (de_ge (de_addA (de_mulA (de_item (dv 3) de_int) (de_item (dv 2) de_int)) (de_mulA (de_item (dv 3) de_int) (de_item (dv 2) de_int))) de_int))) da_nil)))) da_nil))))))), fun args Φ hl h => rd__law_one_handed h⟩
abbrev s__law_some : Stmt := top 34
abbrev N__law_some : List Str := (["bag", "pick", "out", "a", "b", "flipped", "p", "s", "ends", "n", "k"] : List Str)
theorem sc__law_some : FnScope N__law_some ["bag"] (defScope s__law_some) := ⟨rfl, rfl, rfl, by decide +kernel, rfl, by decide +kernel, by decide +kernel⟩

theorem ok__law_some {f : Addr} {fd : FuncData} (F : Fun K "_law_some" "_law_some" s__law_some f fd)
    {f__law_shuffled : Addr} {d__law_shuffled : FuncData} (G__law_shuffled : Cal P w K mg base CX0 2 2 sp__law_shuffled "_law_shuffled" f__law_shuffled d__law_shuffled ["bag", "things"])
    {f__law_of : Addr} {d__law_of : FuncData} (G__law_of : Cal P w K mg base CX0 2 2 sp__law_of "_law_of" f__law_of d__law_of ["bag", "things"])
    {f__law_draw : Addr} {d__law_draw : FuncData} (G__law_draw : Cal P w K mg base CX0 1 2 sp__law_draw "_law_draw" f__law_draw d__law_draw ["bag", "limit"])
    {f__law_plane_points : Addr} {d__law_plane_points : FuncData} (G__law_plane_points : Cal P w K mg base CX0 4 1 sp__law_plane_points "_law_plane_points" f__law_plane_points d__law_plane_points ["bag"])
    (m_range : mg "range" = none) : FnOk P w K mg base CX0 5 f fd ["bag"] (lSp K 1 sp__law_some) := by
  refine fn_vs F sc__law_some rfl (fun cdv A outer s H E hr => ?_)
  exact ⟨T__law_some, (dss_cut (ds_setV (i := 1) sc__law_some.nd rfl (Or.inl rfl) (dc G__law_draw hr (da_cons (dv 0) (da_cons de_int da_nil))))
  (dss_cut (ds_setV (i := 2) sc__law_some.nd rfl (Or.inl rfl) (dc G__law_plane_points hr (da_cons (dv 0) da_nil)))
  (dss_cut (ds_if (dt_eq hr.units (dv 1) de_int) (dss_cut (ds_asg (dc G__law_of hr (da_cons (dv 0) (da_cons (de_lst (da_cons (de_tup (da_cons de_int (da_cons de_int da_nil))) (da_cons (de_tup (da_cons de_int (da_cons de_int da_nil))) (da_cons (de_tup (da_cons (de_neg de_int) (da_cons de_int da_nil))) (da_cons (de_tup (da_cons de_int (da_cons (de_neg de_int) da_nil))) (da_cons (de_tup (da_cons de_int (da_cons de_int da_nil))) (da_cons (de_tup (da_cons (de_neg de_int) (da_cons de_int da_nil))) (da_cons (de_tup (da_cons de_int (da_cons (de_neg de_int) da_nil))) da_nil)))))))) da_nil))) (dg_tup rfl (dgs_cons (dg_name (i := 3) sc__law_some.nd rfl (Or.inl rfl)) (dgs_cons (dg_name (i := 4) sc__law_some.nd rfl (Or.inl rfl)) dgs_nil))))
  (dss_cons (ds_set (i := 5) sc__law_some.nd rfl (Or.inl rfl) (de_lst da_nil))
  (dss_cut (ds_forL PassesOwn.never rfl (dv 2) (dg_name (i := 6) sc__law_some.nd rfl (Or.inl rfl)) (dss_cut (ds_setV (i := 7) sc__law_some.nd rfl (Or.inl rfl) (de_if (dt_lt (de_addA (de_mulA (dv 3) (de_item (dv 6) de_int)) (de_mulA (dv 4) (de_item (dv 6) de_int))) de_int) (de_neg de_int) de_int))
  (dss_one (ds_expr (dm_append (pv 5) (da_cons (de_tup (da_cons (de_mulA (dv 7) (de_item (dv 6) de_int)) (da_cons (de_mulA (dv 7) (de_item (dv 6) de_int)) (da_cons (de_item (dv 6) de_int) da_nil)))) da_nil))))))
  (dss_cut (ds_setV (i := 8) sc__law_some.nd rfl (Or.inr rfl) (de_lst (da_cons (de_tup (da_cons (dv 4) (da_cons (de_neg (dv 3)) (da_cons de_int da_nil)))) (da_cons (de_tup (da_cons (de_neg (dv 4)) (da_cons (dv 3) (da_cons de_int da_nil)))) (da_cons (de_tup (da_cons (de_mulA (de_neg de_int) (dv 4)) (da_cons (de_mulA de_int (dv 3)) (da_cons de_int da_nil)))) (da_cons (de_tup (da_cons de_int (da_cons de_int (da_cons de_int da_nil)))) da_nil))))))
  (dss_frz 5 (dss_one (ds_setV (i := 2) sc__law_some.nd rfl (Or.inl rfl) (de_addA (dv 5) (de_lcR1 (own := [("k", 10)]) m_range rfl sc__law_some.nd (da_cons (dc G__law_draw hr (da_cons (dv 0) (da_cons de_int da_nil))) da_nil) (blkOk_by (N := N__law_some) (sc := defScope s__law_some) (own := [("k", 10)]) (by decide +kernel)) (fun _ _ _ _ _ => (dg_name (i := 10) sc__law_some.nd rfl (Or.inl rfl))) (fun _ _ _ _ _ => dts_nil) (fun _ _ _ _ _ => (dc G__law_of hr (da_cons (dv 0) (da_cons (dv 8) da_nil))))))))))))) (dss_one (ds_if (dt_eq hr.units (dv 1) de_int) (dss_cons (ds_setV (i := 2) sc__law_some.nd rfl (Or.inl rfl) (de_slL (dv 2) do_none (do_some de_int)))
  (dss_one (ds_setV (i := 2) sc__law_some.nd rfl (Or.inl rfl) (de_addA (dv 2) (de_lcL (own := [("p", 6)]) rfl sc__law_some.nd (dv 2) (blkOk_by (N := N__law_some) (sc := defScope s__law_some) (own := [("p", 6)]) (by decide +kernel)) (fun _ _ _ _ _ => (dg_name (i := 6) sc__law_some.nd rfl (Or.inl rfl))) (fun _ _ _ _ _ => dts_nil) (fun _ _ _ _ _ => (de_tup (da_cons (de_neg (de_item (dv 6) de_int)) (da_cons (de_neg (de_item (dv 6) de_int)) (da_cons (de_item (dv 6) de_int) da_nil)))))))))) (dss_one (ds_if (dt_eq hr.units (dv 1) de_int) (dss_cut (ds_setV (i := 9) sc__law_some.nd rfl (Or.inl rfl) (de_addA (dc G__law_of hr (da_cons (dv 0) (da_cons (de_lst (da_cons de_int (da_cons (de_pow de_int de_int) (da_cons (de_pow de_int de_int) da_nil)))) da_nil))) (dc G__law_draw hr (da_cons (dv 0) (da_cons de_int da_nil)))))
  (dss_cut (ds_setV (i := 7) sc__law_some.nd rfl (Or.inl rfl) (de_sub (dc G__law_draw hr (da_cons (dv 0) (da_cons de_int da_nil))) de_int))
  (dss_one (ds_setV (i := 2) sc__law_some.nd rfl (Or.inl rfl) (de_lst (da_cons (de_tup (da_cons (dv 9) (da_cons de_int (da_cons de_int da_nil)))) (da_cons (de_tup (da_cons (de_sub (dv 7) (dv 9)) (da_cons (dc G__law_of hr (da_cons (dv 0) (da_cons (de_lst (da_cons (de_neg de_int) (da_cons de_int (da_cons (de_neg de_int) da_nil)))) da_nil))) (da_cons de_int da_nil)))) (da_cons (de_tup (da_cons (de_sub (dc G__law_draw hr (da_cons (dv 0) (da_cons de_int da_nil))) de_int) (da_cons (de_sub (dc G__law_draw hr (da_cons (dv 0) (da_cons de_int da_nil))) de_int) (da_cons de_int da_nil)))) da_nil)))))))) (dss_one (ds_if (dt_eq hr.units (dv 1) de_int) (dss_one (ds_setV (i := 2) sc__law_some.nd rfl (Or.inl rfl) (de_addA (de_slL (dv 2) do_none (do_some de_int)) (de_lst (da_cons (de_tup (da_cons de_int (da_cons de_int (da_cons (de_addA de_int (dc G__law_draw hr (da_cons (dv 0) (da_cons de_int da_nil)))) da_nil)))) da_nil))))) dss_nil)))))))
  (dss_one (ds_ret (dc G__law_shuffled hr (da_cons (dv 0) (da_cons (dv 2) da_nil)))))))), fun args Φ hl h => rd__law_some h⟩
abbrev s__law_right_side : Stmt := top 35
abbrev N__law_right_side : List Str := (["told", "some", "p", "x"] : List Str)
theorem sc__law_right_side : FnScope N__law_right_side ["told", "some"] (defScope s__law_right_side) := ⟨rfl, rfl, rfl, by decide +kernel, rfl, by decide +kernel, by decide +kernel⟩

theorem ok__law_right_side {f : Addr} {fd : FuncData} (F : Fun K "_law_right_side" "_law_right_side" s__law_right_side f fd)
    (m_all : mg "all" = none)
    (m_bool : mg "bool" = none)
    (m_int : mg "int" = none)
    (m_isinstance : mg "isinstance" = none)
    (m_len : mg "len" = none)
    (m_tuple : mg "tuple" = none) : FnOk P w K mg base CX0 1 f fd ["told", "some"] (lSp K 2 sp__law_right_side) := by
  refine fn_vs F sc__law_right_side rfl (fun cdv A outer s H E hr => ?_)
  exact ⟨T__law_right_side, (dss_cut (ds_if (dt_w (dw_or (dt_not (by exact (dt_val (de_isi m_isinstance (dv 0) rfl m_tuple (by decide +kernel) isD_tuple)))) (dw_or1 (dt_ne hr.units (de_len m_len (da_cons (dv 0) da_nil)) de_int)))) (dss_one (ds_ret de_bl)) dss_nil)
  (dss_cut (ds_if (dt_w (dw_or (dt_not (by exact (dt_val (de_all rfl m_all (da_cons (de_lcT (own := [("x", 3)]) rfl sc__law_right_side.nd (dv 0) (blkOk_by (N := N__law_right_side) (sc := defScope s__law_right_side) (own := [("x", 3)]) (by decide +kernel)) (fun _ _ _ _ _ => (dg_name (i := 3) sc__law_right_side.nd rfl (Or.inl rfl))) (fun _ _ _ _ _ => dts_nil) (fun _ _ _ _ _ => (de_and (de_isi m_isinstance (dv 3) rfl m_int (by decide +kernel) isD_int) (de_one (de_not (de_isi m_isinstance (dv 3) rfl m_bool (by decide +kernel) isD_bool)))))) da_nil))))) (dw_or1 (dt_w (dw_and (dt_eq hr.units (de_item (dv 0) de_int) de_int) (dw_and1 (dt_eq hr.units (de_item (dv 0) de_int) de_int))))))) (dss_one (ds_ret de_bl)) dss_nil)
  (dss_one (ds_ret (de_all rfl m_all (da_cons (de_lcL (own := [("p", 2)]) rfl sc__law_right_side.nd (dv 1) (blkOk_by (N := N__law_right_side) (sc := defScope s__law_right_side) (own := [("p", 2)]) (by decide +kernel)) (fun _ _ _ _ _ => (dg_name (i := 2) sc__law_right_side.nd rfl (Or.inl rfl))) (fun _ _ _ _ _ => dts_nil) (fun _ _ _ _ _ => (de_ge (de_addA (de_mulA (de_item (dv 0) de_int) (de_item (dv 2) de_int)) (de_mulA (de_item (dv 0) de_int) (de_item (dv 2) de_int))) de_int))) da_nil)))))), fun args Φ hl h => rd__law_right_side h⟩
abbrev s_law : Stmt := top 36
abbrev N_law : List Str := (["script", "bag", "k", "some", "free", "met", "handed", "rows", "told"] : List Str)
theorem sc_law : FnScope N_law ["script"] (defScope s_law) := ⟨rfl, rfl, rfl, by decide +kernel, rfl, by decide +kernel, by decide +kernel⟩

theorem ok_law {f : Addr} {fd : FuncData} (F : Fun K "law" "law" s_law f fd)
    {f__law_draw : Addr} {d__law_draw : FuncData} (G__law_draw : Cal P w K mg base CX0 1 2 sp__law_draw "_law_draw" f__law_draw d__law_draw ["bag", "limit"])
    {f__law_like : Addr} {d__law_like : FuncData} (G__law_like : Cal P w K mg base CX0 4 2 (sp__law_like 3) "_law_like" f__law_like d__law_like ["told", "due"])
    {f_inner : Addr} {d_inner : FuncData} (G_inner : Cal P w K mg base CX0 4 1 sp_inner "inner" f_inner d_inner ["points"]) (kb_inner : KwB d_inner ["points"])
    {f__law_right_side : Addr} {d__law_right_side : FuncData} (G__law_right_side : Cal P w K mg base CX0 1 2 sp__law_right_side "_law_right_side" f__law_right_side d__law_right_side ["told", "some"])
    {f_side : Addr} {d_side : FuncData} (G_side : Cal P w K mg base CX0 4 1 sp_side "side" f_side d_side ["points"])
    {f_touches : Addr} {d_touches : FuncData} (G_touches : Cal P w K mg base CX0 4 1 sp_touches "touches" f_touches d_touches ["points"])
    {f__law_shuffled : Addr} {d__law_shuffled : FuncData} (G__law_shuffled : Cal P w K mg base CX0 2 2 sp__law_shuffled "_law_shuffled" f__law_shuffled d__law_shuffled ["bag", "things"])
    {f_hull : Addr} {d_hull : FuncData} (G_hull : Cal P w K mg base CX0 4 1 sp_hull "hull" f_hull d_hull ["points"])
    {f__law_where : Addr} {d__law_where : FuncData} (G__law_where : Cal P w K mg base CX0 2 2 sp__law_where "_law_where" f__law_where d__law_where ["corners", "v"])
    {f__law_hull : Addr} {d__law_hull : FuncData} (G__law_hull : Cal P w K mg base CX0 3 1 sp__law_hull "_law_hull" f__law_hull d__law_hull ["some"])
    {f__law_one_handed : Addr} {d__law_one_handed : FuncData} (G__law_one_handed : Cal P w K mg base CX0 1 1 sp__law_one_handed "_law_one_handed" f__law_one_handed d__law_one_handed ["some"])
    {f__law_some : Addr} {d__law_some : FuncData} (G__law_some : Cal P w K mg base CX0 5 1 sp__law_some "_law_some" f__law_some d__law_some ["bag"])
    {f__law_bag : Addr} {d__law_bag : FuncData} (G__law_bag : Cal P w K mg base CX0 1 1 sp__law_bag "_law_bag" f__law_bag d__law_bag ["script"])
    (m_list : mg "list" = none)
    (m_range : mg "range" = none)
    (m_tuple : mg "tuple" = none) : FnOk P w K mg base CX0 6 f fd ["script"] (lSp K 1 sp_law) := by
  refine fn_vs F sc_law rfl (fun cdv A outer s H E hr => ?_)
  exact ⟨T_law, (dss_cut (ds_set (i := 1) sc_law.nd rfl (Or.inl rfl) (dc G__law_bag hr (da_cons (dv 0) da_nil)))
  (dss_cut (ds_forR1 m_range PassesOwn.never rfl (da_cons de_int da_nil) (dg_name (i := 2) sc_law.nd rfl (Or.inl rfl)) (dss_cut (ds_setV (i := 3) sc_law.nd rfl (Or.inl rfl) (dc G__law_some hr (da_cons (dv 1) da_nil)))
  (dss_cut (ds_setV (i := 4) sc_law.nd rfl (Or.inl rfl) (de_not (dc G__law_one_handed hr (da_cons (dv 3) da_nil))))
  (dss_cut (ds_setV (i := 5) sc_law.nd rfl (Or.inl rfl) (de_ge (dc G__law_where hr (da_cons (dc G__law_hull hr (da_cons (dv 3) da_nil)) (da_cons (de_tup (da_cons de_int (da_cons de_int (da_cons de_int da_nil)))) da_nil))) de_int))
  (dss_cut (ds_setV (i := 6) sc_law.nd rfl (Or.inl rfl) (de_listc m_list (da_cons (dv 3) da_nil)))
  (dss_cut (ds_forL PassesOwn.never rfl (de_lst (da_cons (dv 6) (da_cons (dc G_hull hr (da_cons (de_listc m_list (da_cons (dv 3) da_nil)) da_nil)) (da_cons (de_tupc m_tuple (da_cons (dc G__law_shuffled hr (da_cons (dv 1) (da_cons (dv 3) da_nil))) da_nil)) da_nil)))) (dg_name (i := 7) sc_law.nd rfl (Or.inl rfl)) (dss_cut (ds_if (dt_w (dw_or (dt_not (dt_val (dc G__law_like hr (da_cons (dc G_inner hr (da_cons (dv 7) da_nil)) (da_cons (dv 4) da_nil))))) (dw_or1 (dt_not (dt_val (dc G__law_like hr (da_cons (dc G_touches hr (da_cons (dv 7) da_nil)) (da_cons (dv 5) da_nil)))))))) (dss_one (ds_ret de_bl)) dss_nil)
  (dss_cut (ds_setV (i := 8) sc_law.nd rfl (Or.inl rfl) (dc G_side hr (da_cons (dv 7) da_nil)))
  (dss_one (ds_if (dt_w (dw_or (dt_w (dw_and (dt_val (dv 4)) (dw_and1 (dt_notN (dv 8) de_non)))) (dw_or1 (dt_w (dw_and (dt_not (dt_val (dv 4))) (dw_and1 (dt_not (dt_val (dc G__law_right_side hr (da_cons (dv 8) (da_cons (dv 3) da_nil))))))))))) (dss_one (ds_ret de_bl)) dss_nil)))))
  (dss_cut (ds_if (dt_not (dt_val (dc G__law_like hr (da_cons (dv 6) (da_cons (dv 3) da_nil))))) (dss_one (ds_ret de_bl)) dss_nil)
  (dss_one (ds_if (dt_w (dw_and (dt_eq hr.units (dc G__law_draw hr (da_cons (dv 1) (da_cons de_int da_nil))) de_int) (dw_and1 (dt_not (dt_val (dc G__law_like hr (da_cons (dcK G_inner kb_inner hr (dk_cons (de_slL (dv 3) do_none (do_some de_int)) dk_nil)) (da_cons de_bl da_nil)))))))) (dss_one (ds_ret de_bl)) dss_nil)))))))))
  (dss_one (ds_ret de_bl)))), fun args Φ hl h => rd_law h⟩
end
/-! ### what the top has written; the law's own head -/
theorem exm_own {K : PySem.W.Frag} {S : Addr} (h1 : PySem.W.subIn K (.ref S) (.type "BaseException") = some true) (h2 : PySem.W.isClsIn K S = true) (h3 : PySem.W.typeIn K (.ref S) = some (.type "type")) (h4 : PySem.W.subIn K (.ref S) (.ref S) = some true) : PySem.W.exmOne K (.ref S) (.ref S) = some true := by
  have e1 : (PySem.W.subIn K (.ref S) (.type "BaseException") == some true) = true := by rw [h1] <;> rfl
  have e2 : ((PySem.W.clsIn K S).isSome && PySem.W.typeIn K (.ref S) == some (.type "type")) = true := by
    have h5 : (PySem.W.clsIn K S).isSome = true := h2
    rw [h5, h3] <;> rfl
  show (if (PySem.W.subIn K (.ref S) (.type "BaseException") == some true) = true then (if ((PySem.W.clsIn K S).isSome && PySem.W.typeIn K (.ref S) == some (.type "type")) = true then PySem.W.subIn K (.ref S) (.ref S) else none) else none) = some true
  rw [if_pos e1, if_pos e2]
  exact h4
theorem all_mk {l : PySem.W.OpenLaw} {w : World} {K : PySem.W.Frag} {h : Heap} {mg : Str → Option Value} {fa : Addr} (X : K.In h) (G : h.Ns mainGlobals mg) (hfa : mg "law" = some (.ref fa))
    {oc1 kV1 dc1 pm1 cd1 ct1 : Value} {od1 an1 : Option Addr} {sl1 : Array (Option Value)} {f1 : Addr}
    (a1 : PySem.W.nsIn K mainGlobals "point_of" = some (some (.ref f1)))
    (l1 : K.lookup f1 = some ⟨oc1, od1, .func (PySem.W.fnOf "point_of" "point_of" (defArgs s_point_of) (defBody s_point_of) (defScope s_point_of) .none kV1 dc1 pm1 an1 cd1 ct1), sl1⟩)
    (c1 : PySem.W.codeIn K cd1 "point_of" = true) (k1 : PySem.W.keepIn K (.ref f1) = true)
    {oc2 kV2 dc2 pm2 cd2 ct2 : Value} {od2 an2 : Option Addr} {sl2 : Array (Option Value)} {f2 : Addr}
    (a2 : PySem.W.nsIn K mainGlobals "left_turn" = some (some (.ref f2)))
    (l2 : K.lookup f2 = some ⟨oc2, od2, .func (PySem.W.fnOf "left_turn" "left_turn" (defArgs s_left_turn) (defBody s_left_turn) (defScope s_left_turn) .none kV2 dc2 pm2 an2 cd2 ct2), sl2⟩)
    (c2 : PySem.W.codeIn K cd2 "left_turn" = true) (k2 : PySem.W.keepIn K (.ref f2) = true)
    {oc3 kV3 dc3 pm3 cd3 ct3 : Value} {od3 an3 : Option Addr} {sl3 : Array (Option Value)} {f3 : Addr}
    (a3 : PySem.W.nsIn K mainGlobals "is_before" = some (some (.ref f3)))
    (l3 : K.lookup f3 = some ⟨oc3, od3, .func (PySem.W.fnOf "is_before" "is_before" (defArgs s_is_before) (defBody s_is_before) (defScope s_is_before) .none kV3 dc3 pm3 an3 cd3 ct3), sl3⟩)
    (c3 : PySem.W.codeIn K cd3 "is_before" = true) (k3 : PySem.W.keepIn K (.ref f3) = true)
    {oc4 kV4 dc4 pm4 cd4 ct4 : Value} {od4 an4 : Option Addr} {sl4 : Array (Option Value)} {f4 : Addr}
    (a4 : PySem.W.nsIn K mainGlobals "in_order" = some (some (.ref f4)))
    (l4 : K.lookup f4 = some ⟨oc4, od4, .func (PySem.W.fnOf "in_order" "in_order" (defArgs s_in_order) (defBody s_in_order) (defScope s_in_order) .none kV4 dc4 pm4 an4 cd4 ct4), sl4⟩)
    (c4 : PySem.W.codeIn K cd4 "in_order" = true) (k4 : PySem.W.keepIn K (.ref f4) = true)
    {oc5 kV5 dc5 pm5 cd5 ct5 : Value} {od5 an5 : Option Addr} {sl5 : Array (Option Value)} {f5 : Addr}
    (a5 : PySem.W.nsIn K mainGlobals "rim_along" = some (some (.ref f5)))
    (l5 : K.lookup f5 = some ⟨oc5, od5, .func (PySem.W.fnOf "rim_along" "rim_along" (defArgs s_rim_along) (defBody s_rim_along) (defScope s_rim_along) .none kV5 dc5 pm5 an5 cd5 ct5), sl5⟩)
    (c5 : PySem.W.codeIn K cd5 "rim_along" = true) (k5 : PySem.W.keepIn K (.ref f5) = true)
    {oc6 kV6 dc6 pm6 cd6 ct6 : Value} {od6 an6 : Option Addr} {sl6 : Array (Option Value)} {f6 : Addr}
    (a6 : PySem.W.nsIn K mainGlobals "hull_corners" = some (some (.ref f6)))
    (l6 : K.lookup f6 = some ⟨oc6, od6, .func (PySem.W.fnOf "hull_corners" "hull_corners" (defArgs s_hull_corners) (defBody s_hull_corners) (defScope s_hull_corners) .none kV6 dc6 pm6 an6 cd6 ct6), sl6⟩)
    (c6 : PySem.W.codeIn K cd6 "hull_corners" = true) (k6 : PySem.W.keepIn K (.ref f6) = true)
    {oc7 kV7 dc7 pm7 cd7 ct7 : Value} {od7 an7 : Option Addr} {sl7 : Array (Option Value)} {f7 : Addr}
    (a7 : PySem.W.nsIn K mainGlobals "cross" = some (some (.ref f7)))
    (l7 : K.lookup f7 = some ⟨oc7, od7, .func (PySem.W.fnOf "cross" "cross" (defArgs s_cross) (defBody s_cross) (defScope s_cross) .none kV7 dc7 pm7 an7 cd7 ct7), sl7⟩)
    (c7 : PySem.W.codeIn K cd7 "cross" = true) (k7 : PySem.W.keepIn K (.ref f7) = true)
    {oc8 kV8 dc8 pm8 cd8 ct8 : Value} {od8 an8 : Option Addr} {sl8 : Array (Option Value)} {f8 : Addr}
    (a8 : PySem.W.nsIn K mainGlobals "rightmost" = some (some (.ref f8)))
    (l8 : K.lookup f8 = some ⟨oc8, od8, .func (PySem.W.fnOf "rightmost" "rightmost" (defArgs s_rightmost) (defBody s_rightmost) (defScope s_rightmost) .none kV8 dc8 pm8 an8 cd8 ct8), sl8⟩)
    (c8 : PySem.W.codeIn K cd8 "rightmost" = true) (k8 : PySem.W.keepIn K (.ref f8) = true)
    {oc9 kV9 dc9 pm9 cd9 ct9 : Value} {od9 an9 : Option Addr} {sl9 : Array (Option Value)} {f9 : Addr}
    (a9 : PySem.W.nsIn K mainGlobals "side_found" = some (some (.ref f9)))
    (l9 : K.lookup f9 = some ⟨oc9, od9, .func (PySem.W.fnOf "side_found" "side_found" (defArgs s_side_found) (defBody s_side_found) (defScope s_side_found) .none kV9 dc9 pm9 an9 cd9 ct9), sl9⟩)
    (c9 : PySem.W.codeIn K cd9 "side_found" = true) (k9 : PySem.W.keepIn K (.ref f9) = true)
    {oc10 kV10 dc10 pm10 cd10 ct10 : Value} {od10 an10 : Option Addr} {sl10 : Array (Option Value)} {f10 : Addr}
    (a10 : PySem.W.nsIn K mainGlobals "touches_zero" = some (some (.ref f10)))
    (l10 : K.lookup f10 = some ⟨oc10, od10, .func (PySem.W.fnOf "touches_zero" "touches_zero" (defArgs s_touches_zero) (defBody s_touches_zero) (defScope s_touches_zero) .none kV10 dc10 pm10 an10 cd10 ct10), sl10⟩)
    (c10 : PySem.W.codeIn K cd10 "touches_zero" = true) (k10 : PySem.W.keepIn K (.ref f10) = true)
    {oc11 kV11 dc11 pm11 cd11 ct11 : Value} {od11 an11 : Option Addr} {sl11 : Array (Option Value)} {f11 : Addr}
    (a11 : PySem.W.nsIn K mainGlobals "hull" = some (some (.ref f11)))
    (l11 : K.lookup f11 = some ⟨oc11, od11, .func (PySem.W.fnOf "hull" "hull" (defArgs s_hull) (defBody s_hull) (defScope s_hull) .none kV11 dc11 pm11 an11 cd11 ct11), sl11⟩)
    (c11 : PySem.W.codeIn K cd11 "hull" = true) (k11 : PySem.W.keepIn K (.ref f11) = true)
    {oc12 kV12 dc12 pm12 cd12 ct12 : Value} {od12 an12 : Option Addr} {sl12 : Array (Option Value)} {f12 : Addr}
    (a12 : PySem.W.nsIn K mainGlobals "inner" = some (some (.ref f12)))
    (l12 : K.lookup f12 = some ⟨oc12, od12, .func (PySem.W.fnOf "inner" "inner" (defArgs s_inner) (defBody s_inner) (defScope s_inner) .none kV12 dc12 pm12 an12 cd12 ct12), sl12⟩)
    (c12 : PySem.W.codeIn K cd12 "inner" = true) (k12 : PySem.W.keepIn K (.ref f12) = true)
    {oc13 kV13 dc13 pm13 cd13 ct13 : Value} {od13 an13 : Option Addr} {sl13 : Array (Option Value)} {f13 : Addr}
    (a13 : PySem.W.nsIn K mainGlobals "touches" = some (some (.ref f13)))
    (l13 : K.lookup f13 = some ⟨oc13, od13, .func (PySem.W.fnOf "touches" "touches" (defArgs s_touches) (defBody s_touches) (defScope s_touches) .none kV13 dc13 pm13 an13 cd13 ct13), sl13⟩)
    (c13 : PySem.W.codeIn K cd13 "touches" = true) (k13 : PySem.W.keepIn K (.ref f13) = true)
    {oc14 kV14 dc14 pm14 cd14 ct14 : Value} {od14 an14 : Option Addr} {sl14 : Array (Option Value)} {f14 : Addr}
    (a14 : PySem.W.nsIn K mainGlobals "side" = some (some (.ref f14)))
    (l14 : K.lookup f14 = some ⟨oc14, od14, .func (PySem.W.fnOf "side" "side" (defArgs s_side) (defBody s_side) (defScope s_side) .none kV14 dc14 pm14 an14 cd14 ct14), sl14⟩)
    (c14 : PySem.W.codeIn K cd14 "side" = true) (k14 : PySem.W.keepIn K (.ref f14) = true)
    {oc15 kV15 dc15 pm15 cd15 ct15 : Value} {od15 an15 : Option Addr} {sl15 : Array (Option Value)} {f15 : Addr}
    (a15 : PySem.W.nsIn K mainGlobals "_law_bag" = some (some (.ref f15)))
    (l15 : K.lookup f15 = some ⟨oc15, od15, .func (PySem.W.fnOf "_law_bag" "_law_bag" (defArgs s__law_bag) (defBody s__law_bag) (defScope s__law_bag) .none kV15 dc15 pm15 an15 cd15 ct15), sl15⟩)
    (c15 : PySem.W.codeIn K cd15 "_law_bag" = true) (k15 : PySem.W.keepIn K (.ref f15) = true)
    {oc16 kV16 dc16 pm16 cd16 ct16 : Value} {od16 an16 : Option Addr} {sl16 : Array (Option Value)} {f16 : Addr}
    (a16 : PySem.W.nsIn K mainGlobals "_law_draw" = some (some (.ref f16)))
    (l16 : K.lookup f16 = some ⟨oc16, od16, .func (PySem.W.fnOf "_law_draw" "_law_draw" (defArgs s__law_draw) (defBody s__law_draw) (defScope s__law_draw) .none kV16 dc16 pm16 an16 cd16 ct16), sl16⟩)
    (c16 : PySem.W.codeIn K cd16 "_law_draw" = true) (k16 : PySem.W.keepIn K (.ref f16) = true)
    {oc17 kV17 dc17 pm17 cd17 ct17 : Value} {od17 an17 : Option Addr} {sl17 : Array (Option Value)} {f17 : Addr}
    (a17 : PySem.W.nsIn K mainGlobals "_law_of" = some (some (.ref f17)))
    (l17 : K.lookup f17 = some ⟨oc17, od17, .func (PySem.W.fnOf "_law_of" "_law_of" (defArgs s__law_of) (defBody s__law_of) (defScope s__law_of) .none kV17 dc17 pm17 an17 cd17 ct17), sl17⟩)
    (c17 : PySem.W.codeIn K cd17 "_law_of" = true) (k17 : PySem.W.keepIn K (.ref f17) = true)
    {oc18 kV18 dc18 pm18 cd18 ct18 : Value} {od18 an18 : Option Addr} {sl18 : Array (Option Value)} {f18 : Addr}
    (a18 : PySem.W.nsIn K mainGlobals "_law_shuffled" = some (some (.ref f18)))
    (l18 : K.lookup f18 = some ⟨oc18, od18, .func (PySem.W.fnOf "_law_shuffled" "_law_shuffled" (defArgs s__law_shuffled) (defBody s__law_shuffled) (defScope s__law_shuffled) .none kV18 dc18 pm18 an18 cd18 ct18), sl18⟩)
    (c18 : PySem.W.codeIn K cd18 "_law_shuffled" = true) (k18 : PySem.W.keepIn K (.ref f18) = true)
    {oc19 kV19 dc19 pm19 cd19 ct19 : Value} {od19 an19 : Option Addr} {sl19 : Array (Option Value)} {f19 : Addr}
    (a19 : PySem.W.nsIn K mainGlobals "_law_like" = some (some (.ref f19)))
    (l19 : K.lookup f19 = some ⟨oc19, od19, .func (PySem.W.fnOf "_law_like" "_law_like" (defArgs s__law_like) (defBody s__law_like) (defScope s__law_like) .none kV19 dc19 pm19 an19 cd19 ct19), sl19⟩)
    (c19 : PySem.W.codeIn K cd19 "_law_like" = true) (k19 : PySem.W.keepIn K (.ref f19) = true)
    {oc20 kV20 dc20 pm20 cd20 ct20 : Value} {od20 an20 : Option Addr} {sl20 : Array (Option Value)} {f20 : Addr}
    (a20 : PySem.W.nsIn K mainGlobals "_law_gcd" = some (some (.ref f20)))
    (l20 : K.lookup f20 = some ⟨oc20, od20, .func (PySem.W.fnOf "_law_gcd" "_law_gcd" (defArgs s__law_gcd) (defBody s__law_gcd) (defScope s__law_gcd) .none kV20 dc20 pm20 an20 cd20 ct20), sl20⟩)
    (c20 : PySem.W.codeIn K cd20 "_law_gcd" = true) (k20 : PySem.W.keepIn K (.ref f20) = true)
    {oc21 kV21 dc21 pm21 cd21 ct21 : Value} {od21 an21 : Option Addr} {sl21 : Array (Option Value)} {f21 : Addr}
    (a21 : PySem.W.nsIn K mainGlobals "_law_lowest" = some (some (.ref f21)))
    (l21 : K.lookup f21 = some ⟨oc21, od21, .func (PySem.W.fnOf "_law_lowest" "_law_lowest" (defArgs s__law_lowest) (defBody s__law_lowest) (defScope s__law_lowest) .none kV21 dc21 pm21 an21 cd21 ct21), sl21⟩)
    (c21 : PySem.W.codeIn K cd21 "_law_lowest" = true) (k21 : PySem.W.keepIn K (.ref f21) = true)
    {oc22 kV22 dc22 pm22 cd22 ct22 : Value} {od22 an22 : Option Addr} {sl22 : Array (Option Value)} {f22 : Addr}
    (a22 : PySem.W.nsIn K mainGlobals "_law_turn" = some (some (.ref f22)))
    (l22 : K.lookup f22 = some ⟨oc22, od22, .func (PySem.W.fnOf "_law_turn" "_law_turn" (defArgs s__law_turn) (defBody s__law_turn) (defScope s__law_turn) .none kV22 dc22 pm22 an22 cd22 ct22), sl22⟩)
    (c22 : PySem.W.codeIn K cd22 "_law_turn" = true) (k22 : PySem.W.keepIn K (.ref f22) = true)
    {oc23 kV23 dc23 pm23 cd23 ct23 : Value} {od23 an23 : Option Addr} {sl23 : Array (Option Value)} {f23 : Addr}
    (a23 : PySem.W.nsIn K mainGlobals "_law_far" = some (some (.ref f23)))
    (l23 : K.lookup f23 = some ⟨oc23, od23, .func (PySem.W.fnOf "_law_far" "_law_far" (defArgs s__law_far) (defBody s__law_far) (defScope s__law_far) .none kV23 dc23 pm23 an23 cd23 ct23), sl23⟩)
    (c23 : PySem.W.codeIn K cd23 "_law_far" = true) (k23 : PySem.W.keepIn K (.ref f23) = true)
    {oc24 kV24 dc24 pm24 cd24 ct24 : Value} {od24 an24 : Option Addr} {sl24 : Array (Option Value)} {f24 : Addr}
    (a24 : PySem.W.nsIn K mainGlobals "_law_hull" = some (some (.ref f24)))
    (l24 : K.lookup f24 = some ⟨oc24, od24, .func (PySem.W.fnOf "_law_hull" "_law_hull" (defArgs s__law_hull) (defBody s__law_hull) (defScope s__law_hull) .none kV24 dc24 pm24 an24 cd24 ct24), sl24⟩)
    (c24 : PySem.W.codeIn K cd24 "_law_hull" = true) (k24 : PySem.W.keepIn K (.ref f24) = true)
    {oc25 kV25 dc25 pm25 cd25 ct25 : Value} {od25 an25 : Option Addr} {sl25 : Array (Option Value)} {f25 : Addr}
    (a25 : PySem.W.nsIn K mainGlobals "_law_where" = some (some (.ref f25)))
    (l25 : K.lookup f25 = some ⟨oc25, od25, .func (PySem.W.fnOf "_law_where" "_law_where" (defArgs s__law_where) (defBody s__law_where) (defScope s__law_where) .none kV25 dc25 pm25 an25 cd25 ct25), sl25⟩)
    (c25 : PySem.W.codeIn K cd25 "_law_where" = true) (k25 : PySem.W.keepIn K (.ref f25) = true)
    {oc26 kV26 dc26 pm26 cd26 ct26 : Value} {od26 an26 : Option Addr} {sl26 : Array (Option Value)} {f26 : Addr}
    (a26 : PySem.W.nsIn K mainGlobals "_law_point" = some (some (.ref f26)))
    (l26 : K.lookup f26 = some ⟨oc26, od26, .func (PySem.W.fnOf "_law_point" "_law_point" (defArgs s__law_point) (defBody s__law_point) (defScope s__law_point) .none kV26 dc26 pm26 an26 cd26 ct26), sl26⟩)
    (c26 : PySem.W.codeIn K cd26 "_law_point" = true) (k26 : PySem.W.keepIn K (.ref f26) = true)
    {oc27 kV27 dc27 pm27 cd27 ct27 : Value} {od27 an27 : Option Addr} {sl27 : Array (Option Value)} {f27 : Addr}
    (a27 : PySem.W.nsIn K mainGlobals "_law_plane_points" = some (some (.ref f27)))
    (l27 : K.lookup f27 = some ⟨oc27, od27, .func (PySem.W.fnOf "_law_plane_points" "_law_plane_points" (defArgs s__law_plane_points) (defBody s__law_plane_points) (defScope s__law_plane_points) .none kV27 dc27 pm27 an27 cd27 ct27), sl27⟩)
    (c27 : PySem.W.codeIn K cd27 "_law_plane_points" = true) (k27 : PySem.W.keepIn K (.ref f27) = true)
    {oc28 kV28 dc28 pm28 cd28 ct28 : Value} {od28 an28 : Option Addr} {sl28 : Array (Option Value)} {f28 : Addr}
    (a28 : PySem.W.nsIn K mainGlobals "_law_one_handed" = some (some (.ref f28)))
    (l28 : K.lookup f28 = some ⟨oc28, od28, .func (PySem.W.fnOf "_law_one_handed" "_law_one_handed" (defArgs s__law_one_handed) (defBody s__law_one_handed) (defScope s__law_one_handed) .none kV28 dc28 pm28 an28 cd28 ct28), sl28⟩)
    (c28 : PySem.W.codeIn K cd28 "_law_one_handed" = true) (k28 : PySem.W.keepIn K (.ref f28) = true)
    {oc29 kV29 dc29 pm29 cd29 ct29 : Value} {od29 an29 : Option Addr} {sl29 : Array (Option Value)} {f29 : Addr}
    (a29 : PySem.W.nsIn K mainGlobals "_law_some" = some (some (.ref f29)))
    (l29 : K.lookup f29 = some ⟨oc29, od29, .func (PySem.W.fnOf "_law_some" "_law_some" (defArgs s__law_some) (defBody s__law_some) (defScope s__law_some) .none kV29 dc29 pm29 an29 cd29 ct29), sl29⟩)
    (c29 : PySem.W.codeIn K cd29 "_law_some" = true) (k29 : PySem.W.keepIn K (.ref f29) = true)
    {oc30 kV30 dc30 pm30 cd30 ct30 : Value} {od30 an30 : Option Addr} {sl30 : Array (Option Value)} {f30 : Addr}
    (a30 : PySem.W.nsIn K mainGlobals "_law_right_side" = some (some (.ref f30)))
    (l30 : K.lookup f30 = some ⟨oc30, od30, .func (PySem.W.fnOf "_law_right_side" "_law_right_side" (defArgs s__law_right_side) (defBody s__law_right_side) (defScope s__law_right_side) .none kV30 dc30 pm30 an30 cd30 ct30), sl30⟩)
    (c30 : PySem.W.codeIn K cd30 "_law_right_side" = true) (k30 : PySem.W.keepIn K (.ref f30) = true)
    {oc31 kV31 dc31 pm31 cd31 ct31 : Value} {od31 an31 : Option Addr} {sl31 : Array (Option Value)} {f31 : Addr}
    (a31 : PySem.W.nsIn K mainGlobals "law" = some (some (.ref f31)))
    (l31 : K.lookup f31 = some ⟨oc31, od31, .func (PySem.W.fnOf "law" "law" (defArgs s_law) (defBody s_law) (defScope s_law) .none kV31 dc31 pm31 an31 cd31 ct31), sl31⟩)
    (c31 : PySem.W.codeIn K cd31 "law" = true) (k31 : PySem.W.keepIn K (.ref f31) = true)
    (z_abs : PySem.W.nsIn K mainGlobals "abs" = some none)
    (z_all : PySem.W.nsIn K mainGlobals "all" = some none)
    (z_any : PySem.W.nsIn K mainGlobals "any" = some none)
    (z_bool : PySem.W.nsIn K mainGlobals "bool" = some none)
    (z_dict : PySem.W.nsIn K mainGlobals "dict" = some none)
    (z_gcd : PySem.W.nsIn K mainGlobals "gcd" = some (some (.builtin "math.gcd")))
    (z_int : PySem.W.nsIn K mainGlobals "int" = some none)
    (z_isinstance : PySem.W.nsIn K mainGlobals "isinstance" = some none)
    (z_len : PySem.W.nsIn K mainGlobals "len" = some none)
    (z_list : PySem.W.nsIn K mainGlobals "list" = some none)
    (z_min : PySem.W.nsIn K mainGlobals "min" = some none)
    (z_range : PySem.W.nsIn K mainGlobals "range" = some none)
    (z_str : PySem.W.nsIn K mainGlobals "str" = some none)
    (z_tuple : PySem.W.nsIn K mainGlobals "tuple" = some none)
    (z_zip : PySem.W.nsIn K mainGlobals "zip" = some none) :
    ∃ fd : FuncData, (∀ (s : Shared) (v : Value), BindsTo s fd ⟨[v], []⟩ [("script", v)]) ∧ ∀ base : Heap, K.In base → base.Ns mainGlobals mg → FnOk l.prog w K mg base CX0 6 fa fd ["script"] (lSp K 1 sp_law) := by
  have e := hfa.symm.trans (PySem.W.mg_of X G a31)
  cases e
  have F1 := fun_mk (st := s_point_of) l1 c1 k1
  have b1 := F1.binds (ps := ["x", "y", "w"]) fun _ _ _ _ _ _ us hl => match us, hl with | [_, _, _], _ => rfl
  have F2 := fun_mk (st := s_left_turn) l2 c2 k2
  have b2 := F2.binds (ps := ["p", "q", "r"]) fun _ _ _ _ _ _ us hl => match us, hl with | [_, _, _], _ => rfl
  have F3 := fun_mk (st := s_is_before) l3 c3 k3
  have b3 := F3.binds (ps := ["p", "q"]) fun _ _ _ _ _ _ us hl => match us, hl with | [_, _], _ => rfl
  have F4 := fun_mk (st := s_in_order) l4 c4 k4
  have b4 := F4.binds (ps := ["points"]) fun _ _ _ _ _ _ us hl => match us, hl with | [_], _ => rfl
  have F5 := fun_mk (st := s_rim_along) l5 c5 k5
  have b5 := F5.binds (ps := ["row"]) fun _ _ _ _ _ _ us hl => match us, hl with | [_], _ => rfl
  have F6 := fun_mk (st := s_hull_corners) l6 c6 k6
  have b6 := F6.binds (ps := ["points"]) fun _ _ _ _ _ _ us hl => match us, hl with | [_], _ => rfl
  have F7 := fun_mk (st := s_cross) l7 c7 k7
  have b7 := F7.binds (ps := ["p", "q"]) fun _ _ _ _ _ _ us hl => match us, hl with | [_, _], _ => rfl
  have F8 := fun_mk (st := s_rightmost) l8 c8 k8
  have b8 := F8.binds (ps := ["points"]) fun _ _ _ _ _ _ us hl => match us, hl with | [_], _ => rfl
  have F9 := fun_mk (st := s_side_found) l9 c9 k9
  have b9 := F9.binds (ps := ["points"]) fun _ _ _ _ _ _ us hl => match us, hl with | [_], _ => rfl
  have F10 := fun_mk (st := s_touches_zero) l10 c10 k10
  have b10 := F10.binds (ps := ["points"]) fun _ _ _ _ _ _ us hl => match us, hl with | [_], _ => rfl
  have F11 := fun_mk (st := s_hull) l11 c11 k11
  have b11 := F11.binds (ps := ["points"]) fun _ _ _ _ _ _ us hl => match us, hl with | [_], _ => rfl
  have F12 := fun_mk (st := s_inner) l12 c12 k12
  have b12 := F12.binds (ps := ["points"]) fun _ _ _ _ _ _ us hl => match us, hl with | [_], _ => rfl
  have F13 := fun_mk (st := s_touches) l13 c13 k13
  have b13 := F13.binds (ps := ["points"]) fun _ _ _ _ _ _ us hl => match us, hl with | [_], _ => rfl
  have F14 := fun_mk (st := s_side) l14 c14 k14
  have b14 := F14.binds (ps := ["points"]) fun _ _ _ _ _ _ us hl => match us, hl with | [_], _ => rfl
  have F15 := fun_mk (st := s__law_bag) l15 c15 k15
  have b15 := F15.binds (ps := ["script"]) fun _ _ _ _ _ _ us hl => match us, hl with | [_], _ => rfl
  have F16 := fun_mk (st := s__law_draw) l16 c16 k16
  have b16 := F16.binds (ps := ["bag", "limit"]) fun _ _ _ _ _ _ us hl => match us, hl with | [_, _], _ => rfl
  have F17 := fun_mk (st := s__law_of) l17 c17 k17
  have b17 := F17.binds (ps := ["bag", "things"]) fun _ _ _ _ _ _ us hl => match us, hl with | [_, _], _ => rfl
  have F18 := fun_mk (st := s__law_shuffled) l18 c18 k18
  have b18 := F18.binds (ps := ["bag", "things"]) fun _ _ _ _ _ _ us hl => match us, hl with | [_, _], _ => rfl
  have F19 := fun_mk (st := s__law_like) l19 c19 k19
  have b19 := F19.binds (ps := ["told", "due"]) fun _ _ _ _ _ _ us hl => match us, hl with | [_, _], _ => rfl
  have F20 := fun_mk (st := s__law_gcd) l20 c20 k20
  have b20 := F20.binds (ps := ["a", "b"]) fun _ _ _ _ _ _ us hl => match us, hl with | [_, _], _ => rfl
  have F21 := fun_mk (st := s__law_lowest) l21 c21 k21
  have b21 := F21.binds (ps := ["x", "y", "w"]) fun _ _ _ _ _ _ us hl => match us, hl with | [_, _, _], _ => rfl
  have F22 := fun_mk (st := s__law_turn) l22 c22 k22
  have b22 := F22.binds (ps := ["p", "q", "r"]) fun _ _ _ _ _ _ us hl => match us, hl with | [_, _, _], _ => rfl
  have F23 := fun_mk (st := s__law_far) l23 c23 k23
  have b23 := F23.binds (ps := ["c", "p"]) fun _ _ _ _ _ _ us hl => match us, hl with | [_, _], _ => rfl
  have F24 := fun_mk (st := s__law_hull) l24 c24 k24
  have b24 := F24.binds (ps := ["some"]) fun _ _ _ _ _ _ us hl => match us, hl with | [_], _ => rfl
  have F25 := fun_mk (st := s__law_where) l25 c25 k25
  have b25 := F25.binds (ps := ["corners", "v"]) fun _ _ _ _ _ _ us hl => match us, hl with | [_, _], _ => rfl
  have F26 := fun_mk (st := s__law_point) l26 c26 k26
  have b26 := F26.binds (ps := ["bag", "wide"]) fun _ _ _ _ _ _ us hl => match us, hl with | [_, _], _ => rfl
  have F27 := fun_mk (st := s__law_plane_points) l27 c27 k27
  have b27 := F27.binds (ps := ["bag"]) fun _ _ _ _ _ _ us hl => match us, hl with | [_], _ => rfl
  have F28 := fun_mk (st := s__law_one_handed) l28 c28 k28
  have b28 := F28.binds (ps := ["some"]) fun _ _ _ _ _ _ us hl => match us, hl with | [_], _ => rfl
  have F29 := fun_mk (st := s__law_some) l29 c29 k29
  have b29 := F29.binds (ps := ["bag"]) fun _ _ _ _ _ _ us hl => match us, hl with | [_], _ => rfl
  have F30 := fun_mk (st := s__law_right_side) l30 c30 k30
  have b30 := F30.binds (ps := ["told", "some"]) fun _ _ _ _ _ _ us hl => match us, hl with | [_, _], _ => rfl
  have F31 := fun_mk (st := s_law) l31 c31 k31
  have b31 := F31.binds (ps := ["script"]) fun _ _ _ _ _ _ us hl => match us, hl with | [_], _ => rfl
  have kb12 : KwB (PySem.W.fnOf "inner" "inner" (defArgs s_inner) (defBody s_inner) (defScope s_inner) .none kV12 dc12 pm12 an12 cd12 ct12) ["points"] := fun s ws hl => match ws, hl with | [_], _ => .of_eq rfl
  refine ⟨PySem.W.fnOf "law" "law" (defArgs s_law) (defBody s_law) (defScope s_law) .none kV31 dc31 pm31 an31 cd31 ct31, fun s v => .of_eq rfl, fun base _ _ => ?_⟩
  have G1 : Cal l.prog w K mg base CX0 1 3 sp_point_of "point_of" f1 _ ["x", "y", "w"] := ⟨ok_point_of F1  (PySem.W.mg_of X G z_gcd), PySem.W.mg_of X G a1, F1.kp, b1⟩
  have G2 : Cal l.prog w K mg base CX0 1 3 sp_left_turn "left_turn" f2 _ ["p", "q", "r"] := ⟨ok_left_turn F2  , PySem.W.mg_of X G a2, F2.kp, b2⟩
  have G3 : Cal l.prog w K mg base CX0 1 2 sp_is_before "is_before" f3 _ ["p", "q"] := ⟨ok_is_before F3  , PySem.W.mg_of X G a3, F3.kp, b3⟩
  have G4 : Cal l.prog w K mg base CX0 2 1 sp_in_order "in_order" f4 _ ["points"] := ⟨ok_in_order F4 G3 (PySem.W.mg_none_of X G z_len), PySem.W.mg_of X G a4, F4.kp, b4⟩
  have G5 : Cal l.prog w K mg base CX0 2 1 sp_rim_along "rim_along" f5 _ ["row"] := ⟨ok_rim_along F5 G2 (PySem.W.mg_none_of X G z_len), PySem.W.mg_of X G a5, F5.kp, b5⟩
  have G6 : Cal l.prog w K mg base CX0 3 1 sp_hull_corners "hull_corners" f6 _ ["points"] := ⟨ok_hull_corners F6 G5 G4 G1 (PySem.W.mg_none_of X G z_len), PySem.W.mg_of X G a6, F6.kp, b6⟩
  have G7 : Cal l.prog w K mg base CX0 1 2 sp_cross "cross" f7 _ ["p", "q"] := ⟨ok_cross F7  , PySem.W.mg_of X G a7, F7.kp, b7⟩
  have G8 : Cal l.prog w K mg base CX0 2 1 sp_rightmost "rightmost" f8 _ ["points"] := ⟨ok_rightmost F8 G7 (PySem.W.mg_none_of X G z_list), PySem.W.mg_of X G a8, F8.kp, b8⟩
  have G9 : Cal l.prog w K mg base CX0 3 1 sp_side_found "side_found" f9 _ ["points"] := ⟨ok_side_found F9 G7 G8 , PySem.W.mg_of X G a9, F9.kp, b9⟩
  have G10 : Cal l.prog w K mg base CX0 3 1 sp_touches_zero "touches_zero" f10 _ ["points"] := ⟨ok_touches_zero F10 G7 G8 , PySem.W.mg_of X G a10, F10.kp, b10⟩
  have G11 : Cal l.prog w K mg base CX0 4 1 sp_hull "hull" f11 _ ["points"] := ⟨ok_hull F11 G6 , PySem.W.mg_of X G a11, F11.kp, b11⟩
  have G12 : Cal l.prog w K mg base CX0 4 1 sp_inner "inner" f12 _ ["points"] := ⟨ok_inner F12 G9 , PySem.W.mg_of X G a12, F12.kp, b12⟩
  have G13 : Cal l.prog w K mg base CX0 4 1 sp_touches "touches" f13 _ ["points"] := ⟨ok_touches F13 G10 , PySem.W.mg_of X G a13, F13.kp, b13⟩
  have G14 : Cal l.prog w K mg base CX0 4 1 sp_side "side" f14 _ ["points"] := ⟨ok_side F14 G9 , PySem.W.mg_of X G a14, F14.kp, b14⟩
  have G15 : Cal l.prog w K mg base CX0 1 1 sp__law_bag "_law_bag" f15 _ ["script"] := ⟨ok__law_bag F15  (PySem.W.mg_none_of X G z_int) (PySem.W.mg_none_of X G z_list), PySem.W.mg_of X G a15, F15.kp, b15⟩
  have G16 : Cal l.prog w K mg base CX0 1 2 sp__law_draw "_law_draw" f16 _ ["bag", "limit"] := ⟨ok__law_draw F16  (PySem.W.mg_none_of X G z_int) (PySem.W.mg_none_of X G z_len), PySem.W.mg_of X G a16, F16.kp, b16⟩
  have G17 : Cal l.prog w K mg base CX0 2 2 sp__law_of "_law_of" f17 _ ["bag", "things"] := ⟨ok__law_of F17 G16 (PySem.W.mg_none_of X G z_len), PySem.W.mg_of X G a17, F17.kp, b17⟩
  have G18 : Cal l.prog w K mg base CX0 2 2 sp__law_shuffled "_law_shuffled" f18 _ ["bag", "things"] := ⟨ok__law_shuffled F18 G16 (PySem.W.mg_none_of X G z_len) (PySem.W.mg_none_of X G z_list) (PySem.W.mg_none_of X G z_range), PySem.W.mg_of X G a18, F18.kp, b18⟩
  have G19 : Cal l.prog w K mg base CX0 4 2 (sp__law_like 3) "_law_like" f19 _ ["told", "due"] := ⟨all__law_like F19 (PySem.W.mg_of X G a19) b19 (PySem.W.mg_none_of X G z_all) (PySem.W.mg_none_of X G z_bool) (PySem.W.mg_none_of X G z_dict) (PySem.W.mg_none_of X G z_int) (PySem.W.mg_none_of X G z_isinstance) (PySem.W.mg_none_of X G z_len) (PySem.W.mg_none_of X G z_list) (PySem.W.mg_none_of X G z_str) (PySem.W.mg_none_of X G z_tuple) (PySem.W.mg_none_of X G z_zip) 3, PySem.W.mg_of X G a19, F19.kp, b19⟩
  have G20 : Cal l.prog w K mg base CX0 1 2 sp__law_gcd "_law_gcd" f20 _ ["a", "b"] := ⟨ok__law_gcd F20  (PySem.W.mg_none_of X G z_abs) (PySem.W.mg_none_of X G z_int), PySem.W.mg_of X G a20, F20.kp, b20⟩
  have G21 : Cal l.prog w K mg base CX0 2 3 sp__law_lowest "_law_lowest" f21 _ ["x", "y", "w"] := ⟨ok__law_lowest F21 G20 , PySem.W.mg_of X G a21, F21.kp, b21⟩
  have G22 : Cal l.prog w K mg base CX0 1 3 sp__law_turn "_law_turn" f22 _ ["p", "q", "r"] := ⟨ok__law_turn F22  , PySem.W.mg_of X G a22, F22.kp, b22⟩
  have G23 : Cal l.prog w K mg base CX0 1 2 sp__law_far "_law_far" f23 _ ["c", "p"] := ⟨ok__law_far F23  (PySem.W.mg_none_of X G z_abs), PySem.W.mg_of X G a23, F23.kp, b23⟩
  have G24 : Cal l.prog w K mg base CX0 3 1 sp__law_hull "_law_hull" f24 _ ["some"] := ⟨ok__law_hull F24 G23 G22 G21 (PySem.W.mg_none_of X G z_len) (PySem.W.mg_none_of X G z_list) (PySem.W.mg_none_of X G z_range), PySem.W.mg_of X G a24, F24.kp, b24⟩
  have G25 : Cal l.prog w K mg base CX0 2 2 sp__law_where "_law_where" f25 _ ["corners", "v"] := ⟨ok__law_where F25 G22 (PySem.W.mg_none_of X G z_len) (PySem.W.mg_none_of X G z_min) (PySem.W.mg_none_of X G z_zip), PySem.W.mg_of X G a25, F25.kp, b25⟩
  have G26 : Cal l.prog w K mg base CX0 3 2 sp__law_point "_law_point" f26 _ ["bag", "wide"] := ⟨ok__law_point F26 G16 G17 , PySem.W.mg_of X G a26, F26.kp, b26⟩
  have G27 : Cal l.prog w K mg base CX0 4 1 sp__law_plane_points "_law_plane_points" f27 _ ["bag"] := ⟨ok__law_plane_points F27 G18 G17 G16 G26 (PySem.W.mg_none_of X G z_int) (PySem.W.mg_none_of X G z_range), PySem.W.mg_of X G a27, F27.kp, b27⟩
  have G28 : Cal l.prog w K mg base CX0 1 1 sp__law_one_handed "_law_one_handed" f28 _ ["some"] := ⟨ok__law_one_handed F28  (PySem.W.mg_none_of X G z_all) (PySem.W.mg_none_of X G z_any), PySem.W.mg_of X G a28, F28.kp, b28⟩
  have G29 : Cal l.prog w K mg base CX0 5 1 sp__law_some "_law_some" f29 _ ["bag"] := ⟨ok__law_some F29 G18 G17 G16 G27 (PySem.W.mg_none_of X G z_range), PySem.W.mg_of X G a29, F29.kp, b29⟩
  have G30 : Cal l.prog w K mg base CX0 1 2 sp__law_right_side "_law_right_side" f30 _ ["told", "some"] := ⟨ok__law_right_side F30  (PySem.W.mg_none_of X G z_all) (PySem.W.mg_none_of X G z_bool) (PySem.W.mg_none_of X G z_int) (PySem.W.mg_none_of X G z_isinstance) (PySem.W.mg_none_of X G z_len) (PySem.W.mg_none_of X G z_tuple), PySem.W.mg_of X G a30, F30.kp, b30⟩
  exact ok_law F31 G16 G19 G12 kb12 G30 G14 G13 G18 G11 G25 G24 G28 G29 G15 (PySem.W.mg_none_of X G z_list) (PySem.W.mg_none_of X G z_range) (PySem.W.mg_none_of X G z_tuple)
theorem of_seq {K : PySem.W.Frag} {M : Ms} {H : Hp} {a : Addr} {xs : List V} (h : SqL K H a xs) (hM : ¬ M a) : SLx K M H a xs := by
  rcases h with h | h
  · exact .inl ⟨hM, h⟩
  · exact .inr (.inr h)
theorem start_law {K : PySem.W.Frag} {H : Hp} {a : Addr} {ns : List Int} {Q : VK} {E : XK} (hS : SqL K H a (ns.map V.int)) (hQ : ∀ H', Q (.bl true) H') : lSp K 1 sp_law [.ref a] H Q E :=
  ⟨rfl, { M := fun _ => False, F := fun _ => False, H := H }, [.val (.lst (ns.map D.int))], fun r _ => r = .val (.bl true), fun _ _ => False,
    ⟨.cons (.lst (of_seq hS (by simp [mm, oas])) (RpA.of_ints ns)) .nil, by simp [oas], by simp [oas], fun a u q _ => q, fun a xs w => w.elim False.elim False.elim⟩, rfl, by simp [oas], ⟨ns, rfl, rfl⟩, fun r ds v H' _ hr _ hv => by
      subst hr
      cases hv
      exact hQ _, fun x ds cls d H' z => z.elim⟩
end VS
open PySem PySem.W PyProof.Rows
set_option maxHeartbeats 0 in
theorem PySem.Challenge.cw_surelycrossed_k02_whole_inner_or_side_holds : PySem.Challenge.rw_surelycrossed_k02_whole_inner_or_side.Holds := by
  w_on; o_law; k_head; (case hw => w_witness2)
  k_fill
  refine L2.walk_of (l := PySem.Challenge.rw_surelycrossed_k02_whole_inner_or_side) (n := 63) (k := 6) (x := "script") (CX := fun _ => L2.CX0) (sp := fun w => VS.lSp _ 1 VS.sp_law) rfl (by decide) rfl ⟨rfl, by decide, by decide⟩ (fun w h Y => PySem.W.kIn_of Y) ?F (fun _ _ a ns hl _ hS => VS.start_law hS fun _ => rfl) (fun _ _ _ _ _ h => h)
  case F =>
    intro w mg fa h KX G hmg

    refine' VS.all_mk KX G hmg ?a1 ?l1 ?c1 ?k1 ?a2 ?l2 ?c2 ?k2 ?a3 ?l3 ?c3 ?k3 ?a4 ?l4 ?c4 ?k4 ?a5 ?l5 ?c5 ?k5 ?a6 ?l6 ?c6 ?k6 ?a7 ?l7 ?c7 ?k7 ?a8 ?l8 ?c8 ?k8 ?a9 ?l9 ?c9 ?k9 ?a10 ?l10 ?c10 ?k10 ?a11 ?l11 ?c11 ?k11 ?a12 ?l12 ?c12 ?k12 ?a13 ?l13 ?c13 ?k13 ?a14 ?l14 ?c14 ?k14 ?a15 ?l15 ?c15 ?k15 ?a16 ?l16 ?c16 ?k16 ?a17 ?l17 ?c17 ?k17 ?a18 ?l18 ?c18 ?k18 ?a19 ?l19 ?c19 ?k19 ?a20 ?l20 ?c20 ?k20 ?a21 ?l21 ?c21 ?k21 ?a22 ?l22 ?c22 ?k22 ?a23 ?l23 ?c23 ?k23 ?a24 ?l24 ?c24 ?k24 ?a25 ?l25 ?c25 ?k25 ?a26 ?l26 ?c26 ?k26 ?a27 ?l27 ?c27 ?k27 ?a28 ?l28 ?c28 ?k28 ?a29 ?l29 ?c29 ?k29 ?a30 ?l30 ?c30 ?k30 ?a31 ?l31 ?c31 ?k31 ?z_abs ?z_all ?z_any ?z_bool ?z_dict ?z_gcd ?z_int ?z_isinstance ?z_len ?z_list ?z_min ?z_range ?z_str ?z_tuple ?z_zip
    (case a1 => k_is); (case l1 => k_is); (case c1 => k_is); (case k1 => k_is); (case a2 => k_is); (case l2 => k_is)
    (case c2 => k_is); (case k2 => k_is); (case a3 => k_is); (case l3 => k_is); (case c3 => k_is); (case k3 => k_is)
    (case a4 => k_is); (case l4 => k_is); (case c4 => k_is); (case k4 => k_is); (case a5 => k_is); (case l5 => k_is)
    (case c5 => k_is); (case k5 => k_is); (case a6 => k_is); (case l6 => k_is); (case c6 => k_is); (case k6 => k_is)
    (case a7 => k_is); (case l7 => k_is); (case c7 => k_is); (case k7 => k_is); (case a8 => k_is); (case l8 => k_is)
    (case c8 => k_is); (case k8 => k_is); (case a9 => k_is); (case l9 => k_is); (case c9 => k_is); (case k9 => k_is)
    (case a10 => k_is); (case l10 => k_is); (case c10 => k_is); (case k10 => k_is); (case a11 => k_is); (case l11 => k_is)
    (case c11 => k_is); (case k11 => k_is); (case a12 => k_is); (case l12 => k_is); (case c12 => k_is); (case k12 => k_is)
    (case a13 => k_is); (case l13 => k_is); (case c13 => k_is); (case k13 => k_is); (case a14 => k_is); (case l14 => k_is)
    (case c14 => k_is); (case k14 => k_is); (case a15 => k_is); (case l15 => k_is); (case c15 => k_is); (case k15 => k_is)
    (case a16 => k_is); (case l16 => k_is); (case c16 => k_is); (case k16 => k_is); (case a17 => k_is); (case l17 => k_is)
    (case c17 => k_is); (case k17 => k_is); (case a18 => k_is); (case l18 => k_is); (case c18 => k_is); (case k18 => k_is)
    (case a19 => k_is); (case l19 => k_is); (case c19 => k_is); (case k19 => k_is); (case a20 => k_is); (case l20 => k_is)
    (case c20 => k_is); (case k20 => k_is); (case a21 => k_is); (case l21 => k_is); (case c21 => k_is); (case k21 => k_is)
    (case a22 => k_is); (case l22 => k_is); (case c22 => k_is); (case k22 => k_is); (case a23 => k_is); (case l23 => k_is)
    (case c23 => k_is); (case k23 => k_is); (case a24 => k_is); (case l24 => k_is); (case c24 => k_is); (case k24 => k_is)
    (case a25 => k_is); (case l25 => k_is); (case c25 => k_is); (case k25 => k_is); (case a26 => k_is); (case l26 => k_is)
    (case c26 => k_is); (case k26 => k_is); (case a27 => k_is); (case l27 => k_is); (case c27 => k_is); (case k27 => k_is)
    (case a28 => k_is); (case l28 => k_is); (case c28 => k_is); (case k28 => k_is); (case a29 => k_is); (case l29 => k_is)
    (case c29 => k_is); (case k29 => k_is); (case a30 => k_is); (case l30 => k_is); (case c30 => k_is); (case k30 => k_is)
    (case a31 => k_is); (case l31 => k_is); (case c31 => k_is); (case k31 => k_is); (case z_abs => k_is); (case z_all => k_is)
    (case z_any => k_is); (case z_bool => k_is); (case z_dict => k_is); (case z_gcd => k_is); (case z_int => k_is); (case z_isinstance => k_is)
    (case z_len => k_is); (case z_list => k_is); (case z_min => k_is); (case z_range => k_is); (case z_str => k_is); (case z_tuple => k_is)
    (case z_zip => k_is)
