import PyProof.Rows.All
import Wide.All
import OpenK.AllK
import Wide.FinOn
import KE.KStateDown
import HandS.ForMost
import HandS.WordsExc
import HandS.TryMany
import HandS.ExcInit
import HandS.CallSlots
import HandS.NestedK
import HandS.TupAny
import HandS.Wide
import HandS.Defaults
import HandS.Head0
import HandS.Head1
import HandS.Head2
import HandS.HeadEnd
import HandS.HeadHook4
import HandS.HeadWalk
import HandS.TupLe
import HandS.TupMul
import HandS.IsInst
import HandS.Style
import HandS.RaiseMore
import HandS.Flow
import HandS.Gcd
import HandS.Walk
import HandS.SortInts
import HandS.Conv
import HandS.Deep
import KE.KDictDisplayH
import HandS.Steps
import HandS.Nested
import KE.GoesMore
import KE.GoesEnum
import HandS.Zip
import HandS.Set
import HandS.SetFor
import HandS.Strs
import PyProof.StrLaws
import PyProof.DictCompW
import HandS.DictComp
import HandS.Text
import HandS.Iter
import PySem.Challenge.RW_runwayrows_k56_whole_open_times
set_option Elab.async false
set_option linter.all false
set_option maxRecDepth 100000
set_option maxHeartbeats 0
namespace Q
open PySem PySem.Spec PyProof.Rows L2

/-! ## data -/
inductive D where
  | non
  | bl (b : Bool)
  | int (i : Int)
  | str (s : Str)
  | tup (xs : List D)
  | lst (xs : List D)
  | dct (t : Bool) (kvs : List (D × D))
  | set (xs : List D)
  | scr (xs : List D)
  | ktp (xs : List D)
  | fn (n : Nat)
  | well

abbrev Wl := List Int
abbrev Env := List (Option D)

inductive Out (α : Type) where
  | fail
  | exc (c : Str) (p : Option (Str × D)) (w : Wl)
  | ok (a : α) (w : Wl)

def M (α : Type) := Wl → Out α
@[simp] def M.pure {α : Type} (a : α) : M α := fun w => .ok a w
def M.bind {α β : Type} (m : M α) (f : α → M β) : M β := fun w => match m w with
  | .fail => .fail
  | .exc c p w' => .exc c p w'
  | .ok a w' => f a w'
def M.fail {α : Type} : M α := fun _ => .fail
instance : Monad M where
  pure := M.pure
  bind := M.bind

abbrev Hx (G H : Hp) : Prop := ∀ a o, G a = some o → H a = some o
theorem Hx.refl (G : Hp) : Hx G G := fun _ _ h => h
theorem Hx.trans {G H J : Hp} (a : Hx G H) (b : Hx H J) : Hx G J := fun x o h => b x o (a x o h)
theorem Hx.sqT {K : PySem.W.Frag} {G H : Hp} {a : Addr} {xs : List V} (e : Hx G H) (h : SqT K G a xs) : SqT K H a xs := by
  rcases h with (h | ⟨o, h⟩) | h
  · exact .inl (.inl (e _ _ h))
  · exact .inl (.inr ⟨o, e _ _ h⟩)
  · exact .inr h
theorem Hx.tq {K : PySem.W.Frag} {G H : Hp} {a : Addr} {xs : List V} (e : Hx G H) (h : G a = some (.tup xs)) : SqT K H a xs := SqT.of (e _ _ h)
theorem Hx.sqL {K : PySem.W.Frag} {G H : Hp} {a : Addr} {xs : List V} (e : Hx G H) (h : SqL K G a xs) : SqL K H a xs := by
  rcases h with (h | ⟨o, h⟩) | h
  · exact .inl (.inl (e _ _ h))
  · exact .inl (.inr ⟨o, e _ _ h⟩)
  · exact .inr h

/-- the well's address, the addresses of function values -/
structure WlT where
  w : Option Addr
  fn : Nat → Option Addr
/-! ## what a value is, as data -/
def kD : Key → D
  | .inl i => .int i
  | .inr s => .str s
def kT (ks : List Key) : D := .tup (ks.map kD)
mutual
inductive Is (K : PySem.W.Frag) (wl : WlT) (G : Hp) : V → D → Prop
  | non : Is K wl G .non .non
  | bl (b : Bool) : Is K wl G (.bl b) (.bl b)
  | int (i : Int) : Is K wl G (.int i) (.int i)
  | str (s : Str) : Is K wl G (.str s) (.str s)
  | tup {a : Addr} {vs : List V} {ds : List D} : G a = some (.tup vs) → IsL K wl G vs ds → Is K wl G (.ref a) (.tup ds)
  | lst {a : Addr} {vs : List V} {ds : List D} : G a = some (.lst vs) → IsL K wl G vs ds → Is K wl G (.ref a) (.lst ds)
  | scr {a : Addr} {vs : List V} {ds : List D} : SqL K G a vs → IsL K wl G vs ds → Is K wl G (.ref a) (.scr ds)
  | ktp {a : Addr} {vs : List V} {ds : List D} : SqT K G a vs → IsL K wl G vs ds → Is K wl G (.ref a) (.ktp ds)
  | dK {a : Addr} {kvs : List (Key × V)} {ds : List (D × D)} : G a = some (.dK kvs) → ds.map (·.1) = kvs.map (fun p => kD p.1) → IsL K wl G (kvs.map (·.2)) (ds.map (·.2)) → Is K wl G (.ref a) (.dct false ds)
  | dT {a : Addr} {kvs : List (List Key × V)} {ds : List (D × D)} : G a = some (.dT kvs) → ds.map (·.1) = kvs.map (fun p => kT p.1) → IsL K wl G (kvs.map (·.2)) (ds.map (·.2)) → Is K wl G (.ref a) (.dct true ds)
  | well {a : Addr} : wl.w = some a → Is K wl G (.ref a) .well
  | fn {a : Addr} {n : Nat} : wl.fn n = some a → Is K wl G (.ref a) (.fn n)
inductive IsL (K : PySem.W.Frag) (wl : WlT) (G : Hp) : List V → List D → Prop
  | nil : IsL K wl G [] []
  | cons {v : V} {d : D} {vs : List V} {ds : List D} : Is K wl G v d → IsL K wl G vs ds → IsL K wl G (v :: vs) (d :: ds)
end
section
variable {K : PySem.W.Frag} {wl : WlT} {G H : Hp}
mutual
theorem Is.mono (e : Hx G H) : ∀ {v : V} {d : D}, Is K wl G v d → Is K wl H v d
  | _, _, .non => .non
  | _, _, .bl b => .bl b
  | _, _, .int i => .int i
  | _, _, .str s => .str s
  | _, _, .tup h hl => .tup (e _ _ h) (IsL.mono e hl)
  | _, _, .ktp h hl => .ktp (e.sqT h) (IsL.mono e hl)
  | _, _, .lst h hl => .lst (e _ _ h) (IsL.mono e hl)
  | _, _, .scr h hl => .scr (e.sqL h) (IsL.mono e hl)
  | _, _, .dK h k hl => .dK (e _ _ h) k (IsL.mono e hl)
  | _, _, .dT h k hl => .dT (e _ _ h) k (IsL.mono e hl)
  | _, _, .well h => .well h
  | _, _, .fn h => .fn h
theorem IsL.mono (e : Hx G H) : ∀ {vs : List V} {ds : List D}, IsL K wl G vs ds → IsL K wl H vs ds
  | _, _, .nil => .nil
  | _, _, .cons h hl => .cons (Is.mono e h) (IsL.mono e hl)
end
theorem IsL.length : ∀ {vs : List V} {ds : List D}, IsL K wl G vs ds → vs.length = ds.length
  | _, _, .nil => rfl
  | _, _, .cons _ hl => congrArg (· + 1) hl.length
theorem IsL.get : ∀ {vs : List V} {ds : List D} {i : Nat} {d : D}, IsL K wl G vs ds → ds[i]? = some d → ∃ v, vs[i]? = some v ∧ Is K wl G v d
  | _, _, 0, _, .cons h _, e => ⟨_, rfl, by cases e; exact h⟩
  | _, _, i + 1, _, .cons _ hl, e => by
    obtain ⟨v, h1, h2⟩ := IsL.get (i := i) hl (by simpa using e)
    exact ⟨v, by simpa using h1, h2⟩
theorem IsL.getV : ∀ {vs : List V} {ds : List D} {i : Nat} {v : V}, IsL K wl G vs ds → vs[i]? = some v → ∃ d, ds[i]? = some d ∧ Is K wl G v d
  | _, _, 0, _, .cons h _, e => ⟨_, rfl, by cases e; exact h⟩
  | _, _, i + 1, _, .cons _ hl, e => by
    obtain ⟨v, h1, h2⟩ := IsL.getV (i := i) hl (by simpa using e)
    exact ⟨v, by simpa using h1, h2⟩
theorem IsL.append : ∀ {vs us : List V} {ds es : List D}, IsL K wl G vs ds → IsL K wl G us es → IsL K wl G (vs ++ us) (ds ++ es)
  | _, _, _, _, .nil, h => h
  | _, _, _, _, .cons h hl, h2 => .cons h (hl.append h2)
theorem IsL.take : ∀ {vs : List V} {ds : List D} (n : Nat), IsL K wl G vs ds → IsL K wl G (vs.take n) (ds.take n)
  | _, _, 0, _ => .nil
  | _, _, _ + 1, .nil => .nil
  | _, _, n + 1, .cons h hl => .cons h (hl.take n)
theorem IsL.drop : ∀ {vs : List V} {ds : List D} (n : Nat), IsL K wl G vs ds → IsL K wl G (vs.drop n) (ds.drop n)
  | _, _, 0, h => h
  | _, _, _ + 1, .nil => .nil
  | _, _, n + 1, .cons _ hl => hl.drop n
theorem IsL.set {v : V} {d : D} (h : Is K wl G v d) : ∀ {vs : List V} {ds : List D} (i : Nat), IsL K wl G vs ds → IsL K wl G (vs.set i v) (ds.set i d)
  | _, _, _, .nil => .nil
  | _, _, 0, .cons _ hl => .cons h hl
  | _, _, i + 1, .cons h2 hl => .cons h2 (IsL.set h i hl)
theorem IsL.erase : ∀ {vs : List V} {ds : List D} (i : Nat), IsL K wl G vs ds → IsL K wl G (vs.eraseIdx i) (ds.eraseIdx i)
  | _, _, _, .nil => .nil
  | _, _, 0, .cons _ hl => hl
  | _, _, i + 1, .cons h2 hl => .cons h2 (IsL.erase i hl)
theorem IsL.rev {vs : List V} {ds : List D} (h : IsL K wl G vs ds) : IsL K wl G vs.reverse ds.reverse := by
  induction vs generalizing ds with
  | nil => cases h; exact .nil
  | cons v vs ih =>
    cases h with
    | cons h1 h2 =>
      rw [List.reverse_cons, List.reverse_cons]
      exact (ih h2).append (.cons h1 .nil)
theorem IsL.ints : ∀ (ns : List Int), IsL K wl G (ns.map V.int) (ns.map D.int)
  | [] => .nil
  | n :: ns => .cons (.int n) (IsL.ints ns)
theorem IsL.ofInts : ∀ {vs : List V} {ns : List Int}, IsL K wl G vs (ns.map D.int) → vs = ns.map V.int
  | [], [], _ => rfl
  | v :: vs, n :: ns, .cons h hl => by
    cases h
    rw [IsL.ofInts (ns := ns) hl]; rfl
end

/-! ## contexts and the state relation -/
structure Tb where
  tabs : List NdefX.NTab
  fns : List Addr
  g0 : Hp
  w : Option Addr
/-- no function values -/
def tb0 (τ : List NdefX.NTab) : Tb := ⟨τ, [], fun _ => none, none⟩
structure Ctx where
  wl : WlT
  G0 : Hp
  B : Hp
abbrev NoTbl (o : HO) : Prop := ∀ ps, o ≠ .tbl ps
/-- what never changes: tuples, functions, code -/
def isF : HO → Bool
  | .tup _ => true
  | .ext _ => true
  | _ => false
structure RelH (T : Tb) (Γ : Ctx) (G H : Hp) (w : Wl) : Prop where
  sub : Hx G H
  nt : ∀ a o, G a = some o → NoTbl o
  nw : ∀ a, G a ≠ none → Γ.G0 a ≠ none ∨ Γ.B a = none
  g0 : Hx Γ.G0 G
  keep : ∀ a o, Γ.B a = some o → Γ.wl.w ≠ some a → NoTbl o → H a = some o
  mono : ∀ a, H a = none → Γ.B a = none
  well : ∀ a, Γ.wl.w = some a → G a = none ∧ H a = some (.lst (w.map V.int))
  tabs : NdefX.TabsN T.tabs H
  fnw : T.fns ≠ [] → (∀ n, Γ.wl.fn n = T.fns[n]?) ∧ Γ.wl.w = T.w
  fg0 : Hx T.g0 G
  tv : ∀ a o, isF o = true → H a = some o → G a = some o
inductive IsO (K : PySem.W.Frag) (wl : WlT) (G : Hp) : HO → D → Prop
  | lst {vs : List V} {ds : List D} : IsL K wl G vs ds → IsO K wl G (.lst vs) (.lst ds)
  | dK {kvs : List (Key × V)} {ds : List (D × D)} : ds.map (·.1) = kvs.map (fun p => kD p.1) → IsL K wl G (kvs.map (·.2)) (ds.map (·.2)) → IsO K wl G (.dK kvs) (.dct false ds)
  | dT {kvs : List (List Key × V)} {ds : List (D × D)} : ds.map (·.1) = kvs.map (fun p => kT p.1) → IsL K wl G (kvs.map (·.2)) (ds.map (·.2)) → IsO K wl G (.dT kvs) (.dct true ds)
theorem IsO.mono {K : PySem.W.Frag} {wl : WlT} {G H : Hp} (e : Hx G H) {o : HO} {d : D} : IsO K wl G o d → IsO K wl H o d
  | .lst h => .lst (h.mono e)
  | .dK k h => .dK k (h.mono e)
  | .dT k h => .dT k (h.mono e)
theorem IsO.nf {K : PySem.W.Frag} {wl : WlT} {G : Hp} {o : HO} {d : D} (h : IsO K wl G o d) : isF o = false := by
  cases h <;> rfl
structure Rel (K : PySem.W.Frag) (T : Tb) (Γ : Ctx) (O : List Nat) (ρ : Env) (σ : L2.St) (G H : Hp) (w : Wl) : Prop where
  h : RelH T Γ G H w
  len : ρ.length = σ.length
  fro : ∀ i d, i ∉ O → ρ[i]? = some (some d) → ∃ v, σ[i]? = some (some v) ∧ Is K Γ.wl G v d
  own : ∀ i d, i ∈ O → ρ[i]? = some (some d) → ∃ l o, σ[i]? = some (some (.ref l)) ∧ G l = none ∧ Γ.B l = none ∧ Γ.wl.w ≠ some l ∧ H l = some o ∧ NoTbl o ∧ IsO K Γ.wl G o d
  inj : ∀ i j l d e, i ∈ O → j ∈ O → i ≠ j → ρ[i]? = some (some d) → ρ[j]? = some (some e) → σ[i]? = some (some (.ref l)) → σ[j]? = some (some (.ref l)) → False

section
variable {K : PySem.W.Frag} {T : Tb} {Γ : Ctx} {O : List Nat} {ρ : Env} {σ : L2.St} {G H : Hp} {w : Wl}
theorem hx_upd {p : Addr} {o : HO} (hp : G p = none) : Hx G (upd G p o) := fun a u e => by
  have z : a ≠ p := fun z => by rw [z, hp] at e; cases e
  rw [upd_ne z]; exact e
/-- a new object, known from now on -/
theorem RelH.alloc (R : RelH T Γ G H w) {p : Addr} {o : HO} (hp : H p = none) (ho : NoTbl o) : RelH T Γ (upd G p o) (upd H p o) w := by
  have gp : G p = none := by
    cases e : G p with
    | none => rfl
    | some u => rw [R.sub _ _ e] at hp; cases hp
  have pb := R.mono p hp
  refine ⟨fun a u e => ?_, fun a u e => ?_, fun a e => ?_, fun a u e => ?_, fun a u e n t => ?_, fun a e => ?_, fun a e => ?_, ?_, R.fnw, R.fg0.trans (hx_upd gp), fun a us hf e => ?_⟩
  · by_cases z : a = p
    · subst z; rw [upd_same] at e ⊢; exact e
    · rw [upd_ne z] at e ⊢; exact R.sub _ _ e
  · by_cases z : a = p
    · subst z; rw [upd_same] at e; cases e; exact ho
    · rw [upd_ne z] at e; exact R.nt _ _ e
  · by_cases z : a = p
    · subst z; exact .inr pb
    · rw [upd_ne z] at e; exact R.nw _ e
  · have z : a ≠ p := fun z => by rw [z] at e; rw [R.g0 _ _ e] at gp; cases gp
    rw [upd_ne z]; exact R.g0 _ _ e
  · have z : a ≠ p := fun z => by rw [z, pb] at e; cases e
    rw [upd_ne z]; exact R.keep _ _ e n t
  · by_cases z : a = p
    · subst z; exact pb
    · rw [upd_ne z] at e; exact R.mono _ e
  · obtain ⟨h1, h2⟩ := R.well a e
    have z : a ≠ p := fun z => by rw [z, hp] at h2; cases h2
    rw [upd_ne z, upd_ne z]; exact ⟨h1, h2⟩
  · exact R.tabs.ext fun b u e => by
      have z : b ≠ p := fun z => by rw [z, hp] at e; cases e
      rw [upd_ne z]; exact e
  · by_cases z : a = p
    · subst z; rw [upd_same] at e ⊢; exact e
    · rw [upd_ne z] at e ⊢; exact R.tv _ _ hf e
theorem RelH.gnone (R : RelH T Γ G H w) {p : Addr} (hp : H p = none) : G p = none := by
  cases e : G p with
  | none => rfl
  | some u => rw [R.sub _ _ e] at hp; cases hp
theorem Rel.alloc (R : Rel K T Γ O ρ σ G H w) {p : Addr} {o : HO} (hp : H p = none) (ho : NoTbl o) : Rel K T Γ O ρ σ (upd G p o) (upd H p o) w := by
  have gp := R.h.gnone hp
  refine ⟨R.h.alloc hp ho, R.len, fun i d hi e => ?_, fun i d hi e => ?_, R.inj⟩
  · obtain ⟨v, h1, h2⟩ := R.fro i d hi e
    exact ⟨v, h1, h2.mono (hx_upd gp)⟩
  · obtain ⟨l, u, h1, h2, h3, h4, h5, h6, h7⟩ := R.own i d hi e
    have z : l ≠ p := fun z => by rw [z, hp] at h5; cases h5
    exact ⟨l, u, h1, by rw [upd_ne z]; exact h2, h3, h4, by rw [upd_ne z]; exact h5, h6, h7.mono (hx_upd gp)⟩
end

/-! ## exceptions -/
def ExcIs (K : PySem.W.Frag) (wl : WlT) (c : Str) (p : Option (Str × D)) (cls : Value) (dd : Option Addr) (G H : Hp) : Prop :=
  cls = .ref (He.ga K c) ∧ match p with
    | none => dd = none
    | some (f, d) => ∃ a v, dd = some a ∧ H a = some (.xd [(f, v)]) ∧ Is K wl G v d

/-- what stood stays, but the well and the tables -/
def Kp (wl : WlT) (H H' : Hp) : Prop := ∀ a o, H a = some o → wl.w ≠ some a → NoTbl o → H' a = some o
theorem Kp.refl {wl : WlT} (H : Hp) : Kp wl H H := fun _ _ h _ _ => h
theorem Kp.trans {wl : WlT} {H H1 H2 : Hp} (a : Kp wl H H1) (b : Kp wl H1 H2) : Kp wl H H2 := fun x o h n t => b x o (a x o h n t) n t
theorem Kp.new {wl : WlT} {H : Hp} {p : Addr} {o : HO} (hp : H p = none) : Kp wl H (upd H p o) := fun a u h _ _ => by
  have z : a ≠ p := fun z => by rw [z, hp] at h; cases h
  rw [upd_ne z]; exact h
/-- from one state to a later one, by an expression: view and heap grow -/
structure Stp (wl : WlT) (G H G' H' : Hp) : Prop where
  x : Hx G G'
  kp : Kp wl H H'
  nw : ∀ a, G' a ≠ none → G a ≠ none ∨ H a = none
  mono : ∀ a, H' a = none → H a = none
theorem Stp.refl {wl : WlT} {G H : Hp} : Stp wl G H G H := ⟨Hx.refl _, Kp.refl _, fun _ h => .inl h, fun _ h => h⟩
theorem Stp.trans {wl : WlT} {G H G1 H1 G2 H2 : Hp} (a : Stp wl G H G1 H1) (b : Stp wl G1 H1 G2 H2) : Stp wl G H G2 H2 :=
  ⟨a.x.trans b.x, a.kp.trans b.kp, fun p h => (b.nw p h).elim (a.nw p) fun z => .inr (a.mono p z), fun p h => a.mono p (b.mono p h)⟩
theorem Stp.new {wl : WlT} {G H : Hp} {p : Addr} {o : HO} (gp : G p = none) (hp : H p = none) : Stp wl G H (upd G p o) (upd H p o) :=
  ⟨hx_upd gp, Kp.new hp, fun a h => by
    by_cases z : a = p
    · subst z; exact .inr hp
    · rw [upd_ne z] at h; exact .inl h, fun a h => by
    by_cases z : a = p
    · subst z; exact hp
    · rw [upd_ne z] at h; exact h⟩
/-! ## readings -/
abbrev IR (β α : Type) := PySem.W.Frag → WlT → Hp → β → α → Prop
def Post {α β : Type} (K : PySem.W.Frag) (T : Tb) (Γ : Ctx) (O : List Nat) (Wx : WX) (ρ : Env) (σ : L2.St) (G H : Hp) (I : IR β α) (r : Out α) (Q : β → Hp → Prop) : Prop :=
  match r with
  | .fail => False
  | .ok d w' => ∀ v G' H', Stp Γ.wl G H G' H' → Rel K T Γ O ρ σ G' H' w' → I K Γ.wl G' v d → Q v H'
  | .exc c p w' => ∀ cls dd G' H', Stp Γ.wl G H G' H' → RelH T Γ G' H' w' → ExcIs K Γ.wl c p cls dd G' H' → Wx cls dd σ H'
abbrev IsV : IR V D := fun K wl G v d => Is K wl G v d
abbrev IsB : IR Bool Bool := fun _ _ _ b c => b = c
abbrev IsA : IR (List V) (List D) := fun K wl G v d => IsL K wl G v d
def tG {α β : Type} (K : PySem.W.Frag) (T : Tb) (O : List Nat) (Wx : WX) (I : IR β α) (f : Env → M α) : L2.St → Hp → (β → Hp → Prop) → Prop :=
  fun σ H Q => ∃ Γ ρ G w, Rel K T Γ O ρ σ G H w ∧ Post K T Γ O Wx ρ σ G H I (f ρ w) Q
abbrev tE (K : PySem.W.Frag) (T : Tb) (O : List Nat) (Wx : WX) (f : Env → M D) : TE := tG K T O Wx IsV f
abbrev tT (K : PySem.W.Frag) (T : Tb) (O : List Nat) (Wx : WX) (f : Env → M Bool) : TT := tG K T O Wx IsB f
abbrev tL (K : PySem.W.Frag) (T : Tb) (O : List Nat) (Wx : WX) (f : Env → M (List D)) : TA := tG K T O Wx IsA f
def DE (X : Cx) (T : Tb) (O : List Nat) (Wx : WX) (e : Expr) (f : Env → M D) : Prop := PE X e (tE X.K T O Wx f)
def DT (X : Cx) (T : Tb) (O : List Nat) (Wx : WX) (e : Expr) (f : Env → M Bool) : Prop := PT X e (tT X.K T O Wx f)
def DA (X : Cx) (T : Tb) (O : List Nat) (Wx : WX) (es : List Expr) (f : Env → M (List D)) : Prop := PA X es (tL X.K T O Wx f)
theorem pe_imp {X : Cx} {e : Expr} {t t' : TE} (h : PE X e t) (hi : ∀ σ H Q, t' σ H Q → t σ H Q) : PE X e t' := ⟨fun pins s σ H Q I q => h.run pins s σ H Q I (hi _ _ _ q)⟩
theorem pt_imp {X : Cx} {e : Expr} {t t' : TT} (h : PT X e t) (hi : ∀ σ H Q, t' σ H Q → t σ H Q) : PT X e t' := ⟨fun pins s σ H Q I q => h.run pins s σ H Q I (hi _ _ _ q)⟩
theorem pw_imp {X : Cx} {e : Expr} {t t' : TT} (h : PW X e t) (hi : ∀ σ H Q, t' σ H Q → t σ H Q) : PW X e t' := ⟨fun wh pins s σ H Q I q => h.run wh pins s σ H Q I (hi _ _ _ q)⟩
theorem pa_imp {X : Cx} {es : List Expr} {t t' : TA} (h : PA X es t) (hi : ∀ σ H Q, t' σ H Q → t σ H Q) : PA X es t' := ⟨fun p pins s σ H Q I q => h.run p pins s σ H Q I (hi _ _ _ q)⟩
theorem ps_imp {X : Cx} {e : Stmt} {t t' : TS} (h : PS X e t) (hi : ∀ D σ H, t' D σ H → t D σ H) : PS X e t' := ⟨fun pins s σ H D I q => h.run pins s σ H D I (hi _ _ _ q)⟩
theorem pss_imp {X : Cx} {e : List Stmt} {t t' : TS} (h : PSs X e t) (hi : ∀ D σ H, t' D σ H → t D σ H) : PSs X e t' := ⟨fun pins s σ H D I q => h.run pins s σ H D I (hi _ _ _ q)⟩
/-- sequencing: run f from a state, then from each of its ends the rest -/
theorem post_bind {α β γ δ : Type} {K : PySem.W.Frag} {T : Tb} {Γ : Ctx} {O : List Nat} {Wx : WX} {I : IR β α} {J : IR δ γ} {f : Env → M α} {k : α → M γ} {ρ : Env} {σ : L2.St} {G H : Hp} {w : Wl} {Q : δ → Hp → Prop} {Q1 : β → Hp → Prop}
    (R : Rel K T Γ O ρ σ G H w) (P : Post K T Γ O Wx ρ σ G H J (M.bind (f ρ) k w) Q)
    (hk : ∀ v d G1 H1 w1, Stp Γ.wl G H G1 H1 → Rel K T Γ O ρ σ G1 H1 w1 → I K Γ.wl G1 v d → Post K T Γ O Wx ρ σ G1 H1 J (k d w1) Q → Q1 v H1) : tG K T O Wx I f σ H Q1 := by
  refine ⟨Γ, ρ, G, w, R, ?_⟩
  simp only [M.bind] at P
  cases e : f ρ w with
  | fail => rw [e] at P; exact P
  | exc c p w' => rw [e] at P; exact P
  | ok d w' =>
    rw [e] at P
    intro v G1 H1 hx R1 i1
    refine hk v d G1 H1 w' hx R1 i1 ?_
    show Post K T Γ O Wx ρ σ G1 H1 J (k d w') Q
    cases e2 : k d w' with
    | fail => simp only [e2] at P; exact P
    | exc c p w2 => simp only [e2] at P; exact fun cls dd G' H' h1 => P cls dd G' H' (hx.trans h1)
    | ok d2 w2 => simp only [e2] at P; exact fun v G' H' h1 => P v G' H' (hx.trans h1)
theorem tG_of {α β : Type} {K : PySem.W.Frag} {T : Tb} {Γ : Ctx} {O : List Nat} {Wx : WX} {I : IR β α} {f : Env → M α} {ρ : Env} {σ : L2.St} {G H : Hp} {w : Wl} {Q : β → Hp → Prop} (R : Rel K T Γ O ρ σ G H w) (P : Post K T Γ O Wx ρ σ G H I (f ρ w) Q) : tG K T O Wx I f σ H Q := ⟨Γ, ρ, G, w, R, P⟩
theorem Post.ok {α β : Type} {K : PySem.W.Frag} {T : Tb} {Γ : Ctx} {O : List Nat} {Wx : WX} {I : IR β α} {ρ : Env} {σ : L2.St} {G H : Hp} {w : Wl} {Q : β → Hp → Prop} {d : α} {v : β} (P : Post K T Γ O Wx ρ σ G H I (.ok d w) Q) (R : Rel K T Γ O ρ σ G H w) (i : I K Γ.wl G v d) : Q v H := P v G H Stp.refl R i
/-- the same, an object laid -/
theorem Post.new {α : Type} {K : PySem.W.Frag} {T : Tb} {Γ : Ctx} {O : List Nat} {Wx : WX} {I : IR V α} {ρ : Env} {σ : L2.St} {G H : Hp} {w : Wl} {Q : V → Hp → Prop} {d : α} {p : Addr} {o : HO} (P : Post K T Γ O Wx ρ σ G H I (.ok d w) Q) (R : Rel K T Γ O ρ σ G H w) (hp : H p = none) (ho : NoTbl o)
    (i : I K Γ.wl (upd G p o) (.ref p) d) : Q (.ref p) (upd H p o) := P _ _ _ (Stp.new (R.h.gnone hp) hp) (R.alloc hp ho) i
end Q

namespace Q
open PySem PySem.Spec PyProof.Rows L2

/-! ## names, constants -/
def getV (ρ : Env) (i : Nat) : M D := match ρ[i]? with
  | some (some d) => M.pure d
  | _ => M.fail
section
variable {X : Cx} {T : Tb} {Γ : Ctx} {O : List Nat} {Wx : WX}
theorem de_var (i : Nat) {x : Str} {pos : Pos} (hO : i ∉ O := by decide) (hN : X.N[i]? = some x := by rfl) (hv : Vis X.env.scope x := by first | exact Or.inl rfl | exact Or.inr (Or.inl rfl) | exact Or.inr (Or.inr rfl)) (hd : (x == ("__debug__" : Str)) = false := by decide)
    (hcd : (x == ("__classdict__" : Str)) = false := by decide) : DE X T O Wx (.Name x pos) (fun ρ => getV ρ i) := by
  refine pe_imp (pv i hN hv hd hcd) fun σ H Q ⟨Γ, ρ, G, w, R, P⟩ => ?_
  have P' : Post X.K T Γ O Wx ρ σ G H IsV (getV ρ i w) Q := P
  unfold getV at P'
  cases e : ρ[i]? with
  | none => rw [e] at P'; exact False.elim P'
  | some o =>
    cases o with
    | none => rw [e] at P'; exact False.elim P'
    | some d =>
      rw [e] at P'
      obtain ⟨v, h1, h2⟩ := R.fro i d hO e
      exact ⟨v, h1, Post.ok P' R h2⟩
theorem de_const {e : Expr} {v : V} {d : D} (h : PE X e (tC v)) (hi : ∀ wl G, Is X.K wl G v d) : DE X T O Wx e (fun _ => M.pure d) :=
  pe_imp h fun σ H Q ⟨Γ, ρ, G, w, R, P⟩ => Post.ok P R (hi _ G)
theorem de_int {i : Int} {j : Nat} {pos : Pos} : DE X T O Wx (.Constant (.int i) j pos) (fun _ => M.pure (.int i)) := de_const pe_int fun _ _ => .int i
theorem de_bl {i : Bool} {j : Nat} {pos : Pos} : DE X T O Wx (.Constant (.bool i) j pos) (fun _ => M.pure (.bl i)) := de_const pe_bl fun _ _ => .bl i
theorem de_str {i : Str} {j : Nat} {pos : Pos} : DE X T O Wx (.Constant (.str i) j pos) (fun _ => M.pure (.str i)) := de_const pe_str fun _ _ => .str i
theorem de_non {j : Nat} {pos : Pos} : DE X T O Wx (.Constant .none j pos) (fun _ => M.pure .non) := de_const pe_non fun _ _ => .non
theorem de_glob {x : Str} {v : V} {u : Value} {d : D} {pos : Pos} (hm : X.mg x = some u) (r : RelV v u) (hi : ∀ wl G, Is X.K wl G v d) (hg : Gl X x := by rfl) (hd : (x == ("__debug__" : Str)) = false := by decide) : DE X T O Wx (.Name x pos) (fun _ => M.pure d) := de_const (pe_glob hg hm r hd) hi
theorem de_globI {x : Str} {i : Int} {pos : Pos} (hm : ∃ t, X.mg x = some (.int i t)) (hg : Gl X x := by rfl) (hd : (x == ("__debug__" : Str)) = false := by decide) : DE X T O Wx (.Name x pos) (fun _ => M.pure (.int i)) := by
  obtain ⟨t, hm⟩ := hm
  exact de_const (v := .int i) (pe_glob hg hm ⟨t, rfl⟩ hd) fun _ _ => .int i
theorem de_globS {x z : Str} {pos : Pos} (hm : ∃ t, X.mg x = some (.str z t)) (hg : Gl X x := by rfl) (hd : (x == ("__debug__" : Str)) = false := by decide) : DE X T O Wx (.Name x pos) (fun _ => M.pure (.str z)) := by
  obtain ⟨t, hm⟩ := hm
  exact de_const (v := .str z) (pe_glob hg hm ⟨t, rfl⟩ hd) fun _ _ => .str z
end

/-! ## two-place operations -/
abbrev OpSp (K : PySem.W.Frag) (T : Tb) (r : R2) (op : D → D → M D) : Prop :=
  ∀ (Γ : Ctx) (O : List Nat) (Wx : WX) (ρ : Env) (σ : L2.St) (G H : Hp) (w : Wl) (x y : V) (d e : D) (Q : VK), Rel K T Γ O ρ σ G H w → Is K Γ.wl G x d → Is K Γ.wl G y e → Post K T Γ O Wx ρ σ G H IsV (op d e w) Q → r x y H Q
def OpOk (X : Cx) (T : Tb) (f : Value → Value → Sem Value) (op : D → D → M D) : Prop := ∃ r : R2, OpR X f r ∧ OpSp X.K T r op
section
variable {X : Cx} {T : Tb} {Γ : Ctx} {O : List Nat} {Wx : WX} {a b : Expr} {fa fb : Env → M D} {pos : Pos}
def bin2 (op : D → D → M D) (fa fb : Env → M D) : Env → M D := fun ρ => M.bind (fa ρ) fun x => M.bind (fb ρ) fun y => op x y
theorem bin2_ok {op : D → D → M D} {r : R2} (hr : OpSp X.K T r op)
    (σ : L2.St) (H : Hp) (Q : VK) (h : tE X.K T O Wx (bin2 op fa fb) σ H Q) : tOp r (tE X.K T O Wx fa) (tE X.K T O Wx fb) σ H Q := by
  obtain ⟨Γ, ρ, G, w, R, P⟩ := h
  refine post_bind R P fun v d G1 H1 w1 x1 R1 i1 P1 => ?_
  refine post_bind R1 P1 fun v2 d2 G2 H2 w2 x2 R2 i2 P2 => ?_
  exact hr Γ O Wx ρ σ G2 H2 w2 v v2 d d2 Q R2 (i1.mono x2.x) i2 P2
theorem de_op {op : Operator} {g : D → D → M D} (ho : OpOk X T (binaryOp op) g) (ha : DE X T O Wx a fa) (hb : DE X T O Wx b fb) : DE X T O Wx (.BinOp a op b pos) (bin2 g fa fb) := by
  obtain ⟨r, h1, h2⟩ := ho
  exact pe_imp (pe_op h1 ha hb) (bin2_ok h2)
def asB : D → M Bool
  | .bl b => M.pure b
  | _ => M.fail
theorem asB_ok {ρ : Env} {σ : L2.St} {G H : Hp} {w : Wl} {v : V} {d : D} {Q : Bool → Hp → Prop} (R : Rel X.K T Γ O ρ σ G H w) (i : Is X.K Γ.wl G v d) (P : Post X.K T Γ O Wx ρ σ G H IsB (asB d w) Q) : ∃ k, v = .bl k ∧ Q k H := by
  cases i with
  | bl b => exact ⟨b, rfl, Post.ok P R rfl⟩
  | _ => exact False.elim P
theorem de_cmp {op : CmpOp} {g : D → D → M D} (ho : OpOk X T (compareOp op) g) (ha : DE X T O Wx a fa) (hb : DE X T O Wx b fb) (hm : behindInMarks op b = false := by first | exact nomark _ | rfl) : DE X T O Wx (.Compare a [op] [b] pos) (bin2 g fa fb) := by
  obtain ⟨r, h1, h2⟩ := ho
  exact pe_imp (pe_cmpR h1 ha hb hm) (bin2_ok h2)
def tst (f : Env → M D) : Env → M Bool := fun ρ => M.bind (f ρ) asB
theorem dt_of {e : Expr} {f : Env → M D} {t : TE} (hp : PT X e (tTest t)) (ht : ∀ σ H Q, tE X.K T O Wx f σ H Q → t σ H Q) : DT X T O Wx e (tst f) :=
  pt_imp hp fun σ H Q ⟨Γ, ρ, G, w, R, P⟩ => ht σ H _ (post_bind R P fun v d G1 H1 w1 x1 R1 i1 P1 => asB_ok R1 i1 P1)
theorem dt_cmp {op : CmpOp} {g : D → D → M D} (ho : OpOk X T (compareOp op) g) (ha : DE X T O Wx a fa) (hb : DE X T O Wx b fb) (hm : behindInMarks op b = false := by first | exact nomark _ | rfl) : DT X T O Wx (.Compare a [op] [b] pos) (tst (bin2 g fa fb)) := by
  obtain ⟨r, h1, h2⟩ := ho
  exact dt_of (pt_cmpR h1 ha hb hm) (bin2_ok h2)
end

/-! ## numbers, texts, tuples, lists: operators -/
def addD : D → D → M D
  | .int i, .int j => M.pure (.int (i + j))
  | .str x, .str y => if x.length + y.length ≤ sizeLine then M.pure (.str (x ++ y)) else M.fail
  | .tup xs, .tup ys => if xs.length + ys.length ≤ sizeLine then M.pure (.tup (xs ++ ys)) else M.fail
  | .lst xs, .lst ys => if xs.length + ys.length ≤ sizeLine then M.pure (.lst (xs ++ ys)) else M.fail
  | _, _ => M.fail
theorem noTup {xs : List V} : NoTbl (.tup xs) := fun _ z => nomatch z
theorem noLst {xs : List V} : NoTbl (.lst xs) := fun _ z => nomatch z
theorem ifP {α β : Type} {X : Cx} {T : Tb} {Γ : Ctx} {O : List Nat} {Wx : WX} {ρ : Env} {σ : L2.St} {G H : Hp} {I : IR β α} {c : Prop} [Decidable c] {m : M α} {w : Wl} {Q : β → Hp → Prop} (P : Post X.K T Γ O Wx ρ σ G H I ((if c then m else M.fail) w) Q) : c ∧ Post X.K T Γ O Wx ρ σ G H I (m w) Q := by
  by_cases h : c
  · rw [if_pos h] at P; exact ⟨h, P⟩
  · rw [if_neg h] at P; exact False.elim P
section
variable {X : Cx} {T : Tb}
theorem ok_add : OpOk X T (binaryOp .Add) addD := by
  refine ⟨_, (op_add.or op_add_str).or (op_catA.or op_cat), ?_⟩
  intro Γ O Wx ρ σ G H w x y d e Q R i1 i2 P
  cases i1 <;> cases i2 <;> first | exact False.elim P | skip
  case int.int i j => exact .inl (.inl ⟨i, j, rfl, rfl, Post.ok P R (.int _)⟩)
  case str.str x y =>
    obtain ⟨h, P⟩ := ifP P
    exact .inl (.inr ⟨x, y, rfl, rfl, h, Post.ok P R (.str _)⟩)
  case tup.tup a vs ds s1 l1 b us es s2 l2 =>
    obtain ⟨h, P⟩ := ifP P
    skip
    rw [← l1.length, ← l2.length] at h
    have s1' : SqT X.K H _ _ := R.h.sub.tq s1
    have s2' : SqT X.K H _ _ := R.h.sub.tq s2
    refine .inr (.inl ⟨a, b, vs, us, rfl, rfl, s1', s2', h, fun e => ?_, fun _ e => ?_, fun _ _ p hp => ?_⟩)
    · subst e; cases l1
      exact Post.ok P R (.tup s2 l2)
    · subst e; cases l2
      refine Post.ok P R (.tup (vs := vs) s1 ?_)
      rw [List.append_nil]; exact l1
    · exact Post.new P R hp noTup (.tup (vs := vs ++ us) upd_same ((l1.mono (hx_upd (R.h.gnone hp))).append (l2.mono (hx_upd (R.h.gnone hp)))))
  case lst.lst a vs ds s1 l1 b us es s2 l2 =>
    obtain ⟨h, P⟩ := ifP P
    rw [← l1.length, ← l2.length] at h
    refine .inr (.inr ⟨a, b, vs, us, rfl, rfl, R.h.sub _ _ s1, R.h.sub _ _ s2, h, fun p hp => ?_⟩)
    exact Post.new P R hp noLst (.lst (vs := vs ++ us) upd_same ((l1.mono (hx_upd (R.h.gnone hp))).append (l2.mono (hx_upd (R.h.gnone hp)))))
def subD : D → D → M D
  | .int i, .int j => M.pure (.int (i - j))
  | _, _ => M.fail
theorem ok_sub : OpOk X T (binaryOp .Sub) subD := by
  refine ⟨_, op_sub, fun Γ O Wx ρ σ G H w x y d e Q R i1 i2 P => ?_⟩
  cases i1 <;> cases i2 <;> first | exact False.elim P | skip
  case int.int i j => exact ⟨i, j, rfl, rfl, Post.ok P R (.int _)⟩
instance (i j : Int) : Decidable (CMul i j) := by unfold CMul; infer_instance
instance (i j : Int) : Decidable (CDiv i j) := by unfold CDiv; infer_instance
instance (i j : Int) : Decidable (CPow i j) := by unfold CPow; infer_instance
def mulD : D → D → M D
  | .int i, .int j => if CMul i j then M.pure (.int (i * j)) else M.fail
  | .lst xs, .int k => if -(2 ^ 63) ≤ k ∧ k < 2 ^ 63 ∧ xs.length * k.toNat ≤ sizeLine then M.pure (.lst (List.replicate k.toNat xs).flatten) else M.fail
  | .tup xs, .int k => if k = 1 then M.pure (.tup xs) else if xs ≠ [] ∧ 2 ≤ k ∧ k ≤ 1000 ∧ xs.length ≤ 1000 then M.pure (.tup (List.replicate k.toNat xs).flatten) else M.fail
  | _, _ => M.fail
/-- t * 1 is t itself -/
theorem tup_once (l : Addr) (us : Array Value) (n : Nat) (dd : Option Addr) (sl : Array (Option Value)) (tk : Tok) :
    Meets (Builtin.«tuple.__mul__» ⟨[.ref l, .int 1 tk], []⟩) (fun _ R s => s.heap.get? l = some { cls := .type "tuple", dict := dd, data := .seq us n, slots := sl } ∧ R (.ok (.ret (Value.ref l))) s) :=
  .of_wp fun pr wo A R z e => by
    obtain ⟨h0, g0, d0, t0, o0⟩ := z
    obtain ⟨at0, e⟩ := e
    have ix := AutoSeq1.idx_int
    have b0 : (decide ((1 : Int) < -(2 ^ 63)) || decide ((1 : Int) ≥ 2 ^ 63)) = false := by decide
    have b1 : (us.isEmpty || (1 : Int) == 1) = true := by rw [show ((1 : Int) == 1) = true from rfl, Bool.or_true]
    wp_walk using wpAny_loadPart' at0
    repeat (first
      | (refine wpAny_ite_false (decide_eq_false (by rw [b0]; exact Bool.false_ne_true)) ?_; wp_walk using wpAny_loadPart' at0)
      | (refine wpAny_ite_true (decide_eq_true b1) ?_; wp_walk using wpAny_loadPart' at0))
    exact ⟨_, rfl, e⟩
def rOnce (K : PySem.W.Frag) : R2 := fun x y H Q => ∃ l xs, x = .ref l ∧ y = .int 1 ∧ SqT K H l xs ∧ Q (.ref l) H
theorem op_once {X : Cx} : OpR X (binaryOp .Mult) (rOnce X.K) := by
  intro pins s σ H x y v u Q I rx ry e
  obtain ⟨l, xs, rfl, rfl, st, q⟩ := e
  cases rx
  obtain ⟨t, rfl⟩ := ry
  obtain ⟨us, rv, ⟨⟨c0, d0, da, s0⟩, at0, hc, n, hd⟩, hz⟩ := I.tuple st
  simp only at hc hd
  subst hc hd
  exact wpAny_binaryOp_repeat_ref (T := "tuple") (U := "int") (by decide) ⟨_, at0, rfl⟩ (fun z => typeIs_int z 1 t) L2.noFill_tuple_mul F.fills_int_mul F.slot_int_rmul L2.repeat_tuple F.slot_int_index.lookup
    (call_meets F.slot_int_rmul (typeIs_int s 1 t) F.entry_int_rmul (F.args_int_rmul_2 _ _) (L2.int_rmul_tuple 1 t l us.toArray n d0 s0)
      ⟨at0, rfl, ⟨_, at0, rfl⟩, call_meets F.slot_tuple_mul ⟨_, at0, rfl⟩ F.entry_tuple_mul (F.args_tuple_mul_2 _ _) (tup_once l us.toArray n d0 s0 t) ⟨at0, .ref l, H, I, rfl, q⟩⟩)
theorem IsL.rep {K : PySem.W.Frag} {wl : WlT} {G : Hp} {vs : List V} {ds : List D} (h : IsL K wl G vs ds) : ∀ k : Nat, IsL K wl G (List.replicate k vs).flatten (List.replicate k ds).flatten
  | 0 => .nil
  | k + 1 => by
    rw [List.replicate_succ, List.replicate_succ, List.flatten_cons, List.flatten_cons]
    exact h.append (IsL.rep h k)
theorem ok_mul : OpOk X T (binaryOp .Mult) mulD := by
  refine ⟨_, (op_mul.or op_rep).or (op_once.or op_repT), fun Γ O Wx ρ σ G H w x y d e Q R i1 i2 P => ?_⟩
  cases i1 <;> cases i2 <;> first | exact False.elim P | skip
  case tup.int a vs ds s1 l1 k =>
    simp only [mulD] at P
    by_cases h : k = 1
    · subst h
      rw [if_pos rfl] at P
      exact .inr (.inl ⟨a, vs, rfl, rfl, R.h.sub.tq s1, Post.ok P R (.tup s1 l1)⟩)
    · rw [if_neg h] at P
      obtain ⟨⟨h0, h1, h2, h3⟩, P⟩ := ifP P
      have ne : vs ≠ [] := fun z => h0 (by subst z; cases l1; rfl)
      exact .inr (.inr ⟨a, k, vs, rfl, rfl, R.h.sub.tq s1, ne, h1, h2, by rw [l1.length]; exact h3, fun p hp => Post.new P R hp noTup (.tup upd_same ((l1.rep _).mono (hx_upd (R.h.gnone hp))))⟩)
  case int.int i j =>
    obtain ⟨h, P⟩ := ifP P
    exact .inl (.inl ⟨i, j, rfl, rfl, h, Post.ok P R (.int _)⟩)
  case lst.int a vs ds s1 l1 k =>
    obtain ⟨⟨h1, h2, h3⟩, P⟩ := ifP P
    refine .inl (.inr ⟨a, k, vs, rfl, rfl, R.h.sub _ _ s1, h1, h2, by rw [l1.length]; exact h3, fun p hp => ?_⟩)
    exact Post.new P R hp noLst (.lst (vs := (List.replicate k.toNat vs).flatten) upd_same ((l1.mono (hx_upd (R.h.gnone hp))).rep _))
def modD : D → D → M D
  | .int i, .int j => if 0 < j then M.pure (.int (i % j)) else M.fail
  | _, _ => M.fail
theorem ok_mod : OpOk X T (binaryOp .Mod) modD := by
  refine ⟨_, op_mod, fun Γ O Wx ρ σ G H w x y d e Q R i1 i2 P => ?_⟩
  cases i1 <;> cases i2 <;> first | exact False.elim P | skip
  case int.int i j =>
    obtain ⟨h, P⟩ := ifP P
    exact ⟨i, j, rfl, rfl, h, Post.ok P R (.int _)⟩
def divD : D → D → M D
  | .int i, .int j => if CDiv i j then M.pure (.int (i / j)) else M.fail
  | _, _ => M.fail
theorem ok_div : OpOk X T (binaryOp .FloorDiv) divD := by
  refine ⟨_, op_fdiv, fun Γ O Wx ρ σ G H w x y d e Q R i1 i2 P => ?_⟩
  cases i1 <;> cases i2 <;> first | exact False.elim P | skip
  case int.int i j =>
    obtain ⟨h, P⟩ := ifP P
    exact ⟨i, j, rfl, rfl, h, Post.ok P R (.int _)⟩
def powD : D → D → M D
  | .int i, .int j => if CPow i j then M.pure (.int (i ^ j.toNat)) else M.fail
  | _, _ => M.fail
theorem ok_pow : OpOk X T (binaryOp .Pow) powD := by
  refine ⟨_, op_pow, fun Γ O Wx ρ σ G H w x y d e Q R i1 i2 P => ?_⟩
  cases i1 <;> cases i2 <;> first | exact False.elim P | skip
  case int.int i j =>
    obtain ⟨h, P⟩ := ifP P
    exact ⟨i, j, rfl, rfl, h, Post.ok P R (.int _)⟩

/-! ## comparisons -/
def ltD : D → D → M D
  | .int i, .int j => M.pure (.bl (decide (i < j)))
  | .str i, .str j => M.pure (.bl (decide (i.cps.toList < j.cps.toList)))
  | _, _ => M.fail
theorem ok_lt : OpOk X T (compareOp .Lt) ltD := by
  refine ⟨_, op_lt.or op_lt_str, fun Γ O Wx ρ σ G H w x y d e Q R i1 i2 P => ?_⟩
  cases i1 <;> cases i2 <;> first | exact False.elim P | skip
  case int.int i j => exact .inl ⟨i, j, rfl, rfl, Post.ok P R (.bl _)⟩
  case str.str i j => exact .inr ⟨i, j, rfl, rfl, Post.ok P R (.bl _)⟩
def leD : D → D → M D
  | .int i, .int j => M.pure (.bl (decide (i ≤ j)))
  | _, _ => M.fail
theorem ok_le : OpOk X T (compareOp .LtE) leD := by
  refine ⟨_, op_le, fun Γ O Wx ρ σ G H w x y d e Q R i1 i2 P => ?_⟩
  cases i1 <;> cases i2 <;> first | exact False.elim P | skip
  case int.int i j => exact ⟨i, j, rfl, rfl, Post.ok P R (.bl _)⟩
def gtD : D → D → M D
  | .int i, .int j => M.pure (.bl (decide (j < i)))
  | _, _ => M.fail
theorem ok_gt : OpOk X T (compareOp .Gt) gtD := by
  refine ⟨_, op_gt, fun Γ O Wx ρ σ G H w x y d e Q R i1 i2 P => ?_⟩
  cases i1 <;> cases i2 <;> first | exact False.elim P | skip
  case int.int i j => exact ⟨i, j, rfl, rfl, Post.ok P R (.bl _)⟩
def geD : D → D → M D
  | .int i, .int j => M.pure (.bl (decide (j ≤ i)))
  | _, _ => M.fail
theorem ok_ge : OpOk X T (compareOp .GtE) geD := by
  refine ⟨_, op_ge, fun Γ O Wx ρ σ G H w x y d e Q R i1 i2 P => ?_⟩
  cases i1 <;> cases i2 <;> first | exact False.elim P | skip
  case int.int i j => exact ⟨i, j, rfl, rfl, Post.ok P R (.bl _)⟩
def D.isNon : D → Bool
  | .non => true
  | _ => false
def isND : D → D → M D
  | d, .non => M.pure (.bl d.isNon)
  | _, _ => M.fail
def notND : D → D → M D
  | d, .non => M.pure (.bl (!d.isNon))
  | _, _ => M.fail
theorem Is.isNon {K : PySem.W.Frag} {wl : WlT} {G : Hp} {v : V} {d : D} (h : Is K wl G v d) : decide (v = .non) = d.isNon := by
  cases h <;> first | rfl | exact decide_eq_false (fun z => nomatch z)
theorem ok_is : OpOk X T (compareOp .Is) isND := by
  refine ⟨_, op_isN, fun Γ O Wx ρ σ G H w x y d e Q R i1 i2 P => ?_⟩
  cases i2 <;> first | exact False.elim P | skip
  exact ⟨rfl, by rw [i1.isNon]; exact Post.ok P R (.bl _)⟩
theorem ok_isnot : OpOk X T (compareOp .IsNot) notND := by
  refine ⟨_, op_notN, fun Γ O Wx ρ σ G H w x y d e Q R i1 i2 P => ?_⟩
  cases i2 <;> first | exact False.elim P | skip
  exact ⟨rfl, by rw [i1.isNon]; exact Post.ok P R (.bl _)⟩

/-! ## data of the library -/
end
mutual
def D.py : D → PyData
  | .non => .none
  | .bl b => .bool b
  | .int i => .int i
  | .str s => .str s
  | .tup xs => .tuple (D.pyL xs)
  | .lst xs => .list (D.pyL xs)
  | .scr xs => .list (D.pyL xs)
  | .ktp xs => .tuple (D.pyL xs)
  | .dct _ _ => .none
  | .set _ => .none
  | .fn _ => .none
  | .well => .none
def D.pyL : List D → List PyData
  | [] => []
  | x :: xs => D.py x :: D.pyL xs
end
mutual
def D.pyOk : D → Bool
  | .non => true
  | .bl _ => true
  | .int _ => true
  | .str _ => true
  | .tup xs => D.pyOkL xs
  | .lst xs => D.pyOkL xs
  | .scr xs => D.pyOkL xs
  | .ktp xs => D.pyOkL xs
  | .dct _ _ => false
  | .set _ => false
  | .fn _ => false
  | .well => false
def D.pyOkL : List D → Bool
  | [] => true
  | x :: xs => D.pyOk x && D.pyOkL xs
end
section
variable {K : PySem.W.Frag} {wl : WlT} {G H : Hp}
mutual
theorem Is.dp (e : Hx G H) : ∀ {v : V} {d : D}, Is K wl G v d → d.pyOk = true → Dp K H v d.py
  | _, _, .non, _ => by simp only [D.py]; exact .non
  | _, _, .bl b, _ => by simp only [D.py]; exact .bl b
  | _, _, .int i, _ => by simp only [D.py]; exact .int i
  | _, _, .str s, _ => by simp only [D.py]; exact .str s
  | _, _, .tup h hl, z => by
    simp only [D.py]
    exact .tup (e.tq h) (IsL.dp e hl (by simpa only [D.pyOk] using z))
  | _, _, .lst h hl, z => by
    simp only [D.py]
    exact .lst (.inl (.inl (e _ _ h))) (IsL.dp e hl (by simpa only [D.pyOk] using z))
  | _, _, .scr h hl, z => by
    simp only [D.py]
    exact .lst (e.sqL h) (IsL.dp e hl (by simpa only [D.pyOk] using z))
  | _, _, .ktp h hl, z => by
    simp only [D.py]
    exact .tup (e.sqT h) (IsL.dp e hl (by simpa only [D.pyOk] using z))
  | _, _, .dK _ _ _, z => by simp only [D.pyOk] at z; cases z
  | _, _, .dT _ _ _, z => by simp only [D.pyOk] at z; cases z
  | _, _, .well h, z => by simp only [D.pyOk] at z; cases z
  | _, _, .fn h, z => by simp only [D.pyOk] at z; cases z
theorem IsL.dp (e : Hx G H) : ∀ {vs : List V} {ds : List D}, IsL K wl G vs ds → D.pyOkL ds = true → DpAll K H vs (D.pyL ds)
  | _, _, .nil, _ => by simp only [D.pyL]; exact .nil
  | _, _, .cons h hl, z => by
    simp only [D.pyOkL, Bool.and_eq_true] at z
    simp only [D.pyL]
    exact .cons (Is.dp e h z.1) (IsL.dp e hl z.2)
end
end
def shOk (d : D) : Bool := d.pyOk && SeqAt.shaped d.py
def eqvD (d e : D) : Bool := PyData.eqv d.py e.py
def eqD : D → D → M D
  | .str a, .str b => M.pure (.bl (decide (a = b)))
  | d, e => if shOk d = true ∧ shOk e = true then M.pure (.bl (eqvD d e)) else M.fail
def neD : D → D → M D
  | .str a, .str b => M.pure (.bl (!decide (a = b)))
  | d, e => if shOk d = true ∧ shOk e = true then M.pure (.bl (!eqvD d e)) else M.fail
section
variable {X : Cx} {T : Tb}
theorem shOk_of {d : D} (h : shOk d = true) : d.pyOk = true ∧ SeqAt.shaped d.py = true := Bool.and_eq_true_iff.mp h
theorem str_or (d e : D) : (∃ a b, d = .str a ∧ e = .str b) ∨ (eqD d e = (if shOk d = true ∧ shOk e = true then M.pure (.bl (eqvD d e)) else M.fail) ∧ neD d e = (if shOk d = true ∧ shOk e = true then M.pure (.bl (!eqvD d e)) else M.fail)) := by
  cases d <;> cases e <;> first | exact .inr ⟨rfl, rfl⟩ | exact .inl ⟨_, _, rfl, rfl⟩
theorem dec_str (a b : Str) : decide (V.str a = V.str b) = decide (a = b) := by simp
theorem ok_eq (hu : X.A.units + 64 < cLine) : OpOk X T (compareOp .Eq) eqD := by
  refine ⟨_, op_eq.or (op_eqD hu), fun Γ O Wx ρ σ G H w x y d e Q R i1 i2 P => ?_⟩
  rcases str_or d e with ⟨a, b, rfl, rfl⟩ | ⟨z, _⟩
  · cases i1; cases i2
    exact .inl ⟨rfl, by rw [dec_str]; exact Post.ok P R (.bl _)⟩
  · rw [z] at P
    obtain ⟨⟨h1, h2⟩, P⟩ := ifP P
    exact .inr ⟨_, _, i1.dp R.h.sub (shOk_of h1).1, i2.dp R.h.sub (shOk_of h2).1, (shOk_of h1).2, (shOk_of h2).2, Post.ok P R (.bl _)⟩
theorem ok_ne (hu : X.A.units + 64 < cLine) : OpOk X T (compareOp .NotEq) neD := by
  refine ⟨_, op_ne.or (op_neD hu), fun Γ O Wx ρ σ G H w x y d e Q R i1 i2 P => ?_⟩
  rcases str_or d e with ⟨a, b, rfl, rfl⟩ | ⟨_, z⟩
  · cases i1; cases i2
    exact .inl ⟨rfl, by rw [dec_str]; exact Post.ok P R (.bl _)⟩
  · rw [z] at P
    obtain ⟨⟨h1, h2⟩, P⟩ := ifP P
    exact .inr ⟨_, _, i1.dp R.h.sub (shOk_of h1).1, i2.dp R.h.sub (shOk_of h2).1, (shOk_of h1).2, (shOk_of h2).2, Post.ok P R (.bl _)⟩
end
end Q

namespace Q
open PySem PySem.Spec PyProof.Rows L2
section
variable {X : Cx} {T : Tb} {Γ : Ctx} {O : List Nat} {Wx : WX} {a b c : Expr} {rest : List Expr} {fa fb : Env → M D} {ga gb gc : Env → M Bool} {pos : Pos}

/-! ## tests -/
def DW (X : Cx) (T : Tb) (O : List Nat) (Wx : WX) (e : Expr) (f : Env → M Bool) : Prop := PW X e (tT X.K T O Wx f)
theorem dt_w {f : Env → M Bool} (h : DW X T O Wx a f) : DT X T O Wx a f := PW.pt h
theorem dw_and1 (ha : DT X T O Wx a ga) : DW X T O Wx (.BoolOp .And [a] pos) ga := pw_and1 ha
theorem dw_or1 (ha : DT X T O Wx a ga) : DW X T O Wx (.BoolOp .Or [a] pos) ga := pw_or1 ha
def andT (ga gb : Env → M Bool) : Env → M Bool := fun ρ => M.bind (ga ρ) fun c => if c = true then gb ρ else M.pure false
def orT (ga gb : Env → M Bool) : Env → M Bool := fun ρ => M.bind (ga ρ) fun c => if c = true then M.pure true else gb ρ
def notT (ga : Env → M Bool) : Env → M Bool := fun ρ => M.bind (ga ρ) fun c => M.pure (!c)
theorem dw_and (ha : DT X T O Wx a ga) (hb : DW X T O Wx (.BoolOp .And (b :: rest) pos) gb) : DW X T O Wx (.BoolOp .And (a :: b :: rest) pos) (andT ga gb) :=
  pw_imp (pw_and ha hb) fun σ H Q ⟨Γ, ρ, G, w, R, P⟩ => post_bind R P fun v d G1 H1 w1 x1 R1 i1 P1 => by
    obtain rfl : v = d := i1
    cases v with
    | true => exact ⟨Γ, ρ, G1, w1, R1, P1⟩
    | false => exact Post.ok P1 R1 rfl
theorem dw_or (ha : DT X T O Wx a ga) (hb : DW X T O Wx (.BoolOp .Or (b :: rest) pos) gb) : DW X T O Wx (.BoolOp .Or (a :: b :: rest) pos) (orT ga gb) :=
  pw_imp (pw_or ha hb) fun σ H Q ⟨Γ, ρ, G, w, R, P⟩ => post_bind R P fun v d G1 H1 w1 x1 R1 i1 P1 => by
    obtain rfl : v = d := i1
    cases v with
    | true => exact Post.ok P1 R1 rfl
    | false => exact ⟨Γ, ρ, G1, w1, R1, P1⟩
theorem dt_not (ha : DT X T O Wx a ga) : DT X T O Wx (.UnaryOp .Not a pos) (notT ga) :=
  pt_imp (pt_not ha) fun σ H Q ⟨Γ, ρ, G, w, R, P⟩ => post_bind R P fun v d G1 H1 w1 x1 R1 i1 P1 => by
    obtain rfl : v = d := i1
    exact Post.ok P1 R1 rfl
/-- a value's truth -/
def truD : D → M Bool
  | .non => M.pure false
  | .bl b => M.pure b
  | .int i => M.pure (i != 0)
  | .str s => if s.length ≤ sizeLine then M.pure ((s.length : Int) != 0) else M.fail
  | .tup xs => M.pure (!xs.isEmpty)
  | .lst xs => M.pure (!xs.isEmpty)
  | .scr xs => M.pure (!xs.isEmpty)
  | _ => M.fail
theorem IsL.empty {K : PySem.W.Frag} {wl : WlT} {G : Hp} {vs : List V} {ds : List D} (h : IsL K wl G vs ds) : vs.isEmpty = ds.isEmpty := by
  cases h <;> rfl
theorem truD_ok {ρ : Env} {σ : L2.St} {G H : Hp} {w : Wl} {v : V} {d : D} {Q : Bool → Hp → Prop} (R : Rel X.K T Γ O ρ σ G H w) (i : Is X.K Γ.wl G v d) (P : Post X.K T Γ O Wx ρ σ G H IsB (truD d w) Q) : ∃ k, TruV X.K v H k ∧ Q k H := by
  cases i with
  | non => exact ⟨false, rfl, Post.ok P R rfl⟩
  | bl b => exact ⟨b, rfl, Post.ok P R rfl⟩
  | int i => exact ⟨_, rfl, Post.ok P R rfl⟩
  | str s =>
    obtain ⟨h, P⟩ := ifP P
    exact ⟨_, ⟨h, rfl⟩, Post.ok P R rfl⟩
  | tup s l =>
    skip
    exact ⟨_, .inr (.inl ⟨_, R.h.sub.tq s, rfl⟩), Post.ok P R (by rw [l.empty])⟩
  | lst s l => exact ⟨_, .inl ⟨_, SqL.of (R.h.sub _ _ s), rfl⟩, Post.ok P R (by rw [l.empty])⟩
  | scr s l =>
    skip
    exact ⟨_, .inl ⟨_, R.h.sub.sqL s, rfl⟩, Post.ok P R (by rw [l.empty])⟩
  | _ => exact False.elim P
def truT (fa : Env → M D) : Env → M Bool := fun ρ => M.bind (fa ρ) truD
theorem dt_tru (ha : DE X T O Wx a fa) (he : ∀ whole, isTrue a X.env whole = (do let v ← whole; standAt a.pos; holding [v] (truthy v)) := by intro _; rfl) : DT X T O Wx a (truT fa) :=
  pt_imp (pt_truth ha he) fun σ H Q ⟨Γ, ρ, G, w, R, P⟩ => post_bind R P fun v d G1 H1 w1 x1 R1 i1 P1 => truD_ok R1 i1 P1
/-! ## and, or, not, if as values -/
theorem de_one {op : BoolOp} {f : Env → M D} (h : DE X T O Wx a f) : DE X T O Wx (.BoolOp op [a] pos) f := pe_one h
def andE (fa fb : Env → M D) : Env → M D := fun ρ => M.bind (fa ρ) fun x => M.bind (asB x) fun c => if c = true then fb ρ else M.pure (.bl false)
def orE (fa fb : Env → M D) : Env → M D := fun ρ => M.bind (fa ρ) fun x => M.bind (asB x) fun c => if c = true then M.pure (.bl true) else fb ρ
def notE (fa : Env → M D) : Env → M D := fun ρ => M.bind (fa ρ) fun x => M.bind (asB x) fun c => M.pure (.bl (!c))
theorem asB_bind {α β : Type} {ρ : Env} {σ : L2.St} {G H : Hp} {w : Wl} {v : V} {d : D} {I : IR β α} {k : Bool → M α} {Q : β → Hp → Prop} (i : Is X.K Γ.wl G v d) (P : Post X.K T Γ O Wx ρ σ G H I (M.bind (asB d) k w) Q) : ∃ c, v = .bl c ∧ Post X.K T Γ O Wx ρ σ G H I (k c w) Q := by
  cases i with
  | bl b => exact ⟨b, rfl, P⟩
  | _ => exact False.elim P
theorem de_and (ha : DE X T O Wx a fa) (hb : DE X T O Wx (.BoolOp .And (b :: rest) pos) fb) : DE X T O Wx (.BoolOp .And (a :: b :: rest) pos) (andE fa fb) :=
  pe_imp (pe_and ha hb) fun σ H Q ⟨Γ, ρ, G, w, R, P⟩ => post_bind R P fun v d G1 H1 w1 x1 R1 i1 P1 => by
    obtain ⟨c, e, P2⟩ := asB_bind i1 P1
    refine ⟨c, e, ?_⟩
    cases c with
    | true => exact ⟨Γ, ρ, G1, w1, R1, P2⟩
    | false => exact Post.ok P2 R1 (.bl _)
theorem de_or (ha : DE X T O Wx a fa) (hb : DE X T O Wx (.BoolOp .Or (b :: rest) pos) fb) : DE X T O Wx (.BoolOp .Or (a :: b :: rest) pos) (orE fa fb) :=
  pe_imp (pe_or ha hb) fun σ H Q ⟨Γ, ρ, G, w, R, P⟩ => post_bind R P fun v d G1 H1 w1 x1 R1 i1 P1 => by
    obtain ⟨c, e, P2⟩ := asB_bind i1 P1
    refine ⟨c, e, ?_⟩
    cases c with
    | true => exact Post.ok P2 R1 (.bl _)
    | false => exact ⟨Γ, ρ, G1, w1, R1, P2⟩
theorem de_not (ha : DE X T O Wx a fa) : DE X T O Wx (.UnaryOp .Not a pos) (notE fa) :=
  pe_imp (pe_not ha) fun σ H Q ⟨Γ, ρ, G, w, R, P⟩ => post_bind R P fun v d G1 H1 w1 x1 R1 i1 P1 => by
    obtain ⟨c, e, P2⟩ := asB_bind i1 P1
    exact ⟨c, e, Post.ok P2 R1 (.bl _)⟩
def ifE {α : Type} (gc : Env → M Bool) (fa fb : Env → M α) : Env → M α := fun ρ => M.bind (gc ρ) fun c => if c = true then fa ρ else fb ρ
theorem de_if (hc : DT X T O Wx c gc) (ha : DE X T O Wx a fa) (hb : DE X T O Wx b fb) : DE X T O Wx (.IfExp c a b pos) (ifE gc fa fb) :=
  pe_imp (pe_ifExp hc ha hb) fun σ H Q ⟨Γ, ρ, G, w, R, P⟩ => post_bind R P fun v d G1 H1 w1 x1 R1 i1 P1 => by
    obtain rfl : v = d := i1
    cases v with
    | true => exact ⟨Γ, ρ, G1, w1, R1, P1⟩
    | false => exact ⟨Γ, ρ, G1, w1, R1, P1⟩
/-! ## arguments, displays -/
def nilA : Env → M (List D) := fun _ => M.pure []
def consA (fa : Env → M D) (fr : Env → M (List D)) : Env → M (List D) := fun ρ => M.bind (fa ρ) fun x => M.bind (fr ρ) fun xs => M.pure (x :: xs)
theorem da_nil : DA X T O Wx [] nilA := pa_imp pa_nil fun σ H Q ⟨Γ, ρ, G, w, R, P⟩ => Post.ok P R .nil
theorem da_cons {fr : Env → M (List D)} (ha : DE X T O Wx a fa) (hr : DA X T O Wx rest fr) (hs : starEach (a :: rest) X.env = (false, eval a X.env) :: starEach rest X.env := by rfl) : DA X T O Wx (a :: rest) (consA fa fr) :=
  pa_imp (pa_cons ha hr hs) fun σ H Q ⟨Γ, ρ, G, w, R, P⟩ => post_bind R P fun v d G1 H1 w1 x1 R1 i1 P1 => post_bind R1 P1 fun vs ds G2 H2 w2 x2 R2 i2 P2 =>
    Post.ok P2 R2 (.cons (i1.mono x2.x) i2)
def mkTup (xs : List D) : M D := if xs.length ≤ sizeLine then M.pure (.tup xs) else M.fail
def mkLst (xs : List D) : M D := if xs.length ≤ sizeLine then M.pure (.lst xs) else M.fail
def tupE (fr : Env → M (List D)) : Env → M D := fun ρ => M.bind (fr ρ) mkTup
def lstE (fr : Env → M (List D)) : Env → M D := fun ρ => M.bind (fr ρ) mkLst
theorem de_tup {x1 : Nat} {fr : Env → M (List D)} (h : DA X T O Wx rest fr) : DE X T O Wx (.Tuple rest x1 pos) (tupE fr) :=
  pe_imp (pe_tup h) fun σ H Q ⟨Γ, ρ, G, w, R, P⟩ => post_bind R P fun v d G1 H1 w1 x1 R1 i1 P1 => by
    obtain ⟨h, P2⟩ := ifP P1
    exact ⟨by rw [i1.length]; exact h, fun p hp => Post.new P2 R1 hp noTup (.tup upd_same (i1.mono (hx_upd (R1.h.gnone hp))))⟩
theorem de_lst {fr : Env → M (List D)} (h : DA X T O Wx rest fr) : DE X T O Wx (.List rest pos) (lstE fr) :=
  pe_imp (pe_lst h) fun σ H Q ⟨Γ, ρ, G, w, R, P⟩ => post_bind R P fun v d G1 H1 w1 x1 R1 i1 P1 => by
    obtain ⟨h, P2⟩ := ifP P1
    exact ⟨by rw [i1.length]; exact h, fun p hp => Post.new P2 R1 hp noLst (.lst upd_same (i1.mono (hx_upd (R1.h.gnone hp))))⟩
def negD : D → M D
  | .int i => M.pure (.int (-i))
  | _ => M.fail
theorem de_neg (ha : DE X T O Wx a fa) : DE X T O Wx (.UnaryOp .USub a pos) (fun ρ => M.bind (fa ρ) negD) :=
  pe_imp (pe_un un_neg ha) fun σ H Q ⟨Γ, ρ, G, w, R, P⟩ => post_bind R P fun v d G1 H1 w1 x1 R1 i1 P1 => by
    cases i1 with
    | int i => exact ⟨i, rfl, Post.ok P1 R1 (.int _)⟩
    | _ => exact False.elim P1
/-! ## chains -/
def chainE (op op' : D → D → M D) (fa fb fc : Env → M D) : Env → M D := fun ρ => M.bind (fa ρ) fun x => M.bind (fb ρ) fun y => M.bind (op x y) fun z => M.bind (asB z) fun k => if k = true then M.bind (fc ρ) fun u => op' y u else M.pure (.bl false)
theorem chain_ok {r r' : R2} {op op' : D → D → M D} {fc : Env → M D} (h : OpSp X.K T r op) (h' : OpSp X.K T r' op') (σ : L2.St) (H : Hp) (Q : VK) : tE X.K T O Wx (chainE op op' fa fb fc) σ H Q → tChain r r' (tE X.K T O Wx fa) (tE X.K T O Wx fb) (tE X.K T O Wx fc) σ H Q :=
  fun ⟨Γ, ρ, G, w, R, P⟩ => post_bind R P fun x d G1 H1 w1 x1 R1 i1 P1 => post_bind R1 P1 fun y e G2 H2 w2 x2 R2 i2 P2 => by
    refine h Γ O Wx ρ σ G2 H2 w2 x y d e _ R2 (i1.mono x2.x) i2 ?_
    simp only [M.bind] at P2
    cases q : op d e w2 with
    | fail => rw [q] at P2; exact P2
    | exc c p w' => rw [q] at P2; exact P2
    | ok z w3 =>
      rw [q] at P2
      intro v G3 H3 x3 R3 i3
      cases i3 with
      | bl k =>
        refine ⟨k, rfl, ?_⟩
        cases k with
        | false => exact P2 _ _ _ x3 R3 (.bl _)
        | true =>
          have P3 : Post X.K T Γ O Wx ρ σ G2 H2 IsV (M.bind (fc ρ) (fun u => op' e u) w3) Q := P2
          have P4 : Post X.K T Γ O Wx ρ σ G3 H3 IsV (M.bind (fc ρ) (fun u => op' e u) w3) Q := by
            cases q2 : M.bind (fc ρ) (fun u => op' e u) w3 with
            | fail => rw [q2] at P3; exact P3
            | exc c p w' => rw [q2] at P3; exact fun cls dd G' H' h1 => P3 cls dd G' H' (x3.trans h1)
            | ok d2 w' => rw [q2] at P3; exact fun v G' H' h1 => P3 v G' H' (x3.trans h1)
          exact post_bind R3 P4 fun u f G4 H4 w4 x4 R4 i4 P5 => h' Γ O Wx ρ σ G4 H4 w4 y u e f _ R4 (i2.mono (x3.trans x4).x) i4 P5
      | _ => exact False.elim P2
theorem de_chain {op op' : CmpOp} {g g' : D → D → M D} {fc : Env → M D} (ho : OpOk X T (compareOp op) g) (ho' : OpOk X T (compareOp op') g') (ha : DE X T O Wx a fa) (hb : DE X T O Wx b fb) (hc : DE X T O Wx c fc)
    (hm : lastMarks [op, op'] [b, c] = false := by with_unfolding_all rfl) : DE X T O Wx (.Compare a [op, op'] [b, c] pos) (chainE g g' fa fb fc) := by
  obtain ⟨r, h1, h2⟩ := ho
  obtain ⟨r', h1', h2'⟩ := ho'
  exact pe_imp (pe_chain h1 h1' ha hb hc hm) (chain_ok h2 h2')
theorem dt_chain {op op' : CmpOp} {g g' : D → D → M D} {fc : Env → M D} (ho : OpOk X T (compareOp op) g) (ho' : OpOk X T (compareOp op') g') (ha : DE X T O Wx a fa) (hb : DE X T O Wx b fb) (hc : DE X T O Wx c fc)
    (hm : lastMarks [op, op'] [b, c] = false := by with_unfolding_all rfl) : DT X T O Wx (.Compare a [op, op'] [b, c] pos) (tst (chainE g g' fa fb fc)) := by
  obtain ⟨r, h1, h2⟩ := ho
  obtain ⟨r', h1', h2'⟩ := ho'
  exact dt_of (pt_chain h1 h1' ha hb hc hm) (chain_ok h2 h2')
/-! ## subscripts -/
def chr1 (c : Nat) : D := .str ⟨#[c]⟩
def lkp (kvs : List (D × D)) (p : D → Bool) : Option D := (kvs.find? fun kv => p kv.1).map (·.2)
def keyOf : D → Option Key
  | .int i => some (.inl i)
  | .str s => some (.inr s)
  | _ => none
def keysOf : List D → Option (List Key)
  | [] => some []
  | d :: ds => match keyOf d, keysOf ds with
    | some k, some ks => some (k :: ks)
    | _, _ => none
def ixD : D → D → M D
  | .lst xs, .int i => match atI xs i with
    | some d => M.pure d
    | none => M.fail
  | .tup xs, .int i => match atI xs i with
    | some d => M.pure d
    | none => M.fail
  | .scr xs, .int i => match atI xs i with
    | some d => M.pure d
    | none => M.fail
  | .str s, .int i => if s.length ≤ sizeLine then (match atI s.cps.toList i with
    | some c => M.pure (chr1 c)
    | none => M.fail) else M.fail
  | _, _ => M.fail
theorem IsL.atI {K : PySem.W.Frag} {wl : WlT} {G : Hp} {vs : List V} {ds : List D} (h : IsL K wl G vs ds) {i : Int} {d : D} (e : L2.atI ds i = some d) : ∃ v, L2.atI vs i = some v ∧ Is K wl G v d := by
  unfold L2.atI at e ⊢
  rw [h.length]
  cases q : ixN ds.length i with
  | none => rw [q] at e; cases e
  | some j =>
    rw [q] at e
    exact h.get e
theorem de_ix (ha : DE X T O Wx a fa) (hb : DE X T O Wx b fb) (hs : PlainIx b := by exact fun _ _ => rfl) : DE X T O Wx (.Subscript a b pos) (bin2 ixD fa fb) := by
  refine pe_imp (pe_ix ix_seq ha hb hs) (bin2_ok fun Γ O Wx ρ σ G H w x y d e Q R i1 i2 P => ?_)
  cases i1 <;> cases i2 <;> first | exact False.elim P | skip
  case tup.int a vs ds s l i =>
    skip
    have P' : Post X.K T Γ O Wx ρ σ G H IsV (ixD (.tup ds) (.int i) w) Q := P
    unfold ixD at P'
    cases e : L2.atI ds i with
    | none => simp only [e] at P'; exact False.elim P'
    | some d =>
      simp only [e] at P'
      obtain ⟨v, h1, h2⟩ := l.atI e
      exact .inr (.inl ⟨a, vs, i, v, rfl, rfl, R.h.sub.tq s, h1, Post.ok P' R h2⟩)
  case lst.int a vs ds s l i =>
    have P' : Post X.K T Γ O Wx ρ σ G H IsV (ixD (.lst ds) (.int i) w) Q := P
    unfold ixD at P'
    cases e : L2.atI ds i with
    | none => simp only [e] at P'; exact False.elim P'
    | some d =>
      simp only [e] at P'
      obtain ⟨v, h1, h2⟩ := l.atI e
      exact .inl ⟨a, vs, i, v, rfl, rfl, SqL.of (R.h.sub _ _ s), h1, Post.ok P' R h2⟩
  case scr.int a vs ds s l i =>
    skip
    have P' : Post X.K T Γ O Wx ρ σ G H IsV (ixD (.scr ds) (.int i) w) Q := P
    unfold ixD at P'
    cases e : L2.atI ds i with
    | none => simp only [e] at P'; exact False.elim P'
    | some d =>
      simp only [e] at P'
      obtain ⟨v, h1, h2⟩ := l.atI e
      exact .inl ⟨a, vs, i, v, rfl, rfl, R.h.sub.sqL s, h1, Post.ok P' R h2⟩
  case str.int s i =>
    have P' : Post X.K T Γ O Wx ρ σ G H IsV (ixD (.str s) (.int i) w) Q := P
    unfold ixD at P'
    obtain ⟨hl, P'⟩ := ifP P'
    cases e : L2.atI s.cps.toList i with
    | none => simp only [e] at P'; exact False.elim P'
    | some c =>
      simp only [e] at P'
      exact .inr (.inr ⟨s, i, c, rfl, rfl, hl, e, Post.ok P' R (.str _)⟩)
end
end Q

namespace Q
open PySem PySem.Spec PyProof.Rows L2
open Classical in
/-- the view widened by the objects of some owned names -/
noncomputable def thawG (O O1 : List Nat) (ρ : Env) (σ : L2.St) (G H : Hp) : Hp := fun a => match G a with
  | some o => some o
  | none => if ∃ i d, i ∈ O ∧ i ∉ O1 ∧ ρ[i]? = some (some d) ∧ σ[i]? = some (some (.ref a)) then H a else none
section
variable {K : PySem.W.Frag} {T : Tb} {Γ : Ctx} {O O1 : List Nat} {ρ : Env} {σ : L2.St} {G H : Hp} {w : Wl}
theorem IsO.is {a : Addr} {o : HO} {d : D} (h : G a = some o) : IsO K Γ.wl G o d → Is K Γ.wl G (.ref a) d
  | .lst l => .lst h l
  | .dK k l => .dK h k l
  | .dT k l => .dT h k l
theorem Rel.thaw (R : Rel K T Γ O ρ σ G H w) (hs : ∀ i ∈ O1, i ∈ O) : ∃ G1, Hx G G1 ∧ Rel K T Γ O1 ρ σ G1 H w := by
  classical
  have gx : Hx G (thawG O O1 ρ σ G H) := fun a o e => by unfold thawG; rw [e]
  have at0 : ∀ {a : Addr} {o : HO}, thawG O O1 ρ σ G H a = some o → G a = some o ∨ (G a = none ∧ H a = some o ∧ ∃ i d, i ∈ O ∧ i ∉ O1 ∧ ρ[i]? = some (some d) ∧ σ[i]? = some (some (.ref a))) := fun {a o} e => by
    unfold thawG at e
    cases q : G a with
    | some u => rw [q] at e; exact .inl e
    | none =>
      rw [q] at e
      by_cases z : ∃ i d, i ∈ O ∧ i ∉ O1 ∧ ρ[i]? = some (some d) ∧ σ[i]? = some (some (.ref a))
      · simp only [if_pos z] at e
        exact .inr ⟨rfl, e, z⟩
      · simp only [if_neg z] at e; cases e
  have own1 : ∀ {a : Addr} {i : Nat} {d : D}, i ∈ O → ρ[i]? = some (some d) → σ[i]? = some (some (.ref a)) → ∃ o, G a = none ∧ Γ.B a = none ∧ Γ.wl.w ≠ some a ∧ H a = some o ∧ NoTbl o ∧ IsO K Γ.wl G o d := fun {a i d} hi e1 e2 => by
    obtain ⟨l, o, h1, h2, h3, h4, h5, h6, h7⟩ := R.own i d hi e1
    rw [e2] at h1; cases h1
    exact ⟨o, h2, h3, h4, h5, h6, h7⟩
  refine ⟨thawG O O1 ρ σ G H, gx, ⟨fun a o e => ?_, fun a o e => ?_, fun a e => ?_, fun a o e => gx _ _ (R.h.g0 _ _ e), R.h.keep, R.h.mono, fun a e => ⟨?_, (R.h.well a e).2⟩, R.h.tabs, R.h.fnw, R.h.fg0.trans gx, fun a us hf e => gx _ _ (R.h.tv a us hf e)⟩, R.len, fun i d hi e => ?_, fun i d hi e => ?_, fun i j l d e hi hj => R.inj i j l d e (hs i hi) (hs j hj)⟩
  · rcases at0 e with z | ⟨_, z, _⟩
    · exact R.h.sub _ _ z
    · exact z
  · rcases at0 e with z | ⟨_, z, i, d, hi, _, h1, h2⟩
    · exact R.h.nt _ _ z
    · obtain ⟨u, _, _, _, h5, h6, _⟩ := own1 hi h1 h2
      rw [z] at h5; cases h5; exact h6
  · cases q : thawG O O1 ρ σ G H a with
    | none => exact absurd q e
    | some u =>
      rcases at0 q with z | ⟨_, z, i, d, hi, _, h1, h2⟩
      · exact R.h.nw a (by rw [z]; exact fun y => nomatch y)
      · obtain ⟨u, _, h3, _⟩ := own1 hi h1 h2
        exact .inr h3
  · cases q : thawG O O1 ρ σ G H a with
    | none => rfl
    | some u =>
      rcases at0 q with z | ⟨_, z, i, d, hi, _, h1, h2⟩
      · rw [(R.h.well a e).1] at z; cases z
      · obtain ⟨u, _, _, h4, _⟩ := own1 hi h1 h2
        exact absurd e h4
  · by_cases hO : i ∈ O
    · obtain ⟨l, o, h1, h2, h3, h4, h5, h6, h7⟩ := R.own i d hO e
      refine ⟨.ref l, h1, (h7.mono gx).is ?_⟩
      unfold thawG
      rw [h2]
      show (if _ then H l else none) = some o
      rw [if_pos ⟨i, d, hO, hi, e, h1⟩]; exact h5
    · obtain ⟨v, h1, h2⟩ := R.fro i d hO e
      exact ⟨v, h1, h2.mono gx⟩
  · obtain ⟨l, o, h1, h2, h3, h4, h5, h6, h7⟩ := R.own i d (hs i hi) e
    refine ⟨l, o, h1, ?_, h3, h4, h5, h6, h7.mono gx⟩
    cases q : thawG O O1 ρ σ G H l with
    | none => rfl
    | some u =>
      rcases at0 q with z | ⟨_, z, j, d', hj, hj1, e1, e2⟩
      · rw [h2] at z; cases z
      · exact (R.inj i j l d d' (hs i hi) hj (fun z => hj1 (z ▸ hi)) e e1 h1 e2).elim
/-- the view with all that never changes in it -/
def tupG (G H : Hp) : Hp := fun a => match H a with
  | some o => if isF o = true then some o else G a
  | none => G a
theorem tupG_or {G H : Hp} (a : Addr) : (∃ o, isF o = true ∧ H a = some o ∧ tupG G H a = some o) ∨ ((∀ o, isF o = true → H a ≠ some o) ∧ tupG G H a = G a) := by
  unfold tupG
  cases e : H a with
  | none => exact .inr ⟨fun o _ z => (nomatch z), rfl⟩
  | some o =>
    by_cases h : isF o = true
    · exact .inl ⟨o, h, rfl, if_pos h⟩
    · exact .inr ⟨fun u hu z => h (by cases z; exact hu), if_neg h⟩
/-- back to the names as they were, behind an expression -/
theorem Rel.back {G2 H2 : Hp} {w2 : Wl} (R : Rel K T Γ O ρ σ G H w) (h2 : RelH T Γ G2 H2 w2) (x : Hx G G2) (kp : Kp Γ.wl H H2) : Hx G (tupG G H2) ∧ Rel K T Γ O ρ σ (tupG G H2) H2 w2 := by
  have gx : Hx G (tupG G H2) := fun a o e => by
    rcases tupG_or (G := G) (H := H2) a with ⟨u, hu, h, q⟩ | ⟨_, q⟩
    · have := (x.trans h2.sub) _ _ e
      rw [h] at this; cases this; exact q
    · rw [q]; exact e
  refine ⟨gx, ⟨⟨fun a o e => ?_, fun a o e => ?_, fun a e => ?_, R.h.g0.trans gx, h2.keep, h2.mono, fun a e => ?_, h2.tabs, h2.fnw, R.h.fg0.trans gx, fun a vs hf e => ?_⟩, R.len, fun i d hi e => ?_, fun i d hi e => ?_, R.inj⟩⟩
  · rcases tupG_or (G := G) (H := H2) a with ⟨u, hu, h, q⟩ | ⟨_, q⟩
    · rw [q] at e; rw [h]; exact e
    · rw [q] at e; exact (x.trans h2.sub) _ _ e
  · rcases tupG_or (G := G) (H := H2) a with ⟨u, hu, h, q⟩ | ⟨_, q⟩
    · rw [q] at e; cases e; exact fun ps z => by rw [z] at hu; cases hu
    · rw [q] at e; exact R.h.nt _ _ e
  · rcases tupG_or (G := G) (H := H2) a with ⟨u, hu, h, q⟩ | ⟨_, q⟩
    · exact h2.nw a (by rw [h2.tv a u hu h]; exact fun y => nomatch y)
    · rw [q] at e; exact R.h.nw _ e
  · obtain ⟨h3, h4⟩ := h2.well a e
    refine ⟨?_, h4⟩
    rcases tupG_or (G := G) (H := H2) a with ⟨u, hu, h, q⟩ | ⟨_, q⟩
    · rw [h4] at h; cases h; cases hu
    · rw [q]; exact (R.h.well a e).1
  · rcases tupG_or (G := G) (H := H2) a with ⟨u, hu, h, q⟩ | ⟨h, _⟩
    · rw [h] at e; cases e; exact q
    · exact absurd e (h vs hf)
  · obtain ⟨v, h1, h2⟩ := R.fro i d hi e
    exact ⟨v, h1, h2.mono gx⟩
  · obtain ⟨l, o, h1, h2', h3, h4, h5, h6, h7⟩ := R.own i d hi e
    have h8 := kp _ _ h5 h4 h6
    refine ⟨l, o, h1, ?_, h3, h4, h8, h6, h7.mono gx⟩
    rcases tupG_or (G := G) (H := H2) l with ⟨u, hu, h, q⟩ | ⟨_, q⟩
    · rw [h8] at h; cases h; rw [h7.nf] at hu; cases hu
    · rw [q]; exact h2'
/-- fewer owned names, the same view: only for names that hold nothing -/
theorem Rel.drop (R : Rel K T Γ O ρ σ G H w) (hs : ∀ i ∈ O1, i ∈ O) (hn : ∀ i ∈ O, i ∉ O1 → ∀ d, ρ[i]? ≠ some (some d)) : Rel K T Γ O1 ρ σ G H w :=
  ⟨R.h, R.len, fun i d hi e => by
    by_cases hO : i ∈ O
    · exact absurd e (hn i hO hi d)
    · exact R.fro i d hO e, fun i d hi e => R.own i d (hs i hi) e, fun i j l d e hi hj => R.inj i j l d e (hs i hi) (hs j hj)⟩
theorem get_set {α : Type} {l : List α} {i j : Nat} {a b : α} (h : (l.set i a)[j]? = some b) : (i = j ∧ b = a) ∨ (i ≠ j ∧ l[j]? = some b) := by
  by_cases e : i = j
  · subst e
    have hl : i < l.length := by
      have := (List.getElem?_eq_some_iff.mp h).1
      simpa using this
    rw [List.getElem?_set_self hl] at h
    exact .inl ⟨rfl, (Option.some.inj h).symm⟩
  · rw [List.getElem?_set_ne e] at h
    exact .inr ⟨e, h⟩
theorem set_get {α : Type} {l : List α} {i : Nat} {a : α} (h : i < l.length) : (l.set i a)[i]? = some a := List.getElem?_set_self h
/-- a name stored: known -/
theorem Rel.store {i : Nat} {v : V} {d : D} (R : Rel K T Γ O ρ σ G H w) (iv : Is K Γ.wl G v d) : Rel K T Γ (O.filter (· != i)) (ρ.set i (some d)) (σ.set i (some v)) G H w := by
  refine ⟨R.h, by rw [List.length_set, List.length_set]; exact R.len, fun j e hj h => ?_, fun j e hj h => ?_, fun j k l d e hj hk ne h1 h2 h3 h4 => ?_⟩
  · rcases get_set h with ⟨rfl, q⟩ | ⟨ne, q⟩
    · cases q
      have hl : i < ρ.length := by simpa using (List.getElem?_eq_some_iff.mp h).1
      exact ⟨v, set_get (by rw [← R.len]; exact hl), iv⟩
    · have hO : j ∉ O := fun z => hj (List.mem_filter.mpr ⟨z, by simpa using Ne.symm ne⟩)
      obtain ⟨u, h1, h2⟩ := R.fro j e hO q
      exact ⟨u, by rw [List.getElem?_set_ne ne]; exact h1, h2⟩
  · obtain ⟨hO, hn⟩ := List.mem_filter.mp hj
    have ne : i ≠ j := fun z => by simp [z] at hn
    rw [List.getElem?_set_ne ne] at h
    obtain ⟨l, o, h1, r⟩ := R.own j e hO h
    exact ⟨l, o, by rw [List.getElem?_set_ne ne]; exact h1, r⟩
  · obtain ⟨jO, hn⟩ := List.mem_filter.mp hj
    obtain ⟨kO, hn'⟩ := List.mem_filter.mp hk
    have n1 : i ≠ j := fun z => by simp [z] at hn
    have n2 : i ≠ k := fun z => by simp [z] at hn'
    rw [List.getElem?_set_ne n1] at h1 h3
    rw [List.getElem?_set_ne n2] at h2 h4
    exact R.inj j k l d e jO kO ne h1 h2 h3 h4
/-- a name stored that owns a new object -/
theorem Rel.storeO {i : Nat} {p : Addr} {o : HO} {d : D} (R : Rel K T Γ O ρ σ G H w) (hp : H p = none) (ho : NoTbl o) (iv : IsO K Γ.wl G o d) : Rel K T Γ (i :: O) (ρ.set i (some d)) (σ.set i (some (.ref p))) G (upd H p o) w := by
  have gp := R.h.gnone hp
  have pb := R.h.mono p hp
  have rh : RelH T Γ G (upd H p o) w := by
    refine ⟨R.h.sub.trans (hx_upd hp), R.h.nt, R.h.nw, R.h.g0, fun a u e n t => ?_, fun a e => ?_, fun a e => ?_, ?_, R.h.fnw, R.h.fg0, fun a us hf e => ?_⟩
    · have z : a ≠ p := fun z => by rw [z, pb] at e; cases e
      rw [upd_ne z]; exact R.h.keep _ _ e n t
    · by_cases z : a = p
      · subst z; exact pb
      · rw [upd_ne z] at e; exact R.h.mono _ e
    · obtain ⟨h1, h2⟩ := R.h.well a e
      have z : a ≠ p := fun z => by rw [z, hp] at h2; cases h2
      rw [upd_ne z]; exact ⟨h1, h2⟩
    · exact R.h.tabs.ext (hx_upd hp)
    · have z : a ≠ p := fun z => by rw [z, upd_same] at e; cases e; rw [iv.nf] at hf; cases hf
      rw [upd_ne z] at e; exact R.h.tv _ _ hf e
  have wp : Γ.wl.w ≠ some p := fun z => by rw [(R.h.well p z).2] at hp; cases hp
  refine ⟨rh, by rw [List.length_set, List.length_set]; exact R.len, fun j e hj h => ?_, fun j e hj h => ?_, fun j k l d e hj hk ne h1 h2 h3 h4 => ?_⟩
  · have ne : i ≠ j := fun z => hj (by rw [z]; exact List.mem_cons_self)
    rw [List.getElem?_set_ne ne] at h ⊢
    exact R.fro j e (fun z => hj (List.mem_cons_of_mem _ z)) h
  · rcases get_set h with ⟨rfl, q⟩ | ⟨ne, q⟩
    · cases q
      have hl : i < ρ.length := by simpa using (List.getElem?_eq_some_iff.mp h).1
      exact ⟨p, o, set_get (by rw [← R.len]; exact hl), gp, pb, wp, upd_same, ho, iv⟩
    · have hO : j ∈ O := by
        rcases List.mem_cons.mp hj with z | z
        · exact absurd z.symm ne
        · exact z
      obtain ⟨l, u, h1, h2, h3, h4, h5, r⟩ := R.own j e hO q
      have z : l ≠ p := fun z => by rw [z, hp] at h5; cases h5
      exact ⟨l, u, by rw [List.getElem?_set_ne ne]; exact h1, h2, h3, h4, by rw [upd_ne z]; exact h5, r⟩
  · have fresh : ∀ {m : Nat} {x : D}, m ∈ O → ρ[m]? = some (some x) → σ[m]? = some (some (.ref p)) → False := fun {m x} hm e1 e2 => by
      obtain ⟨l, u, h1, h2, h3, h4, h5, r⟩ := R.own m x hm e1
      rw [e2] at h1; cases h1
      rw [hp] at h5; cases h5
    rcases get_set h1 with ⟨rfl, q⟩ | ⟨n1, q⟩
    · rw [set_get (by simpa using (List.getElem?_eq_some_iff.mp h3).1)] at h3
      cases h3
      rw [List.getElem?_set_ne ne] at h2 h4
      exact fresh ((List.mem_cons.mp hk).resolve_left (Ne.symm ne)) h2 h4
    · rw [List.getElem?_set_ne n1] at h3
      have jO : j ∈ O := (List.mem_cons.mp hj).resolve_left (Ne.symm n1)
      rcases get_set h2 with ⟨rfl, q2⟩ | ⟨n2, q2⟩
      · rw [set_get (by simpa using (List.getElem?_eq_some_iff.mp h4).1)] at h4
        cases h4
        exact fresh jO q h3
      · rw [List.getElem?_set_ne n2] at h4
        exact R.inj j k l d e jO ((List.mem_cons.mp hk).resolve_left (Ne.symm n2)) ne q q2 h3 h4
/-- an owned object written -/
theorem Rel.write {i : Nat} {l : Addr} {o o' : HO} {d d' : D} (R : Rel K T Γ O ρ σ G H w) (hi : i ∈ O) (e : ρ[i]? = some (some d)) (es : σ[i]? = some (some (.ref l))) (ho : NoTbl o') (iv : IsO K Γ.wl G o' d') :
    Rel K T Γ O (ρ.set i (some d')) σ G (upd H l o') w := by
  obtain ⟨l', u, h1, h2, h3, h4, h5, h6, h7⟩ := R.own i d hi e
  rw [es] at h1; cases h1
  have nl : ∀ {a : Addr} {x : HO}, G a = some x → a ≠ l := fun {a x} q z => by rw [z, h2] at q; cases q
  refine ⟨⟨fun a x q => by rw [upd_ne (nl q)]; exact R.h.sub _ _ q, R.h.nt, R.h.nw, R.h.g0, fun a x q n t => ?_, fun a q => ?_, fun a q => ?_, ?_, R.h.fnw, R.h.fg0, fun a us hf q => ?_⟩, by rw [List.length_set]; exact R.len, fun j f hj h => ?_, fun j f hj h => ?_, fun j k m x y hj hk ne q1 q2 q3 q4 => ?_⟩
  · have z : a ≠ l := fun z => by rw [z, h3] at q; cases q
    rw [upd_ne z]; exact R.h.keep _ _ q n t
  · have z : a ≠ l := fun z => by rw [z, upd_same] at q; cases q
    rw [upd_ne z] at q; exact R.h.mono _ q
  · obtain ⟨q1, q2⟩ := R.h.well a q
    have z : a ≠ l := fun z => h4 (by rw [q, z])
    rw [upd_ne z]; exact ⟨q1, q2⟩
  · intro p hp
    obtain ⟨ps, q1, q2⟩ := R.h.tabs p hp
    have z : p.1 ≠ l := fun z => by rw [z, h5] at q1; exact h6 ps (Option.some.inj q1)
    refine ⟨ps, by rw [upd_ne z]; exact q1, q2.1, fun pos cv hc => ?_⟩
    obtain ⟨c, r1, r2⟩ := q2.2 pos cv hc
    have z2 : c ≠ l := fun z => by
      rw [z, h5] at r2
      have := Option.some.inj r2
      subst this
      cases h7
    exact ⟨c, r1, by rw [upd_ne z2]; exact r2⟩
  · have z : a ≠ l := fun z => by rw [z, upd_same] at q; cases q; rw [iv.nf] at hf; cases hf
    rw [upd_ne z] at q; exact R.h.tv _ _ hf q
  · have ne : i ≠ j := fun z => hj (z ▸ hi)
    rw [List.getElem?_set_ne ne] at h
    exact R.fro j f hj h
  · rcases get_set h with ⟨rfl, q⟩ | ⟨ne, q⟩
    · cases q
      exact ⟨l, o', es, h2, h3, h4, upd_same, ho, iv⟩
    · obtain ⟨m, u', q1, q2, q3, q4, q5, q6⟩ := R.own j f hj q
      have z : m ≠ l := fun z => by
        subst z
        exact R.inj i j m d f hi hj ne e q es q1
      exact ⟨m, u', q1, q2, q3, q4, by rw [upd_ne z]; exact q5, q6⟩
  · have at' : ∀ {m : Nat} {x : D}, (ρ.set i (some d'))[m]? = some (some x) → ∃ x', ρ[m]? = some (some x') := fun {m x} h => by
      rcases get_set h with ⟨rfl, _⟩ | ⟨_, q⟩
      · exact ⟨d, e⟩
      · exact ⟨x, q⟩
    obtain ⟨x', p1⟩ := at' q1
    obtain ⟨y', p2⟩ := at' q2
    exact R.inj j k m x' y' hj hk ne p1 p2 q3 q4
end
end Q

namespace Q
open PySem PySem.Spec PyProof.Rows L2
inductive Fl where
  | nx (ρ : Env)
  | rt (d : D)
  | bk (ρ : Env)
  | ct (ρ : Env)
def PostS (K : PySem.W.Frag) (T : Tb) (Γ : Ctx) (L O : List Nat) (Wx : WX) (G : Hp) (r : Out Fl) (D : Ends) : Prop :=
  match r with
  | .fail => False
  | .exc c p w' => ∀ cls dd σ' G' H', Hx G G' → RelH T Γ G' H' w' → ExcIs K Γ.wl c p cls dd G' H' → Wx cls dd σ' H'
  | .ok (.nx ρ') w' => ∀ σ' G' H', Hx G G' → Rel K T Γ O ρ' σ' G' H' w' → D.nx σ' H'
  | .ok (.rt d) w' => ∀ v G' H', Hx G G' → RelH T Γ G' H' w' → Is K Γ.wl G' v d → D.rt v H'
  | .ok (.bk ρ') w' => ∀ σ' G' H', Hx G G' → Rel K T Γ L ρ' σ' G' H' w' → D.bk σ' H'
  | .ok (.ct ρ') w' => ∀ σ' G' H', Hx G G' → Rel K T Γ L ρ' σ' G' H' w' → D.ct σ' H'
def tS (K : PySem.W.Frag) (T : Tb) (L O O' : List Nat) (Wx : WX) (f : Env → M Fl) : TS := fun D σ H => ∃ Γ ρ G w, Rel K T Γ O ρ σ G H w ∧ PostS K T Γ L O' Wx G (f ρ w) D
def DS (X : Cx) (T : Tb) (L O O' : List Nat) (Wx : WX) (st : Stmt) (f : Env → M Fl) : Prop := PS X st (tS X.K T L O O' Wx f)
def DSs (X : Cx) (T : Tb) (L O O' : List Nat) (Wx : WX) (st : List Stmt) (f : Env → M Fl) : Prop := PSs X st (tS X.K T L O O' Wx f)
section
variable {K : PySem.W.Frag} {T : Tb} {Γ : Ctx} {L O O' : List Nat} {Wx : WX} {G G1 : Hp} {D D' : Ends}
theorem PostS.widen {r : Out Fl} (P : PostS K T Γ L O Wx G r D) (x : Hx G G1) : PostS K T Γ L O Wx G1 r D := by
  cases r with
  | fail => exact P
  | exc c p w' => exact fun cls dd σ' G' H' h => P cls dd σ' G' H' (x.trans h)
  | ok r w' =>
    cases r with
    | nx ρ' => exact fun σ' G' H' h => P σ' G' H' (x.trans h)
    | rt d => exact fun v G' H' h => P v G' H' (x.trans h)
    | bk ρ' => exact fun σ' G' H' h => P σ' G' H' (x.trans h)
    | ct ρ' => exact fun σ' G' H' h => P σ' G' H' (x.trans h)
/-- a wish that does not look at the slots -/
def Flat (Wx : WX) : Prop := ∀ cls dd σ σ' H', Wx cls dd σ H' → Wx cls dd σ' H'
/-- from an expression's post to a statement's -/
theorem PostS.bindE {α β : Type} {I : IR β α} {f : Env → M α} {k : α → M Fl} {ρ : Env} {σ : L2.St} {H : Hp} {w : Wl} {Q1 : β → Hp → Prop} {O1 : List Nat}
    (P : PostS K T Γ L O Wx G (M.bind (f ρ) k w) D) (x1 : Hx G G1) (R : Rel K T Γ O1 ρ σ G1 H w)
    (hk : ∀ v d G2 H2 w2, Stp Γ.wl G1 H G2 H2 → Rel K T Γ O1 ρ σ G2 H2 w2 → I K Γ.wl G2 v d → PostS K T Γ L O Wx G (k d w2) D → Q1 v H2) : tG K T O1 Wx I f σ H Q1 := by
  refine ⟨Γ, ρ, G1, w, R, ?_⟩
  simp only [M.bind] at P
  cases e : f ρ w with
  | fail => rw [e] at P; exact P
  | exc c p w' => rw [e] at P; exact fun cls dd G' H' h1 h2 h3 => P cls dd σ G' H' (x1.trans h1.x) h2 h3
  | ok d w' =>
    rw [e] at P
    exact fun v G2 H2 hx R1 i1 => hk v d G2 H2 w' hx R1 i1 P
end
section
variable {X : Cx} {T : Tb} {L O O1 O' : List Nat} {Wx : WX} {a : Expr} {st : Stmt} {rest : List Stmt} {fa : Env → M D} {f g : Env → M Fl} {pos : Pos}
/-! ## blocks -/
def nilS : Env → M Fl := fun ρ => M.pure (.nx ρ)
def seqS (f g : Env → M Fl) : Env → M Fl := fun ρ => M.bind (f ρ) fun r => match r with
  | .nx ρ' => g ρ'
  | r => M.pure r
theorem dss_nil : DSs X T L O O Wx [] nilS := pss_imp pss_nil fun D σ H ⟨Γ, ρ, G, w, R, P⟩ => P σ G H (Hx.refl _) R
theorem seq_ok (D : Ends) (σ : L2.St) (H : Hp) : tS X.K T L O O' Wx (seqS f g) D σ H → tSeq (tS X.K T L O O1 Wx f) (tS X.K T L O1 O' Wx g) D σ H := fun ⟨Γ, ρ, G, w, R, P⟩ => by
  refine ⟨Γ, ρ, G, w, R, ?_⟩
  simp only [seqS, M.bind] at P
  cases e : f ρ w with
  | fail => rw [e] at P; exact P
  | exc c p w' => rw [e] at P; exact P
  | ok r w' =>
    rw [e] at P
    cases r with
    | nx ρ' => exact fun σ' G' H' x R' => ⟨Γ, ρ', G', w', R', PostS.widen P x⟩
    | rt d => exact P
    | bk ρ' => exact P
    | ct ρ' => exact P
theorem dss_cons (h1 : DS X T L O O1 Wx st f) (h2 : DSs X T L O1 O' Wx rest g) : DSs X T L O O' Wx (st :: rest) (seqS f g) := pss_imp (pss_cons h1 h2) seq_ok
theorem dss_one (h1 : DS X T L O O' Wx st f) : DSs X T L O O' Wx [st] f := pss_one h1
theorem ds_pass : DS X T L O O Wx (.Pass pos) nilS := ps_imp ps_pass fun D σ H ⟨Γ, ρ, G, w, R, P⟩ => P σ G H (Hx.refl _) R
theorem ds_break : DS X T O O O' Wx (.Break pos) (fun ρ => M.pure (.bk ρ)) := ps_imp ps_break fun D σ H ⟨Γ, ρ, G, w, R, P⟩ => P σ G H (Hx.refl _) R
theorem ds_continue : DS X T O O O' Wx (.Continue pos) (fun ρ => M.pure (.ct ρ)) := ps_imp ps_continue fun D σ H ⟨Γ, ρ, G, w, R, P⟩ => P σ G H (Hx.refl _) R
/-- fewer owned names at the end: names that hold nothing -/
abbrev SubL (O1 O : List Nat) : Prop := ∀ i ∈ O1, i ∈ O
def retS (fa : Env → M D) : Env → M Fl := fun ρ => M.bind (fa ρ) fun d => M.pure (.rt d)
theorem ds_ret (h : DE X T O1 Wx a fa) (hs : SubL O1 O := by decide) : DS X T L O O' Wx (.Return (some a) pos) (retS fa) :=
  ps_imp (ps_ret h) fun D σ H ⟨Γ, ρ, G, w, R, P⟩ => by
    obtain ⟨G1, x1, R1⟩ := R.thaw hs
    exact PostS.bindE P x1 R1 fun v d G2 H2 w2 x2 R2 i2 P2 => P2 v G2 H2 (x1.trans x2.x) R2.h i2
theorem ds_retN : DS X T L O O' Wx (.Return none pos) (fun _ => M.pure (.rt .non)) := ps_imp ps_retN fun D σ H ⟨Γ, ρ, G, w, R, P⟩ => P .non G H (Hx.refl _) R.h .non
/-- e; nothing of it kept -/
def dropS (fa : Env → M D) : Env → M Fl := fun ρ => M.bind (fa ρ) fun _ => M.pure (.nx ρ)
theorem ds_expr (h : DE X T O1 Wx a fa) (hs : SubL O1 O := by decide) (hsw : swapsWith a none pos.line X.env = pure false := by rfl) : DS X T L O O Wx (.Expr a pos) (dropS fa) :=
  ps_imp (ps_expr h hsw) fun D σ H ⟨Γ, ρ, G, w, R, P⟩ => by
    obtain ⟨G1, x1, R1⟩ := R.thaw hs
    exact PostS.bindE P x1 R1 fun v d G2 H2 w2 x2 R2 i2 P2 => P2 σ _ H2 (R.back R2.h (x1.trans x2.x) x2.kp).1 (R.back R2.h (x1.trans x2.x) x2.kp).2
/-! ## stores -/
def setS (i : Nat) (fa : Env → M D) : Env → M Fl := fun ρ => M.bind (fa ρ) fun d => M.pure (.nx (ρ.set i (some d)))
/-- x = e; the owned names that e reads are owned no more -/
theorem ds_set (i : Nat) {x : Str} {pos' : Pos} (hN : X.N.Nodup) (h : DE X T O1 Wx a fa) (hs : SubL O1 O := by decide) (ho : O' = O1.filter (· != i) := by rfl) (hi : X.N[i]? = some x := by rfl) (hx : Loc X.env.scope x := by first | exact Or.inl rfl | exact Or.inr rfl)
    (hsw : swapsWith a (some (.Name x pos')) pos.line X.env = pure false := by rfl) (hf : X.fn x = true ∨ X.env.scope.names.lookup x = some .local := by first | exact .inl rfl | exact .inr rfl) : DS X T L O O' Wx (.Assign [.Name x pos'] a pos) (setS i fa) :=
  ps_imp (ps_set hN hi hx h hsw hf) fun D σ H ⟨Γ, ρ, G, w, R, P⟩ => by
    subst ho
    obtain ⟨G1, x1, R1⟩ := R.thaw hs
    exact PostS.bindE P x1 R1 fun v d G2 H2 w2 x2 R2 i2 P2 => P2 _ G2 H2 (x1.trans x2.x) (R2.store i2)
/-- a value that holds no object -/
def D.atom : D → Bool
  | .non => true
  | .bl _ => true
  | .int _ => true
  | .str _ => true
  | .well => true
  | _ => false
theorem Is.atom {K : PySem.W.Frag} {wl : WlT} {G H : Hp} {v : V} {d : D} (h : Is K wl G v d) (ha : d.atom = true) : Is K wl H v d := by
  cases h with
  | non => exact .non
  | bl b => exact .bl b
  | int i => exact .int i
  | str s => exact .str s
  | well h => exact .well h
  | _ => cases ha
def atmE (fa : Env → M D) : Env → M D := fun ρ => M.bind (fa ρ) fun d => if d.atom = true then M.pure d else M.fail
theorem ifS {K : PySem.W.Frag} {T : Tb} {Γ : Ctx} {L O : List Nat} {Wx : WX} {G : Hp} {D : Ends} {c : Prop} [Decidable c] {m : M Fl} {w : Wl} (P : PostS K T Γ L O Wx G ((if c then m else M.fail) w) D) : c ∧ PostS K T Γ L O Wx G (m w) D := by
  by_cases h : c
  · rw [if_pos h] at P; exact ⟨h, P⟩
  · rw [if_neg h] at P; exact False.elim P
def setKS (i : Nat) (fa : Env → M D) : Env → M Fl := fun ρ => M.bind (fa ρ) fun d => if d.atom = true then M.pure (.nx (ρ.set i (some d))) else M.fail
/-- x = e, a value without objects: the owned names stay so -/
theorem ds_setK (i : Nat) {x : Str} {pos' : Pos} (hN : X.N.Nodup) (h : DE X T O1 Wx a fa) (hs : SubL O1 O := by decide) (ho : O' = O.filter (· != i) := by rfl) (hi : X.N[i]? = some x := by rfl) (hx : Loc X.env.scope x := by first | exact Or.inl rfl | exact Or.inr rfl)
    (hsw : swapsWith a (some (.Name x pos')) pos.line X.env = pure false := by rfl) (hf : X.fn x = true ∨ X.env.scope.names.lookup x = some .local := by first | exact .inl rfl | exact .inr rfl) : DS X T L O O' Wx (.Assign [.Name x pos'] a pos) (setKS i fa) :=
  ps_imp (ps_set hN hi hx h hsw hf) fun D σ H ⟨Γ, ρ, G, w, R, P⟩ => by
    subst ho
    obtain ⟨G1, x1, R1⟩ := R.thaw hs
    refine PostS.bindE P x1 R1 fun v d G2 H2 w2 x2 R2 i2 P2 => ?_
    obtain ⟨ha, P2⟩ := ifS P2
    exact P2 _ _ H2 (R.back R2.h (x1.trans x2.x) x2.kp).1 ((R.back R2.h (x1.trans x2.x) x2.kp).2.store (i2.atom ha))
/-! ## if -/
def ifS' (gc : Env → M Bool) (f g : Env → M Fl) : Env → M Fl := fun ρ => M.bind (gc ρ) fun c => if c = true then f ρ else g ρ
theorem ds_if {c : Expr} {gc : Env → M Bool} {sa sb : List Stmt} (hc : DT X T O1 Wx c gc) (ha : DSs X T L O O' Wx sa f) (hb : DSs X T L O O' Wx sb g) (hs : SubL O1 O := by decide) : DS X T L O O' Wx (.If c sa sb pos) (ifS' gc f g) :=
  ps_imp (ps_if hc ha hb) fun D σ H ⟨Γ, ρ, G, w, R, P⟩ => by
    obtain ⟨G1, x1, R1⟩ := R.thaw hs
    refine PostS.bindE P x1 R1 fun v d G2 H2 w2 x2 R2 i2 P2 => ?_
    obtain rfl : v = d := i2
    obtain ⟨gx, R3⟩ := R.back R2.h (x1.trans x2.x) x2.kp
    cases v with
    | true => exact ⟨Γ, ρ, _, w2, R3, PostS.widen P2 gx⟩
    | false => exact ⟨Γ, ρ, _, w2, R3, PostS.widen P2 gx⟩
/-- owned names given up -/
theorem PostS.less {K : PySem.W.Frag} {T : Tb} {Γ : Ctx} {G : Hp} {r : Out Fl} {D : Ends} (P : PostS K T Γ L O' Wx G r D) (hs : SubL O' O) : PostS K T Γ L O Wx G r D := by
  cases r with
  | fail => exact P
  | exc c p w' => exact P
  | ok r w' =>
    cases r with
    | nx ρ' =>
      intro σ' G' H' h R
      obtain ⟨G1, x1, R1⟩ := R.thaw hs
      exact P σ' G1 H' (h.trans x1) R1
    | rt d => exact P
    | bk ρ' => exact P
    | ct ρ' => exact P
theorem dss_less (h : DSs X T L O O1 Wx rest f) (hs : SubL O' O1 := by decide) : DSs X T L O O' Wx rest f := pss_imp h fun D σ H ⟨Γ, ρ, G, w, R, P⟩ => ⟨Γ, ρ, G, w, R, P.less hs⟩
theorem ds_less (h : DS X T L O O1 Wx st f) (hs : SubL O' O1 := by decide) : DS X T L O O' Wx st f := ps_imp h fun D σ H ⟨Γ, ρ, G, w, R, P⟩ => ⟨Γ, ρ, G, w, R, P.less hs⟩
end
end Q

namespace Q
open PySem PySem.Spec PyProof.Rows L2
/-! ## what is walked -/
/-- while the view G0 stands, the iterator gives the items in turn -/
def Yields (K : PySem.W.Frag) (T : Tb) (wl : WlT) (J : It) (items : List D) (G0 : Hp) : Prop :=
  ∀ (i : Nat) (Γ : Ctx) (O : List Nat) (ρ : Env) (σ : L2.St) (G H : Hp) (w : Wl), Γ.wl = wl → Rel K T Γ O ρ σ G H w → Hx G0 G →
    (∀ d, items[i]? = some d → J.go i H ∧ ∀ x H', J.yld i H x H' → ∃ G2, Stp wl G H G2 H' ∧ Rel K T Γ O ρ σ G2 H' w ∧ Is K wl G2 x d) ∧ (items[i]? = none → J.stop i H)
abbrev IsJ (T : Tb) : IR It (List D) := fun K wl G J items => Yields K T wl J items G
abbrev tI (K : PySem.W.Frag) (T : Tb) (O : List Nat) (Wx : WX) (f : Env → M (List D)) : TI := tG K T O Wx (IsJ T) f
def DI (X : Cx) (T : Tb) (O : List Nat) (Wx : WX) (tg iter : Expr) (f : Env → M (List D)) : Prop := PI X tg iter (tI X.K T O Wx f)
theorem pi_imp {X : Cx} {tg e : Expr} {t t' : TI} (h : PI X tg e t) (hi : ∀ σ H R, t' σ H R → t σ H R) : PI X tg e t' := ⟨fun pins s σ H R I q => h.run pins s σ H R I (hi _ _ _ q)⟩
theorem Yields.mono {K : PySem.W.Frag} {T : Tb} {wl : WlT} {J : It} {items : List D} {G0 G1 : Hp} (h : Yields K T wl J items G0) (x : Hx G0 G1) : Yields K T wl J items G1 :=
  fun i Γ O ρ σ G H w e R y => h i Γ O ρ σ G H w e R (x.trans y)
/-- a value that is walked -/
def IterR (X : Cx) (tg : Expr) (r : V → Hp → (It → Hp → Prop) → Prop) : Prop :=
  ∀ (pins : List (Addr × Obj)) (s : Shared) (σ : L2.St) (H : Hp) (x : V) (v : Value) (R : It → Hp → Prop), Inv X pins σ H s → RelV x v → r x H R → wpAny (model X.prog X.w) X.A (pyIter v) (PIE X pins σ tg R) X.xe s
section
variable {X : Cx} {T : Tb} {O : List Nat} {Wx : WX} {tg e : Expr}
theorem IterR.or {r r' : V → Hp → (It → Hp → Prop) → Prop} (h : IterR X tg r) (h' : IterR X tg r') : IterR X tg fun x H R => r x H R ∨ r' x H R :=
  fun pins s σ H x v R I rx q => q.elim (h pins s σ H x v R I rx) (h' pins s σ H x v R I rx)
theorem pi_of {r : V → Hp → (It → Hp → Prop) → Prop} {te : TE} (hr : IterR X tg r) (he : PE X e te) : PI X tg e fun σ H R => te σ H fun x H1 => r x H1 R :=
  ⟨fun pins s σ H R I h => thn (he.run pins s σ H _ I h) fun v s1 ⟨x, H1, I1, rx, q⟩ => hr pins s1 σ H1 x v R I1 rx q⟩
theorem it_lst : IterR X tg fun x H R => ∃ a xs, x = .ref a ∧ SqL X.K H a xs ∧ R (Itl X.K a) H := fun pins s σ H x v R I rx ⟨a, xs, ex, hq, q⟩ => by
  subst ex
  obtain rfl : v = Value.ref a := rx
  obtain ⟨its, _, pl, _⟩ := I.list hq
  refine wpAny_pyIter_list pl.isList ?_
  exact pi_one (tk := s.toks) I _ (turn_list a _) ⟨_, Heap.get?_push_size _ rfl, rfl, rfl⟩ q
theorem it_tup : IterR X tg fun x H R => ∃ a xs, x = .ref a ∧ SqT X.K H a xs ∧ R (Itt X.K a) H := fun pins s σ H x v R I rx ⟨a, xs, ex, hq, q⟩ => by
  subst ex
  obtain rfl : v = Value.ref a := rx
  obtain ⟨its, _, pl, _⟩ := I.tuple hq
  refine wpAny_pyIter_tuple (show s.heap.IsTuple a its.toArray from pl) ?_
  exact pi_one (tk := s.toks) I _ (turn_tuple a _) ⟨_, Heap.get?_push_size _ rfl, rfl, rfl⟩ q
theorem it_str : IterR X tg fun x H R => ∃ z, x = .str z ∧ R (Its z) H := fun pins s σ H x v R I rx ⟨z, ex, q⟩ => by
  subst ex
  obtain ⟨t, rfl⟩ := rx
  cases ha : z.cps.all (· < 128)
  · exact wpAny_pyIter_wide ha (pi_one (tk := s.toks) I _ (turn_str _ z t "str_iterator" (.inr rfl)) ⟨_, Heap.get?_push_size _ rfl, rfl, rfl⟩ q)
  · exact wpAny_pyIter_ascii ha (pi_one (tk := s.toks) I _ (turn_str _ z t "str_ascii_iterator" (.inl rfl)) ⟨_, Heap.get?_push_size _ rfl, rfl, rfl⟩ q)
/-- the items that a walked value gives -/
def itemsD : D → M (List D)
  | .tup xs => M.pure xs
  | .lst xs => M.pure xs
  | .scr xs => M.pure xs
  | .str s => M.pure (s.cps.toList.map chr1)
  | _ => M.fail
theorem yields_scr {K : PySem.W.Frag} {wl : WlT} {G : Hp} {a : Addr} {vs : List V} {ds : List D} (h : SqL K G a vs) (hl : IsL K wl G vs ds) : Yields K T wl (Itl K a) ds G := by
  intro i Γ O ρ σ G1 H w ew R x
  have s1 : SqL K H a vs := R.h.sub.sqL (x.sqL h)
  refine ⟨fun d e => ?_, fun e => ⟨vs, s1, by rw [hl.length]; exact List.getElem?_eq_none_iff.mp e⟩⟩
  obtain ⟨v, h1, h2⟩ := hl.get e
  refine ⟨⟨vs, v, s1, h1⟩, fun y H' ⟨e1, e2⟩ => ?_⟩
  subst e1
  have := e2 vs s1
  rw [h1] at this; cases this
  exact ⟨G1, Stp.refl, R, h2.mono x⟩
theorem yields_tup {K : PySem.W.Frag} {wl : WlT} {G : Hp} {a : Addr} {vs : List V} {ds : List D} (h : SqT K G a vs) (hl : IsL K wl G vs ds) : Yields K T wl (Itt K a) ds G := by
  intro i Γ O ρ σ G1 H w ew R x
  have s1 : SqT K H a vs := R.h.sub.sqT (x.sqT h)
  refine ⟨fun d e => ?_, fun e => ⟨vs, s1, by rw [hl.length]; exact List.getElem?_eq_none_iff.mp e⟩⟩
  obtain ⟨v, h1, h2⟩ := hl.get e
  refine ⟨⟨vs, v, s1, h1⟩, fun y H' ⟨e1, e2⟩ => ?_⟩
  subst e1
  have := e2 vs s1
  rw [h1] at this; cases this
  exact ⟨G1, Stp.refl, R, h2.mono x⟩
theorem yields_str {K : PySem.W.Frag} {wl : WlT} {G : Hp} {z : Str} : Yields K T wl (Its z) (z.cps.toList.map chr1) G := by
  intro i Γ O ρ σ G1 H w ew R x
  refine ⟨fun d e => ?_, fun e => ?_⟩
  · rw [List.getElem?_map] at e
    cases q : z.cps.toList[i]? with
    | none => rw [q] at e; cases e
    | some c =>
      rw [q] at e
      obtain rfl := Option.some.inj e
      refine ⟨by have := (List.getElem?_eq_some_iff.mp q).1; show i < z.cps.size; simpa using this, fun y H' ⟨e1, c', e2, e3⟩ => ?_⟩
      subst e1 e3
      have : z.cps[i]? = some c := by rw [← Array.getElem?_toList]; exact q
      rw [e2] at this; cases this
      exact ⟨G1, Stp.refl, R, .str _⟩
  · have := List.getElem?_eq_none_iff.mp e
    show z.cps.size ≤ i
    simpa using this
def itE (fa : Env → M D) : Env → M (List D) := fun ρ => M.bind (fa ρ) itemsD
theorem di_seq {fa : Env → M D} (he : DE X T O Wx e fa) : DI X T O Wx tg e (itE fa) :=
  pi_imp (pi_of (it_lst.or (it_tup.or it_str)) he) fun σ H Q ⟨Γ, ρ, G, w, R, P⟩ => post_bind R P fun v d G1 H1 w1 x1 R1 i1 P1 => by
    cases i1 with
    | tup s l => exact .inr (.inl ⟨_, _, rfl, R1.h.sub.tq s, Post.ok P1 R1 (yields_tup (SqT.of s) l)⟩)
    | lst s l => exact .inl ⟨_, _, rfl, SqL.of (R1.h.sub _ _ s), Post.ok P1 R1 (yields_scr (SqL.of s) l)⟩
    | scr s l => exact .inl ⟨_, _, rfl, R1.h.sub.sqL s, Post.ok P1 R1 (yields_scr s l)⟩
    | str s => exact .inr (.inr ⟨_, rfl, Post.ok P1 R1 yields_str⟩)
    | _ => exact False.elim P1
/-- range -/
def rngL (lo hi : Int) : List D := (List.range (hi - lo).toNat).map fun i => .int (lo + (i : Nat))
theorem yields_rng {K : PySem.W.Frag} {wl : WlT} {G : Hp} {lo : Int} {n : Nat} : Yields K T wl (Itr lo n) ((List.range n).map fun i => .int (lo + (i : Nat))) G := by
  intro i Γ O ρ σ G1 H w ew R x
  refine ⟨fun d e => ?_, fun e => ?_⟩
  · rw [List.getElem?_map] at e
    by_cases hi : i < n
    · rw [List.getElem?_range hi] at e
      obtain rfl := Option.some.inj e
      exact ⟨hi, fun y H' ⟨e1, e2⟩ => by subst e1 e2; exact ⟨G1, Stp.refl, R, .int _⟩⟩
    · rw [List.getElem?_eq_none_iff.mpr (by simp; omega)] at e; cases e
  · have := List.getElem?_eq_none_iff.mp e
    show n ≤ i
    simpa using this
def rng1D : List D → M (List D)
  | [.int j] => if -(2 ^ 62) ≤ j ∧ j < 2 ^ 62 then M.pure (rngL 0 j) else M.fail
  | _ => M.fail
def rng2D : List D → M (List D)
  | [.int i, .int j] => if -(2 ^ 62) ≤ i ∧ i < 2 ^ 62 ∧ -(2 ^ 62) ≤ j ∧ j < 2 ^ 62 then M.pure (rngL i j) else M.fail
  | _ => M.fail
def argE {α : Type} (g : List D → M α) (fa : Env → M (List D)) : Env → M α := fun ρ => M.bind (fa ρ) g
theorem di_rng1 {a : Expr} {fa : Env → M (List D)} {p pos : Pos} (hm : X.mg "range" = none) (ha : DA X T O Wx [a] fa) (hg : Gl X "range" := by rfl) (hs : starEach [a] X.env = [(false, eval a X.env)] := by rfl) : DI X T O Wx tg (.Call (.Name "range" p) [a] [] pos) (argE rng1D fa) :=
  pi_imp (pi_range1 hg hm ha hs) fun σ H Q ⟨Γ, ρ, G, w, R, P⟩ => post_bind R P fun v d G1 H1 w1 x1 R1 i1 P1 => by
    cases i1 with
    | nil => exact False.elim P1
    | cons i1 i2 =>
      cases i1 with
      | int j =>
        cases i2 with
        | nil =>
          obtain ⟨⟨h1, h2⟩, P2⟩ := ifP P1
          refine ⟨j, rfl, h1, h2, Post.ok P2 R1 ?_⟩
          unfold rngL
          rw [show j - 0 = j by omega]
          exact yields_rng
        | cons _ _ => exact False.elim P1
      | _ => exact False.elim P1
theorem di_rng2 {a b : Expr} {fa : Env → M (List D)} {p pos : Pos} (hm : X.mg "range" = none) (ha : DA X T O Wx [a, b] fa) (hg : Gl X "range" := by rfl) (hs : starEach [a, b] X.env = [(false, eval a X.env), (false, eval b X.env)] := by rfl) (hs2 : starEach [b] X.env = [(false, eval b X.env)] := by rfl) :
    DI X T O Wx tg (.Call (.Name "range" p) [a, b] [] pos) (argE rng2D fa) :=
  pi_imp (pi_range2 hg hm ha hs hs2) fun σ H Q ⟨Γ, ρ, G, w, R, P⟩ => post_bind R P fun v d G1 H1 w1 x1 R1 i1 P1 => by
    cases i1 with
    | nil => exact False.elim P1
    | cons i1 i2 =>
      cases i1 with
      | int i =>
        cases i2 with
        | nil => exact False.elim P1
        | cons i2 i3 =>
          cases i2 with
          | int j =>
            cases i3 with
            | nil =>
              obtain ⟨⟨h1, h2, h3, h4⟩, P2⟩ := ifP P1
              exact ⟨i, j, rfl, ⟨h1, h2, h3, h4⟩, Post.ok P2 R1 yields_rng⟩
            | cons _ _ => exact False.elim P1
          | _ => exact False.elim P1
      | _ => exact False.elim P1
end
end Q

namespace Q
open PySem PySem.Spec PyProof.Rows L2
/-! ## targets -/
/-- the slots but those of vs -/
def Off (vs : List Nat) (σ σ' : L2.St) : Prop := σ'.length = σ.length ∧ ∀ j, j ∉ vs → σ'[j]? = σ[j]?
theorem Off.refl {vs : List Nat} {σ : L2.St} : Off vs σ σ := ⟨rfl, fun _ _ => rfl⟩
theorem Off.trans {vs : List Nat} {σ σ1 σ2 : L2.St} (a : Off vs σ σ1) (b : Off vs σ1 σ2) : Off vs σ σ2 := ⟨b.1.trans a.1, fun j h => (b.2 j h).trans (a.2 j h)⟩
def tGt (K : PySem.W.Frag) (T : Tb) (O O' : List Nat) (xs : List Nat) (g : D → Env → M Env) : TG := fun v σ H Q => ∃ Γ ρ G w d, Rel K T Γ O ρ σ G H w ∧ Is K Γ.wl G v d ∧
  match g d ρ w with
  | .ok ρ' w' => ∀ σ' G' H', Off xs σ σ' → Stp Γ.wl G H G' H' → Rel K T Γ O' ρ' σ' G' H' w' → Q σ' H'
  | _ => False
def tGts (K : PySem.W.Frag) (T : Tb) (O O' : List Nat) (xs : List Nat) (g : List D → Env → M Env) : TGs := fun vs σ H Q => ∃ Γ ρ G w ds, Rel K T Γ O ρ σ G H w ∧ IsL K Γ.wl G vs ds ∧
  match g ds ρ w with
  | .ok ρ' w' => ∀ σ' G' H', Off xs σ σ' → Stp Γ.wl G H G' H' → Rel K T Γ O' ρ' σ' G' H' w' → Q σ' H'
  | _ => False
def DG (X : Cx) (T : Tb) (O O' : List Nat) (xs : List Nat) (tg : Expr) (g : D → Env → M Env) : Prop := PG X tg (tGt X.K T O O' xs g)
def DGs (X : Cx) (T : Tb) (O O' : List Nat) (xs : List Nat) (tg : List Expr) (g : List D → Env → M Env) : Prop := PGs X tg (tGts X.K T O O' xs g)
theorem pg_imp {X : Cx} {tg : Expr} {t t' : TG} (h : PG X tg t) (hi : ∀ v σ H Q, t' v σ H Q → t v σ H Q) : PG X tg t' := ⟨fun pins s σ H v u Q I r q => h.run pins s σ H v u Q I r (hi _ _ _ _ q)⟩
theorem pgs_imp {X : Cx} {tg : List Expr} {t t' : TGs} (h : PGs X tg t) (hi : ∀ v σ H Q, t' v σ H Q → t v σ H Q) : PGs X tg t' := ⟨fun pins s σ H v u Q I r q => h.run pins s σ H v u Q I r (hi _ _ _ _ q)⟩
section
variable {X : Cx} {T : Tb} {L O O1 O2 O' xs : List Nat} {Wx : WX} {tg iter c elt : Expr} {tgs : List Expr} {body : List Stmt} {pos : Pos}
def gNm (i : Nat) : D → Env → M Env := fun d ρ => M.pure (ρ.set i (some d))
theorem dg_name (i : Nat) {x : Str} (hN : X.N.Nodup) (ho : O' = O.filter (· != i) := by rfl) (hm : i ∈ xs := by decide) (hi : X.N[i]? = some x := by rfl) (hx : Loc X.env.scope x := by first | exact Or.inl rfl | exact Or.inr rfl) (hf : X.fn x = true ∨ X.env.scope.names.lookup x = some .local := by first | exact .inl rfl | exact .inr rfl) :
    DG X T O O' xs (.Name x pos) (gNm i) := by
  subst ho
  exact pg_imp (pg_name hN hi hx hf) fun v σ H Q ⟨Γ, ρ, G, w, d, R, i1, P⟩ => P _ G H ⟨List.length_set, fun j hj => List.getElem?_set_ne (fun z : i = j => hj (z ▸ hm))⟩ Stp.refl (R.store i1)
def gNil : List D → Env → M Env
  | [], ρ => M.pure ρ
  | _, _ => M.fail
def gCons (g : D → Env → M Env) (gs : List D → Env → M Env) : List D → Env → M Env
  | d :: ds, ρ => M.bind (g d ρ) (gs ds)
  | [], _ => M.fail
theorem dgs_nil : DGs X T O O xs [] gNil := pgs_imp pgs_nil fun v σ H Q ⟨Γ, ρ, G, w, ds, R, l, P⟩ => by
  cases l with
  | nil => exact ⟨rfl, P σ G H Off.refl Stp.refl R⟩
  | cons _ _ => exact False.elim P
theorem dgs_cons {g : D → Env → M Env} {gs : List D → Env → M Env} (h1 : DG X T O O1 xs tg g) (h2 : DGs X T O1 O' xs tgs gs) (hs : (assignEach (tg :: tgs) X.env).map (·.2) = assign tg X.env :: (assignEach tgs X.env).map (·.2) := by rfl) : DGs X T O O' xs (tg :: tgs) (gCons g gs) :=
  pgs_imp (pgs_cons h1 h2 hs) fun v σ H Q ⟨Γ, ρ, G, w, ds, R, l, P⟩ => by
    cases l with
    | nil => exact False.elim P
    | @cons v d vs ds i1 l =>
      refine ⟨v, vs, rfl, Γ, ρ, G, w, d, R, i1, ?_⟩
      simp only [gCons, M.bind] at P
      cases e : g d ρ w with
      | fail => rw [e] at P; exact P
      | exc c p w' => rw [e] at P; exact P
      | ok ρ1 w1 =>
        rw [e] at P
        intro σ' G' H' of x R'
        refine ⟨Γ, ρ1, G', w1, ds, R', l.mono x.x, ?_⟩
        dsimp only at P ⊢
        cases e2 : gs ds ρ1 w1 with
        | fail => rw [e2] at P; exact P
        | exc c p w' => rw [e2] at P; exact P
        | ok ρ2 w2 => rw [e2] at P; exact fun σ2 G2 H2 of2 x2 => P σ2 G2 H2 (of.trans of2) (x.trans x2)
def gTup (n : Nat) (gs : List D → Env → M Env) : D → Env → M Env
  | .tup ds, ρ => if ds.length = n then gs ds ρ else M.fail
  | _, _ => M.fail
def gLst (n : Nat) (gs : List D → Env → M Env) : D → Env → M Env
  | .lst ds, ρ => if ds.length = n then gs ds ρ else M.fail
  | _, _ => M.fail
theorem dg_tup {k n : Nat} {gs : List D → Env → M Env} (hc : X.calm = true) (h : DGs X T O O' xs tgs gs) (hn : (assignEach tgs X.env).length = n := by rfl) (hst : (assignEach tgs X.env).findIdx? (·.1) = none := by rfl) : DG X T O O' xs (.Tuple tgs k pos) (gTup n gs) :=
  pg_imp (pg_tup hc h hn hst) fun v σ H Q ⟨Γ, ρ, G, w, d, R, i1, P⟩ => by
    cases i1 with
    | @tup a vs ds s l =>
      by_cases hl : ds.length = n
      · refine ⟨a, vs, rfl, R.h.sub.tq s, l.length.trans hl, Γ, ρ, G, w, ds, R, l, ?_⟩
        have : gTup n gs (.tup ds) ρ = gs ds ρ := if_pos hl
        rw [this] at P; exact P
      · have : gTup n gs (.tup ds) ρ = M.fail := if_neg hl
        rw [this] at P; exact False.elim P
    | _ => exact False.elim P
theorem dg_lst {k n : Nat} {gs : List D → Env → M Env} (hc : X.calm = true) (h : DGs X T O O' xs tgs gs) (hn : (assignEach tgs X.env).length = n := by rfl) (hst : (assignEach tgs X.env).findIdx? (·.1) = none := by rfl) : DG X T O O' xs (.Tuple tgs k pos) (gLst n gs) :=
  pg_imp (pg_lst hc h hn hst) fun v σ H Q ⟨Γ, ρ, G, w, d, R, i1, P⟩ => by
    cases i1 with
    | @lst a vs ds s l =>
      by_cases hl : ds.length = n
      · refine ⟨a, vs, rfl, SqL.of (R.h.sub _ _ s), l.length.trans hl, Γ, ρ, G, w, ds, R, l, ?_⟩
        have : gLst n gs (.lst ds) ρ = gs ds ρ := if_pos hl
        rw [this] at P; exact P
      · have : gLst n gs (.lst ds) ρ = M.fail := if_neg hl
        rw [this] at P; exact False.elim P
    | _ => exact False.elim P
/-- a target in a statement: assignment of any target -/
theorem PostS.target {K : PySem.W.Frag} {Γ : Ctx} {G G1 : Hp} {g : D → Env → M Env} {k : Env → M Fl} {ρ : Env} {σ : L2.St} {H : Hp} {w : Wl} {v : V} {d : D} {D : Ends} {Q : L2.St → Hp → Prop}
    (P : PostS K T Γ L O' Wx G (M.bind (g d ρ) k w) D) (x1 : Hx G G1) (R : Rel K T Γ O ρ σ G1 H w) (i1 : Is K Γ.wl G1 v d) (hg : ∀ c p w', g d ρ w ≠ .exc c p w')
    (hk : ∀ ρ' σ' G' H' w', Hx G1 G' → Rel K T Γ O1 ρ' σ' G' H' w' → PostS K T Γ L O' Wx G (k ρ' w') D → Q σ' H') : tGt K T O O1 xs g v σ H Q := by
  refine ⟨Γ, ρ, G1, w, d, R, i1, ?_⟩
  simp only [M.bind] at P
  cases e : g d ρ w with
  | fail => rw [e] at P; exact P
  | exc c p w' => exact hg c p w' e
  | ok ρ1 w1 => rw [e] at P; exact fun σ' G' H' _ x R' => hk ρ1 σ' G' H' w1 x.x R' P
/-- targets raise nothing -/
def noX {α : Type} (m : M α) : M α := fun w => match m w with
  | .exc _ _ _ => .fail
  | r => r
theorem noX_no {α : Type} (m : M α) (w : Wl) (c : Str) (p : Option (Str × D)) (w' : Wl) : noX m w ≠ .exc c p w' := by
  unfold noX
  cases m w <;> exact fun z => nomatch z
theorem tGt_noX {K : PySem.W.Frag} {g : D → Env → M Env} {v : V} {σ : L2.St} {H : Hp} {Q : L2.St → Hp → Prop} (h : tGt K T O O' xs (fun d ρ => noX (g d ρ)) v σ H Q) : tGt K T O O' xs g v σ H Q := by
  obtain ⟨Γ, ρ, G, w, d, R, i, P⟩ := h
  refine ⟨Γ, ρ, G, w, d, R, i, ?_⟩
  simp only [noX] at P
  cases e : g d ρ w with
  | fail => rw [e] at P; exact P
  | exc c p w' => rw [e] at P; exact P
  | ok ρ' w' => rw [e] at P; exact P
def asgS (fa : Env → M D) (g : D → Env → M Env) : Env → M Fl := fun ρ => M.bind (fa ρ) fun d => M.bind (noX (g d ρ)) fun ρ' => M.pure (.nx ρ')
theorem ds_asg {fa : Env → M D} {g : D → Env → M Env} (h : DE X T O1 Wx elt fa) (hg : DG X T O1 O' xs tg g) (hs : SubL O1 O := by decide) (hsw : swapsWithSole [tg] elt pos.line X.env = pure false := by rfl) (hw : swappedStores [tg] elt X.env = pure none := by rfl)
    (h1 : (assignEach [tg] X.env).map (·.2) = [assign tg X.env] := by rfl) : DS X T L O O' Wx (.Assign [tg] elt pos) (asgS fa g) :=
  ps_imp (ps_asg h hg hsw hw h1) fun D σ H ⟨Γ, ρ, G, w, R, P⟩ => by
    obtain ⟨G1, x1, R1⟩ := R.thaw hs
    refine PostS.bindE P x1 R1 fun v d G2 H2 w2 x2 R2 i2 P2 => tGt_noX ?_
    exact PostS.target P2 (x1.trans x2.x) R2 i2 (noX_no _ _) fun ρ' σ' G' H' w' x R' P3 => P3 σ' G' H' (x1.trans (x2.x.trans x)) R'
/-! ## for -/
def forL (g : D → Env → M Env) (b : Env → M Fl) : List D → Env → M Fl
  | [], ρ => M.pure (.nx ρ)
  | d :: ds, ρ => M.bind (noX (g d ρ)) fun ρ1 => M.bind (b ρ1) fun r => match r with
    | .nx ρ2 => forL g b ds ρ2
    | .ct ρ2 => forL g b ds ρ2
    | .bk ρ2 => M.pure (.nx ρ2)
    | .rt d => M.pure (.rt d)
theorem drop_get {α : Type} {l : List α} {i : Nat} : (l[i]? = none ∧ l.drop i = []) ∨ ∃ a, l[i]? = some a ∧ l.drop i = a :: l.drop (i + 1) := by
  cases e : l[i]? with
  | none => exact .inl ⟨rfl, List.drop_eq_nil_of_le (List.getElem?_eq_none_iff.mp e)⟩
  | some a =>
    obtain ⟨h, rfl⟩ := List.getElem?_eq_some_iff.mp e
    exact .inr ⟨_, rfl, List.drop_eq_getElem_cons h⟩
theorem for_core {g : D → Env → M Env} {b : Env → M Fl} {Γ : Ctx} {ρ : Env} {σ : L2.St} {G G1 H : Hp} {w : Wl} {E : Ends} {items : List D} {J : It} (hb : True)
    (P : PostS X.K T Γ L O Wx G (forL g b items ρ w) E) (x1 : Hx G G1) (R : Rel X.K T Γ O ρ σ G1 H w) (Y : Yields X.K T Γ.wl J items G1) :
    ∃ W : Nat → Nat → L2.St → Hp → Prop, (∃ m, W 0 m σ H) ∧ ∀ i m σ H, W i m σ H →
      (J.stop i H ∧ E.nx σ H) ∨ (J.go i H ∧ ∃ N : L2.St → Hp → Prop, (∀ σ' H', N σ' H' → ∃ m', m' < m ∧ W (i + 1) m' σ' H') ∧ ∀ x H', J.yld i H x H' → tGt X.K T O O2 xs g x σ H' fun σ2 H2 => tS X.K T O O2 O Wx b { E with nx := N, ct := N, bk := E.nx } σ2 H2) := by
  refine ⟨fun i m σ H => i ≤ items.length ∧ m = items.length - i ∧ ∃ ρ G2 w, Hx G1 G2 ∧ Rel X.K T Γ O ρ σ G2 H w ∧ PostS X.K T Γ L O Wx G (forL g b (items.drop i) ρ w) E, ⟨items.length, Nat.zero_le _, rfl, ρ, G1, w, Hx.refl _, R, P⟩, ?_⟩
  rintro i m σ H ⟨hi, rfl, ρ, G2, w, x2, R, P⟩
  obtain ⟨Ya, Yb⟩ := Y i Γ O ρ σ G2 H w rfl R x2
  rcases drop_get (l := items) (i := i) with ⟨e1, e2⟩ | ⟨d, e1, e2⟩
  · rw [e2] at P
    exact .inl ⟨Yb e1, P σ G2 H (x1.trans x2) R⟩
  · rw [e2] at P
    have hlt : i < items.length := (List.getElem?_eq_some_iff.mp e1).1
    obtain ⟨go, yl⟩ := Ya d e1
    refine .inr ⟨go, fun σ' H' => i + 1 ≤ items.length ∧ ∃ ρ G2 w, Hx G1 G2 ∧ Rel X.K T Γ O ρ σ' G2 H' w ∧ PostS X.K T Γ L O Wx G (forL g b (items.drop (i + 1)) ρ w) E, fun σ' H' ⟨h1, h2⟩ => ⟨items.length - (i + 1), by omega, h1, rfl, h2⟩, fun x H' hy => ?_⟩
    obtain ⟨G3, x3, R3, i3⟩ := yl x H' hy
    refine tGt_noX ?_
    refine PostS.target P (x1.trans (x2.trans x3.x)) R3 i3 (noX_no _ _) fun ρ1 σ1 G4 H4 w4 x4 R4 P4 => ?_
    refine ⟨Γ, ρ1, G4, w4, R4, ?_⟩
    have x5 : Hx G1 G4 := x2.trans (x3.x.trans x4)
    simp only [M.bind] at P4
    cases e : b ρ1 w4 with
    | fail => rw [e] at P4; exact P4
    | exc c p w' => rw [e] at P4; exact fun cls dd σ' G' H' h => P4 cls dd σ' G' H' ((x1.trans x5).trans h)
    | ok r w' =>
      rw [e] at P4
      cases r with
      | nx ρ2 => exact fun σ' G' H' h R' => ⟨hlt, ρ2, G', w', x5.trans h, R', P4⟩
      | ct ρ2 => exact fun σ' G' H' h R' => ⟨hlt, ρ2, G', w', x5.trans h, R', P4⟩
      | bk ρ2 => exact fun σ' G' H' h R' => P4 σ' G' H' ((x1.trans x5).trans h) R'
      | rt d => exact fun v G' H' h => P4 v G' H' ((x1.trans x5).trans h)
def forS (fi : Env → M (List D)) (g : D → Env → M Env) (b : Env → M Fl) : Env → M Fl := fun ρ => M.bind (fi ρ) fun items => forL g b items ρ
theorem ds_for {fi : Env → M (List D)} {g : D → Env → M Env} {b : Env → M Fl} (hp : PassesOwn (model X.prog X.w) X.A X.env X.xe) (hc : X.calm = true) (hi : DI X T O Wx tg iter fi) (hg : DG X T O O2 xs tg g) (hb : DSs X T O O2 O Wx body b) (hs : SubL O O' := by decide)
    (hf : ∀ x, foldedSetIterable iter X.env x = pure x := by intro _; rfl) : DS X T L O' O Wx (.For tg iter body [] pos) (forS fi g b) :=
  ps_imp (ps_for hp hc hi hg hb hf) fun E σ H ⟨Γ, ρ, G, w, R, P⟩ => by
    obtain ⟨G1, x1, R1⟩ := R.thaw hs
    exact PostS.bindE P x1 R1 fun J items G2 H2 w2 x2 R2 Y P2 => for_core trivial P2 (x1.trans x2.x) R2 Y
/-- what is walked does not hang on the view -/
def DIK (X : Cx) (T : Tb) (O : List Nat) (Wx : WX) (tg iter : Expr) (f : Env → M (List D)) : Prop := PI X tg iter (tG X.K T O Wx (fun K wl _ J items => ∀ G, Yields K T wl J items G) f)
theorem ds_forK {fi : Env → M (List D)} {g : D → Env → M Env} {b : Env → M Fl} (hp : PassesOwn (model X.prog X.w) X.A X.env X.xe) (hc : X.calm = true) (hi : DIK X T O1 Wx tg iter fi) (hg : DG X T O O2 xs tg g) (hb : DSs X T O O2 O Wx body b) (hs : SubL O1 O := by decide)
    (hf : ∀ x, foldedSetIterable iter X.env x = pure x := by intro _; rfl) : DS X T L O O Wx (.For tg iter body [] pos) (forS fi g b) :=
  ps_imp (ps_for hp hc hi hg hb hf) fun E σ H ⟨Γ, ρ, G, w, R, P⟩ => by
    obtain ⟨G1, x1, R1⟩ := R.thaw hs
    exact PostS.bindE P x1 R1 fun J items G2 H2 w2 x2 R2 Y P2 => for_core trivial P2 (R.back R2.h (x1.trans x2.x) x2.kp).1 (R.back R2.h (x1.trans x2.x) x2.kp).2 (Y _)
/-! ## while -/
def whileL (c : Env → M Bool) (b : Env → M Fl) : Nat → Env → M Fl
  | 0, _ => M.fail
  | n + 1, ρ => M.bind (c ρ) fun k => if k = true then M.bind (b ρ) fun r => match r with
    | .nx ρ2 => whileL c b n ρ2
    | .ct ρ2 => whileL c b n ρ2
    | .bk ρ2 => M.pure (.nx ρ2)
    | .rt d => M.pure (.rt d)
    else M.pure (.nx ρ)
theorem ds_while (n : Nat) {fc : Env → M Bool} {b : Env → M Fl} (hp : PassesOwn (model X.prog X.w) X.A X.env X.xe) (hc : DT X T O1 Wx c fc) (hb : DSs X T O O O Wx body b) (hs : SubL O1 O := by decide) : DS X T L O O Wx (.While c body [] pos) (whileL fc b n) :=
  ps_imp (ps_while hp hc hb) fun E σ H ⟨Γ, ρ, G, w, R, P⟩ => by
    refine ⟨fun m σ H => ∃ ρ G2 w, Hx G G2 ∧ Rel X.K T Γ O ρ σ G2 H w ∧ PostS X.K T Γ L O Wx G (whileL fc b m ρ w) E, ⟨n, ρ, G, w, Hx.refl _, R, P⟩, ?_⟩
    rintro m σ H ⟨ρ, G2, w, x2, R, P⟩
    cases m with
    | zero => exact False.elim P
    | succ m =>
      obtain ⟨G3, x3, R3⟩ := R.thaw hs
      refine PostS.bindE P (x2.trans x3) R3 fun k k' G4 H4 w4 x4 R4 e P4 => ?_
      obtain rfl : k = k' := e
      obtain ⟨gx, R5⟩ := R.back R4.h (x3.trans x4.x) x4.kp
      cases k with
      | false => exact P4 σ _ H4 (x2.trans gx) R5
      | true =>
        refine ⟨fun σ' H' => ∃ ρ G2 w, Hx G G2 ∧ Rel X.K T Γ O ρ σ' G2 H' w ∧ PostS X.K T Γ L O Wx G (whileL fc b m ρ w) E, fun σ' H' h => ⟨m, Nat.lt_succ_self m, h⟩, Γ, ρ, _, w4, R5, ?_⟩
        have P5 : PostS X.K T Γ L O Wx G (M.bind (b ρ) (fun r => match r with
          | .nx ρ2 => whileL fc b m ρ2
          | .ct ρ2 => whileL fc b m ρ2
          | .bk ρ2 => M.pure (.nx ρ2)
          | .rt d => M.pure (.rt d)) w4) E := P4
        simp only [M.bind] at P5
        cases e : b ρ w4 with
        | fail => rw [e] at P5; exact P5
        | exc c p w' => rw [e] at P5; exact fun cls dd σ' G' H' h => P5 cls dd σ' G' H' ((x2.trans gx).trans h)
        | ok r w' =>
          rw [e] at P5
          cases r with
          | nx ρ2 => exact fun σ' G' H' h R' => ⟨ρ2, G', w', (x2.trans gx).trans h, R', P5⟩
          | ct ρ2 => exact fun σ' G' H' h R' => ⟨ρ2, G', w', (x2.trans gx).trans h, R', P5⟩
          | bk ρ2 => exact fun σ' G' H' h R' => P5 σ' G' H' ((x2.trans gx).trans h) R'
          | rt d => exact fun v G' H' h => P5 v G' H' ((x2.trans gx).trans h)
end
end Q

namespace Q
open PySem PySem.Spec PyProof.Rows L2
/-! ## new objects, owned by who gets them -/
structure New (Γ : Ctx) (O : List Nat) (ρ : Env) (σ : L2.St) (G H : Hp) (p : Addr) (o : HO) : Prop where
  at_ : H p = some o
  g : G p = none
  b : Γ.B p = none
  w : Γ.wl.w ≠ some p
  nt : NoTbl o
  no : ∀ i d, i ∈ O → ρ[i]? = some (some d) → σ[i]? ≠ some (some (.ref p))
section
variable {K : PySem.W.Frag} {T : Tb} {Γ : Ctx} {O O1 : List Nat} {ρ : Env} {σ : L2.St} {G H : Hp} {w : Wl} {p : Addr} {o : HO}
theorem Rel.reveal (R : Rel K T Γ O ρ σ G H w) (n : New Γ O ρ σ G H p o) : Rel K T Γ O ρ σ (upd G p o) H w := by
  have up : Hx G (upd G p o) := hx_upd n.g
  refine ⟨⟨fun a u e => ?_, fun a u e => ?_, fun a e => ?_, R.h.g0.trans up, R.h.keep, R.h.mono, fun a e => ⟨?_, (R.h.well a e).2⟩, R.h.tabs, R.h.fnw, R.h.fg0.trans up, fun a us hf e => ?_⟩, R.len, fun i d hi e => ?_, fun i d hi e => ?_, R.inj⟩
  · by_cases z : a = p
    · subst z; rw [upd_same] at e; cases e; exact n.at_
    · rw [upd_ne z] at e; exact R.h.sub _ _ e
  · by_cases z : a = p
    · subst z; rw [upd_same] at e; cases e; exact n.nt
    · rw [upd_ne z] at e; exact R.h.nt _ _ e
  · by_cases z : a = p
    · subst z; exact .inr n.b
    · rw [upd_ne z] at e; exact R.h.nw _ e
  · have z : a ≠ p := fun z => n.w (by rw [e, z])
    rw [upd_ne z]; exact (R.h.well a e).1
  · by_cases z : a = p
    · subst z; rw [n.at_] at e; rw [upd_same]; exact e
    · rw [upd_ne z]; exact R.h.tv _ _ hf e
  · obtain ⟨v, h1, h2⟩ := R.fro i d hi e
    exact ⟨v, h1, h2.mono up⟩
  · obtain ⟨l, u, h1, h2, h3, h4, h5, h6, h7⟩ := R.own i d hi e
    have z : l ≠ p := fun z => n.no i d hi e (by rw [h1, z])
    exact ⟨l, u, h1, by rw [upd_ne z]; exact h2, h3, h4, h5, h6, h7.mono up⟩
theorem Rel.give {i : Nat} {d : D} (R : Rel K T Γ O ρ σ G H w) (n : New Γ O ρ σ G H p o) (iv : IsO K Γ.wl G o d) : Rel K T Γ (i :: O) (ρ.set i (some d)) (σ.set i (some (.ref p))) G H w := by
  refine ⟨R.h, by rw [List.length_set, List.length_set]; exact R.len, fun j e hj h => ?_, fun j e hj h => ?_, fun j k l d e hj hk ne h1 h2 h3 h4 => ?_⟩
  · have ne : i ≠ j := fun z => hj (by rw [z]; exact List.mem_cons_self)
    rw [List.getElem?_set_ne ne] at h ⊢
    exact R.fro j e (fun z => hj (List.mem_cons_of_mem _ z)) h
  · rcases get_set h with ⟨rfl, q⟩ | ⟨ne, q⟩
    · cases q
      have hl : i < ρ.length := by simpa using (List.getElem?_eq_some_iff.mp h).1
      exact ⟨p, o, set_get (by rw [← R.len]; exact hl), n.g, n.b, n.w, n.at_, n.nt, iv⟩
    · obtain ⟨l, u, h1, r⟩ := R.own j e ((List.mem_cons.mp hj).resolve_left (Ne.symm ne)) q
      exact ⟨l, u, by rw [List.getElem?_set_ne ne]; exact h1, r⟩
  · rcases get_set h1 with ⟨rfl, q⟩ | ⟨n1, q⟩
    · rw [set_get (by simpa using (List.getElem?_eq_some_iff.mp h3).1)] at h3
      cases h3
      rw [List.getElem?_set_ne ne] at h2 h4
      exact n.no k e ((List.mem_cons.mp hk).resolve_left (Ne.symm ne)) h2 h4
    · rw [List.getElem?_set_ne n1] at h3
      have jO : j ∈ O := (List.mem_cons.mp hj).resolve_left (Ne.symm n1)
      rcases get_set h2 with ⟨rfl, q2⟩ | ⟨n2, q2⟩
      · rw [set_get (by simpa using (List.getElem?_eq_some_iff.mp h4).1)] at h4
        cases h4
        exact n.no j d jO q h3
      · rw [List.getElem?_set_ne n2] at h4
        exact R.inj j k l d e jO ((List.mem_cons.mp hk).resolve_left (Ne.symm n2)) ne q q2 h3 h4
/-- an object just laid, not in the view -/
theorem Rel.lay (R : Rel K T Γ O ρ σ G H w) (hp : H p = none) (ho : NoTbl o) (hq : isF o = false) : Rel K T Γ O ρ σ G (upd H p o) w ∧ New Γ O ρ σ G (upd H p o) p o ∧ Stp Γ.wl G H G (upd H p o) := by
  have gp := R.h.gnone hp
  have pb := R.h.mono p hp
  have up : Hx H (upd H p o) := hx_upd hp
  have mn : ∀ a, upd H p o a = none → H a = none := fun a e => by
    by_cases z : a = p
    · subst z; exact hp
    · rw [upd_ne z] at e; exact e
  refine ⟨⟨⟨R.h.sub.trans up, R.h.nt, R.h.nw, R.h.g0, fun a u e n t => up _ _ (R.h.keep _ _ e n t), fun a e => R.h.mono _ (mn a e), fun a e => ⟨(R.h.well a e).1, up _ _ (R.h.well a e).2⟩, R.h.tabs.ext up, R.h.fnw, R.h.fg0, fun a us hf e => ?_⟩, R.len, R.fro, fun i d hi e => ?_, R.inj⟩, ⟨upd_same, gp, pb, fun z => ?_, ho, fun i d hi e z => ?_⟩, ⟨Hx.refl _, Kp.new hp, fun a e => .inl e, mn⟩⟩
  · have z : a ≠ p := fun z => by rw [z, upd_same] at e; cases e; rw [hq] at hf; cases hf
    rw [upd_ne z] at e; exact R.h.tv _ _ hf e
  · obtain ⟨l, u, h1, h2, h3, h4, h5, h6⟩ := R.own i d hi e
    exact ⟨l, u, h1, h2, h3, h4, up _ _ h5, h6⟩
  · rw [(R.h.well p z).2] at hp; cases hp
  · obtain ⟨l, u, h1, h2, h3, h4, h5, h6⟩ := R.own i d hi e
    rw [z] at h1; cases h1
    rw [hp] at h5; cases h5
end
/-- an expression that makes a new object -/
def PostN (K : PySem.W.Frag) (T : Tb) (Γ : Ctx) (O : List Nat) (Wx : WX) (ρ : Env) (σ : L2.St) (G H : Hp) (r : Out D) (Q : VK) : Prop :=
  match r with
  | .fail => False
  | .ok d w' => ∀ p o G' H', Stp Γ.wl G H G' H' → Rel K T Γ O ρ σ G' H' w' → New Γ O ρ σ G' H' p o → H p = none → IsO K Γ.wl G' o d → Q (.ref p) H'
  | .exc c p w' => ∀ cls dd G' H', Stp Γ.wl G H G' H' → RelH T Γ G' H' w' → ExcIs K Γ.wl c p cls dd G' H' → Wx cls dd σ H'
def tN (K : PySem.W.Frag) (T : Tb) (O : List Nat) (Wx : WX) (f : Env → M D) : TE := fun σ H Q => ∃ Γ ρ G w, Rel K T Γ O ρ σ G H w ∧ PostN K T Γ O Wx ρ σ G H (f ρ w) Q
def DF (X : Cx) (T : Tb) (O : List Nat) (Wx : WX) (e : Expr) (f : Env → M D) : Prop := PE X e (tN X.K T O Wx f)
section
variable {X : Cx} {T : Tb} {L O O1 O2 O' xs : List Nat} {Wx : WX} {tg iter e elt c : Expr} {rest : List Expr} {f : Env → M D} {pos : Pos}
theorem de_new (h : DF X T O Wx e f) : DE X T O Wx e f := pe_imp h fun σ H Q ⟨Γ, ρ, G, w, R, P⟩ => by
  refine ⟨Γ, ρ, G, w, R, ?_⟩
  cases q : f ρ w with
  | fail => rw [q] at P; exact P
  | exc c p w' => rw [q] at P; exact P
  | ok d w' =>
    rw [q] at P
    intro p o G' H' st R' n hp iv
    refine P (.ref p) (upd G' p o) H' ⟨st.x.trans (hx_upd n.g), st.kp, fun a z => ?_, st.mono⟩ (R'.reveal n) ((iv.mono (hx_upd n.g)).is upd_same)
    by_cases y : a = p
    · subst y; exact .inr hp
    · rw [upd_ne y] at z; exact st.nw a z
/-- the same as post_bind, towards a new object -/
theorem postN_bind {α β : Type} {K : PySem.W.Frag} {Γ : Ctx} {I : IR β α} {f : Env → M α} {k : α → M D} {ρ : Env} {σ : L2.St} {G H : Hp} {w : Wl} {Q : VK} {Q1 : β → Hp → Prop}
    (R : Rel K T Γ O ρ σ G H w) (P : PostN K T Γ O Wx ρ σ G H (M.bind (f ρ) k w) Q)
    (hk : ∀ v d G1 H1 w1, Stp Γ.wl G H G1 H1 → Rel K T Γ O ρ σ G1 H1 w1 → I K Γ.wl G1 v d → PostN K T Γ O Wx ρ σ G1 H1 (k d w1) Q → Q1 v H1) : tG K T O Wx I f σ H Q1 := by
  refine ⟨Γ, ρ, G, w, R, ?_⟩
  simp only [M.bind] at P
  cases e : f ρ w with
  | fail => rw [e] at P; exact P
  | exc c p w' => rw [e] at P; exact P
  | ok d w' =>
    rw [e] at P
    intro v G1 H1 hx R1 i1
    refine hk v d G1 H1 w' hx R1 i1 ?_
    show PostN K T Γ O Wx ρ σ G1 H1 (k d w') Q
    cases e2 : k d w' with
    | fail => simp only [e2] at P; exact P
    | exc c p w2 => simp only [e2] at P; exact fun cls dd G' H' h1 => P cls dd G' H' (hx.trans h1)
    | ok d2 w2 => simp only [e2] at P; exact fun p o G' H' h1 r n hp => P p o G' H' (hx.trans h1) r n (hx.mono p hp)
theorem ifN {K : PySem.W.Frag} {Γ : Ctx} {ρ : Env} {σ : L2.St} {G H : Hp} {c : Prop} [Decidable c] {m : M D} {w : Wl} {Q : VK} (P : PostN K T Γ O Wx ρ σ G H ((if c then m else M.fail) w) Q) : c ∧ PostN K T Γ O Wx ρ σ G H (m w) Q := by
  by_cases h : c
  · rw [if_pos h] at P; exact ⟨h, P⟩
  · rw [if_neg h] at P; exact False.elim P
theorem PostN.new {K : PySem.W.Frag} {Γ : Ctx} {ρ : Env} {σ : L2.St} {G H : Hp} {w : Wl} {d : D} {p : Addr} {o : HO} {Q : VK} (P : PostN K T Γ O Wx ρ σ G H (.ok d w) Q) (R : Rel K T Γ O ρ σ G H w) (hp : H p = none) (ho : NoTbl o) (iv : IsO K Γ.wl G o d) : Q (.ref p) (upd H p o) := by
  obtain ⟨R', n, st⟩ := R.lay hp ho iv.nf
  exact P p o G (upd H p o) st R' n hp iv
theorem df_lst {fr : Env → M (List D)} (h : DA X T O Wx rest fr) : DF X T O Wx (.List rest pos) (lstE fr) :=
  pe_imp (pe_lst h) fun σ H Q ⟨Γ, ρ, G, w, R, P⟩ => postN_bind R P fun v d G1 H1 w1 x1 R1 i1 P1 => by
    obtain ⟨h, P2⟩ := ifN P1
    exact ⟨by rw [i1.length]; exact h, fun p hp => PostN.new P2 R1 hp noLst (.lst i1)⟩
/-- x = a new object: the name owns it -/
theorem ds_setF (i : Nat) {x : Str} {pos' : Pos} (hN : X.N.Nodup) (h : DF X T O1 Wx e f) (hs : SubL O1 O := by decide) (ho : O' = i :: O1 := by rfl) (hi : X.N[i]? = some x := by rfl) (hx : Loc X.env.scope x := by first | exact Or.inl rfl | exact Or.inr rfl)
    (hsw : swapsWith e (some (.Name x pos')) pos.line X.env = pure false := by rfl) (hf : X.fn x = true ∨ X.env.scope.names.lookup x = some .local := by first | exact .inl rfl | exact .inr rfl) : DS X T L O O' Wx (.Assign [.Name x pos'] e pos) (setS i f) :=
  ps_imp (ps_set hN hi hx h hsw hf) fun E σ H ⟨Γ, ρ, G, w, R, P⟩ => by
    subst ho
    obtain ⟨G1, x1, R1⟩ := R.thaw hs
    refine ⟨Γ, ρ, G1, w, R1, ?_⟩
    simp only [setS, M.bind] at P
    cases q : f ρ w with
    | fail => rw [q] at P; exact P
    | exc c p w' => rw [q] at P; exact fun cls dd G' H' st => P cls dd σ G' H' (x1.trans st.x)
    | ok d w' =>
      rw [q] at P
      exact fun p o G' H' st R' n hp iv => P _ G' H' (x1.trans st.x) (R'.give n iv)
end
end Q

namespace Q
open PySem PySem.Spec PyProof.Rows L2
def wipeE (ρ : Env) : List Nat → Env
  | [] => ρ
  | v :: vs => (wipeE ρ vs).set v none
theorem wipeE_length (ρ : Env) : ∀ vs, (wipeE ρ vs).length = ρ.length
  | [] => rfl
  | v :: vs => by rw [wipeE, List.length_set, wipeE_length ρ vs]
theorem wipeE_get {ρ : Env} {j : Nat} {d : D} : ∀ {vs : List Nat}, (wipeE ρ vs)[j]? = some (some d) → j ∉ vs ∧ ρ[j]? = some (some d)
  | [], h => ⟨by simp, h⟩
  | v :: vs, h => by
    rcases get_set h with ⟨_, q⟩ | ⟨ne, q⟩
    · cases q
    · obtain ⟨h1, h2⟩ := wipeE_get q
      exact ⟨fun z => (List.mem_cons.mp z).elim (fun y => ne y.symm) h1, h2⟩
theorem wipe_at {σ : L2.St} {j : Nat} : ∀ {vs : List Nat}, j ∈ vs → (wipe σ vs)[j]? = if j < σ.length then some none else none
  | v :: vs, h => by
    show ((wipe σ vs).set v none)[j]? = _
    by_cases e : v = j
    · subst e
      by_cases hl : v < σ.length
      · rw [if_pos hl, List.getElem?_set_self (by rw [wipe_length]; exact hl)]
      · rw [if_neg hl]; exact List.getElem?_eq_none_iff.mpr (by rw [List.length_set, wipe_length]; omega)
    · rw [List.getElem?_set_ne e]
      exact wipe_at ((List.mem_cons.mp h).resolve_left (Ne.symm e))
theorem wipe_off {σ σ' : L2.St} {vs : List Nat} (h : Off vs σ σ') : wipe σ' vs = wipe σ vs := by
  apply List.ext_getElem?
  intro j
  by_cases hj : j ∈ vs
  · rw [wipe_at hj, wipe_at hj, h.1]
  · rw [wipe_out hj, wipe_out hj, h.2 j hj]
theorem off_wipe {σ : L2.St} {vs : List Nat} : Off vs σ (wipe σ vs) := ⟨wipe_length σ vs, fun j hj => wipe_out hj⟩
section
variable {K : PySem.W.Frag} {T : Tb} {Γ : Ctx} {O : List Nat} {ρ : Env} {σ : L2.St} {G H : Hp} {w : Wl}
theorem Rel.wipe (R : Rel K T Γ O ρ σ G H w) (vs : List Nat) : Rel K T Γ O (wipeE ρ vs) (wipe σ vs) G H w :=
  ⟨R.h, by rw [wipeE_length, wipe_length]; exact R.len, fun i d hi e => by
    obtain ⟨h1, h2⟩ := wipeE_get e
    obtain ⟨v, q1, q2⟩ := R.fro i d hi h2
    exact ⟨v, by rw [wipe_out h1]; exact q1, q2⟩, fun i d hi e => by
    obtain ⟨h1, h2⟩ := wipeE_get e
    obtain ⟨l, o, q1, q2⟩ := R.own i d hi h2
    exact ⟨l, o, by rw [wipe_out h1]; exact q1, q2⟩, fun i j l d e hi hj ne e1 e2 e3 e4 => by
    obtain ⟨h1, h2⟩ := wipeE_get e1
    obtain ⟨h3, h4⟩ := wipeE_get e2
    rw [wipe_out h1] at e3
    rw [wipe_out h3] at e4
    exact R.inj i j l d e hi hj ne h2 h4 e3 e4⟩
end
/-! ## a clause's tests -/
def DTs (X : Cx) (T : Tb) (O : List Nat) (Wx : WX) (ifs : List Expr) (f : Env → M Bool) : Prop := PTs X ifs (tT X.K T O Wx f)
theorem pts_imp {X : Cx} {ifs : List Expr} {t t' : TT} (h : PTs X ifs t) (hi : ∀ σ H Q, t' σ H Q → t σ H Q) : PTs X ifs t' := ⟨fun pins s σ H Q I q => h.run pins s σ H Q I (hi _ _ _ q)⟩
section
variable {X : Cx} {T : Tb} {L O O1 O2 O' xs : List Nat} {Wx : WX} {tg iter e elt c : Expr} {ifs rest : List Expr} {f : Env → M D} {pos : Pos}
def yesT : Env → M Bool := fun _ => M.pure true
theorem dts_nil : DTs X T O Wx [] yesT := pts_imp pts_nil fun σ H Q ⟨Γ, ρ, G, w, R, P⟩ => Post.ok P R rfl
theorem dts_one {g : Env → M Bool} (h : DT X T O Wx c g) : DTs X T O Wx [c] g := pts_one h
/-! ## [elt for tg in iter if ..] -/
abbrev WF : WX := fun _ _ _ _ => False
def lcL (g : D → Env → M Env) (t : Env → M Bool) (e : Env → M D) (ρ : Env) : List D → M (List D)
  | [] => M.pure []
  | d :: ds => M.bind (noX (g d ρ)) fun ρ1 => M.bind (noX (t ρ1)) fun k => if k = true then M.bind (noX (e ρ1)) fun x => M.bind (lcL g t e ρ ds) fun xs => M.pure (x :: xs) else lcL g t e ρ ds
def lcE (vs : List Nat) (fi : Env → M (List D)) (g : D → Env → M Env) (t : Env → M Bool) (e : Env → M D) : Env → M D := fun ρ => M.bind (fi ρ) fun items => if items.length ≤ sizeLine then M.bind (lcL g t e (wipeE ρ vs) items) fun ys => M.pure (.lst ys) else M.fail
/-- from a run that may not raise to a reading -/
theorem noX_step {α β γ : Type} {K : PySem.W.Frag} {I : IR β α} {f : Env → M α} {k : α → M γ} {Γ : Ctx} {ρ : Env} {σ : L2.St} {G H : Hp} {w : Wl} {Q1 : β → Hp → Prop} {Pr : Out γ → Prop} (hf : ¬ Pr .fail)
    (R : Rel K T Γ O ρ σ G H w) (P : Pr (M.bind (noX (f ρ)) k w))
    (hk : ∀ v d G1 H1 w1, Stp Γ.wl G H G1 H1 → Rel K T Γ O ρ σ G1 H1 w1 → I K Γ.wl G1 v d → Pr (k d w1) → Q1 v H1) : tG K T O Wx I f σ H Q1 := by
  refine ⟨Γ, ρ, G, w, R, ?_⟩
  simp only [M.bind, noX] at P
  cases e : f ρ w with
  | fail => rw [e] at P; exact (hf P).elim
  | exc c p w' => rw [e] at P; exact (hf P).elim
  | ok d w' => rw [e] at P; exact fun v G1 H1 st R1 i => hk v d G1 H1 w' st R1 i P
theorem noX_target {γ : Type} {K : PySem.W.Frag} {g : D → Env → M Env} {k : Env → M γ} {Γ : Ctx} {ρ : Env} {σ : L2.St} {G H : Hp} {w : Wl} {v : V} {d : D} {Q : L2.St → Hp → Prop} {Pr : Out γ → Prop} (hf : ¬ Pr .fail)
    (R : Rel K T Γ O ρ σ G H w) (i : Is K Γ.wl G v d) (P : Pr (M.bind (noX (g d ρ)) k w))
    (hk : ∀ ρ1 σ1 G1 H1 w1, Off xs σ σ1 → Stp Γ.wl G H G1 H1 → Rel K T Γ O1 ρ1 σ1 G1 H1 w1 → Pr (k ρ1 w1) → Q σ1 H1) : tGt K T O O1 xs g v σ H Q := by
  refine ⟨Γ, ρ, G, w, d, R, i, ?_⟩
  simp only [M.bind, noX] at P
  cases e : g d ρ w with
  | fail => rw [e] at P; exact (hf P).elim
  | exc c p w' => rw [e] at P; exact (hf P).elim
  | ok ρ1 w1 => rw [e] at P; exact fun σ' G' H' of st R' => hk ρ1 σ' G' H' w1 of st R' P
/-- the state as the block's turns leave it, seen with the def's own slots -/
theorem Rel.slots {K : PySem.W.Frag} {Γ : Ctx} {ρ ρ1 : Env} {σ σ1 : L2.St} {G H G1 H1 : Hp} {w w1 : Wl} (R : Rel K T Γ O ρ σ G H w) (st : Stp Γ.wl G H G1 H1) (h1 : RelH T Γ G1 H1 w1) (ow : ∀ i d l o, i ∈ O → ρ[i]? = some (some d) → σ[i]? = some (some (.ref l)) → G l = none → H l = some o → G1 l = none) : Rel K T Γ O ρ σ G1 H1 w1 :=
  ⟨h1, R.len, fun i d hi e => by
    obtain ⟨v, q1, q2⟩ := R.fro i d hi e
    exact ⟨v, q1, q2.mono st.x⟩, fun i d hi e => by
    obtain ⟨l, o, q1, q2, q3, q4, q5, q6, q7⟩ := R.own i d hi e
    exact ⟨l, o, q1, ow i d l o hi e q1 q2 q5, q3, q4, st.kp _ _ q5 q4 q6, q6, q7.mono st.x⟩, R.inj⟩
theorem Rel.slots' {K : PySem.W.Frag} {Γ : Ctx} {ρ : Env} {σ : L2.St} {G H G1 H1 : Hp} {w w1 : Wl} (R : Rel K T Γ O ρ σ G H w) (st : Stp Γ.wl G H G1 H1) (h1 : RelH T Γ G1 H1 w1) : Rel K T Γ O ρ σ G1 H1 w1 :=
  Rel.slots (ρ1 := ρ) (σ1 := σ) R st h1 fun i d l o _ _ _ hg hh => by
    cases q : G1 l with
    | none => rfl
    | some u =>
      rcases st.nw l (by rw [q]; exact fun z => nomatch z) with z | z
      · exact absurd hg z
      · rw [hh] at z; cases z
theorem M.bind_assoc {α β γ : Type} (m : M α) (f : α → M β) (g : β → M γ) : M.bind (M.bind m f) g = M.bind m fun a => M.bind (f a) g := by
  funext w
  simp only [M.bind]
  cases m w <;> rfl
theorem M.ite_bind {α β : Type} {c : Prop} [Decidable c] (a b : M α) (g : α → M β) : M.bind (if c then a else b) g = if c then M.bind a g else M.bind b g := by
  split <;> rfl
theorem Rel.poke {K : PySem.W.Frag} {Γ : Ctx} {ρ : Env} {σ : L2.St} {G H : Hp} {w : Wl} {p : Addr} {us vs : List V} (R : Rel K T Γ O ρ σ G H w) (n : New Γ O ρ σ G H p (.lst us)) :
    Rel K T Γ O ρ σ G (upd H p (.lst vs)) w ∧ New Γ O ρ σ G (upd H p (.lst vs)) p (.lst vs) := by
  have nl : ∀ {a : Addr} {x : HO}, G a = some x → a ≠ p := fun {a x} q z => by rw [z, n.g] at q; cases q
  refine ⟨⟨⟨fun a x q => by rw [upd_ne (nl q)]; exact R.h.sub _ _ q, R.h.nt, R.h.nw, R.h.g0, fun a x q y t => ?_, fun a q => ?_, fun a q => ?_, ?_, R.h.fnw, R.h.fg0, fun a us hf q => ?_⟩, R.len, R.fro, fun j f hj h => ?_, R.inj⟩, ⟨upd_same, n.g, n.b, n.w, noLst, n.no⟩⟩
  · have z : a ≠ p := fun z => by rw [z, n.b] at q; cases q
    rw [upd_ne z]; exact R.h.keep _ _ q y t
  · have z : a ≠ p := fun z => by rw [z, upd_same] at q; cases q
    rw [upd_ne z] at q; exact R.h.mono _ q
  · obtain ⟨q1, q2⟩ := R.h.well a q
    have z : a ≠ p := fun z => n.w (by rw [q, z])
    rw [upd_ne z]; exact ⟨q1, q2⟩
  · intro u hu
    obtain ⟨ps, q1, q2⟩ := R.h.tabs u hu
    have z : u.1 ≠ p := fun z => by rw [z, n.at_] at q1; cases q1
    refine ⟨ps, by rw [upd_ne z]; exact q1, q2.1, fun pos cv hc => ?_⟩
    obtain ⟨c, r1, r2⟩ := q2.2 pos cv hc
    have z2 : c ≠ p := fun z => by rw [z, n.at_] at r2; cases r2
    exact ⟨c, r1, by rw [upd_ne z2]; exact r2⟩
  · have z : a ≠ p := fun z => by rw [z, upd_same] at q; cases q; cases hf
    rw [upd_ne z] at q; exact R.h.tv _ _ hf q
  · obtain ⟨m, u, q1, q2, q3, q4, q5, q6⟩ := R.own j f hj h
    have z : m ≠ p := fun z => n.no j f hj h (by rw [q1, z])
    exact ⟨m, u, q1, q2, q3, q4, by rw [upd_ne z]; exact q5, q6⟩
theorem New.step {Γ : Ctx} {ρ : Env} {σ : L2.St} {G H G1 H1 : Hp} {p : Addr} {o : HO} (n : New Γ O ρ σ G H p o) (st : Stp Γ.wl G H G1 H1) : New Γ O ρ σ G1 H1 p o :=
  ⟨st.kp _ _ n.at_ n.w n.nt, (by
    cases q : G1 p with
    | none => rfl
    | some u =>
      rcases st.nw p (by rw [q]; exact fun z => nomatch z) with z | z
      · exact absurd n.g z
      · rw [n.at_] at z; cases z), n.b, n.w, n.nt, n.no⟩
theorem lc_rd {own : List (Str × Nat)} {fi : Env → M (List D)} {g : D → Env → M Env} {t : Env → M Bool} {e : Env → M D} (σ : L2.St) (H : Hp) (Q : VK) (hh : tN X.K T O Wx (lcE (own.map (·.2)) fi g t e) σ H Q) :
    tLc (tI X.K T O Wx fi) (tGt X.K T O O (List.map (fun p : Str × Nat => p.2) own) g) (tT X.K T O WF t) (tE X.K T O WF e) (own.map (·.2)) σ H Q := by
  obtain ⟨Γ, ρ, G, w, R, P⟩ := hh
  refine postN_bind R P fun J items G1 H1 w1 st1 R1 Y P1 pD hD => ?_
  obtain ⟨hlen, P1⟩ := ifN P1
  obtain ⟨R0, n0, s0⟩ := R1.lay hD (noLst (xs := [])) rfl
  generalize hv : own.map (·.2) = vs at *
  refine ⟨fun i m H2 => i ≤ items.length ∧ m = items.length - i ∧ ∃ G2 w2 accV accD, Stp Γ.wl G1 H1 G2 H2 ∧ Rel X.K T Γ O ρ σ G2 H2 w2 ∧ New Γ O ρ σ G2 H2 pD (.lst accV) ∧ IsL X.K Γ.wl G2 accV accD ∧ accV.length ≤ i ∧
    PostN X.K T Γ O Wx ρ σ G1 H1 (M.bind (lcL g t e (wipeE ρ vs) (items.drop i)) (fun ys => M.pure (.lst (accD ++ ys))) w2) Q, ⟨items.length, Nat.zero_le _, rfl, G1, w1, [], [], s0, R0, n0, .nil, Nat.le_refl _, P1⟩, ?_⟩
  rintro i m H2 ⟨hi, rfl, G2, w2, accV, accD, st2, R2, n2, l2, hacc, P2⟩
  obtain ⟨Ya, Yb⟩ := Y i Γ O _ _ G2 H2 w2 rfl (R2.wipe vs) st2.x
  rcases drop_get (l := items) (i := i) with ⟨e1, e2⟩ | ⟨d, e1, e2⟩
  · rw [e2] at P2
    refine .inl ⟨Yb e1, ?_⟩
    exact P2 pD (.lst accV) G2 H2 st2 R2 n2 hD (.lst (by rw [List.append_nil]; exact l2))
  · rw [e2] at P2
    have hlt : i < items.length := (List.getElem?_eq_some_iff.mp e1).1
    obtain ⟨go, yl⟩ := Ya d e1
    refine .inr ⟨go, fun H3 => i + 1 ≤ items.length ∧ ∃ G2 w2 accV accD, Stp Γ.wl G1 H1 G2 H3 ∧ Rel X.K T Γ O ρ σ G2 H3 w2 ∧ New Γ O ρ σ G2 H3 pD (.lst accV) ∧ IsL X.K Γ.wl G2 accV accD ∧ accV.length ≤ i + 1 ∧
      PostN X.K T Γ O Wx ρ σ G1 H1 (M.bind (lcL g t e (wipeE ρ vs) (items.drop (i + 1))) (fun ys => M.pure (.lst (accD ++ ys))) w2) Q, fun H' ⟨q1, q2⟩ => ⟨items.length - (i + 1), by omega, q1, rfl, q2⟩, fun x H3 hy => ?_⟩
    obtain ⟨G3, st3, R3, i3⟩ := yl x H3 hy
    simp only [lcL] at P2
    rw [M.bind_assoc] at P2
    refine noX_target (Pr := fun r => PostN X.K T Γ O Wx ρ σ G1 H1 r Q) (fun z => z) R3 i3 P2 fun ρ1 σ1 G4 H4 w4 of st4 R4 P4 => ?_
    refine ⟨(wipe_off of).trans (wipe_off off_wipe), ?_⟩
    rw [M.bind_assoc] at P4
    refine noX_step (Pr := fun r => PostN X.K T Γ O Wx ρ σ G1 H1 r Q) (fun z => z) R4 P4 fun k k' G5 H5 w5 st5 R5 ek P5 => ?_
    obtain rfl : k = k' := ek
    rw [M.ite_bind] at P5
    have st25 := st3.trans (st4.trans st5)
    cases k with
    | false =>
      show (if false = true then _ else _)
      rw [if_neg (by decide)] at P5 ⊢
      exact ⟨hlt, G5, w5, accV, accD, st2.trans st25, R2.slots' st25 R5.h, n2.step st25, l2.mono st25.x, by omega, P5⟩
    | true =>
      show (if true = true then _ else _)
      rw [if_pos rfl] at P5 ⊢
      rw [M.bind_assoc] at P5
      refine noX_step (Pr := fun r => PostN X.K T Γ O Wx ρ σ G1 H1 r Q) (fun z => z) R5 P5 fun y z G6 H6 w6 st6 R6 i6 P6 => ?_
      have st26 := st25.trans st6
      have n6 := n2.step st26
      refine ⟨accV, n6.at_, by omega, hlt, ?_⟩
      obtain ⟨R7, n7⟩ := Rel.poke (vs := accV ++ [y]) (R2.slots' st26 R6.h) n6
      refine ⟨G6, w6, accV ++ [y], accD ++ [z], ?_, R7, n7, (l2.mono st26.x).append (.cons i6 .nil), by simp; omega, ?_⟩
      · have s := st2.trans st26
        refine ⟨s.x, fun a o q q1 q2 => ?_, s.nw, fun a q => ?_⟩
        · have z : a ≠ pD := fun z => by rw [z, hD] at q; cases q
          rw [upd_ne z]; exact s.kp _ _ q q1 q2
        · by_cases z : a = pD
          · subst z; exact hD
          · rw [upd_ne z] at q; exact s.mono _ q
      · rw [M.bind_assoc] at P6
        have e : (fun a : List D => M.bind (M.pure (z :: a)) fun ys => M.pure (D.lst (accD ++ ys))) = fun ys => M.pure (D.lst (accD ++ [z] ++ ys)) := by
          funext ys w
          show Out.ok (D.lst (accD ++ (z :: ys))) w = _
          rw [List.append_assoc]; rfl
        rw [e] at P6; exact P6

theorem df_lc {own : List (Str × Nat)} {scope : Scope} {fi : Env → M (List D)} {g : D → Env → M Env} {t : Env → M Bool} {e : Env → M D} (hc : X.calm = true) (hN : X.N.Nodup) (hi : DI X T O Wx tg iter fi) (ok : BlkOk X.N X.env.scope scope own)
    (hg : ∀ (s : Shared) (H : Hp) (C : Addr) (cl : List (Str × Addr)) (fp : List Addr), DG (X.blk s H scope (compEnvC scope cl C X.env) fp) T O O (own.map (·.2)) tg g)
    (ht : ∀ (s : Shared) (H : Hp) (C : Addr) (cl : List (Str × Addr)) (fp : List Addr), DTs (X.blk s H scope (compEnvC scope cl C X.env) fp) T O WF ifs t)
    (he : ∀ (s : Shared) (H : Hp) (C : Addr) (cl : List (Str × Addr)) (fp : List Addr), DE (X.blk s H scope (compEnvC scope cl C X.env) fp) T O WF elt e) (hs : ∀ x, foldedSetIterable iter X.env x = pure x := by intro _; rfl) :
    DF X T O Wx (.ListComp elt [⟨tg, iter, ifs, 0⟩] scope pos) (lcE (own.map (·.2)) fi g t e) :=
  pe_imp (pe_lc (g := tGt X.K T O O (List.map (fun p : Str × Nat => p.2) own) g) (tt := tT X.K T O WF t) (te := tE X.K T O WF e) hc hN hi ok hg ht he hs) fun σ H Q hh => lc_rd σ H Q hh
/-- from a store of a new object to its making -/
theorem setF_rd {i : Nat} {f : Env → M D} (hs : SubL O1 O) (ho : O' = i :: O1) (E : Ends) (σ : L2.St) (H : Hp) : tS X.K T L O O' Wx (setS i f) E σ H → tN X.K T O1 Wx f σ H fun v H1 => E.nx (σ.set i (some v)) H1 := fun ⟨Γ, ρ, G, w, R, P⟩ => by
  subst ho
  obtain ⟨G1, x1, R1⟩ := R.thaw hs
  refine ⟨Γ, ρ, G1, w, R1, ?_⟩
  simp only [setS, M.bind] at P
  cases q : f ρ w with
  | fail => rw [q] at P; exact P
  | exc c p w' => rw [q] at P; exact fun cls dd G' H' st => P cls dd σ G' H' (x1.trans st.x)
  | ok d w' =>
    rw [q] at P
    exact fun p o G' H' st R' n hp iv => P _ G' H' (x1.trans st.x) (R'.give n iv)
theorem new_rd {f : Env → M D} (σ : L2.St) (H : Hp) (Q : VK) : tE X.K T O Wx f σ H Q → tN X.K T O Wx f σ H Q := fun ⟨Γ, ρ, G, w, R, P⟩ => by
  refine ⟨Γ, ρ, G, w, R, ?_⟩
  cases q : f ρ w with
  | fail => rw [q] at P; exact P
  | exc c p w' => rw [q] at P; exact P
  | ok d w' =>
    rw [q] at P
    intro p o G' H' st R' n hp iv
    refine P (.ref p) (upd G' p o) H' ⟨st.x.trans (hx_upd n.g), st.kp, fun a z => ?_, st.mono⟩ (R'.reveal n) ((iv.mono (hx_upd n.g)).is upd_same)
    by_cases y : a = p
    · subst y; exact .inr hp
    · rw [upd_ne y] at z; exact st.nw a z
theorem set_rd {i : Nat} {f : Env → M D} (hs : SubL O1 O) (ho : O' = O1.filter (· != i)) (E : Ends) (σ : L2.St) (H : Hp) : tS X.K T L O O' Wx (setS i f) E σ H → tE X.K T O1 Wx f σ H fun v H1 => E.nx (σ.set i (some v)) H1 := fun ⟨Γ, ρ, G, w, R, P⟩ => by
  subst ho
  obtain ⟨G1, x1, R1⟩ := R.thaw hs
  exact PostS.bindE P x1 R1 fun v d G2 H2 w2 x2 R2 i2 P2 => P2 _ G2 H2 (x1.trans x2.x) (R2.store i2)
section
variable {own : List (Str × Nat)} {scope : Scope} {fi : Env → M (List D)} {g : D → Env → M Env} {t : Env → M Bool} {fe : Env → M D} {py spos : Pos}
/-- x = [comprehension], the name owns it -/
theorem ds_setLcF (i : Nat) {y : Str} (hc : X.calm = true) (hN : X.N.Nodup) (hi : DI X T O1 Wx tg iter fi) (ok : BlkOk X.N X.env.scope scope own)
    (hg : ∀ (s : Shared) (H : Hp) (C : Addr) (cl : List (Str × Addr)) (fp : List Addr), DG (X.blk s H scope (compEnvC scope cl C X.env) fp) T O1 O1 (own.map (·.2)) tg g)
    (ht : ∀ (s : Shared) (H : Hp) (C : Addr) (cl : List (Str × Addr)) (fp : List Addr), DTs (X.blk s H scope (compEnvC scope cl C X.env) fp) T O1 WF ifs t)
    (he : ∀ (s : Shared) (H : Hp) (C : Addr) (cl : List (Str × Addr)) (fp : List Addr), DE (X.blk s H scope (compEnvC scope cl C X.env) fp) T O1 WF elt fe) (hs : SubL O1 O := by decide) (ho : O' = i :: O1 := by rfl) (hy : X.N[i]? = some y := by rfl) (hyl : X.env.scope.names.lookup y = some .local := by rfl)
    (hsw : swapsWith (.ListComp elt [⟨tg, iter, ifs, 0⟩] scope pos) (some (.Name y py)) spos.line X.env = pure true := by rfl) (hf : ∀ x, foldedSetIterable iter X.env x = pure x := by intro _; rfl) :
    DS X T L O O' Wx (.Assign [.Name y py] (.ListComp elt [⟨tg, iter, ifs, 0⟩] scope pos) spos) (setS i (lcE (own.map (·.2)) fi g t fe)) :=
  ps_imp (ps_setLc (g := tGt X.K T O1 O1 (List.map (fun p : Str × Nat => p.2) own) g) (tt := tT X.K T O1 WF t) (te := tE X.K T O1 WF fe) hc hN hy hyl hsw hi ok hg ht he hf) fun E σ H h => lc_rd _ _ _ (setF_rd hs ho E σ H h)
/-- x = [comprehension], known from then on -/
theorem ds_setLc (i : Nat) {y : Str} (hc : X.calm = true) (hN : X.N.Nodup) (hi : DI X T O1 Wx tg iter fi) (ok : BlkOk X.N X.env.scope scope own)
    (hg : ∀ (s : Shared) (H : Hp) (C : Addr) (cl : List (Str × Addr)) (fp : List Addr), DG (X.blk s H scope (compEnvC scope cl C X.env) fp) T O1 O1 (own.map (·.2)) tg g)
    (ht : ∀ (s : Shared) (H : Hp) (C : Addr) (cl : List (Str × Addr)) (fp : List Addr), DTs (X.blk s H scope (compEnvC scope cl C X.env) fp) T O1 WF ifs t)
    (he : ∀ (s : Shared) (H : Hp) (C : Addr) (cl : List (Str × Addr)) (fp : List Addr), DE (X.blk s H scope (compEnvC scope cl C X.env) fp) T O1 WF elt fe) (hs : SubL O1 O := by decide) (ho : O' = O1.filter (· != i) := by rfl) (hy : X.N[i]? = some y := by rfl) (hyl : X.env.scope.names.lookup y = some .local := by rfl)
    (hsw : swapsWith (.ListComp elt [⟨tg, iter, ifs, 0⟩] scope pos) (some (.Name y py)) spos.line X.env = pure true := by rfl) (hf : ∀ x, foldedSetIterable iter X.env x = pure x := by intro _; rfl) :
    DS X T L O O' Wx (.Assign [.Name y py] (.ListComp elt [⟨tg, iter, ifs, 0⟩] scope pos) spos) (setS i (lcE (own.map (·.2)) fi g t fe)) :=
  ps_imp (ps_setLc (g := tGt X.K T O1 O1 (List.map (fun p : Str × Nat => p.2) own) g) (tt := tT X.K T O1 WF t) (te := tE X.K T O1 WF fe) hc hN hy hyl hsw hi ok hg ht he hf) fun E σ H h => lc_rd _ _ _ (new_rd _ _ _ (set_rd hs ho E σ H h))
end
end
end Q

namespace Q
open PySem PySem.Spec PyProof.Rows L2
/-! ## contracts of defs -/
structure EnterH (τ : List NdefX.NTab) (wl : WlT) (G H : Hp) (w : Wl) : Prop where
  sub : Hx G H
  nt : ∀ a o, G a = some o → NoTbl o
  well : ∀ a, wl.w = some a → G a = none ∧ H a = some (.lst (w.map V.int))
  tabs : NdefX.TabsN τ H
  tv : ∀ a o, isF o = true → H a = some o → G a = some o
theorem EnterH.rel {τ : List NdefX.NTab} {wl : WlT} {G H : Hp} {w : Wl} (e : EnterH τ wl G H w) : RelH (tb0 τ) ⟨wl, G, H⟩ G H w :=
  ⟨e.sub, e.nt, fun a h => .inl h, Hx.refl _, fun a o h _ _ => h, fun a h => h, e.well, e.tabs, fun z => absurd rfl z, fun _ _ z => (nomatch z), e.tv⟩
theorem RelH.enter {T : Tb} {Γ : Ctx} {G H : Hp} {w : Wl} (R : RelH T Γ G H w) : EnterH T.tabs Γ.wl G H w := ⟨R.sub, R.nt, R.well, R.tabs, R.tv⟩
/-- behind a call -/
theorem RelH.after {T : Tb} {Γ : Ctx} {G H G1 H1 : Hp} {w w1 : Wl} (R : RelH T Γ G H w) (r : RelH (tb0 T.tabs) ⟨Γ.wl, G, H⟩ G1 H1 w1) : RelH T Γ G1 H1 w1 ∧ Stp Γ.wl G H G1 H1 :=
  ⟨⟨r.sub, r.nt, fun a h => (r.nw a h).elim (R.nw a) fun z => .inr (R.mono a z), R.g0.trans r.g0, fun a o h n t => r.keep a o (R.keep a o h n t) n t, fun a h => R.mono a (r.mono a h), r.well, r.tabs, R.fnw, R.fg0.trans r.g0, r.tv⟩,
   ⟨r.g0, fun a o h n t => r.keep a o h n t, r.nw, r.mono⟩⟩
def PostF (K : PySem.W.Frag) (τ : List NdefX.NTab) (wl : WlT) (G H : Hp) (r : Out D) (Q : VK) (E : XK) : Prop :=
  match r with
  | .fail => False
  | .ok d w' => ∀ v G' H', RelH (tb0 τ) ⟨wl, G, H⟩ G' H' w' → Is K wl G' v d → Q v H'
  | .exc c p w' => ∀ cls dd G' H', RelH (tb0 τ) ⟨wl, G, H⟩ G' H' w' → ExcIs K wl c p cls dd G' H' → E cls dd H'
/-- the promise: it does on data what g does -/
def spD (K : PySem.W.Frag) (τ : List NdefX.NTab) (n : Nat) (g : List D → M D) : Sp := fun vs H Q E => ∃ wl G w ds, EnterH τ wl G H w ∧ IsL K wl G vs ds ∧ vs.length = n ∧ PostF K τ wl G H (g ds w) Q E
/-- a def's contract; no guard stands around the call -/
structure FnG (P : Program) (w : World) (K : PySem.W.Frag) (mg : Str → Option Value) (base : Heap) (k : Nat) (f : Addr) (fd : FuncData) (ps : List Str) (sp : Sp) : Prop where
  len : ∀ vs H Q E, sp vs H Q E → vs.length = ps.length
  run : ∀ (A : Around) (outer : List PySem.Env) (s : Shared) (H : Hp) (args : Args) (us : List Value) (vs : List V) (Q : VK) (E : XK), A.guards = some [] → Room k A → Env0 P w K mg base A outer s H →
    BindsTo s fd args (ps.zip us) → Vals vs us → sp vs H Q E → codeAny (model P w) A (.call (.ref f) args) (CR (L2.CX P w) outer P w H s Q E) s
/-- what a body's context knows -/
structure Ok (k : Nat) (X : Cx) : Prop where
  room : Room k X.A
  g : X.A.guards = some []
theorem Ok.u64 {k : Nat} {X : Cx} (o : Ok k X) : X.A.units + 64 < cLine := o.room.units
abbrev bodyX (P : Program) (w : World) (K : PySem.W.Frag) (mg : Str → Option Value) (base : Heap) (N : List Str) (qual : Str) (scope : Scope) (f : Addr) (cdv : Value) (A : Around) (outer : List PySem.Env) (s : Shared) (H : Hp) (E : XK) : Cx :=
  cxOf (L2.CX P w) P w K mg base N qual scope f cdv A outer s H E
abbrev WxE (E : XK) : WX := fun cls d _ H => E cls d H
def startE (n : Nat) (ds : List D) : Env := ds.map some ++ List.replicate (n - ds.length) none
def endF (r : Out Fl) : Out D := match r with
  | .fail => .fail
  | .exc c p w => .exc c p w
  | .ok (.nx _) w => .ok .non w
  | .ok (.rt d) w => .ok d w
  | .ok _ _ => .fail
/-- a def on data, by its body -/
def fnM (n : Nat) (f : Env → M Fl) : List D → M D := fun ds w => endF (f (startE n ds) w)
section
variable {P : Program} {w : World} {K : PySem.W.Frag} {mg : Str → Option Value} {base : Heap} {τ : List NdefX.NTab}
theorem start_rel {N : List Str} {wl : WlT} {G H : Hp} {wv : Wl} {vs : List V} {ds : List D} (e : EnterH τ wl G H wv) (l : IsL K wl G vs ds) : Rel K (tb0 τ) ⟨wl, G, H⟩ [] (startE N.length ds) (L2.start N vs) G H wv := by
  refine ⟨e.rel, ?_, fun i d _ h => ?_, fun i d hi => (by cases hi), fun i j l d e hi => (by cases hi)⟩
  · simp only [startE, L2.start, List.length_append, List.length_map, List.length_replicate, l.length]
  · unfold startE at h
    rw [List.getElem?_append] at h
    by_cases hi : i < ds.length
    · rw [if_pos (by simpa using hi), List.getElem?_map] at h
      cases q : ds[i]? with
      | none => rw [q] at h; cases h
      | some d' =>
        rw [q] at h
        cases h
        obtain ⟨v, h1, h2⟩ := l.get q
        refine ⟨v, ?_, h2⟩
        unfold L2.start
        rw [List.getElem?_append, if_pos (by rw [List.length_map, l.length]; exact hi), List.getElem?_map, h1]; rfl
    · rw [if_neg (by simpa using hi), List.getElem?_replicate] at h
      split at h <;> cases h
theorem fnG_of {k : Nat} {f : Addr} {fname qual : Str} {params : Arguments} {body : List Stmt} {scope : Scope} {dV kV doc pm cdv ct oc : Value} {an od : Option Addr} {osl : Array (Option Value)} {N ps : List Str} {sp : Sp}
    (lk : K.lookup f = some ⟨oc, od, .func (PySem.W.fnOf fname qual params body scope dV kV doc pm an cdv ct), osl⟩) (hcd : PySem.W.codeIn K cdv qual = true) (S : FnScope N ps scope) (hlen : ∀ vs H Q E, sp vs H Q E → vs.length = ps.length)
    (hbody : ∀ (A : Around) (outer : List PySem.Env) (s : Shared) (H : Hp) (vs : List V) (Q : VK) (E : XK), Ok k (bodyX P w K mg base N qual scope f cdv A outer s H E) → sp vs H Q E →
      ∃ t, PSs (bodyX P w K mg base N qual scope f cdv A outer s H E) body t ∧ t { nx := fun _ H1 => Q .non H1, rt := Q } (L2.start N vs) H) :
    FnG P w K mg base (k + 1) f (PySem.W.fnOf fname qual params body scope dV kV doc pm an cdv ct) ps sp := by
  refine ⟨hlen, ?_⟩
  intro A outer s H args us vs Q E hg hr en hb rv hsp
  have up : ∀ b o, base.get? b = some o → s.heap.get? b = some o := fun b o e => (en.bs b o e).1
  have kinds : ∀ y ∈ ps.zip us, scope.names.lookup y.1 = some .local ∨ (scope.names.lookup y.1 = some .cell ∧ ((cellsFrom (s.heap.objs.size + 1) scope.names []).lookup y.1).isSome = true) := by
    rintro ⟨x, u⟩ hy
    rcases S.par x (List.of_mem_zip hy).1 with z | z
    · exact .inl z
    · exact .inr ⟨z, PySem.W.cellsFrom_some _ _ _ (.inl z)⟩
  have KH : K.In s.heap := en.mod.kin.keeps up
  refine codeAny_call_function hr.depth (KH _ _ lk) rfl S.co S.gen rfl (PySem.W.codeRec_of KH hcd) ?_
  refine hb _ _ _ _ (wpAny_newFunctionEnv_cells S.kind kinds ?_)
  rintro env he s1 x
  subst he
  refine ⟨(en.mod.nolimit.keeps up).keeps x.toInCall.keep, codeAny_func ?_⟩
  obtain ⟨t, ht, hq⟩ := hbody A outer s H vs Q E ⟨hr.deeper _, hg⟩ hsp
  have I0 : Inv (bodyX P w K mg base N qual scope f cdv A outer s H E) [] (L2.start N vs) H s1 := inv_start S hr.hd en (hlen _ _ _ _ hsp) rv x
  refine wpAny_mono (ht.run [] s1 (L2.start N vs) H _ I0 hq) ?_ (fun _ _ z => z)
  intro fl s2 hs
  cases fl with
  | ret u => obtain ⟨v, _, H2, J, ru, q⟩ := hs; exact ⟨v, H2, J.os, J.bare, J.base, J.hok, ru, q⟩
  | next => obtain ⟨_, H2, J, q⟩ := hs; exact ⟨V.non, H2, J.os, J.bare, J.base, J.hok, rfl, q⟩
  | brk => obtain ⟨_, _, _, q⟩ := hs; exact q.elim
  | cont => obtain ⟨_, _, _, q⟩ := hs; exact q.elim
theorem FnG.mono {j k : Nat} {f : Addr} {fd : FuncData} {ps : List Str} {sp : Sp} (F : FnG P w K mg base j f fd ps sp) (h : j ≤ k) : FnG P w K mg base k f fd ps sp :=
  ⟨F.len, fun A o s H a us vs Q E hg hr => F.run A o s H a us vs Q E hg (hr.mono h)⟩
/-- a def by its body, on data -/
theorem fnG_data {k : Nat} {f : Addr} {fd : FuncData} {fname qual : Str} {params : Arguments} {body : List Stmt} {scope : Scope} {dvs : List V} {kws : List (Str × V)} {N ps : List Str} {g : Env → M Fl} {O : List Nat} (F : FunD K fname qual params body scope dvs kws f fd) (S : FnScope N ps scope)
    (hbody : ∀ (cdv : Value) (A : Around) (outer : List PySem.Env) (s : Shared) (H : Hp) (E : XK), Ok k (bodyX P w K mg base N qual scope f cdv A outer s H E) →
      DSs (bodyX P w K mg base N qual scope f cdv A outer s H E) (tb0 τ) [] [] O (WxE E) body g) :
    FnG P w K mg base (k + 1) f fd ps (spD K τ ps.length (fnM N.length g)) := by
  obtain ⟨oc, od, dV, kV, doc, pm, an, cdv, ct, osl, rfl, lk, hcd, _, _⟩ := F.ex
  refine fnG_of lk hcd S (fun vs H Q E ⟨wl, G, wv, ds, _, _, h, _⟩ => h) fun A outer s H vs Q E ok ⟨wl, G, wv, ds, en, l, hl, P1⟩ => ⟨_, hbody cdv A outer s H E ok, ?_⟩
  refine ⟨⟨wl, G, H⟩, startE N.length ds, G, wv, start_rel en l, ?_⟩
  have P2 : PostF K τ wl G H (endF (g (startE N.length ds) wv)) Q E := P1
  show PostS K (tb0 τ) ⟨wl, G, H⟩ [] O (WxE E) G (g (startE N.length ds) wv) _
  cases e : g (startE N.length ds) wv with
  | fail => rw [e] at P2; exact P2
  | exc c p w' => rw [e] at P2; exact fun cls dd σ' G' H' _ r x => P2 cls dd G' H' r x
  | ok r w' =>
    rw [e] at P2
    cases r with
    | nx ρ' => exact fun σ' G' H' _ R => P2 .non G' H' R.h .non
    | rt d => exact fun v G' H' _ r i => P2 v G' H' r i
    | bk ρ' => exact False.elim P2
    | ct ρ' => exact False.elim P2
end
/-! ## calls -/
section
variable {X : Cx} {T : Tb} {O : List Nat} {Wx : WX} {k : Nat} {f : Addr} {fd : FuncData} {ps : List Str} {g : List D → M D} {x : Str} {p pos : Pos} {e : Expr} {es : List Expr} {fa : Env → M (List D)}
/-- behind a call, with the caller's slots -/
theorem Rel.after {K : PySem.W.Frag} {Γ : Ctx} {ρ : Env} {σ : L2.St} {G H G1 H1 : Hp} {w w1 : Wl} (R : Rel K T Γ O ρ σ G H w) (r : RelH (tb0 T.tabs) ⟨Γ.wl, G, H⟩ G1 H1 w1) : Rel K T Γ O ρ σ G1 H1 w1 ∧ Stp Γ.wl G H G1 H1 :=
  let ⟨h1, st⟩ := R.h.after r
  ⟨R.slots' st h1, st⟩
theorem run_fnG {pins : List (Addr × Obj)} {s : Shared} {σ : L2.St} {H : Hp} {Q : VK} {us : List Value} {vs : List V} {sp : Sp} (F : FnG X.prog X.w X.K X.mg X.base k f fd ps sp) (hr : Room k X.A) (hg : X.A.guards = some []) (tk : Takes X Wx)
    (hb : BindsTo s fd ⟨us, []⟩ (ps.zip us)) (I : Inv X pins σ H s) (r : Vals vs us) (q : sp vs H Q (WE Wx σ)) : wpAny (model X.prog X.w) X.A (call (.ref f) us) (EP X pins σ Q) X.xe s := by
  refine wpAny_call (codeAny_mono (F.run X.A X.stack s H ⟨us, []⟩ us vs Q (WE Wx σ) hg hr I.env0 hb r q) ?_)
  intro r s1 h
  cases r with
  | error e => exact passAt tk σ pins H s e s1 I h
  | ok fl =>
    cases fl with
    | ret u => exact I.after h
    | _ => exact False.elim h
/-- from a state's post to the callee's promise -/
theorem spD_of {ρ : Env} {σ : L2.St} {Γ : Ctx} {G H : Hp} {w : Wl} {vs : List V} {ds : List D} {Q : VK} {n : Nat} (R : Rel X.K T Γ O ρ σ G H w) (l : IsL X.K Γ.wl G vs ds) (hn : vs.length = n) (Pq : Post X.K T Γ O Wx ρ σ G H IsV (g ds w) Q) : spD X.K T.tabs n g vs H Q (WE Wx σ) := by
  refine ⟨Γ.wl, G, w, ds, R.h.enter, l, hn, ?_⟩
  cases e : g ds w with
  | fail => rw [e] at Pq; exact Pq
  | ok d w' =>
    rw [e] at Pq
    intro v G' H' r i
    obtain ⟨R', st⟩ := R.after r
    exact Pq v G' H' st R' i
  | exc c p w' =>
    rw [e] at Pq
    intro cls dd G' H' r z
    obtain ⟨R', st⟩ := R.after r
    exact Pq cls dd G' H' st R'.h z
def argN (n : Nat) (g : List D → M D) (fa : Env → M (List D)) : Env → M D := fun ρ => M.bind (fa ρ) fun ds => if ds.length = n then g ds else M.fail
theorem ifP' {α β : Type} {K : PySem.W.Frag} {Γ : Ctx} {ρ : Env} {σ : L2.St} {G H : Hp} {I : IR β α} {c : Prop} [Decidable c] {m : M α} {w : Wl} {Q : β → Hp → Prop} (P : Post K T Γ O Wx ρ σ G H I ((if c then m else M.fail) w) Q) : c ∧ Post K T Γ O Wx ρ σ G H I (m w) Q := by
  by_cases h : c
  · rw [if_pos h] at P; exact ⟨h, P⟩
  · rw [if_neg h] at P; exact False.elim P
/-- f(e, ..) of a def of the module -/
theorem de_call {j : Nat} (F : FnG X.prog X.w X.K X.mg X.base k f fd ps (spD X.K T.tabs ps.length g)) (ok : Ok j X) (hk : k ≤ j) (tk : Takes X Wx) (hm : X.mg x = some (.ref f)) (kp : PySem.W.keepIn X.K (.ref f) = true) (hb : Binds X.K fd ps [])
    (ha : DA X T O Wx (e :: es) fa) (hg : Gl X x := by rfl) (hdb : (x == ("__debug__" : Str)) = false := by decide) (he : starEach (e :: es) X.env = (false, eval e X.env) :: starEach es X.env := by rfl) (hpl : (backTo pos (starEach es X.env)).any (·.1) = false := by rfl) :
    DE X T O Wx (.Call (.Name x p) (e :: es) [] pos) (argN ps.length g fa) := by
  refine ⟨fun pins s σ H Q I h => ?_⟩
  refine wpAny_Call_Name_kw (ld_glob I hg hm ?_ hdb)
  obtain ⟨Γ, ρ, G, w, R, Pq⟩ := h
  have q : tL X.K T O Wx fa σ H (fun vs H1 => spD X.K T.tabs ps.length g vs H1 Q (WE Wx σ)) := post_bind R Pq fun vs ds G1 H1 w1 st R1 l P1 => by
    obtain ⟨hn, P2⟩ := ifP' P1
    exact spD_of R1 l (l.length.trans hn) P2
  refine PySem.W.callWith_K (h₀ := X.base) I.ok.mod.kin kp (thn (ha.run pos pins s σ H _ I q) ?_) he hpl
  rintro us s1 ⟨vs, H1, I1, rv, q1⟩
  refine ⟨I1.kIn, run_fnG F (ok.room.mono hk) ok.g tk ?_ I1 rv q1⟩
  have hl : us.length = ps.length := by rw [← rv.length]; exact F.len _ _ _ _ q1
  have := hb s1 us I1.kIn (by rw [List.append_nil]; exact hl)
  rw [List.append_nil] at this
  exact this
theorem de_call0 {j : Nat} (F : FnG X.prog X.w X.K X.mg X.base k f fd [] (spD X.K T.tabs 0 g)) (ok : Ok j X) (hk : k ≤ j) (tk : Takes X Wx) (hm : X.mg x = some (.ref f)) (kp : PySem.W.keepIn X.K (.ref f) = true) (hb : Binds X.K fd [] [])
    (hg : Gl X x := by rfl) (hdb : (x == ("__debug__" : Str)) = false := by decide) : DE X T O Wx (.Call (.Name x p) [] [] pos) (fun _ => g []) := by
  refine ⟨fun pins s σ H Q I h => ?_⟩
  refine wpAny_Call_Name_kw (ld_glob I hg hm ?_ hdb)
  obtain ⟨Γ, ρ, G, w, R, Pq⟩ := h
  exact PySem.W.callWith_K0 I.kIn kp (run_fnG F (ok.room.mono hk) ok.g tk (hb s [] I.kIn rfl) I .nil (spD_of R .nil rfl Pq))
/-- how the keywords' values come to their parameters: places, by the values as they are written -/
def permL {α : Type} (ix : List Nat) (xs : List α) : List α := ix.filterMap fun i => xs[i]?
theorem permL_rel {K : PySem.W.Frag} {wl : WlT} {G : Hp} {vs : List V} {ds : List D} (l : IsL K wl G vs ds) : ∀ ix : List Nat, IsL K wl G (permL ix vs) (permL ix ds)
  | [] => .nil
  | i :: ix => by
    unfold permL
    rw [List.filterMap_cons, List.filterMap_cons]
    cases e : ds[i]? with
    | none =>
      have : vs[i]? = none := List.getElem?_eq_none_iff.mpr (by rw [l.length]; exact List.getElem?_eq_none_iff.mp e)
      rw [this]; exact permL_rel l ix
    | some d =>
      obtain ⟨v, h1, h2⟩ := l.get e
      rw [h1]; exact .cons h2 (permL_rel l ix)
theorem permL_vals {vs : List V} {us : List Value} (l : Vals vs us) : ∀ ix : List Nat, Vals (permL ix vs) (permL ix us)
  | [] => .nil
  | i :: ix => by
    unfold permL
    rw [List.filterMap_cons, List.filterMap_cons]
    cases e : vs[i]? with
    | none => rw [l.none_of e]; exact permL_vals l ix
    | some d =>
      obtain ⟨v, h1, h2⟩ := l.get e
      rw [h1]; exact .cons h2 (permL_vals l ix)
def DK (X : Cx) (T : Tb) (O : List Nat) (Wx : WX) (ks : List Keyword) (f : Env → M (List D)) : Prop := PK X ks (tL X.K T O Wx f)
theorem pk_imp {X : Cx} {ks : List Keyword} {t t' : TA} (h : PK X ks t) (hi : ∀ σ H Q, t' σ H Q → t σ H Q) : PK X ks t' := ⟨fun p pins s σ H Q I q => h.run p pins s σ H Q I (hi _ _ _ q)⟩
theorem dk_nil : DK X T O Wx [] nilA := pk_imp pk_nil fun σ H Q ⟨Γ, ρ, G, w, R, P⟩ => Post.ok P R .nil
theorem dk_cons {nm : Option Str} {kpos : Pos} {ks : List Keyword} {fe : Env → M D} {fr : Env → M (List D)} (ha : DE X T O Wx e fe) (hr : DK X T O Wx ks fr) : DK X T O Wx (⟨nm, e, kpos⟩ :: ks) (consA fe fr) :=
  pk_imp (pk_cons ha hr) fun σ H Q ⟨Γ, ρ, G, w, R, P⟩ => post_bind R P fun v d G1 H1 w1 x1 R1 i1 P1 => post_bind R1 P1 fun vs ds G2 H2 w2 x2 R2 i2 P2 =>
    Post.ok P2 R2 (.cons (i1.mono x2.x) i2)
end
end Q

namespace Q
open PySem PySem.Spec PyProof.Rows L2
section
variable {X : Cx} {T : Tb} {O : List Nat} {Wx : WX} {k : Nat} {f : Addr} {fd : FuncData} {ps ks : List Str} {g : List D → M D} {x : Str} {p pos : Pos} {e : Expr} {es : List Expr} {kws : List Keyword} {fa fk : Env → M (List D)} {ix : List Nat}
/-- the values as they are written (by position, then by keyword) come to the parameters by places -/
def KwB (K : PySem.W.Frag) (fd : FuncData) (ps ks : List Str) (n : Nat) (ix : List Nat) : Prop :=
  ∀ (s : Shared) (us ws : List Value), K.In s.heap → us.length = n → ws.length = ks.length → BindsTo s fd ⟨us, ks.zip ws⟩ (ps.zip (permL ix (us ++ ws)))
theorem run_fnGK {pins : List (Addr × Obj)} {s : Shared} {σ : L2.St} {H : Hp} {Q : VK} {us ws : List Value} {vs : List V} {sp : Sp} (F : FnG X.prog X.w X.K X.mg X.base k f fd ps sp) (hr : Room k X.A) (hg : X.A.guards = some []) (tk : Takes X Wx)
    (hb : BindsTo s fd ⟨us, ks.zip ws⟩ (ps.zip (permL ix (us ++ ws)))) (I : Inv X pins σ H s) (r : Vals vs (permL ix (us ++ ws))) (q : sp vs H Q (WE Wx σ)) : wpAny (model X.prog X.w) X.A (call (.ref f) us (ks.zip ws)) (EP X pins σ Q) X.xe s := by
  refine wpAny_call (codeAny_mono (F.run X.A X.stack s H ⟨us, ks.zip ws⟩ _ vs Q (WE Wx σ) hg hr I.env0 hb r q) ?_)
  intro r s1 h
  cases r with
  | error e => exact passAt tk σ pins H s e s1 I h
  | ok fl =>
    cases fl with
    | ret u => exact I.after h
    | _ => exact False.elim h
def argK (n m : Nat) (ix : List Nat) (g : List D → M D) (fa fk : Env → M (List D)) : Env → M D := fun ρ => M.bind (fa ρ) fun ds => M.bind (fk ρ) fun es =>
  if ds.length = n ∧ es.length = m ∧ (permL ix (ds ++ es)).length = ix.length then g (permL ix (ds ++ es)) else M.fail
theorem de_callK {j : Nat} (n : Nat) (ks : List Str) (ix : List Nat) (F : FnG X.prog X.w X.K X.mg X.base k f fd ps (spD X.K T.tabs ps.length g)) (ok : Ok j X) (hk : k ≤ j) (tk : Takes X Wx) (hm : X.mg x = some (.ref f)) (kp : PySem.W.keepIn X.K (.ref f) = true) (hb : KwB X.K fd ps ks n ix) (hix : ix.length = ps.length)
    (ha : DA X T O Wx (e :: es) fa) (hkw : DK X T O Wx kws fk) (hg : Gl X x := by rfl) (hdb : (x == ("__debug__" : Str)) = false := by decide)
    (hall : (backToKw pos (keywordEach kws X.env)).all (·.1.isSome) = true := by rfl) (hks : (backToKw pos (keywordEach kws X.env)).filterMap (·.1) = ks := by rfl) (he : starEach (e :: es) X.env = (false, eval e X.env) :: starEach es X.env := by rfl)
    (hpl : ((backTo pos (starEach (e :: es) X.env)).any (·.1) || (backToKw pos (keywordEach kws X.env)).any (·.1.isNone)) = false := by rfl) :
    DE X T O Wx (.Call (.Name x p) (e :: es) kws pos) (argK n ks.length ix g fa fk) := by
  refine ⟨fun pins s σ H Q I h => ?_⟩
  refine wpAny_Call_Name_kw (ld_glob I hg hm ?_ hdb)
  obtain ⟨Γ, ρ, G, w, R, Pq⟩ := h
  have q : tL X.K T O Wx fa σ H (fun vs H1 => tL X.K T O Wx fk σ H1 (fun zs H2 => vs.length = n ∧ zs.length = ks.length ∧ spD X.K T.tabs ps.length g (permL ix (vs ++ zs)) H2 Q (WE Wx σ))) := post_bind R Pq fun vs ds G1 H1 w1 st R1 l P1 =>
    post_bind R1 P1 fun zs ds2 G2 H2 w2 st2 R2 l2 P2 => by
    obtain ⟨⟨h1, h2, h3⟩, P3⟩ := ifP' P2
    have l3 := permL_rel ((l.mono st2.x).append l2) ix
    exact ⟨l.length.trans h1, l2.length.trans h2, spD_of R2 l3 (by rw [l3.length, h3, hix]) P3⟩
  refine PySem.W.callWith_KW (h₀ := X.base) I.ok.mod.kin kp hall (thn (ha.run pos pins s σ H _ I q) ?_) hpl he
  rintro us s1 ⟨vs, H1, I1, rv, q1⟩
  refine thn (hkw.run pos pins s1 σ H1 _ I1 q1) ?_
  rintro ws s2 ⟨zs, H2, I2, rz, hn, hz, q2⟩
  refine ⟨I2.kIn, ?_⟩
  rw [hks]
  have rr := permL_vals (rv.append rz) ix
  exact run_fnGK F (ok.room.mono hk) ok.g tk (hb s2 us ws I2.kIn (by rw [← rv.length]; exact hn) (by rw [← rz.length]; exact hz)) I2 rr q2
theorem de_callK0 {j : Nat} (ks : List Str) (ix : List Nat) (F : FnG X.prog X.w X.K X.mg X.base k f fd ps (spD X.K T.tabs ps.length g)) (ok : Ok j X) (hk : k ≤ j) (tk : Takes X Wx) (hm : X.mg x = some (.ref f)) (kp : PySem.W.keepIn X.K (.ref f) = true) (hb : KwB X.K fd ps ks 0 ix) (hix : ix.length = ps.length)
    (hkw : DK X T O Wx kws fk) (hg : Gl X x := by rfl) (hdb : (x == ("__debug__" : Str)) = false := by decide)
    (hall : (backToKw pos (keywordEach kws X.env)).all (·.1.isSome) = true := by rfl) (hks : (backToKw pos (keywordEach kws X.env)).filterMap (·.1) = ks := by rfl)
    (hpl : (backToKw pos (keywordEach kws X.env)).any (·.1.isNone) = false := by rfl) :
    DE X T O Wx (.Call (.Name x p) [] kws pos) (argK 0 ks.length ix g nilA fk) := by
  refine ⟨fun pins s σ H Q I h => ?_⟩
  refine wpAny_Call_Name_kw (ld_glob I hg hm ?_ hdb)
  obtain ⟨Γ, ρ, G, w, R, Pq⟩ := h
  have q : tL X.K T O Wx fk σ H (fun zs H2 => zs.length = ks.length ∧ spD X.K T.tabs ps.length g (permL ix zs) H2 Q (WE Wx σ)) := post_bind R Pq fun zs ds2 G2 H2 w2 st2 R2 l2 P2 => by
    obtain ⟨⟨h1, h2, h3⟩, P3⟩ := ifP' P2
    have l3 := permL_rel l2 ix
    rw [List.nil_append] at P3 h3
    exact ⟨l2.length.trans h2, spD_of R2 l3 (by rw [l3.length, h3, hix]) P3⟩
  refine PySem.W.callWith_KW0 (h₀ := X.base) I.ok.mod.kin kp hall (thn (hkw.run pos pins s σ H _ I q) ?_) hpl
  rintro ws s2 ⟨zs, H2, I2, rz, hz, q2⟩
  refine ⟨I2.kIn, ?_⟩
  rw [hks]
  have rr := permL_vals (us := [] ++ ws) rz ix
  exact run_fnGK (us := []) F (ok.room.mono hk) ok.g tk (hb s2 [] ws I2.kIn rfl (by rw [← rz.length]; exact hz)) I2 rr q2
end
end Q

namespace Q
open PySem PySem.Spec PyProof.Rows L2
theorem kwB_of {K : PySem.W.Frag} {x qual : Str} {params : Arguments} {body : List Stmt} {scope : Scope} {kws : List (Str × V)} {f : Addr} {fd : FuncData} {ps ks : List Str} {n : Nat} {ix : List Nat} (F : FunD K x qual params body scope [] kws f fd)
    (h : ∀ (kV doc pm : Value) (an : Option Addr) (cdv ct : Value) (us ws : List Value), us.length = n → ws.length = ks.length → bindArgs (PySem.W.fnOf x qual params body scope .none kV doc pm an cdv ct) ⟨us, ks.zip ws⟩ = pure (ps.zip (permL ix (us ++ ws)))) : KwB K fd ps ks n ix := by
  obtain ⟨oc, od, dV, kV, doc, pm, an, cdv, ct, osl, rfl, lk, hcd, hd, _⟩ := F.ex
  intro s us ws _ h1 h2
  rcases hd with ⟨_, rfl⟩ | ⟨hn, _⟩
  · exact .of_eq (h kV doc pm an cdv ct us ws h1 h2)
  · exact absurd rfl hn
/-! ## built-in functions -/
abbrev CallSp (K : PySem.W.Frag) (T : Tb) (r : List V → Hp → VK → Prop) (g : List D → M D) : Prop :=
  ∀ (Γ : Ctx) (O : List Nat) (Wx : WX) (ρ : Env) (σ : L2.St) (G H : Hp) (w : Wl) (vs : List V) (ds : List D) (Q : VK), Rel K T Γ O ρ σ G H w → IsL K Γ.wl G vs ds → Post K T Γ O Wx ρ σ G H IsV (g ds w) Q → r vs H Q
def CallOk (X : Cx) (T : Tb) (f : Value) (g : List D → M D) : Prop := ∃ r, CallR X f r ∧ CallSp X.K T r g
section
variable {X : Cx} {T : Tb} {O : List Nat} {Wx : WX} {x : Str} {p pos : Pos} {e : Expr} {es : List Expr} {g : List D → M D} {fa : Env → M (List D)} {bid : String}
theorem callE_ok {r : List V → Hp → VK → Prop} (h : CallSp X.K T r g) (σ : L2.St) (H : Hp) (Q : VK) : tE X.K T O Wx (argE g fa) σ H Q → tCB r (tL X.K T O Wx fa) σ H Q :=
  fun ⟨Γ, ρ, G, w, R, P⟩ => post_bind R P fun vs ds G1 H1 w1 st R1 l P1 => h Γ O Wx ρ σ G1 H1 w1 vs ds Q R1 l P1
theorem de_callB (ho : CallOk X T (.builtin bid) g) (hm : X.mg x = none) (hv : bootBuiltins x = some (.builtin bid)) (ha : DA X T O Wx (e :: es) fa) (hg : Gl X x := by rfl) (hn : x ≠ "__name__" := by decide) (hdb : (x == ("__debug__" : Str)) = false := by decide)
    (he : starEach (e :: es) X.env = (false, eval e X.env) :: starEach es X.env := by rfl) (hpl : (backTo pos (starEach es X.env)).any (·.1) = false := by rfl) : DE X T O Wx (.Call (.Name x p) (e :: es) [] pos) (argE g fa) := by
  obtain ⟨r, h1, h2⟩ := ho
  exact pe_imp (pe_callB h1 hg hm hv ha hn hdb he hpl) (callE_ok h2)
theorem de_callTy (ho : CallOk X T (.type bid) g) (hm : X.mg x = none) (hv : bootBuiltins x = some (.type bid)) (ha : DA X T O Wx (e :: es) fa) (hg : Gl X x := by rfl) (hn : x ≠ "__name__" := by decide) (hdb : (x == ("__debug__" : Str)) = false := by decide)
    (he : starEach (e :: es) X.env = (false, eval e X.env) :: starEach es X.env := by rfl) (hpl : (backTo pos (starEach es X.env)).any (·.1) = false := by rfl) : DE X T O Wx (.Call (.Name x p) (e :: es) [] pos) (argE g fa) := by
  obtain ⟨r, h1, h2⟩ := ho
  exact pe_imp (pe_callTy h1 hg hm hv ha hn hdb he hpl) (callE_ok h2)
theorem boot_abs' : bootBuiltins "abs" = some (.builtin "abs") := by decide +kernel
theorem boot_int' : bootBuiltins "int" = some (.type "int") := by decide +kernel
theorem boot_max' : bootBuiltins "max" = some (.builtin "max") := by decide +kernel
theorem boot_min' : bootBuiltins "min" = some (.builtin "min") := by decide +kernel
theorem boot_sum' : bootBuiltins "sum" = some (.builtin "sum") := by decide +kernel
theorem boot_all' : bootBuiltins "all" = some (.builtin "all") := by decide +kernel
theorem boot_any' : bootBuiltins "any" = some (.builtin "any") := by decide +kernel
theorem boot_tuple' : bootBuiltins "tuple" = some (.type "tuple") := by decide +kernel
theorem boot_list' : bootBuiltins "list" = some (.type "list") := by decide +kernel
theorem boot_divmod' : bootBuiltins "divmod" = some (.builtin "divmod") := by decide +kernel
theorem boot_repr' : bootBuiltins "repr" = some (.builtin "repr") := by decide +kernel
theorem boot_sorted' : bootBuiltins "sorted" = some (.builtin "sorted") := by decide +kernel
theorem boot_isinstance' : bootBuiltins "isinstance" = some (.builtin "isinstance") := by decide +kernel
theorem boot_bool' : bootBuiltins "bool" = some (.type "bool") := by decide +kernel
theorem boot_str' : bootBuiltins "str" = some (.type "str") := by decide +kernel
theorem boot_dict' : bootBuiltins "dict" = some (.type "dict") := by decide +kernel
theorem boot_len' : bootBuiltins "len" = some (.builtin "len") := by decide +kernel
theorem boot_set' : bootBuiltins "set" = some (.type "set") := by decide +kernel
def lenD : List D → M D
  | [.str s] => if s.length ≤ sizeLine then M.pure (.int (s.length : Nat)) else M.fail
  | [.tup xs] => M.pure (.int (xs.length : Nat))
  | [.lst xs] => M.pure (.int (xs.length : Nat))
  | [.scr xs] => M.pure (.int (xs.length : Nat))
  | _ => M.fail
theorem ok_len : CallOk X T (.builtin "len") lenD := by
  refine ⟨_, call_len, fun Γ O Wx ρ σ G H w vs ds Q R l P => ?_⟩
  cases l with
  | nil => exact False.elim P
  | cons i l =>
    cases l with
    | cons _ _ => cases i <;> exact False.elim P
    | nil =>
      cases i with
      | str s =>
        obtain ⟨h, P⟩ := ifP' P
        exact ⟨_, _, rfl, ⟨h, rfl⟩, Post.ok P R (.int _)⟩
      | tup s l => exact ⟨_, _, rfl, .inr ⟨_, R.h.sub.tq s, rfl⟩, by rw [l.length]; exact Post.ok P R (.int _)⟩
      | lst s l => exact ⟨_, _, rfl, .inl ⟨_, SqL.of (R.h.sub _ _ s), rfl⟩, by rw [l.length]; exact Post.ok P R (.int _)⟩
      | scr s l => exact ⟨_, _, rfl, .inl ⟨_, R.h.sub.sqL s, rfl⟩, by rw [l.length]; exact Post.ok P R (.int _)⟩
      | _ => exact False.elim P
def intD : List D → M D
  | [.int i] => M.pure (.int i)
  | [.bl k] => M.pure (.int (if k then 1 else 0))
  | _ => M.fail
theorem ok_int : CallOk X T (.type "int") intD := by
  refine ⟨_, call_int1, fun Γ O Wx ρ σ G H w vs ds Q R l P => ?_⟩
  cases l with
  | nil => exact False.elim P
  | cons i l =>
    cases l with
    | cons _ _ => cases i <;> exact False.elim P
    | nil =>
      cases i with
      | int i => exact .inl ⟨_, rfl, Post.ok P R (.int _)⟩
      | bl i => exact .inr ⟨_, rfl, Post.ok P R (.int _)⟩
      | _ => exact False.elim P
def absD : List D → M D
  | [.int i] => M.pure (.int (if i < 0 then -i else i))
  | _ => M.fail
theorem ok_abs : CallOk X T (.builtin "abs") absD := by
  refine ⟨_, call_abs, fun Γ O Wx ρ σ G H w vs ds Q R l P => ?_⟩
  cases l with
  | nil => exact False.elim P
  | cons i l =>
    cases l with
    | cons _ _ => cases i <;> exact False.elim P
    | nil =>
      cases i with
      | int i => exact ⟨_, rfl, Post.ok P R (.int _)⟩
      | _ => exact False.elim P
/-- a list of whole numbers -/
def intsD : List D → Option (List Int)
  | [] => some []
  | .int i :: r => (intsD r).map (i :: ·)
  | _ :: _ => none
theorem intsD_eq : ∀ {ds : List D} {ns : List Int}, intsD ds = some ns → ds = ns.map D.int
  | [], ns, h => by cases h; rfl
  | .int i :: r, ns, h => by
    unfold intsD at h
    cases e : intsD r with
    | none => rw [e] at h; cases h
    | some ms =>
      rw [e] at h
      cases h
      rw [intsD_eq e]; rfl
theorem intsD_map (ns : List Int) : intsD (ns.map D.int) = some ns := by
  induction ns with
  | nil => rfl
  | cons n ns ih => rw [List.map_cons]; unfold intsD; rw [ih]; rfl
def blsD : List D → Option (List Bool)
  | [] => some []
  | .bl i :: r => (blsD r).map (i :: ·)
  | _ :: _ => none
theorem blsD_eq : ∀ {ds : List D} {ns : List Bool}, blsD ds = some ns → ds = ns.map D.bl
  | [], ns, h => by cases h; rfl
  | .bl i :: r, ns, h => by
    unfold blsD at h
    cases e : blsD r with
    | none => rw [e] at h; cases h
    | some ms =>
      rw [e] at h
      cases h
      rw [blsD_eq e]; rfl
theorem blsD_map (ns : List Bool) : blsD (ns.map D.bl) = some ns := by
  induction ns with
  | nil => rfl
  | cons n ns ih => rw [List.map_cons]; unfold blsD; rw [ih]; rfl
theorem IsL.ofBls {K : PySem.W.Frag} {wl : WlT} {G : Hp} : ∀ {vs : List V} {ns : List Bool}, IsL K wl G vs (ns.map D.bl) → vs = ns.map V.bl
  | [], [], _ => rfl
  | v :: vs, n :: ns, .cons h hl => by
    cases h
    rw [IsL.ofBls (ns := ns) hl]; rfl
def maxI : List Int → Int
  | [] => 0
  | [a] => a
  | a :: r => max a (maxI r)
def minI : List Int → Int
  | [] => 0
  | [a] => a
  | a :: r => min a (minI r)
theorem maxI_mem : ∀ {l : List Int}, l ≠ [] → maxI l ∈ l
  | [], h => absurd rfl h
  | [a], _ => by simp [maxI]
  | a :: b :: r, _ => by
    have := maxI_mem (l := b :: r) (by simp)
    show max a (maxI (b :: r)) ∈ a :: b :: r
    rcases Int.le_total a (maxI (b :: r)) with h | h
    · rw [Int.max_eq_right h]; exact List.mem_cons_of_mem _ this
    · rw [Int.max_eq_left h]; exact List.mem_cons_self
theorem le_maxI : ∀ {l : List Int} {y : Int}, y ∈ l → y ≤ maxI l
  | [a], y, h => by simp at h; simp [maxI, h]
  | a :: b :: r, y, h => by
    show y ≤ max a (maxI (b :: r))
    rcases List.mem_cons.mp h with rfl | h
    · exact Int.le_max_left _ _
    · exact Int.le_trans (le_maxI h) (Int.le_max_right _ _)
theorem minI_mem : ∀ {l : List Int}, l ≠ [] → minI l ∈ l
  | [], h => absurd rfl h
  | [a], _ => by simp [minI]
  | a :: b :: r, _ => by
    have := minI_mem (l := b :: r) (by simp)
    show min a (minI (b :: r)) ∈ a :: b :: r
    rcases Int.le_total a (minI (b :: r)) with h | h
    · rw [Int.min_eq_left h]; exact List.mem_cons_self
    · rw [Int.min_eq_right h]; exact List.mem_cons_of_mem _ this
theorem minI_le : ∀ {l : List Int} {y : Int}, y ∈ l → minI l ≤ y
  | [a], y, h => by simp at h; simp [minI, h]
  | a :: b :: r, y, h => by
    show min a (minI (b :: r)) ≤ y
    rcases List.mem_cons.mp h with rfl | h
    · exact Int.min_le_left _ _
    · exact Int.le_trans (Int.min_le_right _ _) (minI_le h)
def maxD : List D → M D
  | [.int i, .int j] => M.pure (.int (if j > i then j else i))
  | [.lst xs] => match intsD xs with
    | some ns => if ns ≠ [] then M.pure (.int (maxI ns)) else M.fail
    | none => M.fail
  | _ => M.fail
def minD : List D → M D
  | [.int i, .int j] => M.pure (.int (if j < i then j else i))
  | [.lst xs] => match intsD xs with
    | some ns => if ns ≠ [] then M.pure (.int (minI ns)) else M.fail
    | none => M.fail
  | _ => M.fail
theorem ok_max (hc : X.calm = true) : CallOk X T (.builtin "max") maxD := by
  refine ⟨_, (call_max2 hc).or (cr_max hc), fun Γ O Wx ρ σ G H w vs ds Q R l P => ?_⟩
  cases l with
  | nil => exact False.elim P
  | cons i l =>
    cases l with
    | cons i2 l =>
      cases l with
      | cons _ _ => cases i <;> cases i2 <;> exact False.elim P
      | nil => cases i <;> cases i2 <;> first | exact False.elim P | exact .inl ⟨_, _, rfl, Post.ok P R (.int _)⟩
    | nil =>
      cases i with
      | @lst a vs ds s l =>
        have P' : Post X.K T Γ O Wx ρ σ G H IsV (maxD [.lst ds] w) Q := P
        simp only [maxD] at P'
        cases e : intsD ds with
        | none => simp only [e] at P'; exact False.elim P'
        | some ns =>
          simp only [e] at P'
          obtain ⟨h, P'⟩ := ifP' P'
          cases intsD_eq e
          cases l.ofInts
          refine .inr ⟨a, ns, rfl, SqL.of (R.h.sub _ _ s), List.length_pos_iff.mpr h, fun m hm hle => ?_⟩
          have : m = maxI ns := Int.le_antisymm (le_maxI hm) (hle _ (maxI_mem h))
          subst this
          exact Post.ok P' R (.int _)
      | _ => exact False.elim P
theorem ok_min (hc : X.calm = true) : CallOk X T (.builtin "min") minD := by
  refine ⟨_, (call_min2 hc).or (cr_min hc), fun Γ O Wx ρ σ G H w vs ds Q R l P => ?_⟩
  cases l with
  | nil => exact False.elim P
  | cons i l =>
    cases l with
    | cons i2 l =>
      cases l with
      | cons _ _ => cases i <;> cases i2 <;> exact False.elim P
      | nil => cases i <;> cases i2 <;> first | exact False.elim P | exact .inl ⟨_, _, rfl, Post.ok P R (.int _)⟩
    | nil =>
      cases i with
      | @lst a vs ds s l =>
        have P' : Post X.K T Γ O Wx ρ σ G H IsV (minD [.lst ds] w) Q := P
        simp only [minD] at P'
        cases e : intsD ds with
        | none => simp only [e] at P'; exact False.elim P'
        | some ns =>
          simp only [e] at P'
          obtain ⟨h, P'⟩ := ifP' P'
          cases intsD_eq e
          cases l.ofInts
          refine .inr ⟨a, ns, rfl, SqL.of (R.h.sub _ _ s), List.length_pos_iff.mpr h, fun m hm hle => ?_⟩
          have : m = minI ns := Int.le_antisymm (hle _ (minI_mem h)) (minI_le hm)
          subst this
          exact Post.ok P' R (.int _)
      | _ => exact False.elim P
def sumD : List D → M D
  | [.lst xs] => match intsD xs with
    | some ns => M.pure (.int ns.sum)
    | none => M.fail
  | _ => M.fail
theorem ok_sum (hc : X.calm = true) : CallOk X T (.builtin "sum") sumD := by
  refine ⟨_, cr_sum hc, fun Γ O Wx ρ σ G H w vs ds Q R l P => ?_⟩
  cases l with
  | nil => exact False.elim P
  | cons i l =>
    cases l with
    | cons _ _ => cases i <;> exact False.elim P
    | nil =>
      cases i with
      | @lst a vs ds s l =>
        have P' : Post X.K T Γ O Wx ρ σ G H IsV (sumD [.lst ds] w) Q := P
        simp only [sumD] at P'
        cases e : intsD ds with
        | none => simp only [e] at P'; exact False.elim P'
        | some ns =>
          simp only [e] at P'
          cases intsD_eq e
          cases l.ofInts
          exact ⟨a, ns, rfl, SqL.of (R.h.sub _ _ s), Post.ok P' R (.int _)⟩
      | _ => exact False.elim P
def allD : List D → M D
  | [.lst xs] => match blsD xs with
    | some ns => M.pure (.bl (ns.all id))
    | none => M.fail
  | _ => M.fail
def anyD : List D → M D
  | [.lst xs] => match blsD xs with
    | some ns => M.pure (.bl (ns.any id))
    | none => M.fail
  | _ => M.fail
theorem ok_all (hc : X.calm = true) : CallOk X T (.builtin "all") allD := by
  refine ⟨_, cr_all hc, fun Γ O Wx ρ σ G H w vs ds Q R l P => ?_⟩
  cases l with
  | nil => exact False.elim P
  | cons i l =>
    cases l with
    | cons _ _ => cases i <;> exact False.elim P
    | nil =>
      cases i with
      | @lst a vs ds s l =>
        have P' : Post X.K T Γ O Wx ρ σ G H IsV (allD [.lst ds] w) Q := P
        simp only [allD] at P'
        cases e : blsD ds with
        | none => simp only [e] at P'; exact False.elim P'
        | some ns =>
          simp only [e] at P'
          cases blsD_eq e
          cases l.ofBls
          exact ⟨a, ns, rfl, SqL.of (R.h.sub _ _ s), Post.ok P' R (.bl _)⟩
      | _ => exact False.elim P
theorem ok_any (hc : X.calm = true) : CallOk X T (.builtin "any") anyD := by
  refine ⟨_, cr_any hc, fun Γ O Wx ρ σ G H w vs ds Q R l P => ?_⟩
  cases l with
  | nil => exact False.elim P
  | cons i l =>
    cases l with
    | cons _ _ => cases i <;> exact False.elim P
    | nil =>
      cases i with
      | @lst a vs ds s l =>
        have P' : Post X.K T Γ O Wx ρ σ G H IsV (anyD [.lst ds] w) Q := P
        simp only [anyD] at P'
        cases e : blsD ds with
        | none => simp only [e] at P'; exact False.elim P'
        | some ns =>
          simp only [e] at P'
          cases blsD_eq e
          cases l.ofBls
          exact ⟨a, ns, rfl, SqL.of (R.h.sub _ _ s), Post.ok P' R (.bl _)⟩
      | _ => exact False.elim P
def tupleD : List D → M D
  | [.lst xs] => M.pure (.tup xs)
  | [.tup xs] => M.pure (.tup xs)
  | _ => M.fail
theorem ok_tuple : CallOk X T (.type "tuple") tupleD := by
  refine ⟨_, call_tuple_of, fun Γ O Wx ρ σ G H w vs ds Q R l P => ?_⟩
  cases l with
  | nil => exact False.elim P
  | cons i l =>
    cases l with
    | cons _ _ => cases i <;> exact False.elim P
    | nil =>
      cases i with
      | @lst a vs ds s l => exact ⟨a, vs, rfl, .inl ⟨SqL.of (R.h.sub _ _ s), fun p hp => Post.new P R hp noTup (.tup upd_same (l.mono (hx_upd (R.h.gnone hp))))⟩⟩
      | @tup a vs ds s l => exact ⟨a, vs, rfl, .inr ⟨R.h.sub.tq s, Post.ok P R (.tup s l)⟩⟩
      | _ => exact False.elim P
def listD : List D → M D
  | [.lst xs] => M.pure (.lst xs)
  | [.tup xs] => M.pure (.lst xs)
  | [.scr xs] => M.pure (.lst xs)
  | _ => M.fail
/-- list(xs): a new object -/
theorem df_list (hm : X.mg "list" = none) (ha : DA X T O Wx (e :: es) fa) (hg : Gl X "list" := by rfl) (hn : ("list" : Str) ≠ "__name__" := by decide) (hdb : (("list" : Str) == ("__debug__" : Str)) = false := by decide)
    (he : starEach (e :: es) X.env = (false, eval e X.env) :: starEach es X.env := by rfl) (hpl : (backTo pos (starEach es X.env)).any (·.1) = false := by rfl) : DF X T O Wx (.Call (.Name "list" p) (e :: es) [] pos) (argE listD fa) :=
  pe_imp (pe_callTy call_list_of hg hm boot_list' ha hn hdb he hpl) fun σ H Q ⟨Γ, ρ, G, w, R, P⟩ => postN_bind R P fun vs ds G1 H1 w1 st R l P => by
    cases l with
    | nil => exact False.elim P
    | cons i l =>
      cases l with
      | cons _ _ => cases i <;> exact False.elim P
      | nil =>
        cases i with
        | @lst a vs ds s l => exact ⟨a, vs, rfl, .inl (SqL.of (R.h.sub _ _ s)), fun p hp => PostN.new P R hp noLst (.lst l)⟩
        | @tup a vs ds s l => exact ⟨a, vs, rfl, .inr (R.h.sub.tq s), fun p hp => PostN.new P R hp noLst (.lst l)⟩
        | @scr a vs ds s l => exact ⟨a, vs, rfl, .inl (R.h.sub.sqL s), fun p hp => PostN.new P R hp noLst (.lst l)⟩
        | _ => exact False.elim P
def divmodD : List D → M D
  | [.int i, .int j] => if CDiv i j then M.pure (.tup [.int (i / j), .int (i % j)]) else M.fail
  | _ => M.fail
theorem ok_divmod : CallOk X T (.builtin "divmod") divmodD := by
  refine ⟨_, call_divmod, fun Γ O Wx ρ σ G H w vs ds Q R l P => ?_⟩
  cases l with
  | nil => exact False.elim P
  | cons i l =>
    cases l with
    | nil => cases i <;> exact False.elim P
    | cons i2 l =>
      cases l with
      | cons _ _ => cases i <;> cases i2 <;> exact False.elim P
      | nil =>
        cases i <;> cases i2 <;> first | exact False.elim P | skip
        obtain ⟨h, P⟩ := ifP' P
        exact ⟨_, _, rfl, h, fun p hp => Post.new P R hp noTup (.tup upd_same (.cons (.int _) (.cons (.int _) .nil)))⟩
end
/-! ## repr -/
def repOk (d : D) : Bool := match d with
  | .tup _ | .lst _ => d.pyOk && (d.py.showable && (decide (d.py.hasDict = false) && (decide (d.py.depth ≤ 60) && decide (d.py.shown.length ≤ sizeLine))))
  | .non | .bl _ => true
  | .int i => decide (i.natAbs.log2 < 1920)
  | _ => false
def reprD : List D → M D
  | [d] => if repOk d = true then M.pure (.str d.py.shown) else M.fail
  | _ => M.fail
section
variable {X : Cx} {T : Tb}
theorem call_reprD (hg : X.A.guards = some []) (hu : X.A.units + 64 < cLine) : CallR X (.builtin "repr") (fun xs H Q => (∃ a d, xs = [V.ref a] ∧ Dp X.K H (.ref a) d ∧ d.showable = true ∧ d.hasDict = false ∧ d.depth ≤ 60 ∧ d.shown.length ≤ sizeLine ∧ Q (.str d.shown) H) ∨
    (xs = [V.non] ∧ Q (.str "None") H) ∨ (∃ b, xs = [V.bl b] ∧ Q (.str (if b = true then "True" else "False")) H) ∨ ∃ i, xs = [V.int i] ∧ i.natAbs.log2 < 1920 ∧ Q (.str (toString i)) H) := by
  intro pins s σ H xs us Q I r h
  rcases h with ⟨a, d, e, hd, h1, h2, h3, h4, q⟩ | ⟨e, q⟩ | ⟨b, e, q⟩ | ⟨i, e, hi, q⟩
  · subst e
    obtain ⟨u, rfl, ru⟩ := vals1 r
    obtain rfl : u = Value.ref a := ru
    obtain ⟨as, rd⟩ := Dp.reads I d _ _ hd rfl
    refine repr_of_reads' rd h1 (PyData.noDict_hsm h2) hg (by omega) (fun _ _ e => e) (fun h' t tk hk => ?_) h4
    exact ⟨.str d.shown, H, I.kept hk, ⟨t, rfl⟩, q⟩
  · subst e
    obtain ⟨u, rfl, ru⟩ := vals1 r
    obtain rfl : u = Value.none := ru
    exact P.repr_of_none ⟨.str "None", H, I.kept fun _ _ e => e, ⟨_, rfl⟩, q⟩
  · subst e
    obtain ⟨u, rfl, ru⟩ := vals1 r
    obtain rfl : u = Value.bool b := ru
    exact P.repr_of_bool ⟨.str (if b = true then "True" else "False"), H, I.kept fun _ _ e => e, ⟨_, rfl⟩, q⟩
  · subst e
    obtain ⟨u, rfl, ru⟩ := vals1 r
    obtain ⟨t, rfl⟩ : ∃ t, u = Value.int i t := ru
    exact P.repr_of_int hi ⟨.str (toString i), H, I.kept fun _ _ e => e, ⟨_, rfl⟩, q⟩
theorem ok_repr {k : Nat} (ok : Ok k X) : CallOk X T (.builtin "repr") reprD := by
  refine ⟨_, call_reprD ok.g ok.u64, fun Γ O Wx ρ σ G H w vs ds Q R l P => ?_⟩
  cases l with
  | nil => exact False.elim P
  | cons i l =>
    cases l with
    | cons _ _ => exact False.elim P
    | nil =>
      obtain ⟨h, P⟩ := ifP' P
      have fin : ∀ {a : Addr} {d : D}, Is X.K Γ.wl G (.ref a) d → (d.pyOk && (d.py.showable && (decide (d.py.hasDict = false) && (decide (d.py.depth ≤ 60) && decide (d.py.shown.length ≤ sizeLine))))) = true → Post X.K T Γ O Wx ρ σ G H IsV (M.pure (D.str d.py.shown) w) Q →
          ∃ a' d', [V.ref a] = [V.ref a'] ∧ Dp X.K H (.ref a') d' ∧ d'.showable = true ∧ d'.hasDict = false ∧ d'.depth ≤ 60 ∧ d'.shown.length ≤ sizeLine ∧ Q (.str d'.shown) H := fun {a d} i h P => by
        simp only [Bool.and_eq_true, decide_eq_true_eq] at h
        obtain ⟨h1, h2, h3, h4, h5⟩ := h
        exact ⟨a, d.py, rfl, i.dp R.h.sub h1, h2, h3, h4, h5, Post.ok P R (.str _)⟩
      cases i with
      | @tup a vs ds s l => exact .inl (fin (.tup s l) h P)
      | @lst a vs ds s l => exact .inl (fin (.lst s l) h P)
      | non => exact .inr (.inl ⟨rfl, Post.ok P R (.str _)⟩)
      | bl b => exact .inr (.inr (.inl ⟨b, rfl, Post.ok P R (.str _)⟩))
      | int i => exact .inr (.inr (.inr ⟨i, rfl, of_decide_eq_true h, Post.ok P R (.str _)⟩))
      | _ => cases h
end
end Q

namespace Q
open PySem PySem.Spec PyProof.Rows L2
/-! ## receivers: a value, or an owned object as it stands -/
def IsX (K : PySem.W.Frag) (Γ : Ctx) (G H : Hp) (v : V) (d : D) : Prop := Is K Γ.wl G v d ∨ ∃ l o, v = .ref l ∧ H l = some o ∧ NoTbl o ∧ Γ.wl.w ≠ some l ∧ G l = none ∧ Γ.B l = none ∧ IsO K Γ.wl G o d
/-- keys -/
def dkey : D → Option (Key ⊕ List Key)
  | .int i => some (.inl (.inl i))
  | .str s => some (.inl (.inr s))
  | .tup ds => (keysOf ds).map Sum.inr
  | _ => none
mutual
def sameKey : D → D → Bool
  | .int i, .int j => decide (i = j)
  | .str i, .str j => decide (i = j)
  | .tup xs, .tup ys => sameKeys xs ys
  | _, _ => false
def sameKeys : List D → List D → Bool
  | [], [] => true
  | x :: xs, y :: ys => sameKey x y && sameKeys xs ys
  | _, _ => false
end
theorem sameKey_kD (a k : Key) : sameKey (kD a) (kD k) = decide (a = k) := by
  cases a <;> cases k <;> simp [kD, sameKey]
theorem sameKeys_kD : ∀ (a k : List Key), sameKeys (a.map kD) (k.map kD) = decide (a = k)
  | [], [] => by simp [sameKeys]
  | [], b :: k => by simp [sameKeys]
  | a :: r, [] => by simp [sameKeys]
  | a :: r, b :: k => by
    rw [List.map_cons, List.map_cons]
    unfold sameKeys
    rw [sameKey_kD, sameKeys_kD r k]
    by_cases e : a = b <;> by_cases e2 : r = k <;> simp [e, e2]
theorem sameKey_kT (a k : List Key) : sameKey (kT a) (kT k) = decide (a = k) := by
  unfold kT sameKey
  exact sameKeys_kD a k
def lkpD : List (D × D) → D → Option D
  | [], _ => none
  | (a, b) :: r, k => if sameKey a k = true then some b else lkpD r k
def putD (kvs : List (D × D)) (k v : D) : List (D × D) := if (kvs.any fun kv => sameKey kv.1 k) = true then kvs.map (fun kv => if sameKey kv.1 k = true then (kv.1, v) else kv) else kvs ++ [(k, v)]
/-- keys of the kind that the dict takes -/
def keyIn (t : Bool) (k : D) : Bool := match t, k with
  | false, .int _ => true
  | false, .str _ => true
  | true, .tup ds => (keysOf ds).isSome
  | _, _ => false
theorem keyOf_eq {d : D} {k : Key} (h : keyOf d = some k) : d = kD k := by
  cases d <;> first | (cases h; rfl) | cases h
theorem keysOf_eq : ∀ {ds : List D} {ks : List Key}, keysOf ds = some ks → ds = ks.map kD
  | [], ks, h => by cases h; rfl
  | d :: ds, ks, h => by
    unfold keysOf at h
    cases e1 : keyOf d with
    | none => rw [e1] at h; cases h
    | some k =>
      cases e2 : keysOf ds with
      | none => rw [e1, e2] at h; cases h
      | some ls =>
        rw [e1, e2] at h
        cases h
        rw [keyOf_eq e1, keysOf_eq e2]; rfl
section
variable {K : PySem.W.Frag} {wl : WlT} {G H : Hp}
theorem Is.key {v : V} {k : Key} (h : Is K wl G v (kD k)) : v = kV k := by
  cases k <;> (cases h; rfl)
theorem IsL.keys : ∀ {vs : List V} {ks : List Key}, IsL K wl G vs (ks.map kD) → vs = ks.map kV
  | [], [], _ => rfl
  | v :: vs, k :: ks, .cons h hl => by rw [Is.key h, IsL.keys (ks := ks) hl]; rfl
theorem Is.ofKey (k : Key) : Is K wl G (kV k) (kD k) := by
  cases k with
  | inl i => exact .int i
  | inr s => exact .str s
theorem IsL.ofKeys : ∀ (ks : List Key), IsL K wl G (ks.map kV) (ks.map kD)
  | [] => .nil
  | k :: ks => .cons (Is.ofKey k) (IsL.ofKeys ks)
/-- what both tables hold -/
def IsOp (K : PySem.W.Frag) (wl : WlT) (G : Hp) (a : Option V) (b : Option D) : Prop := match a, b with
  | none, none => True
  | some v, some d => Is K wl G v d
  | _, _ => False
theorem lk_rel {κ : Type} [DecidableEq κ] (f : κ → D) (hf : ∀ a k, sameKey (f a) (f k) = decide (a = k)) : ∀ {kvs : List (κ × V)} {ds : List (D × D)}, ds.map (·.1) = kvs.map (fun p => f p.1) → IsL K wl G (kvs.map (·.2)) (ds.map (·.2)) → ∀ k, IsOp K wl G (valV kvs k) (lkpD ds (f k))
  | [], [], _, _, k => trivial
  | [], _ :: _, h, _, _ => by cases h
  | _ :: _, [], h, _, _ => by cases h
  | (a, v) :: kvs, (b, d) :: ds, h, .cons h1 h2, k => by
    rw [List.map_cons, List.map_cons] at h
    obtain ⟨e, h3⟩ := List.cons.inj h
    have e : b = f a := e
    subst e
    unfold lkpD
    rw [hf a k]
    by_cases z : a = k
    · rw [valV_pos z, if_pos (by simpa using z)]; exact h1
    · rw [valV_neg z, if_neg (by simpa using z)]
      exact lk_rel f hf (kvs := kvs) (ds := ds) h3 h2 k
theorem any_rel {κ : Type} [DecidableEq κ] (f : κ → D) (hf : ∀ a k, sameKey (f a) (f k) = decide (a = k)) : ∀ {kvs : List (κ × V)} {ds : List (D × D)}, ds.map (·.1) = kvs.map (fun p => f p.1) → ∀ k, (kvs.any fun kv => decide (kv.1 = k)) = ds.any fun kv => sameKey kv.1 (f k)
  | [], [], _, k => rfl
  | [], _ :: _, h, _ => by cases h
  | _ :: _, [], h, _ => by cases h
  | (a, v) :: kvs, (b, d) :: ds, h, k => by
    rw [List.map_cons, List.map_cons] at h
    obtain ⟨e, h3⟩ := List.cons.inj h
    have e : b = f a := e
    subst e
    rw [List.any_cons, List.any_cons, any_rel f hf h3 k, hf a k]
theorem map_rel {κ : Type} [DecidableEq κ] (f : κ → D) (hf : ∀ a k, sameKey (f a) (f k) = decide (a = k)) {v : V} {d : D} (hv : Is K wl G v d) (k : κ) : ∀ {kvs : List (κ × V)} {ds : List (D × D)}, ds.map (·.1) = kvs.map (fun p => f p.1) → IsL K wl G (kvs.map (·.2)) (ds.map (·.2)) →
    (ds.map (fun kv => if sameKey kv.1 (f k) = true then (kv.1, d) else kv)).map (·.1) = (kvs.map (fun kv => if kv.1 = k then (kv.1, v) else kv)).map (fun p => f p.1) ∧
    IsL K wl G ((kvs.map (fun kv => if kv.1 = k then (kv.1, v) else kv)).map (·.2)) ((ds.map (fun kv => if sameKey kv.1 (f k) = true then (kv.1, d) else kv)).map (·.2))
  | [], [], _, _ => ⟨rfl, .nil⟩
  | [], _ :: _, h, _ => by cases h
  | _ :: _, [], h, _ => by cases h
  | (a, v1) :: kvs, (b, d1) :: ds, h, .cons h1 h2 => by
    rw [List.map_cons, List.map_cons] at h
    obtain ⟨e, h3⟩ := List.cons.inj h
    have e : b = f a := e
    subst e
    obtain ⟨i1, i2⟩ := map_rel f hf hv k h3 h2
    simp only [List.map_cons, hf a k]
    by_cases z : a = k
    · simp only [z, decide_true, if_true]
      exact ⟨by rw [i1], .cons hv i2⟩
    · simp only [z, decide_false, if_false, Bool.false_eq_true]
      exact ⟨by rw [i1], .cons h1 i2⟩
theorem put_rel {κ : Type} [DecidableEq κ] (f : κ → D) (hf : ∀ a k, sameKey (f a) (f k) = decide (a = k)) {kvs : List (κ × V)} {ds : List (D × D)} (h : ds.map (·.1) = kvs.map (fun p => f p.1)) (hl : IsL K wl G (kvs.map (·.2)) (ds.map (·.2))) (k : κ) {v : V} {d : D} (hv : Is K wl G v d) :
    (putD ds (f k) d).map (·.1) = (putK kvs k v).map (fun p => f p.1) ∧ IsL K wl G ((putK kvs k v).map (·.2)) ((putD ds (f k) d).map (·.2)) := by
  unfold putD putK
  rw [any_rel f hf h k]
  split
  · exact map_rel f hf hv k h hl
  · rw [List.map_append, List.map_append, List.map_append, List.map_append, h]
    exact ⟨rfl, hl.append (.cons hv .nil)⟩
theorem kvs_len {κ : Type} {f : κ → D} {kvs : List (κ × V)} {ds : List (D × D)} (h : ds.map (·.1) = kvs.map (fun p => f p.1)) : kvs.length = ds.length := by
  have := congrArg List.length h
  simpa using this.symm
end
/-! ## d[k] -/
def dgetD (t : Bool) (kvs : List (D × D)) (k : D) : M (Option D) := if keyIn t k = true then M.pure (lkpD kvs k) else M.fail
section
variable {K : PySem.W.Frag} {T : Tb} {Γ : Ctx} {O : List Nat} {Wx : WX} {ρ : Env} {σ : L2.St} {G H : Hp} {w : Wl}
theorem keyIn_rel {t : Bool} {y : V} {k : D} (e : Hx G H) (hk : keyIn t k = true) (i : Is K Γ.wl G y k) : (t = false ∧ ∃ q : Key, k = kD q ∧ y = kV q) ∨ (t = true ∧ ∃ (q : List Key) (b : Addr), k = kT q ∧ y = .ref b ∧ H b = some (.tup (q.map kV))) := by
  cases t with
  | false =>
    cases k <;> first | cases hk | skip
    · rename_i n; cases i; exact .inl ⟨rfl, .inl n, rfl, rfl⟩
    · rename_i s; cases i; exact .inl ⟨rfl, .inr s, rfl, rfl⟩
  | true =>
    cases k <;> first | cases hk | skip
    rename_i ds
    cases q : keysOf ds with
    | none => simp [keyIn, q] at hk
    | some ks =>
      have := keysOf_eq q
      subst this
      cases i with
      | @tup a vs _ s l =>
        have := l.keys
        subst this
        exact .inr ⟨rfl, ks, a, rfl, rfl, e _ _ s⟩
/-- a dict receiver at a key -/
theorem dget_rel {a : Addr} {o : HO} {t : Bool} {kvs : List (D × D)} {y : V} {k : D} (e : Hx G H) (ha : H a = some o) (io : IsO K Γ.wl G o (.dct t kvs)) (hk : keyIn t k = true) (i : Is K Γ.wl G y k) : ∃ r, DGet H a y r ∧ IsOp K Γ.wl G r (lkpD kvs k) := by
  cases io with
  | dK h hl =>
    rcases keyIn_rel e hk i with ⟨_, q, rfl, rfl⟩ | ⟨z, _⟩
    · exact ⟨_, DGet.k ha, lk_rel kD sameKey_kD h hl q⟩
    · cases z
  | dT h hl =>
    rcases keyIn_rel e hk i with ⟨z, _⟩ | ⟨_, q, b, rfl, rfl, hb⟩
    · cases z
    · exact ⟨_, DGet.t ha hb, lk_rel kT sameKey_kT h hl q⟩
/-- an object in the view as an object -/
theorem Is.dct {v : V} {t : Bool} {kvs : List (D × D)} (i : Is K Γ.wl G v (.dct t kvs)) : ∃ a o, v = .ref a ∧ G a = some o ∧ IsO K Γ.wl G o (.dct t kvs) := by
  cases i with
  | dK h k l => exact ⟨_, _, rfl, h, .dK k l⟩
  | dT h k l => exact ⟨_, _, rfl, h, .dT k l⟩
theorem IsX.dct {v : V} {t : Bool} {kvs : List (D × D)} (e : Hx G H) (i : IsX K Γ G H v (.dct t kvs)) : ∃ a o, v = .ref a ∧ H a = some o ∧ IsO K Γ.wl G o (.dct t kvs) := by
  rcases i with i | ⟨l, o, rfl, h, _, _, _, _, io⟩
  · obtain ⟨a, o, rfl, h, io⟩ := i.dct
    exact ⟨a, o, rfl, e _ _ h, io⟩
  · exact ⟨l, o, rfl, h, io⟩
theorem IsX.lst {v : V} {ds : List D} (e : Hx G H) (i : IsX K Γ G H v (.lst ds)) : ∃ a vs, v = .ref a ∧ H a = some (.lst vs) ∧ IsL K Γ.wl G vs ds := by
  rcases i with i | ⟨l, o, rfl, h, _, _, _, _, io⟩
  · cases i with
    | lst s l => exact ⟨_, _, rfl, e _ _ s, l⟩
  · cases io with
    | lst l => exact ⟨_, _, rfl, h, l⟩
theorem IsX.val {v : V} {d : D} (i : IsX K Γ G H v d) (h1 : ∀ ds, d ≠ .lst ds) (h2 : ∀ t ds, d ≠ .dct t ds) : Is K Γ.wl G v d := by
  rcases i with i | ⟨l, o, rfl, h, _, _, _, _, io⟩
  · exact i
  · cases io with
    | lst l => exact absurd rfl (h1 _)
    | dK k l => exact absurd rfl (h2 _ _)
    | dT k l => exact absurd rfl (h2 _ _)
theorem Rel.ownX {i : Nat} {d : D} (R : Rel K T Γ O ρ σ G H w) (hi : i ∈ O) (e : ρ[i]? = some (some d)) : ∃ v, σ[i]? = some (some v) ∧ IsX K Γ G H v d := by
  obtain ⟨l, o, h1, h2, h3, h4, h5, h6, h7⟩ := R.own i d hi e
  exact ⟨_, h1, .inr ⟨l, o, rfl, h5, h6, h4, h2, h3, h7⟩⟩
theorem IsX.up {v : V} {d : D} {G1 H1 : Hp} (i : IsX K Γ G H v d) (st : Stp Γ.wl G H G1 H1) : IsX K Γ G1 H1 v d := by
  rcases i with i | ⟨l, o, rfl, h, n, nw, g, b, io⟩
  · exact .inl (i.mono st.x)
  · refine .inr ⟨l, o, rfl, st.kp _ _ h nw n, n, nw, ?_, b, io.mono st.x⟩
    cases q : G1 l with
    | none => rfl
    | some u =>
      rcases st.nw l (by rw [q]; exact fun z => nomatch z) with z | z
      · exact absurd g z
      · rw [h] at z; cases z
end
def rIxD : R2 := fun x y H Q => ∃ a v, x = .ref a ∧ DGet H a y (some v) ∧ Q v H
theorem ix_dict {X : Cx} (hu : X.A.units + 1 < cLine) : IxR X rIxD := by
  intro value slice pins s σ H x y v u Q I rx ry ⟨a, z, ex, g, q⟩ hs
  subst ex
  obtain rfl : v = Value.ref a := rx
  exact tail_any (ops := [.ref a, u]) (dict_typeIs I g) PySem.F.slot_dict_getitem.lookup (d_getItem hu I g ry fun w' s' I' rw' => ⟨z, H, I', rw', q⟩) hs
/-- a[b], with dicts and the well -/
def ixX : D → D → M D
  | .well, .int i => fun w => match atI w i with
    | some n => .ok (.int n) w
    | none => .fail
  | .dct t kvs, k => if keyIn t k = true then (match lkpD kvs k with
    | some d => M.pure d
    | none => M.fail) else M.fail
  | d, e => ixD d e
abbrev RcSp (K : PySem.W.Frag) (T : Tb) (r : R2) (op : D → D → M D) : Prop :=
  ∀ (Γ : Ctx) (O : List Nat) (Wx : WX) (ρ : Env) (σ : L2.St) (G H : Hp) (w : Wl) (x y : V) (d e : D) (Q : VK), Rel K T Γ O ρ σ G H w → IsX K Γ G H x d → Is K Γ.wl G y e → Post K T Γ O Wx ρ σ G H IsV (op d e w) Q → r x y H Q
theorem atI_map {α β : Type} {f : α → β} {l : List α} {i : Int} : L2.atI (l.map f) i = (L2.atI l i).map f := by
  unfold L2.atI
  rw [List.length_map]
  cases ixN l.length i with
  | none => rfl
  | some j => show (l.map f)[j]? = (l[j]?).map f; rw [List.getElem?_map]
section
variable {X : Cx} {T : Tb} {O : List Nat} {Wx : WX} {a b : Expr} {fa fb : Env → M D} {pos : Pos}
theorem rc_ix : RcSp X.K T (fun x y H Q => rIx X.K x y H Q ∨ rIxD x y H Q) ixX := by
  intro Γ O Wx ρ σ G H w x y d e Q R i1 i2 P
  have seqL : ∀ {ds : List D} {i : Int}, Post X.K T Γ O Wx ρ σ G H IsV ((match atI ds i with | some d => M.pure d | none => M.fail : M D) w) Q → ∃ d, atI ds i = some d ∧ Post X.K T Γ O Wx ρ σ G H IsV (.ok d w) Q := fun {ds i} P => by
    cases q : L2.atI ds i with
    | none => rw [q] at P; exact False.elim P
    | some d => rw [q] at P; exact ⟨d, rfl, P⟩
  by_cases hl : ∃ ds, d = .lst ds
  · obtain ⟨ds, rfl⟩ := hl
    obtain ⟨a, vs, rfl, h, l⟩ := i1.lst R.h.sub
    cases i2 <;> first | exact False.elim P | skip
    rename_i i
    obtain ⟨d, q, P2⟩ := seqL P
    obtain ⟨v, h1, h2⟩ := l.atI q
    exact .inl (.inl ⟨a, vs, i, v, rfl, rfl, SqL.of h, h1, Post.ok P2 R h2⟩)
  by_cases hd : ∃ t ds, d = .dct t ds
  · obtain ⟨t, ds, rfl⟩ := hd
    obtain ⟨a, o, rfl, h, io⟩ := i1.dct R.h.sub
    have P' : Post X.K T Γ O Wx ρ σ G H IsV ((if keyIn t e = true then (match lkpD ds e with | some d => M.pure d | none => M.fail) else M.fail) w) Q := P
    obtain ⟨hk, P2⟩ := ifP P'
    obtain ⟨r, g, ir⟩ := dget_rel R.h.sub h io hk i2
    cases q : lkpD ds e with
    | none => rw [q] at P2; exact False.elim P2
    | some d =>
      rw [q] at P2 ir
      cases r with
      | none => exact False.elim ir
      | some v => exact .inr ⟨a, v, rfl, g, Post.ok P2 R ir⟩
  have i1 := i1.val (fun ds z => hl ⟨ds, z⟩) (fun t ds z => hd ⟨t, ds, z⟩)
  cases i1 <;> cases i2 <;> first | exact False.elim P | skip
  case tup.int a vs ds s l i =>
    obtain ⟨d, q, P2⟩ := seqL P
    obtain ⟨v, h1, h2⟩ := l.atI q
    exact .inl (.inr (.inl ⟨a, vs, i, v, rfl, rfl, R.h.sub.tq s, h1, Post.ok P2 R h2⟩))
  case scr.int a vs ds s l i =>
    obtain ⟨d, q, P2⟩ := seqL P
    obtain ⟨v, h1, h2⟩ := l.atI q
    exact .inl (.inl ⟨a, vs, i, v, rfl, rfl, R.h.sub.sqL s, h1, Post.ok P2 R h2⟩)
  case str.int s i =>
    have P' : Post X.K T Γ O Wx ρ σ G H IsV (ixD (.str s) (.int i) w) Q := P
    unfold ixD at P'
    obtain ⟨hl, P'⟩ := ifP P'
    cases e : L2.atI s.cps.toList i with
    | none => simp only [e] at P'; exact False.elim P'
    | some c =>
      simp only [e] at P'
      exact .inl (.inr (.inr ⟨s, i, c, rfl, rfl, hl, e, Post.ok P' R (.str _)⟩))
  case well.int a hw i =>
    have P' : Post X.K T Γ O Wx ρ σ G H IsV (match atI w i with | some n => .ok (.int n) w | none => .fail) Q := P
    cases q : L2.atI w i with
    | none => rw [q] at P'; exact False.elim P'
    | some n =>
      rw [q] at P'
      refine .inl (.inl ⟨a, w.map V.int, i, .int n, rfl, rfl, SqL.of (R.h.well a hw).2, ?_, Post.ok P' R (.int n)⟩)
      rw [atI_map, q]; rfl
  all_goals first | exact absurd ⟨_, rfl⟩ hl | exact absurd ⟨_, _, rfl⟩ hd
/-- a[b] -/
theorem de_at (hu : X.A.units + 64 < cLine) (ha : DE X T O Wx a fa) (hb : DE X T O Wx b fb) (hs : PlainIx b := by exact fun _ _ => rfl) : DE X T O Wx (.Subscript a b pos) (bin2 ixX fa fb) :=
  pe_imp (pe_ix (ix_seq.or (ix_dict (by omega))) ha hb hs) (bin2_ok fun Γ O Wx ρ σ G H w x y d e Q R i1 i2 P => rc_ix Γ O Wx ρ σ G H w x y d e Q R (.inl i1) i2 P)
/-- a name as it stands, owned or not, then an expression -/
def binO (op : D → D → M D) (i : Nat) (fb : Env → M D) : Env → M D := fun ρ => M.bind (fb ρ) fun y => M.bind (getV ρ i) fun x => op x y
theorem getV_ok {α β : Type} {K : PySem.W.Frag} {I : IR β α} {k : D → M α} {Γ : Ctx} {ρ : Env} {σ : L2.St} {G H : Hp} {w : Wl} {i : Nat} {Q : β → Hp → Prop} (hi : i ∈ O) (R : Rel K T Γ O ρ σ G H w) (P : Post K T Γ O Wx ρ σ G H I (M.bind (getV ρ i) k w) Q) :
    ∃ d v, ρ[i]? = some (some d) ∧ σ[i]? = some (some v) ∧ IsX K Γ G H v d ∧ Post K T Γ O Wx ρ σ G H I (k d w) Q := by
  simp only [getV, M.bind] at P
  cases e : ρ[i]? with
  | none => rw [e] at P; exact False.elim P
  | some o =>
    cases o with
    | none => rw [e] at P; exact False.elim P
    | some d =>
      rw [e] at P
      obtain ⟨v, h1, h2⟩ := R.ownX hi e
      exact ⟨d, v, rfl, h1, h2, P⟩
theorem own_slot {K : PySem.W.Frag} {α β : Type} {I : IR β α} {f : Env → M α} {Γ : Ctx} {ρ : Env} {σ : L2.St} {G H : Hp} {w : Wl} {i : Nat} {Q : β → Hp → Prop} {R2 : V → Hp → Prop} (hi : i ∈ O) (R : Rel K T Γ O ρ σ G H w)
    (hs : ∃ d v, ρ[i]? = some (some d) ∧ σ[i]? = some (some v)) (h : ∀ v, σ[i]? = some (some v) → R2 v H) : ∃ v, σ[i]? = some (some v) ∧ R2 v H := by
  obtain ⟨d, v, h1, h2⟩ := hs
  exact ⟨v, h2, h v h2⟩
/-- name[b], the name owned -/
def ixOE (i : Nat) (fb : Env → M D) : Env → M D := fun ρ => M.bind (getV ρ i) fun x => M.bind (fb ρ) fun y => ixX x y
theorem de_atO (i : Nat) {x : Str} {pos' : Pos} (hu : X.A.units + 64 < cLine) (hb : DE X T O Wx b fb) (hO : i ∈ O := by decide) (hN : X.N[i]? = some x := by rfl) (hv : Vis X.env.scope x := by first | exact Or.inl rfl | exact Or.inr (Or.inl rfl) | exact Or.inr (Or.inr rfl)) (hd : (x == ("__debug__" : Str)) = false := by decide)
    (hcd : (x == ("__classdict__" : Str)) = false := by decide) (hs : PlainIx b := by exact fun _ _ => rfl) : DE X T O Wx (.Subscript (.Name x pos') b pos) (ixOE i fb) :=
  pe_imp (pe_ix (ix_seq.or (ix_dict (by omega))) (pv i hN hv hd hcd) hb hs) fun σ H Q ⟨Γ, ρ, G, w, R, P⟩ => by
    obtain ⟨d, v, h1, h2, h3, P2⟩ := getV_ok hO R P
    refine ⟨v, h2, ?_⟩
    exact post_bind R P2 fun y e G1 H1 w1 st R1 i1 P3 => rc_ix Γ O Wx ρ σ G1 H1 w1 v y d e Q R1 (h3.up st) i1 P3
end
end Q

namespace Q
open PySem PySem.Spec PyProof.Rows L2
/-! ## writes -/
def rSetD : V → V → V → Hp → (Hp → Prop) → Prop := fun o i v H Q => ∃ a H', o = .ref a ∧ DPut H a i v H' ∧ Q H'
theorem set_dict {X : Cx} (hu : X.A.units + 1 < cLine) : PSet X rSetD := by
  intro pins s σ H o i v ov iv u Q I ro ri rv ⟨a, H', e, g, q⟩
  subst e
  obtain rfl : ov = Value.ref a := ro
  exact d_setItem hu I g ri rv fun s' I' => ⟨H', I', q⟩
theorem PSet.or {X : Cx} {t t' : V → V → V → Hp → (Hp → Prop) → Prop} (h : PSet X t) (h' : PSet X t') : PSet X fun o i v H Q => t o i v H Q ∨ t' o i v H Q := by
  intro pins s σ H o i v ov iv u Q I ro ri rv q
  rcases q with q | q
  · exact h pins s σ H o i v ov iv u Q I ro ri rv q
  · exact h' pins s σ H o i v ov iv u Q I ro ri rv q
theorem noDK {xs : List (Key × V)} : NoTbl (.dK xs) := fun _ z => nomatch z
theorem noDT {xs : List (List Key × V)} : NoTbl (.dT xs) := fun _ z => nomatch z
/-- d[k] = v on data -/
def setAt : D → D → D → Option D
  | .lst xs, .int k, v => match ixN xs.length k with
    | some j => some (.lst (xs.set j v))
    | none => none
  | .dct t kvs, k, v => if keyIn t k = true ∧ kvs.length < sizeLine then some (.dct t (putD kvs k v)) else none
  | _, _, _ => none
section
variable {K : PySem.W.Frag} {T : Tb} {Γ : Ctx} {O : List Nat} {ρ : Env} {σ : L2.St} {G H : Hp} {w : Wl}
theorem setAt_rel {l : Addr} {o : HO} {d k v d' : D} {y z : V} (e : Hx G H) (hl : H l = some o) (io : IsO K Γ.wl G o d) (iy : Is K Γ.wl G y k) (iz : Is K Γ.wl G z v) (h : setAt d k v = some d') :
    ∃ o', NoTbl o' ∧ IsO K Γ.wl G o' d' ∧ ∀ Q : Hp → Prop, Q (upd H l o') → rSetL (.ref l) y z H Q ∨ rSetD (.ref l) y z H Q := by
  cases io with
  | @lst vs ds il =>
    cases k <;> first | cases h | skip
    rename_i i
    simp only [setAt] at h
    cases q : ixN ds.length i with
    | none => rw [q] at h; cases h
    | some j =>
      rw [q] at h
      cases h
      cases iy
      exact ⟨.lst (vs.set j z), noLst, .lst (il.set iz j), fun Q hQ => .inl ⟨l, vs, i, j, rfl, rfl, hl, by rw [il.length]; exact q, hQ⟩⟩
  | @dK kk ds h1 h2 =>
    simp only [setAt] at h
    split at h
    · rename_i c
      cases h
      rcases keyIn_rel e c.1 iy with ⟨_, q, rfl, rfl⟩ | ⟨z, _⟩
      · obtain ⟨p1, p2⟩ := put_rel kD sameKey_kD h1 h2 q iz
        exact ⟨.dK (putK kk q z), noDK, .dK p1 p2, fun Q hQ => .inr ⟨l, _, rfl, DPut.k hl (by rw [kvs_len h1]; exact c.2), hQ⟩⟩
      · cases z
    · cases h
  | @dT kk ds h1 h2 =>
    simp only [setAt] at h
    split at h
    · rename_i c
      cases h
      rcases keyIn_rel e c.1 iy with ⟨z, _⟩ | ⟨_, q, b, rfl, rfl, hb⟩
      · cases z
      · obtain ⟨p1, p2⟩ := put_rel kT sameKey_kT h1 h2 q iz
        exact ⟨.dT (putK kk q z), noDT, .dT p1 p2, fun Q hQ => .inr ⟨l, _, rfl, DPut.t hl hb (by rw [kvs_len h1]; exact c.2), hQ⟩⟩
    · cases h
/-- the well written -/
theorem Rel.putW {a : Addr} {w' : Wl} (R : Rel K T Γ O ρ σ G H w) (ha : Γ.wl.w = some a) : Rel K T Γ O ρ σ G (upd H a (.lst (w'.map V.int))) w' ∧ Stp Γ.wl G H G (upd H a (.lst (w'.map V.int))) := by
  obtain ⟨h1, h2⟩ := R.h.well a ha
  have nl : ∀ {b : Addr} {x : HO}, G b = some x → b ≠ a := fun {b x} q z => by rw [z, h1] at q; cases q
  have mn : ∀ b, upd H a (.lst (w'.map V.int)) b = none → H b = none := fun b q => by
    by_cases z : b = a
    · subst z; rw [upd_same] at q; cases q
    · rw [upd_ne z] at q; exact q
  refine ⟨⟨⟨fun b x q => by rw [upd_ne (nl q)]; exact R.h.sub _ _ q, R.h.nt, R.h.nw, R.h.g0, fun b x q n t => ?_, fun b q => R.h.mono _ (mn b q), fun b q => ?_, ?_, R.h.fnw, R.h.fg0, fun b us hf q => ?_⟩, R.len, R.fro, fun j f hj h => ?_, R.inj⟩, ⟨Hx.refl _, fun b u q n t => ?_, fun b q => .inl q, mn⟩⟩
  · have z : b ≠ a := fun z => n (by rw [ha, z])
    rw [upd_ne z]; exact R.h.keep _ _ q n t
  · rw [ha] at q; cases q
    exact ⟨h1, upd_same⟩
  · intro u hu
    obtain ⟨ps, q1, q2⟩ := R.h.tabs u hu
    have z : u.1 ≠ a := fun z => by rw [z, h2] at q1; cases q1
    refine ⟨ps, by rw [upd_ne z]; exact q1, q2.1, fun pos cv hc => ?_⟩
    obtain ⟨c, r1, r2⟩ := q2.2 pos cv hc
    have z2 : c ≠ a := fun z => by rw [z, h2] at r2; cases r2
    exact ⟨c, r1, by rw [upd_ne z2]; exact r2⟩
  · have z : b ≠ a := fun z => by rw [z, upd_same] at q; cases q; cases hf
    rw [upd_ne z] at q; exact R.h.tv _ _ hf q
  · obtain ⟨m, u', q1, q2, q3, q4, q5, q6⟩ := R.own j f hj h
    have z : m ≠ a := fun z => q4 (by rw [ha, z])
    exact ⟨m, u', q1, q2, q3, q4, by rw [upd_ne z]; exact q5, q6⟩
  · have z : b ≠ a := fun z => n (by rw [ha, z])
    rw [upd_ne z]; exact q
end
section
variable {X : Cx} {T : Tb} {L O O1 O2 O' xs : List Nat} {Wx : WX} {a b e val : Expr} {es : List Expr} {fa fb fv : Env → M D} {fas : Env → M (List D)} {pos p1 p2 p3 : Pos}
theorem getS_ok {K : PySem.W.Frag} {k : D → M Fl} {Γ : Ctx} {ρ : Env} {σ : L2.St} {G G0 H : Hp} {w : Wl} {i : Nat} {E : Ends} (hi : i ∈ O) (R : Rel K T Γ O ρ σ G H w) (P : PostS K T Γ L O' Wx G0 (M.bind (getV ρ i) k w) E) :
    ∃ d v, ρ[i]? = some (some d) ∧ σ[i]? = some (some v) ∧ PostS K T Γ L O' Wx G0 (k d w) E := by
  simp only [getV, M.bind] at P
  cases e : ρ[i]? with
  | none => rw [e] at P; exact False.elim P
  | some o =>
    cases o with
    | none => rw [e] at P; exact False.elim P
    | some d =>
      rw [e] at P
      obtain ⟨v, h1, _⟩ := R.ownX hi e
      exact ⟨d, v, rfl, h1, P⟩
def optM {α : Type} : Option α → M α
  | some a => M.pure a
  | none => M.fail
theorem optS {K : PySem.W.Frag} {α : Type} {k : α → M Fl} {Γ : Ctx} {G0 : Hp} {w : Wl} {E : Ends} {o : Option α} (P : PostS K T Γ L O' Wx G0 (M.bind (optM o) k w) E) : ∃ a, o = some a ∧ PostS K T Γ L O' Wx G0 (k a w) E := by
  cases o with
  | none => exact False.elim P
  | some a => exact ⟨a, rfl, P⟩
/-- name[b] = value, the name owned -/
def putS (i : Nat) (fv fb : Env → M D) : Env → M Fl := fun ρ => M.bind (fv ρ) fun v => M.bind (getV ρ i) fun d => M.bind (fb ρ) fun k => M.bind (optM (setAt d k v)) fun d' => M.pure (.nx (ρ.set i (some d')))
theorem ds_put (i : Nat) {x : Str} (hu : X.A.units + 64 < cLine) (hv : DE X T O1 Wx val fv) (hb : DE X T O1 Wx b fb) (hs : SubL O1 O := by decide) (hO : i ∈ O1 := by decide) (hN : X.N[i]? = some x := by rfl) (hx : Vis X.env.scope x := by first | exact Or.inl rfl | exact Or.inr (Or.inl rfl) | exact Or.inr (Or.inr rfl))
    (hd : (x == ("__debug__" : Str)) = false := by decide) (hcd : (x == ("__classdict__" : Str)) = false := by decide) (hsw : swapsWithSole [.Subscript (.Name x p1) b p2] val pos.line X.env = pure false := by rfl) (hw : swappedStores [.Subscript (.Name x p1) b p2] val X.env = pure none := by rfl)
    (h1 : (assignEach [.Subscript (.Name x p1) b p2] X.env).map (·.2) = [assign (.Subscript (.Name x p1) b p2) X.env] := by rfl)
    (ha : ∀ v, assign (.Subscript (.Name x p1) b p2) X.env v = (do
      let ov ← holding [v] (eval (.Name x p1) X.env)
      let iv ← holding [v, ov] (eval b X.env)
      standAt p2
      holding [v, ov, iv] (setItem ov iv v)
      release [v, ov, iv] []) := by intro _; rfl) : DS X T L O O1 Wx (.Assign [.Subscript (.Name x p1) b p2] val pos) (putS i fv fb) :=
  ps_imp (ps_asg hv (pg_sub (pv i hN hx hd hcd) hb (PSet.or set_list (set_dict (by omega))) ha) hsw hw h1) fun D σ H ⟨Γ, ρ, G, w, R, P⟩ => by
    obtain ⟨G1, x1, R1⟩ := R.thaw hs
    refine PostS.bindE P x1 R1 fun z v G2 H2 w2 st2 R2 i2 P2 => ?_
    obtain ⟨d, y, e1, e2, P3⟩ := getS_ok hO R2 P2
    refine ⟨y, e2, ?_⟩
    refine PostS.bindE P3 (x1.trans st2.x) R2 fun u k G3 H3 w3 st3 R3 i3 P4 => ?_
    obtain ⟨d', e4, P5⟩ := optS P4
    obtain ⟨l, o, q1, q2, q3, q4, q5, q6, q7⟩ := R3.own i d hO e1
    rw [e2] at q1; cases q1
    obtain ⟨o', n', io', hQ⟩ := setAt_rel R3.h.sub q5 q7 i3 (i2.mono st3.x) e4
    exact hQ _ (P5 _ G3 _ (x1.trans (st2.x.trans st3.x)) (R3.write (o := o) hO e1 e2 n' io'))
/-- an owned list -/
def getL (ρ : Env) (i : Nat) : M (List D) := match ρ[i]? with
  | some (some (.lst xs)) => M.pure xs
  | _ => M.fail
theorem getL_ok {K : PySem.W.Frag} {k : List D → M Fl} {Γ : Ctx} {ρ : Env} {σ : L2.St} {G G0 H : Hp} {w : Wl} {i : Nat} {E : Ends} (hi : i ∈ O) (R : Rel K T Γ O ρ σ G H w) (P : PostS K T Γ L O' Wx G0 (M.bind (getL ρ i) k w) E) :
    ∃ ds l vs, ρ[i]? = some (some (.lst ds)) ∧ σ[i]? = some (some (.ref l)) ∧ H l = some (.lst vs) ∧ IsL K Γ.wl G vs ds ∧ PostS K T Γ L O' Wx G0 (k ds w) E := by
  simp only [getL, M.bind] at P
  cases e : ρ[i]? with
  | none => rw [e] at P; exact False.elim P
  | some o =>
    cases o with
    | none => rw [e] at P; exact False.elim P
    | some d =>
      cases d with
      | lst ds =>
        rw [e] at P
        obtain ⟨l, o, q1, q2, q3, q4, q5, q6, q7⟩ := R.own i _ hi e
        cases q7 with
        | lst il => exact ⟨ds, l, _, rfl, q1, q5, il, P⟩
      | _ => rw [e] at P; exact False.elim P
theorem ownL {K : PySem.W.Frag} {Γ : Ctx} {ρ : Env} {σ : L2.St} {G H : Hp} {w : Wl} {i : Nat} {ds : List D} {l : Addr} (R : Rel K T Γ O ρ σ G H w) (hi : i ∈ O) (e : ρ[i]? = some (some (.lst ds))) (ev : σ[i]? = some (some (.ref l))) :
    ∃ vs, H l = some (.lst vs) ∧ IsL K Γ.wl G vs ds := by
  obtain ⟨l, o, q1, q2, q3, q4, q5, q6, q7⟩ := R.own i _ hi e
  rw [ev] at q1; cases q1
  cases q7 with
  | lst il => exact ⟨_, q5, il⟩
/-- xs.append(e) -/
def appM (xs es : List D) : M (List D) := match es with
  | [y] => if xs.length < sizeLine then M.pure (xs ++ [y]) else M.fail
  | _ => M.fail
def mutS (i : Nat) (m : List D → List D → M (List D)) (fa : Env → M (List D)) : Env → M Fl := fun ρ => M.bind (getL ρ i) fun xs => M.bind (fa ρ) fun es => M.bind (m xs es) fun ys => M.pure (.nx (ρ.set i (some (.lst ys))))
/-- what a list's method does, by values -/
def MutSp (K : PySem.W.Frag) (T : Tb) (r : V → List V → Hp → VK → Prop) (m : List D → List D → M (List D)) : Prop :=
  ∀ (Γ : Ctx) (L O O' : List Nat) (Wx : WX) (ρ : Env) (σ : L2.St) (G0 G H : Hp) (w : Wl) (l : Addr) (vs us : List V) (ds es : List D) (k : List D → M Fl) (E : Ends) (Q : VK), Rel K T Γ O ρ σ G H w → H l = some (.lst vs) → IsL K Γ.wl G vs ds → IsL K Γ.wl G us es → PostS K T Γ L O' Wx G0 (M.bind (m ds es) k w) E →
    (∀ v vs' ds', IsL K Γ.wl G vs' ds' → PostS K T Γ L O' Wx G0 (k ds' w) E → Q v (upd H l (.lst vs'))) → r (.ref l) us H Q
theorem mu_append {K : PySem.W.Frag} : MutSp K T rAppend appM := by
  intro Γ L O O' Wx ρ σ G0 G H w l vs us ds es k E Q R hl iv iu P hQ
  cases iu with
  | nil => exact False.elim P
  | cons i1 iu =>
    cases iu with
    | cons _ _ => exact False.elim P
    | nil =>
      rename_i y d
      unfold appM at P
      by_cases h : ds.length < sizeLine
      · simp only [if_pos h] at P
        exact ⟨l, vs, y, rfl, rfl, hl, by rw [iv.length]; exact h, hQ _ _ _ (iv.append (.cons i1 .nil)) P⟩
      · simp only [if_neg h] at P; exact False.elim P
def extM (xs es : List D) : M (List D) := match es with
  | [.lst ys] => if xs.length + ys.length ≤ sizeLine then M.pure (xs ++ ys) else M.fail
  | _ => M.fail
theorem mu_extend {K : PySem.W.Frag} : MutSp K T rExtend extM := by
  intro Γ L O O' Wx ρ σ G0 G H w l vs us ds es k E Q R hl iv iu P hQ
  cases iu with
  | nil => exact False.elim P
  | cons i1 iu =>
    cases iu with
    | cons _ _ => cases i1 <;> exact False.elim P
    | nil =>
      cases i1 with
      | @lst b us ys s il =>
        unfold extM at P
        by_cases h : ds.length + ys.length ≤ sizeLine
        · simp only [if_pos h] at P
          exact ⟨l, b, vs, us, rfl, rfl, hl, R.h.sub _ _ s, by rw [iv.length, il.length]; exact h, hQ _ _ _ (iv.append il) P⟩
        · simp only [if_neg h] at P; exact False.elim P
      | _ => exact False.elim P
def popAtM (xs es : List D) : M (List D) := match es with
  | [.int i] => if -(2 ^ 63) ≤ i ∧ i < 2 ^ 63 then (match seqIndex? i xs.length with
    | some k => if k < xs.length then M.pure (xs.eraseIdx k) else M.fail
    | none => M.fail) else M.fail
  | _ => M.fail
theorem mu_popAt {K : PySem.W.Frag} : MutSp K T rPopAt popAtM := by
  intro Γ L O O' Wx ρ σ G0 G H w l vs us ds es k E Q R hl iv iu P hQ
  cases iu with
  | nil => exact False.elim P
  | cons i1 iu =>
    cases iu with
    | cons _ _ => cases i1 <;> exact False.elim P
    | nil =>
      cases i1 with
      | int i =>
        unfold popAtM at P
        by_cases h : -(2 ^ 63) ≤ i ∧ i < 2 ^ 63
        · simp only [if_pos h] at P
          cases q : seqIndex? i ds.length with
          | none => simp only [q] at P; exact False.elim P
          | some j =>
            simp only [q] at P
            by_cases hj : j < ds.length
            · simp only [if_pos hj] at P
              exact ⟨l, vs, i, j, vs[j]'(by rw [iv.length]; exact hj), rfl, rfl, hl, h.1, h.2, by rw [iv.length]; exact q, List.getElem?_eq_getElem _, hQ _ _ _ (iv.erase j) P⟩
            · simp only [if_neg hj] at P; exact False.elim P
        · simp only [if_neg h] at P; exact False.elim P
      | _ => exact False.elim P
/-- a method that changes a list, its value dropped -/
theorem ds_mut (i : Nat) {x name : Str} {nm : String} {r : V → List V → Hp → VK → Prop} {m : List D → List D → M (List D)} (slot : Slot "list" name nm) (hty : typeOf (.builtin nm) = pure (.type "method_descriptor")) (hm : MtR X nm r) (hr : MutSp X.K T r m) (ha : DA X T O1 Wx (e :: es) fas) (hs : SubL O1 O := by decide) (hO : i ∈ O1 := by decide) (hN : X.N[i]? = some x := by rfl) (hx : Vis X.env.scope x := by first | exact Or.inl rfl | exact Or.inr (Or.inl rfl) | exact Or.inr (Or.inr rfl))
    (hd : (x == ("__debug__" : Str)) = false := by decide) (hcd : (x == ("__classdict__" : Str)) = false := by decide) (hbase : attributeBase (.Name x p1) name X.env (eval (.Name x p1) X.env) = eval (.Name x p1) X.env := by rfl)
    (hfew : ((backTo p3 (starEach (e :: es) X.env)).all (fun x => !x.1) && (backToKw p3 (keywordEach [] X.env)).all (fun x => x.1.isSome)
      && decide ((e :: es).length + ([] : List Keyword).length + (if ([] : List Keyword).isEmpty then 0 else 1) < 30)) = true := by rfl)
    (hline : (p2.endLine == p3.line) = true := by rfl) (hst : starEach (e :: es) X.env = (false, eval e X.env) :: starEach es X.env := by rfl) (hplain : (backTo p3 (starEach es X.env)).any (·.1) = false := by rfl)
    (hsw : swapsWith (.Call (.Attribute (.Name x p1) name p2) (e :: es) [] p3) none pos.line X.env = pure false := by rfl) :
    DS X T L O O1 Wx (.Expr (.Call (.Attribute (.Name x p1) name p2) (e :: es) [] p3) pos) (mutS i m fas) :=
  ps_imp (ps_expr (pe_bm PySem.F.plainAttrs_list slot hty hm (pv i hN hx hd hcd) ha hbase hfew hline hst hplain) hsw) fun D σ H ⟨Γ, ρ, G, w, R, P⟩ => by
    obtain ⟨G1, x1, R1⟩ := R.thaw hs
    obtain ⟨ds, l, vs, e1, e2, hl, il, P3⟩ := getL_ok hO R1 P
    refine ⟨.ref l, e2, .inl ⟨rfl, vs, SqL.of hl⟩, ?_⟩
    refine PostS.bindE P3 x1 R1 fun us es G2 H2 w2 st2 R2 i2 P4 => ?_
    obtain ⟨vs2, hl2, il2⟩ := ownL R2 hO e1 e2
    exact hr Γ L O1 O1 Wx ρ σ G G2 H2 w2 l vs2 us ds es _ D _ R2 hl2 il2 i2 P4 fun v vs' ds' iv P5 => P5 σ G2 _ (x1.trans st2.x) (R2.write (o := .lst vs2) hO e1 e2 noLst (.lst iv))
/-! ## the well -/
def getW (ρ : Env) (i : Nat) : M Unit := match ρ[i]? with
  | some (some .well) => M.pure ()
  | _ => M.fail
def setWl (k : Int) (v : Int) : M Unit := fun w => match ixN w.length k with
  | some j => .ok () (w.set j v)
  | none => .fail
theorem well_ok {K : PySem.W.Frag} {Γ : Ctx} {ρ : Env} {σ : L2.St} {G H : Hp} {w : Wl} {i : Nat} {γ : Type} {k : Unit → M γ} {Pr : Out γ → Prop} (hf : ¬ Pr .fail) (hi : i ∉ O) (R : Rel K T Γ O ρ σ G H w) (P : Pr (M.bind (getW ρ i) k w)) :
    ∃ a, Γ.wl.w = some a ∧ σ[i]? = some (some (.ref a)) ∧ ρ[i]? = some (some .well) ∧ Pr (k () w) := by
  simp only [getW, M.bind] at P
  cases e : ρ[i]? with
  | none => rw [e] at P; exact (hf P).elim
  | some o =>
    cases o with
    | none => rw [e] at P; exact (hf P).elim
    | some d =>
      cases d with
      | well =>
        rw [e] at P
        obtain ⟨v, h1, h2⟩ := R.fro i _ hi e
        cases h2 with
        | well hw => exact ⟨_, hw, h1, rfl, P⟩
      | _ => rw [e] at P; exact (hf P).elim
theorem setWl_ok {K : PySem.W.Frag} {Γ : Ctx} {ρ : Env} {σ : L2.St} {G H : Hp} {w : Wl} {a : Addr} {γ : Type} {n v : Int} {f : Unit → M γ} {Pr : Out γ → Prop} {Q : Hp → Prop} (hf : ¬ Pr .fail) (R : Rel K T Γ O ρ σ G H w) (ha : Γ.wl.w = some a) (P : Pr (M.bind (setWl n v) f w))
    (hQ : ∀ w' H', Stp Γ.wl G H G H' → Rel K T Γ O ρ σ G H' w' → Pr (f () w') → Q H') : rSetL (.ref a) (.int n) (.int v) H Q := by
  simp only [setWl, M.bind] at P
  cases e : ixN w.length n with
  | none => rw [e] at P; exact (hf P).elim
  | some j =>
    rw [e] at P
    obtain ⟨R', st⟩ := R.putW (w' := w.set j v) ha
    refine ⟨a, w.map V.int, n, j, rfl, rfl, (R.h.well a ha).2, by rw [List.length_map]; exact e, ?_⟩
    have q := hQ _ _ st R' P
    rw [List.map_set] at q
    exact q
def intM : D → M Int
  | .int i => M.pure i
  | _ => M.fail
theorem intM_ok {K : PySem.W.Frag} {wl : WlT} {G : Hp} {v : V} {d : D} {γ : Type} {k : Int → M γ} {w : Wl} {Pr : Out γ → Prop} (hf : ¬ Pr .fail) (i : Is K wl G v d) (P : Pr (M.bind (intM d) k w)) : ∃ n, v = .int n ∧ d = .int n ∧ Pr (k n w) := by
  cases i with
  | int n => exact ⟨n, rfl, rfl, P⟩
  | _ => exact (hf P).elim
/-- well[b] = value -/
def putWS (i : Nat) (fv fb : Env → M D) : Env → M Fl := fun ρ => M.bind (fv ρ) fun v => M.bind (getW ρ i) fun _ => M.bind (fb ρ) fun k => M.bind (intM v) fun n => M.bind (intM k) fun j => M.bind (setWl j n) fun _ => M.pure (.nx ρ)
theorem ds_putW (i : Nat) {x : Str} (hv : DE X T O1 Wx val fv) (hb : DE X T O1 Wx b fb) (hs : SubL O1 O := by decide) (hO : i ∉ O1 := by decide) (hN : X.N[i]? = some x := by rfl) (hx : Vis X.env.scope x := by first | exact Or.inl rfl | exact Or.inr (Or.inl rfl) | exact Or.inr (Or.inr rfl))
    (hd : (x == ("__debug__" : Str)) = false := by decide) (hcd : (x == ("__classdict__" : Str)) = false := by decide) (hsw : swapsWithSole [.Subscript (.Name x p1) b p2] val pos.line X.env = pure false := by rfl) (hw : swappedStores [.Subscript (.Name x p1) b p2] val X.env = pure none := by rfl)
    (h1 : (assignEach [.Subscript (.Name x p1) b p2] X.env).map (·.2) = [assign (.Subscript (.Name x p1) b p2) X.env] := by rfl)
    (ha : ∀ v, assign (.Subscript (.Name x p1) b p2) X.env v = (do
      let ov ← holding [v] (eval (.Name x p1) X.env)
      let iv ← holding [v, ov] (eval b X.env)
      standAt p2
      holding [v, ov, iv] (setItem ov iv v)
      release [v, ov, iv] []) := by intro _; rfl) : DS X T L O O1 Wx (.Assign [.Subscript (.Name x p1) b p2] val pos) (putWS i fv fb) :=
  ps_imp (ps_asg hv (pg_sub (pv i hN hx hd hcd) hb set_list ha) hsw hw h1) fun D σ H ⟨Γ, ρ, G, w, R, P⟩ => by
    obtain ⟨G1, x1, R1⟩ := R.thaw hs
    refine PostS.bindE P x1 R1 fun z v G2 H2 w2 st2 R2 i2 P2 => ?_
    obtain ⟨a, hw, e2, e1, P3⟩ := well_ok (Pr := fun r => PostS X.K T Γ L O1 Wx G r D) (fun z => z) hO R2 P2
    refine ⟨.ref a, e2, ?_⟩
    refine PostS.bindE P3 (x1.trans st2.x) R2 fun u k G3 H3 w3 st3 R3 i3 P4 => ?_
    obtain ⟨n, rfl, rfl, P5⟩ := intM_ok (Pr := fun r => PostS X.K T Γ L O1 Wx G r D) (fun z => z) i2 P4
    obtain ⟨j, rfl, rfl, P6⟩ := intM_ok (Pr := fun r => PostS X.K T Γ L O1 Wx G r D) (fun z => z) i3 P5
    exact setWl_ok (Pr := fun r => PostS X.K T Γ L O1 Wx G r D) (fun z => z) R3 hw P6 fun w' H' st4 R4 P7 => P7 σ G3 H' (x1.trans (st2.x.trans st3.x)) R4
/-- well[b] as a target -/
def gPutW (i : Nat) (fb : Env → M D) : D → Env → M Env := fun v ρ => M.bind (getW ρ i) fun _ => M.bind (noX (fb ρ)) fun k => M.bind (intM v) fun n => M.bind (intM k) fun j => M.bind (setWl j n) fun _ => M.pure ρ
def PrG (K : PySem.W.Frag) (T : Tb) (Γ : Ctx) (O' xs : List Nat) (σ : L2.St) (G H : Hp) (Q : L2.St → Hp → Prop) (r : Out Env) : Prop := match r with
  | .ok ρ' w' => ∀ σ' G' H', Off xs σ σ' → Stp Γ.wl G H G' H' → Rel K T Γ O' ρ' σ' G' H' w' → Q σ' H'
  | _ => False
theorem dg_putW (i : Nat) {x : Str} (hb : DE X T O WF b fb) (tk : ∀ {e f}, DE X T O WF e f → DE X T O WF e f) (hO : i ∉ O := by decide) (hN : X.N[i]? = some x := by rfl) (hx : Vis X.env.scope x := by first | exact Or.inl rfl | exact Or.inr (Or.inl rfl) | exact Or.inr (Or.inr rfl))
    (hd : (x == ("__debug__" : Str)) = false := by decide) (hcd : (x == ("__classdict__" : Str)) = false := by decide)
    (ha : ∀ v, assign (.Subscript (.Name x p1) b p2) X.env v = (do
      let ov ← holding [v] (eval (.Name x p1) X.env)
      let iv ← holding [v, ov] (eval b X.env)
      standAt p2
      holding [v, ov, iv] (setItem ov iv v)
      release [v, ov, iv] []) := by intro _; rfl) : DG X T O O xs (.Subscript (.Name x p1) b p2) (gPutW i fb) :=
  pg_imp (pg_sub (pv i hN hx hd hcd) hb set_list ha) fun v σ H Q ⟨Γ, ρ, G, w, d, R, i1, P⟩ => by
    have P : PrG X.K T Γ O xs σ G H Q (gPutW i fb d ρ w) := P
    obtain ⟨a, hw, e2, e1, P3⟩ := well_ok (fun z => z) hO R P
    refine ⟨.ref a, e2, ?_⟩
    refine noX_step (fun z => z) R P3 fun u k G3 H3 w3 st3 R3 i3 P4 => ?_
    obtain ⟨n, rfl, rfl, P5⟩ := intM_ok (fun z => z) i1 P4
    obtain ⟨j, rfl, rfl, P6⟩ := intM_ok (fun z => z) i3 P5
    exact setWl_ok (fun z => z) R3 hw P6 fun w' H' st4 R4 P7 => P7 σ G3 H' Off.refl (st3.trans st4) R4
/-! ## name op= e -/
def augS (i : Nat) (f : Int → Int → Int) (fa : Env → M D) : Env → M Fl := fun ρ => M.bind (getV ρ i) fun x => M.bind (intM x) fun n => M.bind (fa ρ) fun y => M.bind (intM y) fun m => M.pure (.nx (ρ.set i (some (.int (f n m)))))
theorem ds_aug (i : Nat) {x : Str} {op : Operator} {f : Int → Int → Int} (hN : X.N.Nodup) (ho : PIp X op (ipI f)) (he : DE X T O1 Wx val fv) (hs : SubL O1 O := by decide) (hO : i ∉ O := by decide) (hi : X.N[i]? = some x := by rfl) (hx : Loc X.env.scope x := by first | exact Or.inl rfl | exact Or.inr rfl)
    (hf : X.fn x = true ∨ X.env.scope.names.lookup x = some .local := by first | exact .inl rfl | exact .inr rfl) : DS X T L O O Wx (.AugAssign (.Name x p1) op val pos) (augS i f fv) :=
  ps_imp (ps_aug hN hi hx he ho hf) fun D σ H ⟨Γ, ρ, G, w, R, P⟩ => by
    have P1 : PostS X.K T Γ L O Wx G (M.bind (getV ρ i) (fun x => M.bind (intM x) fun n => M.bind (fv ρ) fun y => M.bind (intM y) fun m => M.pure (.nx (ρ.set i (some (.int (f n m)))))) w) D := P
    simp only [getV, M.bind] at P1
    cases e : ρ[i]? with
    | none => rw [e] at P1; exact False.elim P1
    | some o =>
      cases o with
      | none => rw [e] at P1; exact False.elim P1
      | some d =>
        rw [e] at P1
        obtain ⟨v, h1, h2⟩ := R.fro i d hO e
        refine ⟨v, h1, ?_⟩
        obtain ⟨n, rfl, rfl, P2⟩ := intM_ok (Pr := fun r => PostS X.K T Γ L O Wx G r D) (fun z => z) h2 P1
        obtain ⟨G1, x1, R1⟩ := R.thaw hs
        refine PostS.bindE P2 x1 R1 fun z y G2 H2 w2 st2 R2 i2 P3 => ?_
        obtain ⟨m, rfl, rfl, P4⟩ := intM_ok (Pr := fun r => PostS X.K T Γ L O Wx G r D) (fun z => z) i2 P3
        obtain ⟨gx, R3⟩ := R.back R2.h (x1.trans st2.x) st2.kp
        refine ⟨n, m, rfl, rfl, ?_⟩
        have R4 := R3.store (i := i) (.int (f n m))
        have e : O.filter (· != i) = O := List.filter_eq_self.mpr fun j hj => by
          have : j ≠ i := fun z => hO (z ▸ hj)
          simpa using this
        rw [e] at R4
        exact P4 _ _ H2 gx R4
end
end Q

namespace Q
open PySem PySem.Spec PyProof.Rows L2
/-! ## a, b = x, y: some of them new objects -/
def newsOf : List Bool → List V → List V
  | true :: fl, v :: vs => v :: newsOf fl vs
  | false :: fl, _ :: vs => newsOf fl vs
  | _, _ => []
inductive IsM (K : PySem.W.Frag) (Γ : Ctx) (O : List Nat) (ρ : Env) (σ : L2.St) (G H : Hp) : List Bool → List V → List D → Prop
  | nil : IsM K Γ O ρ σ G H [] [] []
  | val {fl : List Bool} {v : V} {d : D} {vs : List V} {ds : List D} : Is K Γ.wl G v d → IsM K Γ O ρ σ G H fl vs ds → IsM K Γ O ρ σ G H (false :: fl) (v :: vs) (d :: ds)
  | new {fl : List Bool} {p : Addr} {o : HO} {d : D} {vs : List V} {ds : List D} : New Γ O ρ σ G H p o → IsO K Γ.wl G o d → V.ref p ∉ newsOf fl vs → IsM K Γ O ρ σ G H fl vs ds → IsM K Γ O ρ σ G H (true :: fl) (.ref p :: vs) (d :: ds)
def PostM (K : PySem.W.Frag) (T : Tb) (Γ : Ctx) (O : List Nat) (Wx : WX) (ρ : Env) (σ : L2.St) (G H : Hp) (fl : List Bool) (r : Out (List D)) (Q : List V → Hp → Prop) : Prop :=
  match r with
  | .fail => False
  | .ok ds w' => ∀ vs G' H', Stp Γ.wl G H G' H' → Rel K T Γ O ρ σ G' H' w' → IsM K Γ O ρ σ G' H' fl vs ds → (∀ v ∈ newsOf fl vs, ∃ p, v = .ref p ∧ H p = none) → Q vs H'
  | .exc c p w' => ∀ cls dd G' H', Stp Γ.wl G H G' H' → RelH T Γ G' H' w' → ExcIs K Γ.wl c p cls dd G' H' → Wx cls dd σ H'
def tM (K : PySem.W.Frag) (T : Tb) (O : List Nat) (Wx : WX) (fl : List Bool) (f : Env → M (List D)) : TA := fun σ H Q => ∃ Γ ρ G w, Rel K T Γ O ρ σ G H w ∧ PostM K T Γ O Wx ρ σ G H fl (f ρ w) Q
def DM (X : Cx) (T : Tb) (O : List Nat) (Wx : WX) (fl : List Bool) (es : List Expr) (f : Env → M (List D)) : Prop := PA X es (tM X.K T O Wx fl f)
section
variable {X : Cx} {T : Tb} {L O O1 O2 O' xs : List Nat} {Wx : WX} {a b c e val : Expr} {es : List Expr} {f : Env → M D} {fr : Env → M (List D)} {fl : List Bool} {pos : Pos}
theorem dm_nil : DM X T O Wx [] [] nilA := pa_imp pa_nil fun σ H Q ⟨Γ, ρ, G, w, R, P⟩ => P [] G H Stp.refl R .nil (by intro v hv; cases hv)
theorem postM_step {K : PySem.W.Frag} {Γ : Ctx} {ρ : Env} {σ : L2.St} {G H G1 H1 : Hp} {w1 : Wl} {d : D} {m : M (List D)} {b : Bool} {Q : List V → Hp → Prop} (st : Stp Γ.wl G H G1 H1)
    (P : PostM K T Γ O Wx ρ σ G H (b :: fl) (M.bind m (fun ds => M.pure (d :: ds)) w1) Q) {v : V} (hn : b = true → ∃ p, v = .ref p ∧ H p = none)
    (hv : ∀ vs ds G2 H2, Stp Γ.wl G1 H1 G2 H2 → IsM K Γ O ρ σ G2 H2 fl vs ds → (∀ v ∈ newsOf fl vs, ∃ p, v = .ref p ∧ H1 p = none) → IsM K Γ O ρ σ G2 H2 (b :: fl) (v :: vs) (d :: ds)) : PostM K T Γ O Wx ρ σ G1 H1 fl (m w1) (fun vs H2 => Q (v :: vs) H2) := by
  simp only [M.bind] at P
  cases e : m w1 with
  | fail => rw [e] at P; exact P
  | exc c p w' => rw [e] at P; exact fun cls dd G' H' s => P cls dd G' H' (st.trans s)
  | ok ds w' =>
    rw [e] at P
    intro vs G' H' s R i hw
    refine P (v :: vs) G' H' (st.trans s) R (hv vs ds G' H' s i hw) fun u hu => ?_
    cases b with
    | true =>
      rcases List.mem_cons.mp hu with rfl | hu
      · exact hn rfl
      · obtain ⟨p, e1, e2⟩ := hw u hu
        exact ⟨p, e1, st.mono p e2⟩
    | false =>
      obtain ⟨p, e1, e2⟩ := hw u hu
      exact ⟨p, e1, st.mono p e2⟩
theorem dm_val (h : DE X T O Wx e f) (hr : DM X T O Wx fl es fr) (hs : starEach (e :: es) X.env = (false, eval e X.env) :: starEach es X.env := by rfl) : DM X T O Wx (false :: fl) (e :: es) (consA f fr) :=
  pa_imp (pa_cons h hr hs) fun σ H Q ⟨Γ, ρ, G, w, R, P⟩ => by
    refine ⟨Γ, ρ, G, w, R, ?_⟩
    simp only [consA, M.bind] at P
    cases q : f ρ w with
    | fail => rw [q] at P; exact P
    | exc c p w' => rw [q] at P; exact P
    | ok d w' =>
      rw [q] at P
      intro v G1 H1 st R1 i1
      exact ⟨Γ, ρ, G1, w', R1, postM_step (m := fr ρ) st P (fun z => nomatch z) fun vs ds G2 H2 s i _ => .val (i1.mono s.x) i⟩
theorem dm_new (h : DF X T O Wx e f) (hr : DM X T O Wx fl es fr) (hs : starEach (e :: es) X.env = (false, eval e X.env) :: starEach es X.env := by rfl) : DM X T O Wx (true :: fl) (e :: es) (consA f fr) :=
  pa_imp (pa_cons h hr hs) fun σ H Q ⟨Γ, ρ, G, w, R, P⟩ => by
    refine ⟨Γ, ρ, G, w, R, ?_⟩
    simp only [consA, M.bind] at P
    cases q : f ρ w with
    | fail => rw [q] at P; exact P
    | exc c p w' => rw [q] at P; exact P
    | ok d w' =>
      rw [q] at P
      intro p o G1 H1 st R1 n hp io
      refine ⟨Γ, ρ, G1, w', R1, postM_step (m := fr ρ) st P (fun _ => ⟨p, rfl, hp⟩) fun vs ds G2 H2 s i hw => .new (n.step s) (io.mono s.x) (fun hm => ?_) i⟩
      obtain ⟨p', e1, e2⟩ := hw _ hm
      cases e1
      rw [n.at_] at e2; cases e2
def oSet (b : Bool) (i : Nat) (O : List Nat) : List Nat := if b = true then i :: O else O.filter (· != i)
theorem New.stored {Γ : Ctx} {ρ : Env} {σ : L2.St} {G H : Hp} {p : Addr} {o : HO} {i : Nat} {v : V} {d : D} {b : Bool} (n : New Γ O ρ σ G H p o) (hl : ρ.length = σ.length) (hv : b = true → v ≠ .ref p) : New Γ (oSet b i O) (ρ.set i (some d)) (σ.set i (some v)) G H p o := by
  refine ⟨n.at_, n.g, n.b, n.w, n.nt, fun j e hj h q => ?_⟩
  by_cases z : i = j
  · subst z
    cases b with
    | true =>
      have lt : i < σ.length := by
        rw [← hl]
        simpa using (List.getElem?_eq_some_iff.mp h).1
      rw [set_get lt] at q
      exact hv rfl (Option.some.inj (Option.some.inj q))
    | false => simp [oSet] at hj
  · rw [List.getElem?_set_ne z] at h q
    have hO : j ∈ O := by
      cases b with
      | true => exact (List.mem_cons.mp hj).resolve_left (Ne.symm z)
      | false => exact (List.mem_filter.mp hj).1
    exact n.no j e hO h q
theorem IsM.stored {K : PySem.W.Frag} {Γ : Ctx} {ρ : Env} {σ : L2.St} {G H : Hp} {i : Nat} {v : V} {d : D} {b : Bool} (hl : ρ.length = σ.length) : ∀ {fl : List Bool} {vs : List V} {ds : List D}, IsM K Γ O ρ σ G H fl vs ds → (b = true → v ∉ newsOf fl vs) → IsM K Γ (oSet b i O) (ρ.set i (some d)) (σ.set i (some v)) G H fl vs ds
  | _, _, _, .nil, _ => .nil
  | _, _, _, .val h r, hv => .val h (IsM.stored hl r hv)
  | _, _, _, .new n io hp r, hv => .new (n.stored hl fun e z => hv e (by rw [z]; exact List.mem_cons_self)) io hp (IsM.stored hl r fun e z => hv e (List.mem_cons_of_mem _ z))
/-- the first of them stored -/
theorem Rel.storeM {K : PySem.W.Frag} {Γ : Ctx} {ρ : Env} {σ : L2.St} {G H : Hp} {w : Wl} {i : Nat} {b : Bool} {vs : List V} {ds : List D} (R : Rel K T Γ O ρ σ G H w) (h : IsM K Γ O ρ σ G H (b :: fl) vs ds) :
    ∃ v d vr dr, vs = v :: vr ∧ ds = d :: dr ∧ Rel K T Γ (oSet b i O) (ρ.set i (some d)) (σ.set i (some v)) G H w ∧ IsM K Γ (oSet b i O) (ρ.set i (some d)) (σ.set i (some v)) G H fl vr dr := by
  cases h with
  | val h r => exact ⟨_, _, _, _, rfl, rfl, R.store h, r.stored R.len fun z => nomatch z⟩
  | new n io hp r => exact ⟨_, _, _, _, rfl, rfl, R.give n io, r.stored R.len fun _ => hp⟩
theorem PostS.bindM {Γ : Ctx} {f : Env → M (List D)} {k : List D → M Fl} {ρ : Env} {σ : L2.St} {G G1 H : Hp} {w : Wl} {Q1 : List V → Hp → Prop} {E : Ends} {K : PySem.W.Frag}
    (P : PostS K T Γ L O' Wx G (M.bind (f ρ) k w) E) (x1 : Hx G G1) (R : Rel K T Γ O1 ρ σ G1 H w)
    (hk : ∀ vs ds G2 H2 w2, Stp Γ.wl G1 H G2 H2 → Rel K T Γ O1 ρ σ G2 H2 w2 → IsM K Γ O1 ρ σ G2 H2 fl vs ds → PostS K T Γ L O' Wx G (k ds w2) E → Q1 vs H2) : tM K T O1 Wx fl f σ H Q1 := by
  refine ⟨Γ, ρ, G1, w, R, ?_⟩
  simp only [M.bind] at P
  cases e : f ρ w with
  | fail => rw [e] at P; exact P
  | exc c p w' => rw [e] at P; exact fun cls dd G' H' h1 h2 h3 => P cls dd σ G' H' (x1.trans h1.x) h2 h3
  | ok d w' =>
    rw [e] at P
    exact fun v G2 H2 hx R1 i1 _ => hk v d G2 H2 w' hx R1 i1 P
def parS2 (i j : Nat) (fr : Env → M (List D)) : Env → M Fl := fun ρ => M.bind (fr ρ) fun ds => match ds with
  | [d, e] => M.pure (.nx ((ρ.set i (some d)).set j (some e)))
  | _ => M.fail
theorem ds_par (i j : Nat) {b1 b2 : Bool} {x y : Str} {px py pt pt2 : Pos} {kt k2 : Nat} (hc : X.calm = true) (hN : X.N.Nodup) (ha : DM X T O1 Wx [b1, b2] [a, b] fr) (hs : SubL O1 O := by decide) (ho : O' = oSet b2 j (oSet b1 i O1) := by rfl)
    (hi : X.N[i]? = some x := by rfl) (hj : X.N[j]? = some y := by rfl) (hij : i ≠ j := by decide) (hx : X.env.scope.names.lookup x = some .local := by rfl) (hy : X.env.scope.names.lookup y = some .local := by rfl)
    (hw : swappedStores [.Tuple [.Name x px, .Name y py] kt pt] (.Tuple [a, b] k2 pt2) X.env = pure (some [x, y]) := by rfl) (hsw : swapsWithSole [.Tuple [.Name x px, .Name y py] kt pt] (.Tuple [a, b] k2 pt2) pos.line X.env = pure false := by rfl) :
    DS X T L O O' Wx (.Assign [.Tuple [.Name x px, .Name y py] kt pt] (.Tuple [a, b] k2 pt2) pos) (parS2 i j fr) :=
  ps_imp (ps_par hc hN hi hj hij hx hy ha hw hsw) fun E σ H ⟨Γ, ρ, G, w, R, P⟩ => by
    subst ho
    obtain ⟨G1, x1, R1⟩ := R.thaw hs
    refine PostS.bindM P x1 R1 fun vs ds G2 H2 w2 st R2 i2 P2 => ?_
    obtain ⟨v, d, vr, dr, rfl, rfl, R3, i3⟩ := R2.storeM (i := i) i2
    obtain ⟨v2, d2, vr2, dr2, rfl, rfl, R4, i4⟩ := R3.storeM (i := j) i3
    cases i4
    exact ⟨v, v2, rfl, P2 _ G2 H2 (x1.trans st.x) R4⟩
def parS3 (i j l : Nat) (fr : Env → M (List D)) : Env → M Fl := fun ρ => M.bind (fr ρ) fun ds => match ds with
  | [d, e, g] => M.pure (.nx (((ρ.set i (some d)).set j (some e)).set l (some g)))
  | _ => M.fail
theorem ds_par3 (i j l : Nat) {b1 b2 b3 : Bool} {x y z : Str} {px py pz pt pt2 : Pos} {kt k2 : Nat} (hc : X.calm = true) (hN : X.N.Nodup) (ha : DM X T O1 Wx [b1, b2, b3] [a, b, c] fr) (hs : SubL O1 O := by decide) (ho : O' = oSet b3 l (oSet b2 j (oSet b1 i O1)) := by rfl)
    (hi : X.N[i]? = some x := by rfl) (hj : X.N[j]? = some y := by rfl) (hl : X.N[l]? = some z := by rfl) (hij : i ≠ j := by decide) (hil : i ≠ l := by decide) (hjl : j ≠ l := by decide) (hx : X.env.scope.names.lookup x = some .local := by rfl) (hy : X.env.scope.names.lookup y = some .local := by rfl) (hz : X.env.scope.names.lookup z = some .local := by rfl)
    (hw : swappedStores [.Tuple [.Name x px, .Name y py, .Name z pz] kt pt] (.Tuple [a, b, c] k2 pt2) X.env = pure (some [x, y, z]) := by rfl) (hsw : swapsWithSole [.Tuple [.Name x px, .Name y py, .Name z pz] kt pt] (.Tuple [a, b, c] k2 pt2) pos.line X.env = pure false := by rfl) :
    DS X T L O O' Wx (.Assign [.Tuple [.Name x px, .Name y py, .Name z pz] kt pt] (.Tuple [a, b, c] k2 pt2) pos) (parS3 i j l fr) :=
  ps_imp (ps_par3 hc hN hi hj hl hij hil hjl hx hy hz ha hw hsw) fun E σ H ⟨Γ, ρ, G, w, R, P⟩ => by
    subst ho
    obtain ⟨G1, x1, R1⟩ := R.thaw hs
    refine PostS.bindM P x1 R1 fun vs ds G2 H2 w2 st R2 i2 P2 => ?_
    obtain ⟨v, d, vr, dr, rfl, rfl, R3, i3⟩ := R2.storeM (i := i) i2
    obtain ⟨v2, d2, vr2, dr2, rfl, rfl, R4, i4⟩ := R3.storeM (i := j) i3
    obtain ⟨v3, d3, vr3, dr3, rfl, rfl, R5, i5⟩ := R4.storeM (i := l) i4
    cases i5
    exact ⟨v, v2, v3, rfl, P2 _ G2 H2 (x1.trans st.x) R5⟩
/-! ## isinstance -/
inductive Ty where
  | non | bl | int | str | tup | lst | dct
def Ty.nm : Ty → String
  | .non => "NoneType"
  | .bl => "bool"
  | .int => "int"
  | .str => "str"
  | .tup => "tuple"
  | .lst => "list"
  | .dct => "dict"
def Ty.is : Ty → Ty → Bool
  | .bl, .int => true
  | .non, .non => true
  | .bl, .bl => true
  | .int, .int => true
  | .str, .str => true
  | .tup, .tup => true
  | .lst, .lst => true
  | .dct, .dct => true
  | _, _ => false
theorem kit_all (a b : Ty) : kitB a.nm b.nm = some (a.is b) := by
  cases a <;> cases b <;> decide +kernel
def tyD : D → Option Ty
  | .non => some .non
  | .bl _ => some .bl
  | .int _ => some .int
  | .str _ => some .str
  | .tup _ => some .tup
  | .lst _ => some .lst
  | .scr _ => some .lst
  | .dct _ _ => some .dct
  | .well => some .lst
  | _ => none
theorem ty_rel {Γ : Ctx} {ρ : Env} {σ : L2.St} {G H : Hp} {w : Wl} {v : V} {d : D} {t : Ty} (R : Rel X.K T Γ O ρ σ G H w) (i : Is X.K Γ.wl G v d) (h : tyD d = some t) : TyX X.K H v (.type t.nm) := by
  cases i <;> cases h
  · exact .base .non
  · exact .base (.bl _)
  · exact .base (.int _)
  · exact .base (.str _)
  · rename_i s l; exact .base (.tup (R.h.sub _ _ s))
  · rename_i s l; exact .base (.lst (R.h.sub _ _ s))
  · rename_i s l
    rcases R.h.sub.sqL s with (h | ⟨o, h⟩) | ⟨o, its, n, h1, h2, _⟩
    · exact .base (.lst h)
    · exact .base (.frz h)
    · exact .kList h1 h2
  · rename_i s k l; exact .base (.dK (R.h.sub _ _ s))
  · rename_i s k l; exact .base (.dT (R.h.sub _ _ s))
  · rename_i a h; exact .base (.lst (R.h.well a h).2)
def isiE (t : Ty) (f : Env → M D) : Env → M D := fun ρ => M.bind (f ρ) fun d => M.bind (optM (tyD d)) fun u => M.pure (.bl (u.is t))
/-- isinstance(e, t), t a built-in type -/
theorem de_isi (t : Ty) {x : Str} {p px : Pos} (hm : X.mg "isinstance" = none) (hm2 : X.mg x = none) (hv : bootBuiltins x = some (.type t.nm)) (he : DE X T O Wx e f) (hg : Gl X "isinstance" := by rfl) (hg2 : Gl X x := by rfl) (hn : x ≠ "__name__" := by decide) (hdb : (x == ("__debug__" : Str)) = false := by decide)
    (hs1 : starEach [e, .Name x px] X.env = (false, eval e X.env) :: starEach [.Name x px] X.env := by rfl) (hs2 : starEach [.Name x px] X.env = (false, eval (.Name x px) X.env) :: starEach [] X.env := by rfl) (hpl : (backTo pos (starEach [.Name x px] X.env)).any (·.1) = false := by rfl) :
    DE X T O Wx (.Call (.Name "isinstance" p) [e, .Name x px] [] pos) (isiE t f) :=
  pe_imp (pe_callB call_isi hg hm boot_isinstance' (pa_cons he (pa_cons (pe_bltn (v := .ty t.nm) hg2 hm2 hv rfl hn hdb) pa_nil hs2) hs1) (by decide) (by decide) hs1 hpl) fun σ H Q ⟨Γ, ρ, G, w, R, P⟩ => post_bind R P fun v d G1 H1 w1 st R1 i1 P1 => by
    cases q : tyD d with
    | none => rw [q] at P1; exact False.elim P1
    | some u =>
      rw [q] at P1
      exact ⟨v, .ty t.nm, _, _, u.is t, rfl, .ty _, ty_rel R1 i1 q, kit_ty (kit_all u t), Post.ok P1 R1 (.bl _)⟩
end
end Q

namespace Q
open PySem PySem.Spec PyProof.Rows L2
section
variable {X : Cx} {T : Tb} {L O O1 O2 O' xs : List Nat} {Wx : WX} {a b c e val : Expr} {es : List Expr} {f fa fb fk fv : Env → M D} {fr : Env → M (List D)} {pos p1 p2 p3 : Pos}
/-! ## tuple(range), list(range) -/
instance (a b : Int) : Decidable (RgOk a b) := by unfold RgOk; infer_instance
theorem IsL.rg {K : PySem.W.Frag} {wl : WlT} {G : Hp} (a b : Int) : IsL K wl G (rgV a b) (rngL a b) := by
  unfold rgV rngL
  generalize List.range (b - a).toNat = l
  induction l with
  | nil => exact .nil
  | cons n l ih => exact .cons (.int _) ih
def rg1M (mk : List D → D) : D → M D
  | .int n => if RgOk 0 n then M.pure (mk (rngL 0 n)) else M.fail
  | _ => M.fail
def rg2M (mk : List D → D) : D → D → M D
  | .int i, .int j => if RgOk i j then M.pure (mk (rngL i j)) else M.fail
  | _, _ => M.fail
theorem de_tupRg {p p0 : Pos} (hc : X.calm = true) (hm : X.mg "tuple" = none) (hm2 : X.mg "range" = none) (ha : DE X T O Wx a fa) (hg : Gl X "tuple" := by rfl) (hg2 : Gl X "range" := by rfl) (n1 : starEach [a] X.env = (false, eval a X.env) :: starEach [] X.env := by rfl)
    (n2 : starEach [.Call (.Name "range" p0) [a] [] p1] X.env = (false, eval (.Call (.Name "range" p0) [a] [] p1) X.env) :: starEach [] X.env := by rfl) : DE X T O Wx (.Call (.Name "tuple" p) [.Call (.Name "range" p0) [a] [] p1] [] pos) (fun ρ => M.bind (fa ρ) (rg1M .tup)) :=
  pe_imp (pe_tupRg hc hg hm (prg_1 hg2 hm2 ha n1) n2) fun σ H Q ⟨Γ, ρ, G, w, R, P⟩ => post_bind R P fun v d G1 H1 w1 st R1 i1 P1 => by
    cases i1 with
    | int n =>
      obtain ⟨h, P2⟩ := ifP P1
      exact ⟨n, rfl, h, fun q hq => Post.new P2 R1 hq noTup (.tup upd_same (IsL.rg 0 n))⟩
    | _ => exact False.elim P1
theorem df_lstRg {p p0 : Pos} (hc : X.calm = true) (hm : X.mg "list" = none) (hm2 : X.mg "range" = none) (ha : DE X T O Wx a fa) (hg : Gl X "list" := by rfl) (hg2 : Gl X "range" := by rfl) (n1 : starEach [a] X.env = (false, eval a X.env) :: starEach [] X.env := by rfl)
    (n2 : starEach [.Call (.Name "range" p0) [a] [] p1] X.env = (false, eval (.Call (.Name "range" p0) [a] [] p1) X.env) :: starEach [] X.env := by rfl) : DF X T O Wx (.Call (.Name "list" p) [.Call (.Name "range" p0) [a] [] p1] [] pos) (fun ρ => M.bind (fa ρ) (rg1M .lst)) :=
  pe_imp (pe_listRg hc hg hm (prg_1 hg2 hm2 ha n1) n2) fun σ H Q ⟨Γ, ρ, G, w, R, P⟩ => postN_bind R P fun v d G1 H1 w1 st R1 i1 P1 => by
    cases i1 with
    | int n =>
      obtain ⟨h, P2⟩ := ifN P1
      exact ⟨n, rfl, h, fun q hq => PostN.new P2 R1 hq noLst (.lst (IsL.rg 0 n))⟩
    | _ => exact False.elim P1
theorem dik_rng1 {tg : Expr} {p : Pos} (hm : X.mg "range" = none) (ha : DA X T O Wx [a] fr) (hg : Gl X "range" := by rfl) (hs : starEach [a] X.env = [(false, eval a X.env)] := by rfl) : DIK X T O Wx tg (.Call (.Name "range" p) [a] [] pos) (argE rng1D fr) :=
  pi_imp (pi_range1 hg hm ha hs) fun σ H Q ⟨Γ, ρ, G, w, R, P⟩ => post_bind R P fun v d G1 H1 w1 x1 R1 i1 P1 => by
    cases i1 with
    | nil => exact False.elim P1
    | cons i1 i2 =>
      cases i1 with
      | int j =>
        cases i2 with
        | nil =>
          obtain ⟨⟨h1, h2⟩, P2⟩ := ifP P1
          refine ⟨j, rfl, h1, h2, Post.ok P2 R1 fun G => ?_⟩
          unfold rngL
          rw [show j - 0 = j by omega]
          exact yields_rng
        | cons _ _ => exact False.elim P1
      | _ => exact False.elim P1
theorem dik_rng2 {tg : Expr} {p : Pos} (hm : X.mg "range" = none) (ha : DA X T O Wx [a, b] fr) (hg : Gl X "range" := by rfl) (hs : starEach [a, b] X.env = [(false, eval a X.env), (false, eval b X.env)] := by rfl) (hs2 : starEach [b] X.env = [(false, eval b X.env)] := by rfl) :
    DIK X T O Wx tg (.Call (.Name "range" p) [a, b] [] pos) (argE rng2D fr) :=
  pi_imp (pi_range2 hg hm ha hs hs2) fun σ H Q ⟨Γ, ρ, G, w, R, P⟩ => post_bind R P fun v d G1 H1 w1 x1 R1 i1 P1 => by
    cases i1 with
    | nil => exact False.elim P1
    | cons i1 i2 =>
      cases i1 with
      | int i =>
        cases i2 with
        | nil => exact False.elim P1
        | cons i2 i3 =>
          cases i2 with
          | int j =>
            cases i3 with
            | nil =>
              obtain ⟨⟨h1, h2, h3, h4⟩, P2⟩ := ifP P1
              exact ⟨i, j, rfl, ⟨h1, h2, h3, h4⟩, Post.ok P2 R1 fun G => yields_rng⟩
            | cons _ _ => exact False.elim P1
          | _ => exact False.elim P1
      | _ => exact False.elim P1
/-! ## slices -/
abbrev IsPt : IR (Option Int) (Option Int) := fun _ _ _ u d => u = d
def DO (X : Cx) (T : Tb) (O : List Nat) (Wx : WX) (e : Option Expr) (f : Env → M (Option Int)) : Prop := PO X e (tG X.K T O Wx IsPt f)
theorem do_none : DO X T O Wx none (fun _ => M.pure none) := ⟨fun pins s σ H Q I ⟨Γ, ρ, G, w, R, P⟩ => po_none.run pins s σ H Q I (Post.ok P R rfl)⟩
def partE (f : Env → M D) : Env → M (Option Int) := fun ρ => M.bind (f ρ) fun d => M.bind (intM d) fun i => M.pure (some i)
theorem do_some (h : DE X T O Wx e f) : DO X T O Wx (some e) (partE f) := ⟨fun pins s σ H Q I ⟨Γ, ρ, G, w, R, P⟩ => (po_some h).run pins s σ H Q I (post_bind R P fun v d G1 H1 w1 st R1 i1 P1 => by
  obtain ⟨n, rfl, rfl, P2⟩ := intM_ok (Pr := fun r => Post X.K T Γ O Wx ρ σ G1 H1 IsPt r Q) (fun z => z) i1 P1
  exact ⟨n, rfl, Post.ok P2 R1 rfl⟩)⟩
def cutL {α : Type} (xs : List α) (lo hi : Option Int) : List α := (xs.drop (HT.sIx xs.length 0 lo)).take (HT.sIx xs.length xs.length hi - HT.sIx xs.length 0 lo)
theorem IsL.cut {K : PySem.W.Frag} {wl : WlT} {G : Hp} {vs : List V} {ds : List D} (l : IsL K wl G vs ds) (lo hi : Option Int) : IsL K wl G (cutV vs lo hi) (cutL ds lo hi) := by
  unfold cutV cutL
  rw [l.length]
  exact (l.drop _).take _
def cutD (d : D) (lo hi : Option Int) : M D := match d with
  | .lst xs => M.pure (.lst (cutL xs lo hi))
  | .scr xs => M.pure (.lst (cutL xs lo hi))
  | .tup xs => M.pure (.tup (cutL xs lo hi))
  | .str s => if s.length ≤ sizeLine then M.pure (.str (cutS s lo hi)) else M.fail
  | _ => M.fail
def slE (f : Env → M D) (fl fh : Env → M (Option Int)) : Env → M D := fun ρ => M.bind (f ρ) fun d => M.bind (fl ρ) fun lo => M.bind (fh ρ) fun hi => cutD d lo hi
theorem de_sl {lo hi : Option Expr} {fl fh : Env → M (Option Int)} (h : DE X T O Wx e f) (hl : DO X T O Wx lo fl) (hh : DO X T O Wx hi fh) : DE X T O Wx (.Subscript e (.Slice lo hi none p2) pos) (slE f fl fh) :=
  pe_imp (pe_slice ((sl_list.or sl_tupA).or sl_str) h hl hh) fun σ H Q ⟨Γ, ρ, G, w, R, P⟩ => post_bind R P fun v d G1 H1 w1 s1 R1 i1 P1 => post_bind R1 P1 fun l l' G2 H2 w2 s2 R2 e2 P2 => post_bind R2 P2 fun u u' G3 H3 w3 s3 R3 e3 P3 => by
    obtain rfl : l = l' := e2
    obtain rfl : u = u' := e3
    have i1 := i1.mono (s2.x.trans s3.x)
    cases i1 with
    | lst s il => exact .inl (.inl ⟨_, _, rfl, SqL.of (R3.h.sub _ _ s), fun p hp => Post.new P3 R3 hp noLst (.lst upd_same ((il.cut l u).mono (hx_upd (R3.h.gnone hp))))⟩)
    | scr s il => exact .inl (.inl ⟨_, _, rfl, R3.h.sub.sqL s, fun p hp => Post.new P3 R3 hp noLst (.lst upd_same ((il.cut l u).mono (hx_upd (R3.h.gnone hp))))⟩)
    | @tup a vs ds s il =>
      refine .inl (.inr ⟨_, _, rfl, R3.h.sub.tq s, fun hw => ?_, fun _ p hp => Post.new P3 R3 hp noTup (.tup upd_same ((il.cut l u).mono (hx_upd (R3.h.gnone hp))))⟩)
      have e : cutL ds l u = ds := by
        unfold cutL
        rw [← il.length, hw.1, hw.2, List.drop_zero, Nat.sub_zero, il.length]
        exact List.take_length
      have P4 : Post X.K T Γ O Wx ρ σ G3 H3 IsV (.ok (.tup (cutL ds l u)) w3) Q := P3
      rw [e] at P4
      exact Post.ok P4 R3 (.tup s il)
    | str s =>
      obtain ⟨hz, P4⟩ := ifP P3
      exact .inr ⟨s, rfl, hz, Post.ok P4 R3 (.str _)⟩
    | _ => exact False.elim P3
/-- xs[lo::-1], any lower end -/
def pickL {α : Type} (xs : List α) (lo hi st : Option Int) : List α := (sliceRange (sliceBounds lo hi st xs.length).1 (sliceBounds lo hi st xs.length).2.1 (sliceBounds lo hi st xs.length).2.2).filterMap (xs[·]?)
theorem IsL.pick {K : PySem.W.Frag} {wl : WlT} {G : Hp} {vs : List V} {ds : List D} (l : IsL K wl G vs ds) : ∀ ix : List Nat, IsL K wl G (ix.filterMap (vs[·]?)) (ix.filterMap (ds[·]?))
  | [] => .nil
  | i :: ix => by
    rw [List.filterMap_cons, List.filterMap_cons]
    cases e : ds[i]? with
    | none =>
      have : vs[i]? = none := List.getElem?_eq_none_iff.mpr (by rw [l.length]; exact List.getElem?_eq_none_iff.mp e)
      rw [this]; exact IsL.pick l ix
    | some d =>
      obtain ⟨v, h1, h2⟩ := l.get e
      rw [h1]; exact .cons h2 (IsL.pick l ix)
theorem vals_pick {vs : List V} {us : List Value} (l : Vals vs us) : ∀ ix : List Nat, Vals (ix.filterMap (vs[·]?)) (ix.filterMap (us[·]?))
  | [] => .nil
  | i :: ix => by
    rw [List.filterMap_cons, List.filterMap_cons]
    cases e : vs[i]? with
    | none => rw [l.none_of e]; exact vals_pick l ix
    | some d =>
      obtain ⟨v, h1, h2⟩ := l.get e
      rw [h1]; exact .cons h2 (vals_pick l ix)
theorem pick_le {α : Type} (xs : List α) (lo : Option Int) : (pickL xs lo none (some (-1))).length ≤ xs.length := by
  unfold pickL
  refine Nat.le_trans (List.length_filterMap_le _ _) (sliceRange_length_le _ _ _ _ (fun h => absurd h (by show ¬ ((-1 : Int) > 0); decide)) fun _ => ?_)
  unfold sliceBounds
  cases lo with
  | none => dsimp only; simp
  | some i =>
    dsimp only
    simp only [Option.getD_some]
    rw [if_neg (by decide)]
    simp
    omega
def revM : D → Option Int → M D
  | .lst xs, lo => M.pure (.lst (pickL xs lo none (some (-1))))
  | _, _ => M.fail
theorem de_revSl {k : Nat} {lo : Option Expr} {fl : Env → M (Option Int)} (h : DE X T O Wx e f) (hl : DO X T O Wx lo fl) : DE X T O Wx (.Subscript e (.Slice lo none (some (.UnaryOp .USub (.Constant (.int 1) k p1) p2)) p3) pos) (fun ρ => M.bind (f ρ) fun d => M.bind (fl ρ) fun l => revM d l) := by
  refine ⟨fun pins s σ H Q I ⟨Γ, ρ, G, w, R, P⟩ => ?_⟩
  have q0 := post_bind (I := IsV) (Q1 := fun x H1 => tG X.K T O Wx IsPt fl σ H1 fun l H2 => ∃ a vs, x = .ref a ∧ SqL X.K H2 a vs ∧ ∀ p, H2 p = none → Q (.ref p) (upd H2 p (.lst (pickL vs l none (some (-1)))))) R P fun v d G1 H1 w1 s1 R1 i1 P1 => post_bind R1 P1 fun l l' G2 H2 w2 s2 R2 e2 P2 => by
    obtain rfl : l = l' := e2
    cases i1 with
    | @lst a vs ds s il =>
      have s' := s2.x _ _ s
      refine ⟨a, vs, rfl, SqL.of (R2.h.sub _ _ s'), fun p hp => Post.new P2 R2 hp noLst (.lst upd_same ?_)⟩
      have il := il.mono s2.x
      unfold pickL
      rw [il.length]
      exact (il.pick _).mono (hx_upd (R2.h.gnone hp))
    | _ => exact False.elim P2
  refine Subscript_ (thn (h.run pins s σ H _ I q0) fun v s1 ⟨x, H1, I1, r1, q1⟩ => ?_)
  have hst : PO X (some (.UnaryOp .USub (.Constant (.int 1) k p1) p2)) (tPart (tUn (rU fun i => .int (-i)) (tC (.int 1)))) := po_some (pe_un un_neg pe_int)
  refine wpAny_Slice (thn (hl.run pins s1 σ H1 _ I1 q1) fun vl s2 ⟨l, H2, I2, pl, a, vs, ex, hx, q2⟩ => ?_)
  subst ex
  cases r1
  refine thn (po_none.run pins s2 σ H2 (fun o H3 => o = none ∧ H3 = H2) I2 ⟨rfl, rfl⟩) fun vu s3 ⟨u, H3, I3, pu, eu, e3⟩ => ?_
  subst eu e3
  refine thn (hst.run pins s3 σ H3 (fun o H4 => o = some (-1) ∧ H4 = H3) I3 ⟨1, rfl, -1, rfl, rfl, rfl⟩) fun vz s4 ⟨o, H4, I4, pz, eo, e4⟩ => ?_
  subst eo e4
  have J : Inv X pins σ H4 { s4 with heap := s4.heap.push { cls := .type "slice", data := .fields #[vl, vu, vz] } } := I4.kept (t' := s4.toks) fun _ _ y => Heap.get?_push_of_some _ y
  obtain ⟨its, r, hL, hz⟩ := J.list hx
  have hn : its.length = vs.length := r.length.symm
  have fin : wpAny (model X.prog X.w) X.A (getItem (.ref a) (.ref s4.heap.objs.size)) (EP X pins σ Q) X.xe { s4 with heap := s4.heap.push { cls := .type "slice", data := .fields #[vl, vu, vz] } } := by
    refine wpAny_getItem_list_slice hL.isList (Heap.IsSliceOf.new _ vl vu vz) pl pu pz (by decide) ?_ (by rw [List.size_toArray, hn]; exact hz)
    have e : slicePick its.toArray l none (some (-1)) = (pickL its l none (some (-1))).toArray := by
      unfold slicePick pickL
      rw [List.size_toArray]
      simp only [List.getElem?_toArray]
    rw [e]
    refine ⟨.ref _, _, J.laid (t' := s4.toks) (o := .lst (pickL vs l none (some (-1)))) (fun _ _ y => Heap.get?_push_of_some _ y) (Nat.le_refl _) ?_, rfl, q2 _ (J.hok.fresh (Nat.le_refl _))⟩
    refine ⟨Nat.le_trans (pick_le vs l) hz, pickL its l none (some (-1)), 0, ?_, Heap.get?_push_size _ rfl⟩
    unfold pickL
    rw [hn]
    exact vals_pick r _
  exact tail_any (ops := [.ref a, .ref s4.heap.objs.size]) hL.isList.typeIs PySem.slot_list_getitem.lookup fin (by with_unfolding_all rfl)
end
end Q

namespace Q
open PySem PySem.Spec PyProof.Rows L2
/-! ## what is never reached -/
def deadS : Env → M Fl := fun _ => M.fail
theorem tS_dead {K : PySem.W.Frag} {T : Tb} {L O O' : List Nat} {Wx : WX} {D : Ends} {σ : L2.St} {H : Hp} : ¬ tS K T L O O' Wx deadS D σ H := fun ⟨Γ, ρ, G, w, R, P⟩ => P
section
variable {X : Cx} {T : Tb} {L O O1 O2 O' xs : List Nat} {Wx : WX} {a b c e val : Expr} {es : List Expr} {f fa fb fk fv : Env → M D} {fr : Env → M (List D)} {pos p1 p2 p3 : Pos} {st : Stmt}
theorem ds_dead : DS X T L O O' Wx st deadS := ⟨fun pins s σ H D I h => (tS_dead h).elim⟩
theorem de_dead : DE X T O Wx e (fun _ => M.fail) := ⟨fun pins s σ H Q I ⟨Γ, ρ, G, w, R, P⟩ => False.elim P⟩
/-! ## an object laid, then written -/
theorem Rel.pokeO {K : PySem.W.Frag} {Γ : Ctx} {ρ : Env} {σ : L2.St} {G H : Hp} {w : Wl} {p : Addr} {o o' : HO} {d d' : D} (R : Rel K T Γ O ρ σ G H w) (n : New Γ O ρ σ G H p o) (io : IsO K Γ.wl G o d) (ho : NoTbl o') (io' : IsO K Γ.wl G o' d') :
    Rel K T Γ O ρ σ G (upd H p o') w ∧ New Γ O ρ σ G (upd H p o') p o' := by
  have nl : ∀ {a : Addr} {x : HO}, G a = some x → a ≠ p := fun {a x} q z => by rw [z, n.g] at q; cases q
  refine ⟨⟨⟨fun a x q => by rw [upd_ne (nl q)]; exact R.h.sub _ _ q, R.h.nt, R.h.nw, R.h.g0, fun a x q y t => ?_, fun a q => ?_, fun a q => ?_, ?_, R.h.fnw, R.h.fg0, fun a us hf q => ?_⟩, R.len, R.fro, fun j f hj h => ?_, R.inj⟩, ⟨upd_same, n.g, n.b, n.w, ho, n.no⟩⟩
  · have z : a ≠ p := fun z => by rw [z, n.b] at q; cases q
    rw [upd_ne z]; exact R.h.keep _ _ q y t
  · have z : a ≠ p := fun z => by rw [z, upd_same] at q; cases q
    rw [upd_ne z] at q; exact R.h.mono _ q
  · obtain ⟨q1, q2⟩ := R.h.well a q
    have z : a ≠ p := fun z => n.w (by rw [q, z])
    rw [upd_ne z]; exact ⟨q1, q2⟩
  · intro u hu
    obtain ⟨ps, q1, q2⟩ := R.h.tabs u hu
    have z : u.1 ≠ p := fun z => by rw [z, n.at_] at q1; exact n.nt ps (Option.some.inj q1)
    refine ⟨ps, by rw [upd_ne z]; exact q1, q2.1, fun pos cv hc => ?_⟩
    obtain ⟨c, r1, r2⟩ := q2.2 pos cv hc
    have z2 : c ≠ p := fun z => by
      rw [z, n.at_] at r2
      have := Option.some.inj r2
      subst this
      cases io
    exact ⟨c, r1, by rw [upd_ne z2]; exact r2⟩
  · have z : a ≠ p := fun z => by rw [z, upd_same] at q; cases q; rw [io'.nf] at hf; cases hf
    rw [upd_ne z] at q; exact R.h.tv _ _ hf q
  · obtain ⟨m, u, q1, q2, q3, q4, q5, q6⟩ := R.own j f hj h
    have z : m ≠ p := fun z => n.no j f hj h (by rw [q1, z])
    exact ⟨m, u, q1, q2, q3, q4, by rw [upd_ne z]; exact q5, q6⟩
/-- a stretch that ends with a write to the object laid at its start -/
theorem Stp.poke {wl : WlT} {G H G1 H1 : Hp} {p : Addr} {o : HO} (st : Stp wl G H G1 H1) (hp : H p = none) : Stp wl G H G1 (upd H1 p o) :=
  ⟨st.x, fun a u q q1 q2 => by
    have z : a ≠ p := fun z => by rw [z, hp] at q; cases q
    rw [upd_ne z]; exact st.kp _ _ q q1 q2, st.nw, fun a q => by
    by_cases z : a = p
    · subst z; exact hp
    · rw [upd_ne z] at q; exact st.mono _ q⟩
/-! ## dicts displayed -/
theorem df_dnewK : DF X T O Wx (.Dict [] [] pos) (fun _ => M.pure (.dct false [])) :=
  pe_imp pe_dnewK fun σ H Q ⟨Γ, ρ, G, w, R, P⟩ p hp => PostN.new P R hp noDK (.dK rfl .nil)
theorem df_dnewT : DF X T O Wx (.Dict [] [] pos) (fun _ => M.pure (.dct true [])) :=
  pe_imp pe_dnewT fun σ H Q ⟨Γ, ρ, G, w, R, P⟩ p hp => PostN.new P R hp noDT (.dT rfl .nil)
def tOneT (tk tv : TE) : TE := fun σ H Q => ∀ p, H p = none → tk σ (upd H p (.dT [])) fun x H1 => tv σ H1 fun y H2 => ∃ b q, x = .ref b ∧ H2 b = some (.tup (q.map kV)) ∧ H2 p = some (.dT []) ∧ Q (.ref p) (upd H2 p (.dT [(q, y)]))
theorem pe_oneT {k v : Expr} {tk tv : TE} (hu : X.A.units + 1 < cLine) (hk : PE X k tk) (hv : PE X v tv) : PE X (.Dict [some k] [v] pos) (tOneT tk tv) := by
  refine ⟨fun pins s σ H Q I q => ?_⟩
  have hn := I.hok.fresh (Nat.le_refl s.heap.objs.size)
  have I1 : Inv X pins σ (upd H s.heap.objs.size (.dT [])) { s with heap := s.heap.push { cls := .type "dict", data := .dict #[] } } := I.laid (t' := s.toks) (fun _ _ y => Heap.get?_push_of_some _ y) (Nat.le_refl _) (dt_empty s.heap I.big)
  rw [arm_eval_Dict, zip_pairTrees [some k] [v] X.env pos rfl rfl, dictDisplay_pairs _ (by intro z; cases z) (by show 1 < 17; decide)]
  refine wpAny_bind (wpAny_standAt (wpAny_bind ?_))
  refine wpAny_subDictH (knd := tupleKind (mixKind X.prog X.w)) (Q := fun d s' => wpAny (model X.prog X.w) X.A (pure (Value.ref d)) (EP X pins σ Q) X.xe s') (by show X.A.units + 1 ≤ cLine; omega) (by show 1 ≤ 15; decide) ?_
  refine pairTrees_cons_walk (thn (hk.run pins _ σ _ _ I1 (q _ hn)) fun u s1 ⟨x, H1, I2, r1, q1⟩ => thn (hv.run pins s1 σ H1 _ I2 q1) fun z s2 ⟨y, H2, I3, r2, b, ks, ex, hb, hp, q2⟩ => pairTrees_nil_walk ?_)
  subst ex
  obtain rfl : u = Value.ref b := r1
  obtain ⟨_, hd, xs, rx, dd⟩ := L2.dt_of I3.hok hp
  cases rx
  refine ⟨[(ks, b, z)], ⟨rfl, rfl, key_of I3.hok hb, trivial⟩, dd, fun h' tk dd' sb => wpAny_pure ⟨.ref s.heap.objs.size, _, ?_, rfl, q2⟩⟩
  have ne : b ≠ s.heap.objs.size := fun z => by rw [z, hp] at hb; cases hb
  refine d_write I3 (by rw [hp]; exact True.intro) sb (let ⟨o, _, _, hq, _⟩ := dd'; ⟨o, hq⟩) ?_
  have es : storedAllH ([] : List (List Key × Addr × Value)) [(ks, b, z)] = [(ks, b, z)] := by rfl
  rw [es] at dd'
  obtain ⟨o9, es9, ep9, g1, g2, g3, g4, _, g5⟩ := dd'
  exact ⟨by rw [sizeLine_eq]; show 1 ≤ 16777216; decide, hd, [(ks, b, z)], .cons ⟨rfl, by rw [upd_ne ne]; exact hb, r2⟩ .nil, o9, es9, ep9, g1, g2, g3, g4, g5⟩
def oneTE (fk fv : Env → M D) : Env → M D := fun ρ => M.bind (fk ρ) fun k => M.bind (fv ρ) fun v => if keyIn true k = true then M.pure (.dct true [(k, v)]) else M.fail
theorem df_oneT {k v : Expr} (hu : X.A.units + 64 < cLine) (hk : DE X T O Wx k fk) (hv : DE X T O Wx v fv) : DF X T O Wx (.Dict [some k] [v] pos) (oneTE fk fv) :=
  pe_imp (pe_oneT (by omega) hk hv) fun σ H Q ⟨Γ, ρ, G, w, R, P⟩ p hp => by
    obtain ⟨R0, n0, s0⟩ := R.lay hp (noDT (xs := [])) rfl
    refine ⟨Γ, ρ, G, w, R0, ?_⟩
    simp only [oneTE, M.bind] at P
    cases e1 : fk ρ w with
    | fail => rw [e1] at P; exact P
    | exc c p' w' => rw [e1] at P; exact fun cls dd G' H' st => P cls dd G' H' (s0.trans st)
    | ok d w1 =>
      rw [e1] at P
      intro x G1 H1 st1 R1 i1
      refine ⟨Γ, ρ, G1, w1, R1, ?_⟩
      dsimp only at P ⊢
      cases e2 : fv ρ w1 with
      | fail => rw [e2] at P; exact P
      | exc c p' w' => rw [e2] at P; exact fun cls dd G' H' st => P cls dd G' H' (s0.trans (st1.trans st))
      | ok d2 w2 =>
        rw [e2] at P
        intro y G2 H2 st2 R2 i2
        have P : PostN X.K T Γ O Wx ρ σ G H ((if keyIn true d = true then M.pure (.dct true [(d, d2)]) else M.fail) w2) Q := P
        obtain ⟨hk, P⟩ := ifN P
        have n2 := (n0.step st1).step st2
        rcases keyIn_rel R2.h.sub hk (i1.mono st2.x) with ⟨z, _⟩ | ⟨_, q, b, rfl, rfl, hb⟩
        · cases z
        · refine ⟨b, q, rfl, hb, n2.at_, ?_⟩
          have io : IsO X.K Γ.wl G2 (.dT [(q, y)]) (.dct true [(kT q, d2)]) := .dT rfl (.cons i2 .nil)
          obtain ⟨R3, n3⟩ := R2.pokeO n2 (IsO.dT (ds := []) rfl .nil) (noDT (xs := [(q, y)])) io
          exact P p _ G2 _ (Stp.poke (s0.trans (st1.trans st2)) hp) R3 n3 hp io
/-! ## list(d) -/
def keysM : D → M D
  | .dct false kvs => M.pure (.lst (kvs.map (·.1)))
  | .dct true kvs => M.pure (.lst (kvs.map (·.1)))
  | _ => M.fail
theorem keys_isL {K : PySem.W.Frag} {wl : WlT} {G H : Hp} (tv : ∀ a o, isF o = true → H a = some o → G a = some o) : ∀ {kvs : List (List Key × V)} {bs : List Addr}, IsKeys H kvs bs → IsL K wl G (bs.map V.ref) (kvs.map fun p => kT p.1)
  | _, _, .nil => .nil
  | _, _, .cons h r => .cons (.tup (tv _ _ rfl h) (IsL.ofKeys _)) (keys_isL tv r)
/-- list(name), the name owned, a dict -/
theorem df_listO (i : Nat) {x : Str} {p : Pos} (hc : X.calm = true) (hm : X.mg "list" = none) (hO : i ∈ O := by decide) (hN : X.N[i]? = some x := by rfl) (hv : Vis X.env.scope x := by first | exact Or.inl rfl | exact Or.inr (Or.inl rfl) | exact Or.inr (Or.inr rfl)) (hd : (x == ("__debug__" : Str)) = false := by decide)
    (hcd : (x == ("__classdict__" : Str)) = false := by decide) (hg : Gl X "list" := by rfl) (he : starEach [.Name x p1] X.env = (false, eval (.Name x p1) X.env) :: starEach [] X.env := by rfl) (hpl : (backTo pos (starEach ([] : List Expr) X.env)).any (·.1) = false := by rfl) :
    DF X T O Wx (.Call (.Name "list" p) [.Name x p1] [] pos) (fun ρ => M.bind (getV ρ i) keysM) :=
  pe_imp (pe_callTy (CallR.or (call_list_dK hc) (call_list_dT hc)) hg hm boot_list' (pa_cons (pv i hN hv hd hcd) pa_nil he) (by decide) (by decide) he hpl) fun σ H Q ⟨Γ, ρ, G, w, R, P⟩ => by
    have P1 : PostN X.K T Γ O Wx ρ σ G H (M.bind (getV ρ i) keysM w) Q := P
    simp only [getV, M.bind] at P1
    cases e : ρ[i]? with
    | none => rw [e] at P1; exact False.elim P1
    | some o =>
      cases o with
      | none => rw [e] at P1; exact False.elim P1
      | some d =>
        rw [e] at P1
        obtain ⟨l, o, h1, h2, h3, h4, h5, h6, h7⟩ := R.own i d hO e
        refine ⟨.ref l, h1, ?_⟩
        cases h7 with
        | lst il => exact False.elim P1
        | @dK kvs ds hk hl =>
          refine .inl ⟨l, kvs, rfl, h5, fun q hq => PostN.new P1 R hq noLst (.lst ?_)⟩
          rw [hk]
          have : ∀ kvs : List (Key × V), IsL X.K Γ.wl G (kvs.map fun kv => kV kv.1) (kvs.map fun p => kD p.1) := fun kvs => by
            induction kvs with
            | nil => exact .nil
            | cons p r ih => exact .cons (Is.ofKey _) ih
          exact this kvs
        | @dT kvs ds hk hl =>
          refine .inr ⟨l, kvs, rfl, .inl h5, fun q bs hq hb => PostN.new P1 R hq noLst (.lst ?_)⟩
          rw [hk]
          exact keys_isL R.h.tv hb
/-! ## in -/
def flV : D → Option V
  | .non => some .non
  | .bl b => some (.bl b)
  | .int i => some (.int i)
  | .str s => some (.str s)
  | _ => none
def flVs : List D → Option (List V)
  | [] => some []
  | d :: ds => match flV d, flVs ds with
    | some v, some vs => some (v :: vs)
    | _, _ => none
theorem flV_ok {K : PySem.W.Frag} {wl : WlT} {G : Hp} {v u : V} {d : D} (i : Is K wl G v d) (h : flV d = some u) : v = u ∧ flatV v = true := by
  cases i <;> cases h <;> exact ⟨rfl, rfl⟩
theorem flVs_ok {K : PySem.W.Frag} {wl : WlT} {G : Hp} : ∀ {vs us : List V} {ds : List D}, IsL K wl G vs ds → flVs ds = some us → vs = us ∧ vs.all flatV = true
  | _, _, _, .nil, h => by cases h; exact ⟨rfl, rfl⟩
  | _, us, d :: ds, .cons i l, h => by
    unfold flVs at h
    cases e1 : flV d with
    | none => rw [e1] at h; cases h
    | some v =>
      cases e2 : flVs ds with
      | none => rw [e1, e2] at h; cases h
      | some ws =>
        rw [e1, e2] at h
        cases h
        obtain ⟨rfl, f1⟩ := flV_ok i e1
        obtain ⟨rfl, f2⟩ := flVs_ok l e2
        exact ⟨rfl, by rw [List.all_cons, f1, f2]; rfl⟩
def inP : D → D → Option Bool
  | d, .str s => match d with
    | .str z => match z with
      | ⟨⟨[c]⟩⟩ => some (decide (c ∈ s.cps.toList))
      | _ => none
    | _ => none
  | d, .dct t kvs => if keyIn t d = true then some (lkpD kvs d).isSome else none
  | d, .lst xs => if shOk d = true ∧ shOk (.lst xs) = true then some ((D.pyL xs).any fun z => PyData.eqv z d.py) else none
  | d, .tup xs => match flV d, flVs xs with
    | some v, some vs => some (inV v vs)
    | _, _ => none
  | d, .ktp xs => match flV d, flVs xs with
    | some v, some vs => some (inV v vs)
    | _, _ => none
  | _, _ => none
def rInDc (neg : Bool) : R2 := fun x y H Q => ∃ a o, y = .ref a ∧ DGet H a x o ∧ Q (.bl (if neg then !o.isSome else o.isSome)) H
theorem op_inDc (hu : X.A.units + 1 < cLine) : OpR X (compareOp .In) (rInDc false) := fun pins s σ H x y v u Q I rx ry ⟨a, o, e, g, q⟩ => by
  subst e
  obtain rfl : u = Value.ref a := ry
  exact d_in hu I g rx fun s' I' => ⟨.bl o.isSome, H, I', rfl, q⟩
theorem op_ninDc (hu : X.A.units + 1 < cLine) : OpR X (compareOp .NotIn) (rInDc true) := fun pins s σ H x y v u Q I rx ry ⟨a, o, e, g, q⟩ => by
  subst e
  obtain rfl : u = Value.ref a := ry
  exact d_notIn hu I g rx fun s' I' => ⟨.bl (!o.isSome), H, I', rfl, q⟩
def rInA (K : PySem.W.Frag) : R2 := fun x y H Q => ((rInD K x y H Q ∨ rIn K false x y H Q) ∨ rInS x y H Q) ∨ rInDc false x y H Q
def rNinA (K : PySem.W.Frag) : R2 := fun x y H Q => ((rNotInD K x y H Q ∨ rIn K true x y H Q) ∨ rNotInS x y H Q) ∨ rInDc true x y H Q
theorem op_inA (hu : X.A.units + 65 < cLine) : OpR X (compareOp .In) (rInA X.K) := (((op_inD hu).or op_in_seq).or op_inS).or (op_inDc (by omega))
theorem op_ninA (hu : X.A.units + 65 < cLine) : OpR X (compareOp .NotIn) (rNinA X.K) := (((op_notInD hu).or op_notIn_seq).or op_notInS).or (op_ninDc (by omega))
theorem IsL.dpL {K : PySem.W.Frag} {wl : WlT} {G H : Hp} {vs : List V} {ds : List D} (e : Hx G H) (l : IsL K wl G vs ds) (h : D.pyOkL ds = true) : DpAll K H vs (D.pyL ds) := IsL.dp e l h
theorem inP_ok {Γ : Ctx} {ρ : Env} {σ : L2.St} {G H : Hp} {w : Wl} {x y : V} {d c : D} {b : Bool} (R : Rel X.K T Γ O ρ σ G H w) (i1 : Is X.K Γ.wl G x d) (i2 : IsX X.K Γ G H y c) (h : inP d c = some b) :
    (∀ Q : VK, Q (.bl b) H → rInA X.K x y H Q) ∧ ∀ Q : VK, Q (.bl (!b)) H → rNinA X.K x y H Q := by
  by_cases hl : ∃ ds, c = .lst ds
  · obtain ⟨ds, rfl⟩ := hl
    obtain ⟨a, vs, rfl, hH, l⟩ := i2.lst R.h.sub
    simp only [inP] at h
    split at h
    · rename_i z
      cases h
      obtain ⟨z1, z2⟩ := z
      have d1 := i1.dp R.h.sub (shOk_of z1).1
      have ok2 := shOk_of z2
      have d2 : Dp X.K H (.ref a) (.list (D.pyL ds)) := .lst (.inl (.inl hH)) (l.dpL R.h.sub (by simpa only [D.pyOk] using ok2.1))
      have s2 : SeqAt.shaped (.list (D.pyL ds)) = true := by have := ok2.2; simpa only [D.py] using this
      exact ⟨fun Q q => .inl (.inl (.inl ⟨_, _, d1, d2, (shOk_of z1).2, s2, q⟩)), fun Q q => .inl (.inl (.inl ⟨_, _, d1, d2, (shOk_of z1).2, s2, q⟩))⟩
    · cases h
  by_cases hd : ∃ t ds, c = .dct t ds
  · obtain ⟨t, ds, rfl⟩ := hd
    obtain ⟨a, o, rfl, hH, io⟩ := i2.dct R.h.sub
    simp only [inP] at h
    split at h
    · rename_i z
      cases h
      obtain ⟨r, g, ir⟩ := dget_rel R.h.sub hH io z i1
      have e : (lkpD ds d).isSome = r.isSome := by
        cases r <;> cases q : lkpD ds d <;> rw [q] at ir <;> first | rfl | exact False.elim ir
      rw [e]
      exact ⟨fun Q q => .inr ⟨a, r, rfl, g, q⟩, fun Q q => .inr ⟨a, r, rfl, g, q⟩⟩
    · cases h
  have i2 := i2.val (fun ds z => hl ⟨ds, z⟩) (fun t ds z => hd ⟨t, ds, z⟩)
  have seq : ∀ {a : Addr} {vs : List V} {ds : List D}, SqT X.K H a vs → IsL X.K Γ.wl G vs ds → (match flV d, flVs ds with
    | some v, some vs => some (inV v vs)
    | _, _ => none) = some b → (∀ Q : VK, Q (.bl b) H → rInA X.K x (.ref a) H Q) ∧ ∀ Q : VK, Q (.bl (!b)) H → rNinA X.K x (.ref a) H Q := fun {a vs ds} hs l h => by
    cases e1 : flV d with
    | none => rw [e1] at h; cases h
    | some v =>
      cases e2 : flVs ds with
      | none => rw [e1, e2] at h; cases h
      | some us =>
        rw [e1, e2] at h
        cases h
        obtain ⟨rfl, f1⟩ := flV_ok i1 e1
        obtain ⟨rfl, f2⟩ := flVs_ok l e2
        exact ⟨fun Q q => .inl (.inl (.inr ⟨a, _, rfl, .inr hs, f1, f2, q⟩)), fun Q q => .inl (.inl (.inr ⟨a, _, rfl, .inr hs, f1, f2, q⟩))⟩
  cases i2 with
  | str s =>
    cases i1 <;> first | cases h | skip
    rename_i z
    unfold inP at h
    dsimp only at h
    split at h
    · rename_i c
      cases h
      exact ⟨fun Q q => .inl (.inr ⟨c, s, rfl, rfl, q⟩), fun Q q => .inl (.inr ⟨c, s, rfl, rfl, q⟩)⟩
    · cases h
  | tup s l => exact seq (R.h.sub.tq s) l h
  | ktp s l => exact seq (R.h.sub.sqT s) l h
  | lst s l => exact absurd ⟨_, rfl⟩ hl
  | dK s k l => exact absurd ⟨_, _, rfl⟩ hd
  | dT s k l => exact absurd ⟨_, _, rfl⟩ hd
  | _ => cases d <;> cases h
def inM (neg : Bool) (d c : D) : M D := M.bind (optM (inP d c)) fun b => M.pure (.bl (if neg = true then !b else b))
theorem ok_in (hu : X.A.units + 64 < cLine) (hu2 : X.A.units + 65 < cLine) : OpOk X T (compareOp .In) (inM false) := ⟨_, op_inA hu2, fun Γ O Wx ρ σ G H w x y d e Q R i1 i2 P => by
  cases q : inP d e with
  | none => simp only [inM, q] at P; exact False.elim P
  | some b =>
    simp only [inM, q] at P
    exact (inP_ok R i1 (.inl i2) q).1 Q (Post.ok P R (.bl _))⟩
theorem ok_notin (hu : X.A.units + 64 < cLine) (hu2 : X.A.units + 65 < cLine) : OpOk X T (compareOp .NotIn) (inM true) := ⟨_, op_ninA hu2, fun Γ O Wx ρ σ G H w x y d e Q R i1 i2 P => by
  cases q : inP d e with
  | none => simp only [inM, q] at P; exact False.elim P
  | some b =>
    simp only [inM, q] at P
    exact (inP_ok R i1 (.inl i2) q).2 Q (Post.ok P R (.bl _))⟩
end
end Q

namespace Q
open PySem PySem.Spec PyProof.Rows L2
/-! ## the law's own call -/
abbrev scrO (us : List Value) : Obj := { cls := .type "list", data := .seq us.toArray }
abbrev tabO : Obj := { cls := .none, data := .fields #[] }
open Classical in
/-- what is tracked at the start: the script, unless it is one of the module's own objects, and the tables -/
noncomputable def H0 (K : PySem.W.Frag) (a : Addr) (us : List Value) (ns : List Int) (ts : List Addr) : Hp := fun b =>
  if b ∈ ts then some (.tbl #[]) else if b = a ∧ K.lookup a = none then some (.frz (scrO us) (.lst (ns.map V.int))) else none
section
variable {P : Program} {w : World} {K : PySem.W.Frag} {mg mb : Str → Option Value} {k : Nat} {f a : Addr} {cs : List (Addr × Addr)} {ts : List Addr} {T : List NdefX.NTab} {fd : FuncData} {x : Str} {g : List D → M D} {s : Shared} {us : List Value} {ns : List Int}
theorem H0_tab {b : Addr} (h : b ∈ ts) : H0 K a us ns ts b = some (.tbl #[]) := by unfold H0; rw [if_pos h]
theorem H0_or (b : Addr) : (b ∈ ts ∧ H0 K a us ns ts b = some (.tbl #[])) ∨ (b ∉ ts ∧ b = a ∧ K.lookup a = none ∧ H0 K a us ns ts b = some (.frz (scrO us) (.lst (ns.map V.int)))) ∨ (b ∉ ts ∧ H0 K a us ns ts b = none) := by
  unfold H0
  by_cases h1 : b ∈ ts
  · rw [if_pos h1]; exact .inl ⟨h1, rfl⟩
  · rw [if_neg h1]
    by_cases h2 : b = a ∧ K.lookup a = none
    · rw [if_pos h2]; exact .inr (.inl ⟨h1, h2.1, h2.2, rfl⟩)
    · rw [if_neg h2]; exact .inr (.inr ⟨h1, rfl⟩)
theorem lawG (inK : K.In s.heap) (gl : s.heap.Ns mainGlobals mg) (bn : s.heap.Ns builtinsNs mb) (bb : ∀ y : Str, y ≠ "__name__" → mb y = bootBuiltins y) (nl : s.heap.NoLimit) (gn : s.gens = #[])
    (t1 : ∀ p ∈ cs, s.heap.get? p.2 = some tabO) (t2 : ∀ p ∈ cs, K.lookup p.2 = none) (t3 : ∀ p ∈ cs, PySem.W.CodeHd s.heap p.1 p.2)
    (bm : ∃ (m : Addr) (ob : Obj), mg "__builtins__" = some (.ref m) ∧ m ≠ builtinsNs ∧ s.heap.get? m = some ob ∧ ob.cls = .type "module" ∧ ob.dict = some builtinsNs ∧ ob.data = .plain)
    (sc : s.heap.get? a = some (scrO us)) (ii : IntsAre us ns) (ln : ns.length ≤ sizeLine) (rm : Room k callerA) (hT : ∀ q ∈ T, q.1 ∈ cs.map (·.2))
    (F : ∀ base : Heap, K.In base → base.Ns mainGlobals mg → (∀ p ∈ cs, LamX.TabB base mg p.1 p.2) → FnG P w K mg base k f fd [x] (spD K T 1 g)) (bd : ∀ (s : Shared) (u : Value), BindsTo s fd ⟨[u], []⟩ [(x, u)])
    (res : ∃ w', g [.scr (ns.map D.int)] [] = .ok (.bl true) w') :
    codeAny (model P w) callerA (.call (.ref f) ⟨[.ref a], []⟩) (fun r s' => r = .ok (.ret (.bool true)) ∧ OldK s.heap s'.heap ∧ s'.os = s.os ∧ AllBare s'.gens) s := by
  generalize hts : cs.map (·.2) = ts at *
  have tabAt : ∀ {b : Addr}, b ∈ ts → s.heap.get? b = some tabO ∧ K.lookup b = none := fun {b} hb => by
    rw [← hts] at hb
    obtain ⟨p, hp, rfl⟩ := List.mem_map.mp hb
    exact ⟨t1 p hp, t2 p hp⟩
  have inT : ∀ {p : Addr × Addr}, p ∈ cs → p.2 ∈ ts := fun {p} hp => by rw [← hts]; exact List.mem_map.mpr ⟨p, hp, rfl⟩
  have aT : a ∉ ts := fun z => by
    have q := (tabAt z).1
    rw [sc] at q; cases q
  generalize hH : H0 K a us ns ts = H
  have three : ∀ b, (b ∈ ts ∧ H b = some (.tbl #[])) ∨ (b ∉ ts ∧ b = a ∧ K.lookup a = none ∧ H b = some (.frz (scrO us) (.lst (ns.map V.int)))) ∨ (b ∉ ts ∧ H b = none) := fun b => by subst hH; exact H0_or b
  have seen : SqL K H a (ns.map V.int) := by
    cases q : K.lookup a with
    | some o =>
      have q' := inK a o q
      rw [sc] at q'; cases q'
      exact .inr ⟨_, us.toArray, _, q, rfl, rfl, rfl, by rw [List.size_toArray, ii.length]; exact ln, by simpa using vals_ints ii⟩
    | none =>
      rcases three a with z | ⟨_, _, _, z⟩ | ⟨z1, z2⟩
      · exact absurd z.1 aT
      · exact .inl (.inr ⟨_, z⟩)
      · subst hH
        unfold H0 at z2
        rw [if_neg z1, if_pos ⟨rfl, q⟩] at z2; cases z2
  have hok : HOk P w H s.heap := fun b o hb => by
    rcases three b with ⟨z1, z2⟩ | ⟨_, rfl, _, z2⟩ | ⟨_, z2⟩
    · rw [z2] at hb; cases hb
      exact (tabAt z1).1
    · rw [z2] at hb; cases hb
      exact ⟨sc, by rw [List.length_map]; exact ln, us, _, vals_ints ii, sc⟩
    · rw [z2] at hb; cases hb
  have bare : ∀ {b : Addr} {o : Obj}, s.heap.get? b = some o → (∀ v n, o.data ≠ .seq v n) → o.data ≠ .fields #[] → H b = none := fun {b o} e n1 n2 => by
    rcases three b with ⟨z1, _⟩ | ⟨_, rfl, _, _⟩ | ⟨_, z2⟩
    · rw [(tabAt z1).1] at e; cases e
      exact absurd rfl n2
    · rw [sc] at e; cases e
      exact absurd rfl (n1 _ _)
    · exact z2
  have dicts : ∀ {b : Addr} {m : Str → Option Value}, s.heap.Ns b m → (hidT s.heap H).Ns b m := fun {b m} ⟨o, es, ep, e, d, r⟩ =>
    ⟨o, es, ep, hidT_get e (bare e (fun v n z => by rw [d] at z; cases z) fun z => by rw [d] at z; cases z), d, r⟩
  have own : K.In (hidT s.heap H) := fun b o e => hidT_get (inK b o e) (by
    rcases three b with ⟨z1, _⟩ | ⟨_, rfl, z, _⟩ | ⟨_, z2⟩
    · rw [(tabAt z1).2] at e; cases e
    · rw [z] at e; cases e
    · exact z2)
  have tb : ∀ p ∈ cs, LamX.TabB (hidT s.heap H) mg p.1 p.2 := fun p hp => by
    have at_ := t1 p hp
    refine ⟨?_, ?_, fun z => ?_⟩
    · obtain ⟨o, vs, file, tf, flags, tg, inF, text, tt, e1, r1, r2, rest⟩ := t3 p hp
      refine ⟨o, vs, file, tf, flags, tg, inF, text, tt, hidT_get e1 (bare e1 (fun v n z => by rw [r2] at z; cases z) fun z => ?_), r1, r2, rest⟩
      rw [r2] at z; cases z
      have := rest.1
      simp at this
    · obtain ⟨m, ob, b1, b2, b3, b4, b5, b6⟩ := bm
      refine ⟨m, ob, b1, b2, fun z => ?_, fun z => ?_, hidT_get b3 (bare b3 (fun v n z => by rw [b6] at z; cases z) fun z => by rw [b6] at z; cases z), b4, b5, b6⟩
      · obtain ⟨o, es, ep, e, d, _⟩ := gl
        rw [z, e] at b3; cases b3
        rw [d] at b6; cases b6
      · rw [z, at_] at b3; cases b3
        cases b6
    · obtain ⟨o, es, ep, e, d, _⟩ := gl
      rw [z, at_] at e; cases e
      cases d
  have mod : L2.Mod K mg (hidT s.heap H) := ⟨own, dicts gl, ⟨mb, dicts bn, bb⟩, let ⟨m, h1, h2⟩ := nl; ⟨m, dicts h1, h2⟩⟩
  have env : Env0 P w K mg (hidT s.heap H) callerA [] s H := ⟨rfl, mod, fun _ _ => of_hidT, Nat.le_of_eq (hidT_size _ _), trivial, fun b (hb : b ∈ ([] : List Addr)) => (nomatch hb), hok, .of_eq gn⟩
  obtain ⟨w', hg⟩ := res
  have sp : spD K T 1 g [.ref a] H (fun v _ => v = .bl true) (fun _ _ _ => False) := by
    classical
    refine ⟨⟨none, fun _ => none⟩, fun b => if b ∈ ts then none else H b, [], [.scr (ns.map D.int)], ⟨fun b o e => ?_, fun b o e => ?_, fun b e => (nomatch e), fun q hq => NdefX.TabN.nil ?_, fun b vs hf e => ?_⟩, .cons (.scr ?_ (IsL.ints ns)) .nil, rfl, ?_⟩
    · by_cases z : b ∈ ts
      · rw [if_pos z] at e; cases e
      · rw [if_neg z] at e; exact e
    · by_cases z : b ∈ ts
      · rw [if_pos z] at e; cases e
      · rw [if_neg z] at e
        rcases three b with z1 | ⟨_, _, _, z2⟩ | ⟨_, z2⟩
        · exact absurd z1.1 z
        · rw [z2] at e; cases e; exact fun _ y => nomatch y
        · rw [z2] at e; cases e
    · rcases three q.1 with z | z | z
      · exact z.2
      · exact absurd (hT q hq) z.1
      · exact absurd (hT q hq) z.1
    · rcases three b with ⟨_, z2⟩ | ⟨_, _, _, z2⟩ | ⟨_, z2⟩ <;> (rw [z2] at e; cases e; try cases hf)
    · rcases seen with (z | ⟨o, z⟩) | z
      · exact .inl (.inl ((if_neg aT).trans z))
      · exact .inl (.inr ⟨o, (if_neg aT).trans z⟩)
      · exact .inr z
    · rw [hg]
      intro v G' H' _ i
      cases i; rfl
  refine codeAny_mono ((F _ own (dicts gl) tb).run callerA [] s H ⟨[.ref a], []⟩ [.ref a] [.ref a] _ _ rfl rm env (bd s (.ref a)) (.cons rfl .nil) sp) fun r s' h => ?_
  cases r with
  | error e => obtain ⟨_, _, _, _, _, _, _, _, _, _, _, _, z⟩ := h; exact z.elim
  | ok fl =>
    cases fl <;> first | exact False.elim h | skip
    rename_i u
    obtain ⟨v, H', os, ba, un, hok', r', q⟩ := h
    obtain rfl : v = .bl true := q
    obtain rfl : u = Value.bool true := r'
    have old : ∀ b o, b ∉ ts → s.heap.get? b = some o → s'.heap.get? b = some o := fun b o nb e => by
      rcases three b with z | ⟨_, rfl, _, z⟩ | ⟨_, z⟩
      · exact absurd z.1 nb
      · obtain ⟨e2, _⟩ := hok' b _ (un.frzs b _ _ z)
        rw [sc] at e; cases e
        exact e2
      · exact un.keep b o e z (fun y => nomatch (show b ∈ ([] : List Addr) from y)) (by simp)
    have more : ∀ b ∈ ts, ∃ m : Array Value, s'.heap.get? b = some { cls := .none, data := .fields m } := fun b hb => by
      rcases three b with ⟨_, z⟩ | ⟨z, _⟩ | ⟨z, _⟩
      · obtain ⟨m, y⟩ := un.tbls b #[] z
        exact ⟨_, hok' b _ y⟩
      · exact absurd hb z
      · exact absurd hb z
    refine ⟨rfl, ⟨fun b o e => ?_, fun b o e => ?_⟩, os, ba⟩
    · by_cases hb : b ∈ ts
      · obtain ⟨m, hm⟩ := more b hb
        rw [← hts] at hb
        obtain ⟨p, hp, rfl⟩ := List.mem_map.mp hb
        rw [t1 p hp] at e; cases e
        exact .inr (.inl ⟨((t3 p hp).tab (t1 p hp)).isCodeTable, rfl, #[], m, rfl, by rw [Array.empty_append]; exact hm⟩)
      · exact .inl (old b o hb e)
    · by_cases hb : b ∈ ts
      · obtain ⟨m, hm⟩ := more b hb
        exact ⟨_, hm⟩
      · exact ⟨o, old b o hb e⟩
end
/-- what the head must give -/
def LawD (l : PySem.W.OpenLaw) (w : World) (k n : Nat) (x : Str) (mg : Str → Option Value) (f : Addr) (h : Heap) : Prop :=
  ∃ (K : PySem.W.Frag) (fd : FuncData) (cs : List (Addr × Addr)) (T : List NdefX.NTab) (g : List D → M D), K.In h ∧ (∀ p ∈ cs, h.get? p.2 = some tabO) ∧ (∀ p ∈ cs, K.lookup p.2 = none) ∧ (∀ p ∈ cs, PySem.W.CodeHd h p.1 p.2) ∧ (∀ q ∈ T, q.1 ∈ cs.map (·.2)) ∧
    (∀ (s : Shared) (u : Value), BindsTo s fd ⟨[u], []⟩ [(x, u)]) ∧ (∀ ns : List Int, ns.length ≤ n → (∀ z ∈ ns, Builtin.Int.intBits z ≤ 1048576) → ∃ w', g [.scr (ns.map D.int)] [] = .ok (.bl true) w') ∧
    ∀ base : Heap, K.In base → base.Ns mainGlobals mg → (∀ p ∈ cs, LamX.TabB base mg p.1 p.2) → FnG l.prog w K mg base k f fd [x] (spD K T 1 g)
theorem walkG {l : PySem.W.OpenLaw} {n k : Nat} {q : Program} {loose : List Str} {XP : (Str → Option Value) → Heap → Prop} {YP : World → Heap → Prop} {d : DefRec} {x : Str}
    (hn : l.most = some n) (hn2 : n ≤ sizeLine) (hdf : d.params.defaults = []) (rm : Room k callerA)
    (F : ∀ (w : World) (mg : Str → Option Value) (f : Addr) (h : Heap), YP w h → h.Ns mainGlobals mg → mg d.name = some (.ref f) → LawD l w k n x mg f h) :
    PySem.W.WalkO q loose XP YP l.row.toRowW d [] (fun f vs => PySem.call f vs) := by
  refine Att.attach_callB hn hdf fun w s₀ s mg mb f o pm cd doc a us ns Gr Y ho hd hcd hmg sc ii hlen bits gn => ?_
  obtain ⟨K, fd, cs, T, g, inK, t1, t2, t3, hT, bd, res, F⟩ := F w mg f _ Y Gr.T.g hmg
  exact lawG inK Gr.T.g Gr.T.b Gr.T.builtins Gr.T.nolimit gn t1 t2 t3 Gr.T.bmain sc ii (Nat.le_trans hlen hn2) rm hT F bd (res ns hlen bits)
end Q

namespace Q
open PySem PySem.Spec PyProof.Rows L2
/-! ## defs that give a new object -/
/-- known to be new, seen from the heap at the entry -/
structure Fresh (wl : WlT) (G H H' : Hp) (p : Addr) (o : HO) : Prop where
  at_ : H' p = some o
  g : G p = none
  b : H p = none
  w : wl.w ≠ some p
  nt : NoTbl o
def PostFN (K : PySem.W.Frag) (τ : List NdefX.NTab) (wl : WlT) (G H : Hp) (r : Out D) (Q : VK) (E : XK) : Prop :=
  match r with
  | .fail => False
  | .ok d w' => ∀ p o G' H', RelH (tb0 τ) ⟨wl, G, H⟩ G' H' w' → Fresh wl G' H H' p o → IsO K wl G' o d → Q (.ref p) H'
  | .exc c p w' => ∀ cls dd G' H', RelH (tb0 τ) ⟨wl, G, H⟩ G' H' w' → ExcIs K wl c p cls dd G' H' → E cls dd H'
def spN (K : PySem.W.Frag) (τ : List NdefX.NTab) (n : Nat) (g : List D → M D) : Sp := fun vs H Q E => ∃ wl G w ds, EnterH τ wl G H w ∧ IsL K wl G vs ds ∧ vs.length = n ∧ PostFN K τ wl G H (g ds w) Q E
def PostSN (K : PySem.W.Frag) (T : Tb) (Γ : Ctx) (Wx : WX) (G : Hp) (r : Out Fl) (D : Ends) : Prop :=
  match r with
  | .exc c p w' => ∀ cls dd σ' G' H', Hx G G' → RelH T Γ G' H' w' → ExcIs K Γ.wl c p cls dd G' H' → Wx cls dd σ' H'
  | .ok (.rt d) w' => ∀ p o G' H', Hx G G' → RelH T Γ G' H' w' → Fresh Γ.wl G' Γ.B H' p o → IsO K Γ.wl G' o d → D.rt (.ref p) H'
  | _ => False
def tSN (K : PySem.W.Frag) (T : Tb) (O : List Nat) (Wx : WX) (f : Env → M Fl) : TS := fun D σ H => ∃ Γ ρ G w, Rel K T Γ O ρ σ G H w ∧ PostSN K T Γ Wx G (f ρ w) D
def DNs (X : Cx) (T : Tb) (O : List Nat) (Wx : WX) (st : List Stmt) (f : Env → M Fl) : Prop := PSs X st (tSN X.K T O Wx f)
section
variable {X : Cx} {T : Tb} {L O O1 O2 O' xs : List Nat} {Wx : WX} {a b c e val : Expr} {es : List Expr} {f fa fb : Env → M D} {fr : Env → M (List D)} {pos p1 p2 p3 : Pos} {st : Stmt} {rest : List Stmt} {k : Nat}
theorem PostSN.widen {K : PySem.W.Frag} {Γ : Ctx} {G G1 : Hp} {r : Out Fl} {D : Ends} (P : PostSN K T Γ Wx G r D) (x : Hx G G1) : PostSN K T Γ Wx G1 r D := by
  cases r with
  | fail => exact P
  | exc c p w' => exact fun cls dd σ' G' H' h => P cls dd σ' G' H' (x.trans h)
  | ok r w' =>
    cases r with
    | rt d => exact fun v o G' H' h => P v o G' H' (x.trans h)
    | _ => exact P
def seqN (f g : Env → M Fl) : Env → M Fl := fun ρ => M.bind (f ρ) fun r => match r with
  | .nx ρ' => g ρ'
  | _ => M.fail
theorem dns_cons {f g : Env → M Fl} (h1 : DS X T L O O1 Wx st f) (h2 : DNs X T O1 Wx rest g) : DNs X T O Wx (st :: rest) (seqN f g) := pss_imp (pss_cons h1 h2) fun D σ H ⟨Γ, ρ, G, w, R, P⟩ => by
  refine ⟨Γ, ρ, G, w, R, ?_⟩
  simp only [seqN, M.bind] at P
  cases e : f ρ w with
  | fail => rw [e] at P; exact P
  | exc c p w' => rw [e] at P; exact P
  | ok r w' =>
    rw [e] at P
    cases r with
    | nx ρ' => exact fun σ' G' H' x R' => ⟨Γ, ρ', G', w', R', PostSN.widen P x⟩
    | rt d => exact False.elim P
    | bk ρ' => exact False.elim P
    | ct ρ' => exact False.elim P
theorem dns_ret (h : DF X T O1 Wx a fa) (hs : SubL O1 O := by decide) : DNs X T O Wx [.Return (some a) pos] (retS fa) :=
  pss_imp (pss_one (ps_ret h)) fun D σ H ⟨Γ, ρ, G, w, R, P⟩ => by
    obtain ⟨G1, x1, R1⟩ := R.thaw hs
    refine ⟨Γ, ρ, G1, w, R1, ?_⟩
    simp only [retS, M.bind] at P
    cases q : fa ρ w with
    | fail => rw [q] at P; exact P
    | exc c p w' => rw [q] at P; exact fun cls dd G' H' st => P cls dd σ G' H' (x1.trans st.x)
    | ok d w' =>
      rw [q] at P
      exact fun p o G' H' st R' n hp io => P p o G' H' (x1.trans st.x) R'.h ⟨n.at_, n.g, n.b, n.w, n.nt⟩ io
def endN (r : Out Fl) : Out D := match r with
  | .exc c p w => .exc c p w
  | .ok (.rt d) w => .ok d w
  | _ => .fail
/-- a def on data that gives a new object -/
def fnN (n : Nat) (f : Env → M Fl) : List D → M D := fun ds w => endN (f (startE n ds) w)
theorem fnN_data {P : Program} {w : World} {K : PySem.W.Frag} {mg : Str → Option Value} {base : Heap} {f : Addr} {fd : FuncData} {fname qual : Str} {params : Arguments} {body : List Stmt} {scope : Scope} {dvs : List V} {kws : List (Str × V)} {N ps : List Str} {τ : List NdefX.NTab} {g : Env → M Fl} (F : FunD K fname qual params body scope dvs kws f fd) (S : FnScope N ps scope)
    (hbody : ∀ (cdv : Value) (A : Around) (outer : List PySem.Env) (s : Shared) (H : Hp) (E : XK), Ok k (bodyX P w K mg base N qual scope f cdv A outer s H E) →
      DNs (bodyX P w K mg base N qual scope f cdv A outer s H E) (tb0 τ) [] (WxE E) body g) :
    FnG P w K mg base (k + 1) f fd ps (spN K τ ps.length (fnN N.length g)) := by
  obtain ⟨oc, od, dV, kV, doc, pm, an, cdv, ct, osl, rfl, lk, hcd, _, _⟩ := F.ex
  refine fnG_of lk hcd S (fun vs H Q E ⟨wl, G, wv, ds, _, _, h, _⟩ => h) fun A outer s H vs Q E ok ⟨wl, G, wv, ds, en, l, hl, P1⟩ => ⟨_, hbody cdv A outer s H E ok, ?_⟩
  refine ⟨⟨wl, G, H⟩, startE N.length ds, G, wv, start_rel en l, ?_⟩
  have P2 : PostFN K τ wl G H (endN (g (startE N.length ds) wv)) Q E := P1
  show PostSN K (tb0 τ) ⟨wl, G, H⟩ (WxE E) G (g (startE N.length ds) wv) _
  cases e : g (startE N.length ds) wv with
  | fail => rw [e] at P2; exact P2
  | exc c p w' => rw [e] at P2; exact fun cls dd σ' G' H' _ r x => P2 cls dd G' H' r x
  | ok r w' =>
    rw [e] at P2
    cases r with
    | nx ρ' => exact False.elim P2
    | rt d => exact fun p o G' H' _ r n io => P2 p o G' H' r n io
    | bk ρ' => exact False.elim P2
    | ct ρ' => exact False.elim P2
/-- f(e, ..) of a def that gives a new object -/
theorem df_call {j : Nat} {x : Str} {p : Pos} {f : Addr} {fd : FuncData} {ps : List Str} {g : List D → M D} (F : FnG X.prog X.w X.K X.mg X.base k f fd ps (spN X.K T.tabs ps.length g)) (ok : Ok j X) (hk : k ≤ j) (tk : Takes X Wx) (hm : X.mg x = some (.ref f)) (kp : PySem.W.keepIn X.K (.ref f) = true) (hb : Binds X.K fd ps [])
    (ha : DA X T O Wx (e :: es) fr) (hg : Gl X x := by rfl) (hdb : (x == ("__debug__" : Str)) = false := by decide) (he : starEach (e :: es) X.env = (false, eval e X.env) :: starEach es X.env := by rfl) (hpl : (backTo pos (starEach es X.env)).any (·.1) = false := by rfl) :
    DF X T O Wx (.Call (.Name x p) (e :: es) [] pos) (argN ps.length g fr) := by
  refine ⟨fun pins s σ H Q I h => ?_⟩
  refine wpAny_Call_Name_kw (ld_glob I hg hm ?_ hdb)
  obtain ⟨Γ, ρ, G, w, R, Pq⟩ := h
  have q : tL X.K T O Wx fr σ H (fun vs H1 => spN X.K T.tabs ps.length g vs H1 Q (WE Wx σ)) := postN_bind R Pq fun vs ds G1 H1 w1 st R1 l P1 => by
    obtain ⟨hn, P2⟩ := ifN P1
    refine ⟨Γ.wl, G1, w1, ds, R1.h.enter, l, l.length.trans hn, ?_⟩
    cases e2 : g ds w1 with
    | fail => rw [e2] at P2; exact P2
    | ok d w' =>
      rw [e2] at P2
      intro p o G' H' r n io
      obtain ⟨R', st'⟩ := R1.after r
      refine P2 p o G' H' st' R' ⟨n.at_, n.g, R1.h.mono p n.b, n.w, n.nt, fun i d hi e3 z => ?_⟩ n.b io
      obtain ⟨l', o', q1, q2, q3, q4, q5, _⟩ := R1.own i d hi e3
      rw [z] at q1; cases q1
      rw [n.b] at q5; cases q5
    | exc c p w' =>
      rw [e2] at P2
      intro cls dd G' H' r z
      obtain ⟨R', st'⟩ := R1.after r
      exact P2 cls dd G' H' st' R'.h z
  refine PySem.W.callWith_K (h₀ := X.base) I.ok.mod.kin kp (thn (ha.run pos pins s σ H _ I q) ?_) he hpl
  rintro us s1 ⟨vs, H1, I1, rv, q1⟩
  refine ⟨I1.kIn, run_fnG F (ok.room.mono hk) ok.g tk ?_ I1 rv q1⟩
  have hl : us.length = ps.length := by rw [← rv.length]; exact F.len _ _ _ _ q1
  have := hb s1 us I1.kIn (by rw [List.append_nil]; exact hl)
  rw [List.append_nil] at this
  exact this
/-! ## f(a new list of whole numbers): the list is the well of that call -/
def wellM (g : List D → M D) (d : D) : M D := fun w => match d with
  | .lst xs => match intsD xs with
    | some ns => match g [.well] ns with
      | .ok (.bl b) _ => .ok (.bl b) w
      | _ => .fail
    | none => .fail
  | _ => .fail
theorem de_well {j : Nat} {x : Str} {p : Pos} {f : Addr} {fd : FuncData} {y : Str} {g : List D → M D} (F : FnG X.prog X.w X.K X.mg X.base k f fd [y] (spD X.K T.tabs 1 g)) (ok : Ok j X) (hk : k ≤ j) (tk : Takes X Wx) (hm : X.mg x = some (.ref f)) (kp : PySem.W.keepIn X.K (.ref f) = true) (hb : Binds X.K fd [y] [])
    (ha : DF X T O Wx e fa) (hg : Gl X x := by rfl) (hdb : (x == ("__debug__" : Str)) = false := by decide) (he : starEach [e] X.env = (false, eval e X.env) :: starEach [] X.env := by rfl) (hpl : (backTo pos (starEach ([] : List Expr) X.env)).any (·.1) = false := by rfl) :
    DE X T O Wx (.Call (.Name x p) [e] [] pos) (fun ρ => M.bind (fa ρ) (wellM g)) := by
  refine ⟨fun pins s σ H Q I h => ?_⟩
  refine wpAny_Call_Name_kw (ld_glob I hg hm ?_ hdb)
  obtain ⟨Γ, ρ, G, w, R, Pq⟩ := h
  have q : tN X.K T O Wx fa σ H (fun v H1 => spD X.K T.tabs 1 g [v] H1 Q (WE Wx σ)) := by
    refine ⟨Γ, ρ, G, w, R, ?_⟩
    simp only [M.bind] at Pq
    cases e1 : fa ρ w with
    | fail => rw [e1] at Pq; exact Pq
    | exc c p w' => rw [e1] at Pq; exact Pq
    | ok d w1 =>
      rw [e1] at Pq
      intro p o G1 H1 st R1 n hp io
      have P1 : Post X.K T Γ O Wx ρ σ G H IsV (wellM g d w1) Q := Pq
      cases io with
      | @lst vs ds il =>
        unfold wellM at P1
        cases e2 : intsD ds with
        | none => simp only [e2] at P1; exact False.elim P1
        | some ns =>
          simp only [e2] at P1
          have e3 := intsD_eq e2
          subst e3
          have e4 := il.ofInts
          subst e4
          refine ⟨⟨some p, Γ.wl.fn⟩, G1, ns, [.well], ⟨R1.h.sub, R1.h.nt, fun a z => ?_, R1.h.tabs, R1.h.tv⟩, .cons (.well rfl) .nil, rfl, ?_⟩
          · cases z
            exact ⟨n.g, n.at_⟩
          · cases e5 : g [.well] ns with
            | fail => rw [e5] at P1; exact False.elim P1
            | exc c p' w' => rw [e5] at P1; exact False.elim P1
            | ok d w' =>
              rw [e5] at P1
              intro v G' H' r i
              cases i with
              | bl b =>
                have ne : ∀ {a : Addr} {u : HO}, H a = some u → a ≠ p := fun {a u} q z => by rw [z, hp] at q; cases q
                have kp' : ∀ {a : Addr} {u : HO}, H a = some u → Γ.wl.w ≠ some a → NoTbl u → H' a = some u := fun {a u} q w1 nt => r.keep a u (st.kp a u q w1 nt) (fun z => ne q (Option.some.inj z).symm) nt
                have nw' : ∀ a, G' a ≠ none → G a ≠ none ∨ H a = none := fun a z => (r.nw a z).elim (fun y => st.nw a y) fun y => .inr (st.mono a y)
                have st' : Stp Γ.wl G H G' H' := ⟨st.x.trans r.g0, fun a u q w1 nt => kp' q w1 nt, nw', fun a z => st.mono a (r.mono a z)⟩
                have rh : RelH T Γ G' H' w1 := by
                  refine ⟨r.sub, r.nt, fun a z => ?_, R1.h.g0.trans r.g0, fun a u q w2 nt => ?_, fun a z => R1.h.mono a (r.mono a z), fun a z => ?_, r.tabs, R1.h.fnw, R1.h.fg0.trans r.g0, r.tv⟩
                  · rcases r.nw a z with y | y
                    · exact R1.h.nw a y
                    · exact .inr (R1.h.mono a y)
                  · have h1 := R1.h.keep a u q w2 nt
                    have z : a ≠ p := fun z => by rw [z, n.b] at q; cases q
                    exact r.keep a u h1 (fun y => z (Option.some.inj y).symm) nt
                  · obtain ⟨h1, h2⟩ := R1.h.well a z
                    have y : a ≠ p := fun y => n.w (by rw [z, y])
                    refine ⟨?_, r.keep a _ h2 (fun q => y (Option.some.inj q).symm) noLst⟩
                    cases q : G' a with
                    | none => rfl
                    | some u =>
                      rcases r.nw a (by rw [q]; exact fun z => nomatch z) with v | v
                      · exact absurd h1 v
                      · have v : H1 a = none := v
                        rw [h2] at v; cases v
                exact P1 (.bl b) G' H' st' (R.slots' st' rh) (.bl b)
              | _ => exact False.elim P1
      | _ => exact False.elim P1
  refine PySem.W.callWith_K (h₀ := X.base) I.ok.mod.kin kp (thn ((pa_cons ha pa_nil he).run pos pins s σ H (fun vs H1 => spD X.K T.tabs 1 g vs H1 Q (WE Wx σ)) I q) ?_) he hpl
  rintro us s1 ⟨vs, H1, I1, rv, q1⟩
  refine ⟨I1.kIn, run_fnG F (ok.room.mono hk) ok.g tk ?_ I1 rv q1⟩
  have hl : us.length = 1 := by rw [← rv.length]; exact F.len _ _ _ _ q1
  have := hb s1 us I1.kIn (by rw [List.append_nil]; exact hl)
  rw [List.append_nil] at this
  exact this
end
end Q
namespace Q
open PySem PySem.Spec PyProof.Rows L2
/-! ## what bodies' contexts are -/
theorem Ok.u65 {k : Nat} {X : Cx} (o : Ok k X) : X.A.units + 65 < cLine := by have := o.room.un; omega
theorem Ok.blk {k : Nat} {X : Cx} {s : Shared} {H : Hp} {scope : Scope} {cenv : PySem.Env} {fp : List Addr} (o : Ok k X) : Ok k (X.blk s H scope cenv fp) := ⟨o.room, o.g⟩
section
variable {P : Program} {w : World} {K : PySem.W.Frag} {mg : Str → Option Value} {base : Heap} {N : List Str} {qual : Str} {scope : Scope} {f : Addr} {cdv : Value} {A : Around} {outer : List PySem.Env} {s : Shared} {H : Hp} {E : XK}
theorem tkB : Takes (bodyX P w K mg base N qual scope f cdv A outer s H E) (WxE E) := takes_of (X := bodyX P w K mg base N qual scope f cdv A outer s H E) rfl rfl rfl rfl
theorem psB : PassesOwn (model (bodyX P w K mg base N qual scope f cdv A outer s H E).prog (bodyX P w K mg base N qual scope f cdv A outer s H E).w) (bodyX P w K mg base N qual scope f cdv A outer s H E).A (bodyX P w K mg base N qual scope f cdv A outer s H E).env (bodyX P w K mg base N qual scope f cdv A outer s H E).xe := passes_of (X := bodyX P w K mg base N qual scope f cdv A outer s H E) rfl
end
section
variable {X : Cx} {T : Tb} {L O O1 O2 O' xs : List Nat} {Wx : WX} {pos : Pos}
theorem ds_breakL (hs : SubL L O := by decide) : DS X T L O O' Wx (.Break pos) (fun ρ => M.pure (.bk ρ)) := ps_imp ps_break fun D σ H ⟨Γ, ρ, G, w, R, P⟩ => by
  obtain ⟨G1, x1, R1⟩ := R.thaw hs
  exact P σ G1 H x1 R1
theorem ds_continueL (hs : SubL L O := by decide) : DS X T L O O' Wx (.Continue pos) (fun ρ => M.pure (.ct ρ)) := ps_imp ps_continue fun D σ H ⟨Γ, ρ, G, w, R, P⟩ => by
  obtain ⟨G1, x1, R1⟩ := R.thaw hs
  exact P σ G1 H x1 R1
end
abbrev vE (i : Nat) : Env → M D := fun ρ => getV ρ i
abbrev iE (i : Int) : Env → M D := fun _ => M.pure (.int i)
abbrev bE (i : Bool) : Env → M D := fun _ => M.pure (.bl i)
abbrev sE (i : Str) : Env → M D := fun _ => M.pure (.str i)
abbrev noE : Env → M D := fun _ => M.pure .non
abbrev ngE (f : Env → M D) : Env → M D := fun ρ => M.bind (f ρ) negD
abbrev mpE (f : Env → M D) (g : D → M D) : Env → M D := fun ρ => M.bind (f ρ) g
abbrev rvE (f : Env → M D) (fl : Env → M (Option Int)) : Env → M D := fun ρ => M.bind (f ρ) fun d => M.bind (fl ρ) fun l => revM d l
abbrev npE : Env → M (Option Int) := fun _ => M.pure none
abbrev bkS : Env → M Fl := fun ρ => M.pure (.bk ρ)
abbrev ctS : Env → M Fl := fun ρ => M.pure (.ct ρ)
abbrev rnS : Env → M Fl := fun _ => M.pure (.rt .non)
end Q

namespace Q
open PySem PySem.Spec PyProof.Rows L2
/-! ## runs -/
def Run {α : Type} (m : M α) (w : Wl) (P : α → Wl → Prop) : Prop := ∃ a w', m w = .ok a w' ∧ P a w'
theorem Run.pure {α : Type} {a : α} {w : Wl} {P : α → Wl → Prop} (h : P a w) : Run (M.pure a) w P := ⟨a, w, rfl, h⟩
theorem Run.bind {α β : Type} {m : M α} {f : α → M β} {w : Wl} {P : α → Wl → Prop} {P' : β → Wl → Prop} (h : Run m w P) (hf : ∀ a w', P a w' → Run (f a) w' P') : Run (M.bind m f) w P' := by
  obtain ⟨a, w', e, p⟩ := h
  obtain ⟨b, w2, e2, p2⟩ := hf a w' p
  exact ⟨b, w2, by simp only [M.bind, e, e2], p2⟩
theorem Run.imp {α : Type} {m : M α} {w : Wl} {P P' : α → Wl → Prop} (h : Run m w P) (hp : ∀ a w', P a w' → P' a w') : Run m w P' := by
  obtain ⟨a, w', e, p⟩ := h
  exact ⟨a, w', e, hp a w' p⟩
theorem Run.eq {α : Type} {m : M α} {w w' : Wl} {a : α} {P : α → Wl → Prop} (e : m w = .ok a w') (h : P a w') : Run m w P := ⟨a, w', e, h⟩
/-! ## evaluation, for simp -/
section
variable {α β γ : Type}
@[simp] theorem ev_pure_bind (a : α) (f : α → M β) : M.bind (M.pure a) f = f a := rfl
@[simp] theorem ev_fail_bind (f : α → M β) : M.bind (M.fail : M α) f = M.fail := rfl
@[simp] theorem ev_assoc (m : M α) (f : α → M β) (g : β → M γ) : M.bind (M.bind m f) g = M.bind m fun a => M.bind (f a) g := M.bind_assoc m f g
@[simp] theorem ev_pure (a : α) (w : Wl) : M.pure a w = .ok a w := rfl
@[simp] theorem ev_fail (w : Wl) : (M.fail : M α) w = .fail := rfl
end
section
variable {f g : Env → M Fl} {fa fb fc : Env → M D} {fr fk : Env → M (List D)} {ga gb : Env → M Bool} {ρ : Env} {w : Wl} {i : Nat} {d e : D} {ds es : List D}
@[simp] theorem ev_seqS : seqS f g ρ = M.bind (f ρ) fun r => match r with
  | .nx ρ' => g ρ'
  | r => M.pure r := rfl
@[simp] theorem ev_nilS : nilS ρ = M.pure (.nx ρ) := rfl
@[simp] theorem ev_ifS : ifS' ga f g ρ = M.bind (ga ρ) fun c => if c = true then f ρ else g ρ := rfl
@[simp] theorem ev_retS : retS fa ρ = M.bind (fa ρ) fun d => M.pure (.rt d) := rfl
@[simp] theorem ev_setS : setS i fa ρ = M.bind (fa ρ) fun d => M.pure (.nx (ρ.set i (some d))) := rfl
@[simp] theorem ev_setKS : setKS i fa ρ = M.bind (fa ρ) fun d => if d.atom = true then M.pure (.nx (ρ.set i (some d))) else M.fail := rfl
@[simp] theorem ev_dropS : dropS fa ρ = M.bind (fa ρ) fun _ => M.pure (.nx ρ) := rfl
@[simp] theorem ev_deadS : deadS ρ = M.fail := rfl
@[simp] theorem ev_asgS {h : D → Env → M Env} : asgS fa h ρ = M.bind (fa ρ) fun d => M.bind (noX (h d ρ)) fun ρ' => M.pure (.nx ρ') := rfl
@[simp] theorem ev_putWS : putWS i fa fb ρ = M.bind (fa ρ) fun v => M.bind (getW ρ i) fun _ => M.bind (fb ρ) fun k => M.bind (intM v) fun n => M.bind (intM k) fun j => M.bind (setWl j n) fun _ => M.pure (.nx ρ) := rfl
@[simp] theorem ev_putS : putS i fa fb ρ = M.bind (fa ρ) fun v => M.bind (getV ρ i) fun d => M.bind (fb ρ) fun k => M.bind (optM (setAt d k v)) fun d' => M.pure (.nx (ρ.set i (some d'))) := rfl
@[simp] theorem ev_augS {h : Int → Int → Int} : augS i h fa ρ = M.bind (getV ρ i) fun x => M.bind (intM x) fun n => M.bind (fa ρ) fun y => M.bind (intM y) fun m => M.pure (.nx (ρ.set i (some (.int (h n m))))) := rfl
@[simp] theorem ev_mutS {m : List D → List D → M (List D)} : mutS i m fr ρ = M.bind (getL ρ i) fun xs => M.bind (fr ρ) fun es => M.bind (m xs es) fun ys => M.pure (.nx (ρ.set i (some (.lst ys)))) := rfl
@[simp] theorem ev_parS2 {j : Nat} : parS2 i j fr ρ = M.bind (fr ρ) fun ds => match ds with
  | [d, e] => M.pure (.nx ((ρ.set i (some d)).set j (some e)))
  | _ => M.fail := rfl
@[simp] theorem ev_forS {fi : Env → M (List D)} {h : D → Env → M Env} : forS fi h f ρ = M.bind (fi ρ) fun items => forL h f items ρ := rfl
@[simp] theorem ev_bin2 {op : D → D → M D} : bin2 op fa fb ρ = M.bind (fa ρ) fun x => M.bind (fb ρ) fun y => op x y := rfl
@[simp] theorem ev_ixOE : ixOE i fb ρ = M.bind (getV ρ i) fun x => M.bind (fb ρ) fun y => ixX x y := rfl
@[simp] theorem ev_tst : tst fa ρ = M.bind (fa ρ) asB := rfl
@[simp] theorem ev_truT : truT fa ρ = M.bind (fa ρ) truD := rfl
@[simp] theorem ev_andT : andT ga gb ρ = M.bind (ga ρ) fun c => if c = true then gb ρ else M.pure false := rfl
@[simp] theorem ev_orT : orT ga gb ρ = M.bind (ga ρ) fun c => if c = true then M.pure true else gb ρ := rfl
@[simp] theorem ev_notT : notT ga ρ = M.bind (ga ρ) fun c => M.pure (!c) := rfl
@[simp] theorem ev_andE : andE fa fb ρ = M.bind (fa ρ) fun x => M.bind (asB x) fun c => if c = true then fb ρ else M.pure (.bl false) := rfl
@[simp] theorem ev_orE : orE fa fb ρ = M.bind (fa ρ) fun x => M.bind (asB x) fun c => if c = true then M.pure (.bl true) else fb ρ := rfl
@[simp] theorem ev_notE : notE fa ρ = M.bind (fa ρ) fun x => M.bind (asB x) fun c => M.pure (.bl (!c)) := rfl
@[simp] theorem ev_ifE : ifE ga fa fb ρ = M.bind (ga ρ) fun c => if c = true then fa ρ else fb ρ := rfl
@[simp] theorem ev_argE {α : Type} {h : List D → M α} : argE h fr ρ = M.bind (fr ρ) h := rfl
@[simp] theorem ev_argN {n : Nat} {h : List D → M D} : argN n h fr ρ = M.bind (fr ρ) fun ds => if ds.length = n then h ds else M.fail := rfl
@[simp] theorem ev_argK {n m : Nat} {ix : List Nat} {h : List D → M D} : argK n m ix h fr fk ρ = M.bind (fr ρ) fun ds => M.bind (fk ρ) fun es => if ds.length = n ∧ es.length = m ∧ (permL ix (ds ++ es)).length = ix.length then h (permL ix (ds ++ es)) else M.fail := rfl
@[simp] theorem ev_nilA : nilA ρ = M.pure [] := rfl
@[simp] theorem ev_consA : consA fa fr ρ = M.bind (fa ρ) fun x => M.bind (fr ρ) fun xs => M.pure (x :: xs) := rfl
@[simp] theorem ev_tupE : tupE fr ρ = M.bind (fr ρ) mkTup := rfl
@[simp] theorem ev_lstE : lstE fr ρ = M.bind (fr ρ) mkLst := rfl
@[simp] theorem ev_slE {fl fh : Env → M (Option Int)} : slE fa fl fh ρ = M.bind (fa ρ) fun d => M.bind (fl ρ) fun lo => M.bind (fh ρ) fun hi => cutD d lo hi := rfl
@[simp] theorem ev_partE : partE fa ρ = M.bind (fa ρ) fun d => M.bind (intM d) fun i => M.pure (some i) := rfl
@[simp] theorem ev_itE : itE fa ρ = M.bind (fa ρ) itemsD := rfl
@[simp] theorem ev_getV0 {x : D} {ρ : Env} : getV (some x :: ρ) 0 = M.pure x := rfl
@[simp] theorem ev_getV1 {x : Option D} {ρ : Env} : getV (x :: ρ) (i + 1) = getV ρ i := rfl
@[simp] theorem ev_getW0 {ρ : Env} : getW (some .well :: ρ) 0 = M.pure () := rfl
@[simp] theorem ev_getL0 {x : List D} {ρ : Env} : getL (some (.lst x) :: ρ) 0 = M.pure x := rfl
@[simp] theorem ev_getL1 {x : Option D} {ρ : Env} : getL (x :: ρ) (i + 1) = getL ρ i := rfl
@[simp] theorem ev_asB {b : Bool} : asB (.bl b) = M.pure b := rfl
@[simp] theorem ev_intM {b : Int} : intM (.int b) = M.pure b := rfl
@[simp] theorem ev_optM {α : Type} {b : α} : optM (some b) = M.pure b := rfl
@[simp] theorem ev_truB {b : Bool} : truD (.bl b) = M.pure b := rfl
@[simp] theorem ev_noX_bind {α β : Type} {m : M α} {h : α → M β} {w : Wl} : noX (M.bind m h) w = M.bind (noX m) (fun a => noX (h a)) w := by
  simp only [noX, M.bind]
  cases m w <;> rfl
@[simp] theorem ev_noX_bind' {α β : Type} {m : M α} {h : α → M β} : noX (M.bind m h) = M.bind (noX m) (fun a => noX (h a)) := by
  funext w; exact ev_noX_bind
@[simp] theorem ev_noX_pure {α : Type} {a : α} : noX (M.pure a) = M.pure a := rfl
@[simp] theorem ev_noX_fail {α : Type} : noX (M.fail : M α) = M.fail := rfl
@[simp] theorem ev_gNm : gNm i d ρ = M.pure (ρ.set i (some d)) := rfl
@[simp] theorem ev_gPutW : gPutW i fb d ρ = M.bind (getW ρ i) fun _ => M.bind (noX (fb ρ)) fun k => M.bind (intM d) fun n => M.bind (intM k) fun j => M.bind (setWl j n) fun _ => M.pure ρ := rfl
@[simp] theorem ev_gNil : gNil [] ρ = M.pure ρ := rfl
@[simp] theorem ev_gCons {h : D → Env → M Env} {hs : List D → Env → M Env} : gCons h hs (d :: ds) ρ = M.bind (h d ρ) (hs ds) := rfl
@[simp] theorem ev_gTup {n : Nat} {hs : List D → Env → M Env} : gTup n hs (.tup ds) ρ = if ds.length = n then hs ds ρ else M.fail := rfl
@[simp] theorem ev_forNil {h : D → Env → M Env} : forL h f [] ρ = M.pure (.nx ρ) := rfl
@[simp] theorem ev_forCons {h : D → Env → M Env} : forL h f (d :: ds) ρ = M.bind (noX (h d ρ)) fun ρ1 => M.bind (f ρ1) fun r => match r with
    | .nx ρ2 => forL h f ds ρ2
    | .ct ρ2 => forL h f ds ρ2
    | .bk ρ2 => M.pure (.nx ρ2)
    | .rt d => M.pure (.rt d) := rfl
@[simp] theorem ev_addI {a b : Int} : addD (.int a) (.int b) = M.pure (.int (a + b)) := rfl
@[simp] theorem ev_subI {a b : Int} : subD (.int a) (.int b) = M.pure (.int (a - b)) := rfl
@[simp] theorem ev_negI {a : Int} : negD (.int a) = M.pure (.int (-a)) := rfl
theorem ev_mulI {a b : Int} (h : CMul a b) : mulD (.int a) (.int b) = M.pure (.int (a * b)) := if_pos h
@[simp] theorem ev_mulR {a b : Int} (h1 : -18446744073709551616 < b) (h2 : b < 18446744073709551616) : mulD (.int a) (.int b) = M.pure (.int (a * b)) := ev_mulI (.inr ⟨h1, h2⟩)
@[simp] theorem ev_mulL {a b : Int} (h1 : -18446744073709551616 < a) (h2 : a < 18446744073709551616) : mulD (.int a) (.int b) = M.pure (.int (a * b)) := ev_mulI (.inl ⟨h1, h2⟩)
@[simp] theorem ev_modI {a b : Int} (h : 0 < b) : modD (.int a) (.int b) = M.pure (.int (a % b)) := if_pos h
@[simp] theorem ev_divI {a b : Int} (h : 0 < b) (h2 : b < 1073741824) : divD (.int a) (.int b) = M.pure (.int (a / b)) := if_pos ⟨h, h2⟩
@[simp] theorem ev_ltI {a b : Int} : ltD (.int a) (.int b) = M.pure (.bl (decide (a < b))) := rfl
@[simp] theorem ev_leI {a b : Int} : leD (.int a) (.int b) = M.pure (.bl (decide (a ≤ b))) := rfl
@[simp] theorem ev_gtI {a b : Int} : gtD (.int a) (.int b) = M.pure (.bl (decide (b < a))) := rfl
@[simp] theorem ev_geI {a b : Int} : geD (.int a) (.int b) = M.pure (.bl (decide (b ≤ a))) := rfl
@[simp] theorem ev_intD {a : Int} : intD [.int a] = M.pure (.int a) := rfl
@[simp] theorem ev_absD {a : Int} : absD [.int a] = M.pure (.int (if a < 0 then -a else a)) := rfl
@[simp] theorem ev_lenL {xs : List D} : lenD [.lst xs] = M.pure (.int (xs.length : Nat)) := rfl
@[simp] theorem ev_lenT {xs : List D} : lenD [.tup xs] = M.pure (.int (xs.length : Nat)) := rfl
@[simp] theorem ev_lenS {xs : List D} : lenD [.scr xs] = M.pure (.int (xs.length : Nat)) := rfl
@[simp] theorem ev_divmod {a b : Int} (h : 0 < b) (h2 : b < 1073741824) : divmodD [.int a, .int b] = M.pure (.tup [.int (a / b), .int (a % b)]) := if_pos ⟨h, h2⟩
@[simp] theorem ev_maxI {a b : Int} : maxD [.int a, .int b] = M.pure (.int (if b > a then b else a)) := rfl
@[simp] theorem ev_minI {a b : Int} : minD [.int a, .int b] = M.pure (.int (if b < a then b else a)) := rfl
@[simp] theorem ev_atomI {a : Int} : (D.int a).atom = true := rfl
@[simp] theorem ev_atomB {a : Bool} : (D.bl a).atom = true := rfl
@[simp] theorem ev_atomS {a : Str} : (D.str a).atom = true := rfl
@[simp] theorem ev_atomN : D.non.atom = true := rfl
@[simp] theorem ev_well0 {α : Type} {h : D → M α} {a b c : Int} : M.bind (ixX .well (.int 0)) h [a, b, c] = h (.int a) [a, b, c] := rfl
@[simp] theorem ev_well1 {α : Type} {h : D → M α} {a b c : Int} : M.bind (ixX .well (.int 1)) h [a, b, c] = h (.int b) [a, b, c] := rfl
@[simp] theorem ev_well2 {α : Type} {h : D → M α} {a b c : Int} : M.bind (ixX .well (.int 2)) h [a, b, c] = h (.int c) [a, b, c] := rfl
@[simp] theorem ev_set0 {α : Type} {h : Unit → M α} {a b c v : Int} : M.bind (setWl 0 v) h [a, b, c] = h () [v, b, c] := rfl
@[simp] theorem ev_set1 {α : Type} {h : Unit → M α} {a b c v : Int} : M.bind (setWl 1 v) h [a, b, c] = h () [a, v, c] := rfl
@[simp] theorem ev_set2 {α : Type} {h : Unit → M α} {a b c v : Int} : M.bind (setWl 2 v) h [a, b, c] = h () [a, b, v] := rfl
@[simp] theorem ev_set0' {a b c v : Int} : setWl 0 v [a, b, c] = .ok () [v, b, c] := rfl
end
@[simp] theorem ev_start {n : Nat} {ds : List D} : startE n ds = ds.map some ++ List.replicate (n - ds.length) none := rfl
@[simp] theorem ev_noX_set {k v : Int} : noX (setWl k v) = setWl k v := by
  funext w
  unfold noX setWl
  cases ixN w.length k <;> rfl
theorem fnM_run {n : Nat} {f : Env → M Fl} {ds : List D} {w : Wl} {P : D → Wl → Prop} (h : Run (f (startE n ds)) w fun r w' => match r with
  | .rt d => P d w'
  | .nx _ => P .non w'
  | _ => False) : Run (fnM n f ds) w P := by
  obtain ⟨r, w', e, p⟩ := h
  cases r with
  | nx ρ => exact ⟨.non, w', by simp only [fnM, e, endF], p⟩
  | rt d => exact ⟨d, w', by simp only [fnM, e, endF], p⟩
  | bk _ => exact p.elim
  | ct _ => exact p.elim
/-! ## the law's urn -/
def takeF : List D → M D := fnM 4 (seqS (ifS' (tst (bin2 gtD (bin2 ixX (vE 0) (iE 0)) (iE 0))) (seqS (asgS (argE divmodD (consA (bin2 ixX (vE 0) (iE 0)) (consA (vE 1) nilA))) (gTup 2 (gCons (gPutW 0 (iE 0)) (gCons (gNm 3) gNil))))
  (retS (vE 3))) nilS)
  (seqS (putWS 0 (bin2 addD (bin2 ixX (vE 0) (iE 2)) (iE 1)) (iE 2))
  (seqS (setKS 2 (bin2 modD (argE intD (consA (bin2 addD (bin2 mulD (bin2 ixX (vE 0) (iE 1)) (iE 40009)) (bin2 mulD (iE 15013) (bin2 ixX (vE 0) (iE 2)))) nilA)) (iE 2147483629)))
  (seqS (putWS 0 (bin2 modD (argE intD (consA (bin2 addD (bin2 mulD (vE 2) (bin2 addD (bin2 modD (argE intD (consA (vE 2) nilA)) (iE 5003)) (iE 30011))) (bin2 mulD (iE 3) (bin2 ixX (vE 0) (iE 2)))) nilA)) (iE 2147483629)) (iE 1))
  (retS (bin2 modD (argE intD (consA (bin2 divD (bin2 ixX (vE 0) (iE 1)) (iE 907)) nilA)) (vE 1)))))))
def Good (w : Wl) : Prop := ∃ a b c, w = [a, b, c]
theorem takeF_ok {w : Wl} {n : Int} (hw : Good w) (h0 : 0 < n) (h1 : n < 1073741824) : Run (takeF [.well, .int n]) w fun d w' => ∃ r : Int, d = .int r ∧ 0 ≤ r ∧ r < n ∧ Good w' := by
  obtain ⟨a, b, c, rfl⟩ := hw
  by_cases ha : 0 < a
  · refine fnM_run ⟨.rt (.int (a % n)), [a / n, b, c], ?_, _, rfl, Int.emod_nonneg _ (by omega), Int.emod_lt_of_pos _ h0, _, _, _, rfl⟩
    simp [h0, h1, ha]
  · have q1 : ∀ x : Int, -18446744073709551616 < x % 2147483629 := fun x => by have := Int.emod_nonneg x (b := 2147483629) (by decide); omega
    have q2 : ∀ x : Int, x % 2147483629 < 18446744073709551616 := fun x => by have := Int.emod_lt_of_pos x (b := 2147483629) (by decide); omega
    have e : ∃ (m : Int) (b' : Int), (seqS (ifS' (tst (bin2 gtD (bin2 ixX (vE 0) (iE 0)) (iE 0))) (seqS (asgS (argE divmodD (consA (bin2 ixX (vE 0) (iE 0)) (consA (vE 1) nilA))) (gTup 2 (gCons (gPutW 0 (iE 0)) (gCons (gNm 3) gNil)))) (retS (vE 3))) nilS)
      (seqS (putWS 0 (bin2 addD (bin2 ixX (vE 0) (iE 2)) (iE 1)) (iE 2))
      (seqS (setKS 2 (bin2 modD (argE intD (consA (bin2 addD (bin2 mulD (bin2 ixX (vE 0) (iE 1)) (iE 40009)) (bin2 mulD (iE 15013) (bin2 ixX (vE 0) (iE 2)))) nilA)) (iE 2147483629)))
      (seqS (putWS 0 (bin2 modD (argE intD (consA (bin2 addD (bin2 mulD (vE 2) (bin2 addD (bin2 modD (argE intD (consA (vE 2) nilA)) (iE 5003)) (iE 30011))) (bin2 mulD (iE 3) (bin2 ixX (vE 0) (iE 2)))) nilA)) (iE 2147483629)) (iE 1))
      (retS (bin2 modD (argE intD (consA (bin2 divD (bin2 ixX (vE 0) (iE 1)) (iE 907)) nilA)) (vE 1))))))) (startE 4 [.well, .int n]) [a, b, c] = .ok (.rt (.int (m % n))) [a, b', c + 1] := by
      simp [h0, h1, ha, q1, q2]
      exact ⟨_, rfl⟩
    obtain ⟨m, b', e⟩ := e
    exact fnM_run ⟨_, _, e, _, rfl, Int.emod_nonneg _ (by omega), Int.emod_lt_of_pos _ h0, _, _, _, rfl⟩
def ofF : List D → M D := fnM 2 (retS (bin2 ixX (vE 1) (argN 2 takeF (consA (vE 0) (consA (argE lenD (consA (vE 1) nilA)) nilA)))))
theorem atI_nat {α : Type} {xs : List α} {r : Int} (h0 : 0 ≤ r) (h1 : r < xs.length) : L2.atI xs r = some (xs[r.toNat]'(by omega)) := by
  unfold L2.atI ixN
  have e : ¬ r < 0 := by omega
  have e2 : r.toNat < xs.length := by omega
  simp [e, e2, h0, h1]
theorem ofF_ok {w : Wl} {xs : List D} (hw : Good w) (h0 : xs ≠ []) (h1 : xs.length < 1073741824) : Run (ofF [.well, .lst xs]) w fun d w' => d ∈ xs ∧ Good w' := by
  refine fnM_run ?_
  have hl : 0 < xs.length := List.length_pos_iff.mpr h0
  obtain ⟨d, w', e, r, rfl, r0, r1, g⟩ := takeF_ok hw (n := (xs.length : Nat)) (by omega) (by omega)
  simp
  refine Run.bind (P := fun a w2 => a = D.int r ∧ w2 = w') ⟨_, _, e, rfl, rfl⟩ fun a w2 ⟨e1, e2⟩ => ?_
  subst e1 e2
  have q : ixX (.lst xs) (.int r) = M.pure (xs[r.toNat]'(by omega)) := by
    show (match L2.atI xs r with | some d => M.pure d | none => M.fail) = _
    rw [atI_nat r0 r1]
  rw [q]
  exact ⟨_, w2, rfl, List.getElem_mem _, g⟩
@[simp] theorem ev_pow1015 : powD (.int 10) (.int 15) = M.pure (.int 1000000000000000) := by rfl
theorem cutL_map {α β : Type} (f : α → β) (xs : List α) (lo hi : Option Int) : cutL (xs.map f) lo hi = (cutL xs lo hi).map f := by
  unfold cutL
  rw [List.length_map, List.map_take, List.map_drop]
abbrev urnB : Env → M Fl := setKS 2 (bin2 modD (argE intD (consA (bin2 addD (bin2 addD (bin2 mulD (vE 2) (iE 50021)) (bin2 mulD (bin2 modD (argE intD (consA (vE 3) nilA)) (iE 2147483477)) (iE 13))) (iE 41)) nilA)) (iE 2147483629))
def urnF (k : Int) : List D → M D := fnN 5 (seqN (setKS 2 (bin2 addD (iE k) (bin2 mulD (iE 8111) (vE 1))))
  (seqN (forS (itE (slE (vE 0) npE (partE (iE 9)))) (gNm 3) urnB)
  (seqN (setS 4 (ifE (tst (bin2 ltD (vE 1) (argE lenD (consA (vE 0) nilA)))) (argE intD (consA (bin2 ixX (vE 0) (vE 1)) nilA)) (iE 0)))
  (seqN (setKS 2 (bin2 modD (argE intD (consA (bin2 addD (bin2 addD (bin2 mulD (vE 2) (iE 59)) (bin2 mulD (bin2 modD (argE intD (consA (vE 4) nilA)) (iE 2147483477)) (iE 30029))) (iE 5)) nilA)) (iE 2147483629)))
  (retS (lstE (consA (ifE (orT (tst (bin2 ltD (vE 4) (iE 0))) (tst (bin2 geD (vE 4) (bin2 powD (iE 10) (iE 15))))) (argE absD (consA (vE 4) nilA)) (iE 0)) (consA (vE 2) (consA (iE 0) nilA)))))))))
@[simp] theorem ev_seqN {f g : Env → M Fl} {ρ : Env} : seqN f g ρ = M.bind (f ρ) fun r => match r with
  | .nx ρ' => g ρ'
  | _ => M.fail := rfl
theorem urn_loop (s : D) (l : Int) (w : Wl) : ∀ (ns : List Int) (m : Int) (x : Option D), ∃ (m' : Int) (x' : Option D), forL (gNm 3) urnB (ns.map D.int) [some s, some (.int l), some (.int m), x, none] w = .ok (.nx [some s, some (.int l), some (.int m'), x', none]) w
  | [], m, x => ⟨m, x, rfl⟩
  | n :: ns, m, x => by
    obtain ⟨m', x', e⟩ := urn_loop s l w ns ((m * 50021 + n % 2147483477 * 13 + 41) % 2147483629) (some (.int n))
    refine ⟨m', x', ?_⟩
    rw [← e]
    simp
theorem urnF_ok (k : Int) (ns : List Int) (lap : Int) (h0 : 0 ≤ lap) (w : Wl) : ∃ a b c : Int, urnF k [.scr (ns.map D.int), .int lap] w = .ok (.lst [.int a, .int b, .int c]) w := by
  obtain ⟨m, x, e⟩ := urn_loop (.scr (ns.map D.int)) lap w (cutL ns none (some 9)) (k + 8111 * lap) none
  have own : ∃ o : Int, ifE (tst (bin2 ltD (vE 1) (argE lenD (consA (vE 0) nilA)))) (argE intD (consA (bin2 ixX (vE 0) (vE 1)) nilA)) (iE 0) [some (.scr (ns.map D.int)), some (.int lap), some (.int m), x, none] = M.pure (.int o) := by
    by_cases h : lap < ns.length
    · refine ⟨ns[lap.toNat]'(by omega), ?_⟩
      have q : ixX (.scr (ns.map D.int)) (.int lap) = M.pure (.int (ns[lap.toNat]'(by omega))) := by
        show (match L2.atI (ns.map D.int) lap with | some d => M.pure d | none => M.fail) = _
        rw [atI_map, atI_nat h0 h]; rfl
      simp [h, q]
    · exact ⟨0, by simp [h]⟩
  obtain ⟨o, eo⟩ := own
  have e1 : cutD (.scr (ns.map D.int)) none (some 9) = M.pure (.lst ((cutL ns none (some 9)).map D.int)) := by rw [← cutL_map]; rfl
  have go : ∃ a b c : Int, (seqN (setKS 2 (bin2 addD (iE k) (bin2 mulD (iE 8111) (vE 1))))
    (seqN (forS (itE (slE (vE 0) npE (partE (iE 9)))) (gNm 3) urnB)
    (seqN (setS 4 (ifE (tst (bin2 ltD (vE 1) (argE lenD (consA (vE 0) nilA)))) (argE intD (consA (bin2 ixX (vE 0) (vE 1)) nilA)) (iE 0)))
    (seqN (setKS 2 (bin2 modD (argE intD (consA (bin2 addD (bin2 addD (bin2 mulD (vE 2) (iE 59)) (bin2 mulD (bin2 modD (argE intD (consA (vE 4) nilA)) (iE 2147483477)) (iE 30029))) (iE 5)) nilA)) (iE 2147483629)))
    (retS (lstE (consA (ifE (orT (tst (bin2 ltD (vE 4) (iE 0))) (tst (bin2 geD (vE 4) (bin2 powD (iE 10) (iE 15))))) (argE absD (consA (vE 4) nilA)) (iE 0)) (consA (vE 2) (consA (iE 0) nilA)))))))))
      [some (.scr (ns.map D.int)), some (.int lap), none, none, none] w = .ok (.rt (.lst [.int a, .int b, .int c])) w := by
    have st : ∀ {α : Type} (h : Fl → M α), M.bind (forL (gNm 3) urnB ((cutL ns none (some 9)).map D.int) [some (.scr (ns.map D.int)), some (.int lap), some (.int (k + 8111 * lap)), none, none]) h w = h (.nx [some (.scr (ns.map D.int)), some (.int lap), some (.int m), x, none]) w := fun h => by
      simp only [M.bind, e]
    have ab : ∃ z : Int, ifE (orT (tst (bin2 ltD (vE 4) (iE 0))) (tst (bin2 geD (vE 4) (bin2 powD (iE 10) (iE 15))))) (argE absD (consA (vE 4) nilA)) (iE 0) [some (.scr (ns.map D.int)), some (.int lap), some (.int ((m * 59 + o % 2147483477 * 30029 + 5) % 2147483629)), x, some (.int o)] = M.pure (.int z) := by
      by_cases h1 : o < 0
      · exact ⟨_, by simp [h1]; rfl⟩
      · by_cases h2 : 1000000000000000 ≤ o
        · exact ⟨_, by simp [h1, h2]; rfl⟩
        · exact ⟨_, by simp [h1, h2]; rfl⟩
    obtain ⟨z, ez⟩ := ab
    refine ⟨z, (m * 59 + o % 2147483477 * 30029 + 5) % 2147483629, 0, ?_⟩
    simp [-ev_ifE, e1, st, eo, ez, mkLst, itemsD, sizeLine_eq]
  obtain ⟨a, b, c, e⟩ := go
  exact ⟨a, b, c, by show endN _ = _; rw [show startE 5 [D.scr (ns.map D.int), D.int lap] = [some (.scr (ns.map D.int)), some (.int lap), none, none, none] from rfl, e]; rfl⟩
/-! ## the law over its laps -/
def lawF (gu gr : List D → M D) (m : Int) : List D → M D := fnM 2 (retS (argE allD (consA (lcE [1] (argE rng1D (consA (argE maxD (consA (iE 1) (consA (argE minD (consA (argE lenD (consA (vE 0) nilA)) (consA (iE m) nilA))) nilA))) nilA)) (gNm 1) yesT (mpE (argN 2 gu (consA (vE 0) (consA (vE 1) nilA))) (wellM gr))) nilA)))
theorem rng1_if (j : Int) : rng1D [.int j] = if -(2 ^ 62) ≤ j ∧ j < 2 ^ 62 then M.pure (rngL 0 j) else M.fail := rfl
theorem rng1_nat (n : Nat) (h : n < 1000000) : rng1D [.int (n : Nat)] = M.pure ((List.range n).map fun i => D.int (0 + (i : Nat))) := by
  have q : -(2 ^ 62) ≤ ((n : Nat) : Int) ∧ ((n : Nat) : Int) < 2 ^ 62 := by
    have h62 : (2 : Int) ^ 62 = 4611686018427387904 := by decide
    rw [h62]
    constructor <;> omega
  rw [rng1_if, if_pos q]
  unfold rngL
  rw [show (((n : Nat) : Int) - 0).toNat = n by omega]
theorem lap_count {m l : Int} (hl : 0 ≤ l ∧ l ≤ 63) (hm : 0 ≤ m ∧ m < 1000) : ∃ n : Nat, (if (if m < l then m else l) > 1 then (if m < l then m else l) else 1) = (n : Int) ∧ n < 1000 := by
  by_cases h1 : m < l
  · by_cases h2 : m > 1
    · exact ⟨m.toNat, by rw [if_pos h1, if_pos h2]; omega, by omega⟩
    · exact ⟨1, by rw [if_pos h1, if_neg h2]; rfl, by omega⟩
  · by_cases h2 : l > 1
    · exact ⟨l.toNat, by rw [if_neg h1, if_pos h2]; omega, by omega⟩
    · exact ⟨1, by rw [if_neg h1, if_neg h2]; rfl, by omega⟩
theorem lawF_ok {gu gr : List D → M D} {m : Int} (hm : 0 ≤ m ∧ m < 1000) (ns : List Int) (hl : ns.length ≤ 63) (hu : ∀ lap : Int, 0 ≤ lap → ∃ a b c : Int, gu [.scr (ns.map D.int), .int lap] [] = .ok (.lst [.int a, .int b, .int c]) [])
    (hr : ∀ w, Good w → ∃ w', gr [.well] w = .ok (.bl true) w') : ∃ w', lawF gu gr m [.scr (ns.map D.int)] [] = .ok (.bl true) w' := by
  have turn : ∀ (x : Option D) (items : List Nat), lcL (gNm 1) yesT (mpE (argN 2 gu (consA (vE 0) (consA (vE 1) nilA))) (wellM gr)) [some (D.scr (ns.map D.int)), x] (items.map fun i => D.int (0 + (i : Nat))) [] = .ok (items.map fun _ => D.bl true) [] := fun x items => by
    induction items with
    | nil => rfl
    | cons i items ih =>
      obtain ⟨a, b, c, e⟩ := hu (0 + (i : Nat)) (by omega)
      obtain ⟨w', e2⟩ := hr [a, b, c] ⟨a, b, c, rfl⟩
      have one : (mpE (argN 2 gu (consA (vE 0) (consA (vE 1) nilA))) (wellM gr)) [some (D.scr (ns.map D.int)), some (D.int (0 + (i : Nat)))] [] = .ok (.bl true) [] := by
        have e3 : (argN 2 gu (consA (vE 0) (consA (vE 1) nilA))) [some (D.scr (ns.map D.int)), some (D.int (0 + (i : Nat)))] = gu [.scr (ns.map D.int), .int (0 + (i : Nat))] := by simp
        show M.bind _ _ [] = _
        rw [e3]
        simp only [M.bind, e, wellM, intsD, Option.map_some, e2]
      rw [List.map_cons, List.map_cons]
      show M.bind (noX (M.pure [some (D.scr (ns.map D.int)), some (D.int (0 + (i : Nat)))])) _ [] = _
      rw [ev_noX_pure, ev_pure_bind]
      show M.bind (noX (M.pure true)) _ [] = _
      rw [ev_noX_pure, ev_pure_bind, if_pos rfl]
      simp only [M.bind, noX, one, ih, M.pure]
  have cnt : ∃ n : Nat, (if (if m < (ns.length : Int) then m else (ns.length : Int)) > 1 then (if m < (ns.length : Int) then m else (ns.length : Int)) else 1) = (n : Int) ∧ n < 1000 := by
    have h0 : 0 ≤ (ns.length : Int) ∧ (ns.length : Int) ≤ 63 := by omega
    exact lap_count h0 hm
  obtain ⟨n, en, hn⟩ := cnt
  have er : rng1D [.int (n : Nat)] = M.pure ((List.range n).map fun i => D.int (0 + (i : Nat))) := rng1_nat n (by omega)
  have ea : allD [.lst ((List.range n).map fun _ => D.bl true)] = M.pure (.bl true) := by
    have : (List.range n).map (fun _ => D.bl true) = ((List.range n).map fun _ => true).map D.bl := by rw [List.map_map]; rfl
    rw [this]
    show (match blsD (List.map D.bl (List.map (fun _ => true) (List.range n))) with
      | some ns => M.pure (D.bl (ns.all id))
      | none => M.fail) = _
    rw [blsD_map]
    have : (List.map (fun _ => true) (List.range n)).all id = true := by simp
    show M.pure (D.bl ((List.map (fun _ => true) (List.range n)).all id)) = _
    rw [this]
  refine ⟨[], ?_⟩
  have hz : n ≤ sizeLine := by rw [sizeLine_eq]; omega
  have el : lcE [1] (argE rng1D (consA (argE maxD (consA (iE 1) (consA (argE minD (consA (argE lenD (consA (vE 0) nilA)) (consA (iE m) nilA))) nilA))) nilA)) (gNm 1) yesT (mpE (argN 2 gu (consA (vE 0) (consA (vE 1) nilA))) (wellM gr)) [some (D.scr (ns.map D.int)), none] [] = .ok (.lst ((List.range n).map fun _ => D.bl true)) [] := by
    have e0 : (argE rng1D (consA (argE maxD (consA (iE 1) (consA (argE minD (consA (argE lenD (consA (vE 0) nilA)) (consA (iE m) nilA))) nilA))) nilA)) [some (D.scr (ns.map D.int)), none] = M.pure ((List.range n).map fun i => D.int (0 + (i : Nat))) := by
      rw [← er, ← en]
      simp
    show M.bind _ _ [] = _
    rw [e0, ev_pure_bind, if_pos (by rw [List.length_map, List.length_range]; exact hz)]
    have := turn none (List.range n)
    show M.bind (lcL _ _ _ [some (D.scr (ns.map D.int)), none] _) _ [] = _
    simp only [M.bind, this, M.pure]
  show endF (retS _ [some (D.scr (ns.map D.int)), none] []) = _
  have e9 : argE allD (consA (lcE [1] (argE rng1D (consA (argE maxD (consA (iE 1) (consA (argE minD (consA (argE lenD (consA (vE 0) nilA)) (consA (iE m) nilA))) nilA))) nilA)) (gNm 1) yesT (mpE (argN 2 gu (consA (vE 0) (consA (vE 1) nilA))) (wellM gr))) nilA) [some (D.scr (ns.map D.int)), none] [] = .ok (.bl true) [] := by
    show M.bind (M.bind _ _) _ [] = _
    simp only [M.bind, el, ev_nilA, ev_pure, ea]
  show endF (M.bind _ _ []) = _
  simp only [M.bind, e9, M.pure, endF]
end Q

namespace Q
open PySem PySem.Spec PyProof.Rows L2
/-! ## told and due, by their texts -/
@[simp] theorem ev_repr {d : D} (h : repOk d = true) : reprD [d] = M.pure (.str d.py.shown) := if_pos h
@[simp] theorem ev_neS {s : Str} : neD (.str s) (.str s) = M.pure (.bl false) := by
  show M.pure (D.bl (!decide (s = s))) = _
  rw [decide_eq_true rfl]; rfl
@[simp] theorem ev_eqS {s : Str} : eqD (.str s) (.str s) = M.pure (.bl true) := by
  show M.pure (D.bl (decide (s = s))) = _
  rw [decide_eq_true rfl]
theorem ev_rep2 {x : D} : mulD (.lst [x]) (.int 2) = M.pure (.lst [x, x]) := by
  show (if -(2 ^ 63) ≤ (2 : Int) ∧ (2 : Int) < 2 ^ 63 ∧ [x].length * (2 : Int).toNat ≤ sizeLine then M.pure (D.lst (List.replicate (2 : Int).toNat [x]).flatten) else M.fail) = _
  rw [if_pos ⟨by decide, by decide, by rw [sizeLine_eq]; show 1 * 2 ≤ 16777216; decide⟩]
  rfl
theorem ev_mkLst {xs : List D} (h : xs.length ≤ 1000) : mkLst xs = M.pure (.lst xs) := if_pos (by rw [sizeLine_eq]; omega)
theorem ev_mkTup {xs : List D} (h : xs.length ≤ 1000) : mkTup xs = M.pure (.tup xs) := if_pos (by rw [sizeLine_eq]; omega)
theorem ev_ixL {xs : List D} {r : Int} (h0 : 0 ≤ r) (h1 : r < xs.length) : ixX (.lst xs) (.int r) = M.pure (xs[r.toNat]'(by omega)) := by
  show (match L2.atI xs r with | some d => M.pure d | none => M.fail) = _
  rw [atI_nat h0 h1]
theorem ev_ixT {xs : List D} {r : Int} (h0 : 0 ≤ r) (h1 : r < xs.length) : ixX (.tup xs) (.int r) = M.pure (xs[r.toNat]'(by omega)) := by
  show (match L2.atI xs r with | some d => M.pure d | none => M.fail) = _
  rw [atI_nat h0 h1]
end Q

namespace Q
open PySem PySem.Spec PyProof.Rows L2
/-! ## function values -/
/-! data without functions -/
mutual
def D.nofn : D → Bool
  | .fn _ => false
  | .tup xs => D.nofnL xs
  | .lst xs => D.nofnL xs
  | .scr xs => D.nofnL xs
  | .ktp xs => D.nofnL xs
  | .set xs => D.nofnL xs
  | .dct _ kvs => D.nofnK kvs
  | _ => true
def D.nofnL : List D → Bool
  | [] => true
  | x :: xs => D.nofn x && D.nofnL xs
def D.nofnK : List (D × D) → Bool
  | [] => true
  | (_, x) :: xs => D.nofn x && D.nofnK xs
end
theorem nofnK_map : ∀ {kvs : List (D × D)}, D.nofnK kvs = true → D.nofnL (kvs.map (·.2)) = true
  | [], _ => by simp [D.nofnL]
  | (a, x) :: xs, h => by
    simp only [D.nofnK, Bool.and_eq_true] at h
    simp only [List.map_cons, D.nofnL, h.1, nofnK_map h.2, Bool.and_self]
section
variable {K : PySem.W.Frag} {wl wl' : WlT} {G : Hp}
mutual
theorem Is.swap (e : wl.w = wl'.w) : ∀ {v : V} {d : D}, Is K wl G v d → d.nofn = true → Is K wl' G v d
  | _, _, .non, _ => .non
  | _, _, .bl b, _ => .bl b
  | _, _, .int i, _ => .int i
  | _, _, .str s, _ => .str s
  | _, _, .tup h hl, z => .tup h (IsL.swap e hl (by simpa only [D.nofn] using z))
  | _, _, .ktp h hl, z => .ktp h (IsL.swap e hl (by simpa only [D.nofn] using z))
  | _, _, .lst h hl, z => .lst h (IsL.swap e hl (by simpa only [D.nofn] using z))
  | _, _, .scr h hl, z => .scr h (IsL.swap e hl (by simpa only [D.nofn] using z))
  | _, _, .dK h k hl, z => .dK h k (IsL.swap e hl (nofnK_map (by simpa only [D.nofn] using z)))
  | _, _, .dT h k hl, z => .dT h k (IsL.swap e hl (nofnK_map (by simpa only [D.nofn] using z)))
  | _, _, .well h, _ => .well (e ▸ h)
  | _, _, .fn h, z => by simp only [D.nofn] at z; cases z
theorem IsL.swap (e : wl.w = wl'.w) : ∀ {vs : List V} {ds : List D}, IsL K wl G vs ds → D.nofnL ds = true → IsL K wl' G vs ds
  | _, _, .nil, _ => .nil
  | _, _, .cons h hl, z => by
    simp only [D.nofnL, Bool.and_eq_true] at z
    exact .cons (Is.swap e h z.1) (IsL.swap e hl z.2)
end
end
/-- calling f with m values does on data what g does, wherever the base is base and the view holds g0 -/
structure Beh (P : Program) (w : World) (K : PySem.W.Frag) (mg : Str → Option Value) (base : Heap) (k : Nat) (τ : List NdefX.NTab) (g0 : Hp) (wo : Option Addr) (f : Addr) (m : Nat) (g : List D → M D) : Prop where
  at_ : ∀ (s : Shared) (H : Hp), K.In s.heap → HOk P w H s.heap → Hx g0 H → PySem.W.FnAt f s.heap
  run : ∀ (A : Around) (outer : List PySem.Env) (s : Shared) (H : Hp) (us : List Value) (vs : List V) (Q : VK) (E : XK), A.guards = some [] → Room k A → Env0 P w K mg base A outer s H → Vals vs us →
    (∃ wl G wv ds, wl.w = wo ∧ Hx g0 G ∧ EnterH τ wl G H wv ∧ IsL K wl G vs ds ∧ vs.length = m ∧ PostF K τ wl G H (g ds wv) Q E) → codeAny (model P w) A (.call (.ref f) ⟨us, []⟩) (CR (L2.CX P w) outer P w H s Q E) s
/-- the promise of a def whose last parameter is a function -/
def spF (K : PySem.W.Frag) (τ : List NdefX.NTab) (g0 : Hp) (wo : Option Addr) (f : Addr) (n : Nat) (g : List D → M D) : Sp := fun vs H Q E => ∃ wl G wv ds us, EnterH τ wl G H wv ∧ wl.w = wo ∧ (∀ i, wl.fn i = [f][i]?) ∧ Hx g0 G ∧ vs = us ++ [.ref f] ∧ IsL K wl G us ds ∧ us.length + 1 = n ∧ PostF K τ wl G H (g ds wv) Q E
theorem startE_snoc {N : List Str} {vs : List V} {f : Addr} : L2.start N (vs ++ [.ref f]) = (vs ++ [V.ref f]).map some ++ List.replicate (N.length - (vs ++ [V.ref f]).length) none := rfl
section
variable {P : Program} {w : World} {K : PySem.W.Frag} {mg : Str → Option Value} {base : Heap} {τ : List NdefX.NTab} {k : Nat}
theorem EnterH.relF {wl : WlT} {G H g0 : Hp} {wv : Wl} {wo : Option Addr} {f : Addr} (e : EnterH τ wl G H wv) (hw : wl.w = wo) (hf : ∀ i, wl.fn i = [f][i]?) (hg : Hx g0 G) : RelH ⟨τ, [f], g0, wo⟩ ⟨wl, G, H⟩ G H wv :=
  ⟨e.sub, e.nt, fun a h => .inl h, Hx.refl _, fun a o h _ _ => h, fun a h => h, e.well, e.tabs, fun _ => ⟨hf, hw⟩, hg, e.tv⟩
/-- a def with a function parameter (the last one), by its body -/
theorem fnF_data {f fa : Addr} {fd : FuncData} {fname qual : Str} {params : Arguments} {body : List Stmt} {scope : Scope} {dvs : List V} {kws : List (Str × V)} {N ps : List Str} {g : Env → M Fl} {O : List Nat} {g0 : Hp} {wo : Option Addr} (F : FunD K fname qual params body scope dvs kws f fd) (S : FnScope N ps scope)
    (hbody : ∀ (cdv : Value) (A : Around) (outer : List PySem.Env) (s : Shared) (H : Hp) (E : XK), Ok k (bodyX P w K mg base N qual scope f cdv A outer s H E) →
      DSs (bodyX P w K mg base N qual scope f cdv A outer s H E) ⟨τ, [fa], g0, wo⟩ [] [] O (WxE E) body g) :
    FnG P w K mg base (k + 1) f fd ps (spF K τ g0 wo fa ps.length (fun ds => fnM N.length g (ds ++ [.fn 0]))) := by
  obtain ⟨oc, od, dV, kV, doc, pm, an, cdv, ct, osl, rfl, lk, hcd, _, _⟩ := F.ex
  refine fnG_of lk hcd S (fun vs H Q E ⟨wl, G, wv, ds, us, _, _, _, _, e, _, h, _⟩ => by rw [e, List.length_append]; exact h) fun A outer s H vs Q E ok ⟨wl, G, wv, ds, us, en, hw, hf, hg, ev, l, hl, P1⟩ => ⟨_, hbody cdv A outer s H E ok, ?_⟩
  subst ev
  have l' : IsL K wl G (us ++ [.ref fa]) (ds ++ [.fn 0]) := l.append (.cons (.fn (by rw [hf]; rfl)) .nil)
  have R0 := start_rel (N := N) en l'
  refine ⟨⟨wl, G, H⟩, startE N.length (ds ++ [.fn 0]), G, wv, ⟨en.relF hw hf hg, R0.len, R0.fro, R0.own, R0.inj⟩, ?_⟩
  have P2 : PostF K τ wl G H (endF (g (startE N.length (ds ++ [.fn 0])) wv)) Q E := P1
  show PostS K ⟨τ, [fa], g0, wo⟩ ⟨wl, G, H⟩ [] O (WxE E) G (g (startE N.length (ds ++ [.fn 0])) wv) _
  have dn : ∀ {G' H' : Hp} {w' : Wl}, RelH ⟨τ, [fa], g0, wo⟩ ⟨wl, G, H⟩ G' H' w' → RelH (tb0 τ) ⟨wl, G, H⟩ G' H' w' := fun r => ⟨r.sub, r.nt, r.nw, r.g0, r.keep, r.mono, r.well, r.tabs, fun z => absurd rfl z, fun _ _ z => (nomatch z), r.tv⟩
  cases e : g (startE N.length (ds ++ [.fn 0])) wv with
  | fail => rw [e] at P2; exact P2
  | exc c p w' => rw [e] at P2; exact fun cls dd σ' G' H' _ r x => P2 cls dd G' H' (dn r) x
  | ok r w' =>
    rw [e] at P2
    cases r with
    | nx ρ' => exact fun σ' G' H' _ R => P2 .non G' H' (dn R.h) .non
    | rt d => exact fun v G' H' _ r i => P2 v G' H' (dn r) i
    | bk ρ' => exact False.elim P2
    | ct ρ' => exact False.elim P2
end
/-! ## the parameter called -/
def isFn : D → M Unit
  | .fn 0 => M.pure ()
  | _ => M.fail
def callPE (i m : Nat) (g : List D → M D) (fa : Env → M (List D)) : Env → M D := fun ρ => M.bind (getV ρ i) fun d => M.bind (isFn d) fun _ => M.bind (fa ρ) fun ds => if ds.length = m then g ds else M.fail
section
variable {X : Cx} {τ : List NdefX.NTab} {O : List Nat} {Wx : WX} {x : Str} {p pos : Pos} {e : Expr} {es : List Expr} {fr : Env → M (List D)} {g0 : Hp} {wo : Option Addr} {f : Addr} {m k j : Nat} {g : List D → M D}
theorem run_beh {pins : List (Addr × Obj)} {s : Shared} {σ : L2.St} {H : Hp} {Q : VK} {us : List Value} {vs : List V} (B : Beh X.prog X.w X.K X.mg X.base k τ g0 wo f m g) (ok : Ok j X) (hk : k ≤ j) (tk : Takes X Wx) (I : Inv X pins σ H s) (r : Vals vs us)
    (q : ∃ wl G wv ds, wl.w = wo ∧ Hx g0 G ∧ EnterH τ wl G H wv ∧ IsL X.K wl G vs ds ∧ vs.length = m ∧ PostF X.K τ wl G H (g ds wv) Q (WE Wx σ)) : wpAny (model X.prog X.w) X.A (call (.ref f) us) (EP X pins σ Q) X.xe s := by
  refine wpAny_call (codeAny_mono (B.run X.A X.stack s H us vs Q (WE Wx σ) ok.g (ok.room.mono hk) I.env0 r q) ?_)
  intro r s1 h
  cases r with
  | error e => exact passAt tk σ pins H s e s1 I h
  | ok fl =>
    cases fl with
    | ret u => exact I.after h
    | _ => exact False.elim h
theorem de_callP (i : Nat) (B : Beh X.prog X.w X.K X.mg X.base k τ g0 wo f m g) (ok : Ok j X) (hk : k ≤ j) (tk : Takes X Wx) (ha : DA X ⟨τ, [f], g0, wo⟩ O Wx (e :: es) fr) (hO : i ∉ O := by decide) (hN : X.N[i]? = some x := by rfl) (hv : Vis X.env.scope x := by first | exact Or.inl rfl | exact Or.inr (Or.inl rfl) | exact Or.inr (Or.inr rfl))
    (hd : (x == ("__debug__" : Str)) = false := by decide) (hcd : (x == ("__classdict__" : Str)) = false := by decide) (he : starEach (e :: es) X.env = (false, eval e X.env) :: starEach es X.env := by rfl) (hpl : (backTo pos (starEach es X.env)).any (·.1) = false := by rfl) :
    DE X ⟨τ, [f], g0, wo⟩ O Wx (.Call (.Name x p) (e :: es) [] pos) (callPE i m g fr) := by
  refine ⟨fun pins s σ H Q I h => ?_⟩
  obtain ⟨Γ, ρ, G, w, R, P⟩ := h
  have P1 : Post X.K ⟨τ, [f], g0, wo⟩ Γ O Wx ρ σ G H IsV (M.bind (getV ρ i) (fun d => M.bind (isFn d) fun _ => M.bind (fr ρ) fun ds => if ds.length = m then g ds else M.fail) w) Q := P
  simp only [getV, M.bind] at P1
  cases e1 : ρ[i]? with
  | none => rw [e1] at P1; exact False.elim P1
  | some o =>
    cases o with
    | none => rw [e1] at P1; exact False.elim P1
    | some d =>
      rw [e1] at P1
      obtain ⟨v, h1, h2⟩ := R.fro i d hO e1
      cases h2 with
      | @fn a n hn =>
        cases n with
        | succ n => exact False.elim P1
        | zero =>
          have ea : a = f := by
            have := (R.h.fnw (by simp)).1 0
            rw [hn] at this
            exact (Option.some.inj this)
          subst ea
          have P2 : Post X.K ⟨τ, [a], g0, wo⟩ Γ O Wx ρ σ G H IsV (M.bind (fr ρ) (fun ds => if ds.length = m then g ds else M.fail) w) Q := P1
          refine wpAny_Call_Name_kw (thn ((pe_var (pos := p) hN hv hd hcd).run pins s σ H (fun v H1 => v = .ref a ∧ H1 = H) I ⟨.ref a, h1, rfl, rfl⟩) fun u s1 ⟨v, H1, I1, r1, q1⟩ => ?_)
          obtain ⟨ev, eH⟩ := q1
          subst ev eH
          obtain rfl : u = Value.ref a := r1
          have q := post_bind (Q1 := fun vs H2 => Hx g0 H2 ∧ ∃ wl G wv ds, wl.w = wo ∧ Hx g0 G ∧ EnterH τ wl G H2 wv ∧ IsL X.K wl G vs ds ∧ vs.length = m ∧ PostF X.K τ wl G H2 (g ds wv) Q (WE Wx σ)) R P2 fun vs ds G2 H2 w2 st R2 l P3 => by
            obtain ⟨hl, P4⟩ := ifP' P3
            refine ⟨R2.h.fg0.trans R2.h.sub, Γ.wl, G2, w2, ds, (R2.h.fnw (by simp)).2, R2.h.fg0, R2.h.enter, l, l.length.trans hl, ?_⟩
            cases e3 : g ds w2 with
            | fail => rw [e3] at P4; exact P4
            | ok d w' =>
              rw [e3] at P4
              intro v G' H' r i
              obtain ⟨R', st⟩ := R2.after r
              exact P4 v G' H' st R' i
            | exc c p w' =>
              rw [e3] at P4
              intro cls dd G' H' r z
              obtain ⟨R', st⟩ := R2.after r
              exact P4 cls dd G' H' st R'.h z
          refine PySem.W.callWith_F (first := []) (B.at_ s1 H1 I1.kIn I1.hok (R.h.fg0.trans R.h.sub)) (thn (ha.run pos pins s1 σ H1 _ I1 q) fun us s2 ⟨vs, H2, I2, r, h1, h2⟩ => ⟨B.at_ s2 H2 I2.kIn I2.hok h1, ?_⟩) he hpl
          exact run_beh B ok hk tk I2 r h2
      | _ => exact False.elim P1
/-! ## a def with a function parameter called with our own one -/
def splitFn : List D → Option (List D)
  | [] => none
  | [.fn 0] => some []
  | d :: ds => (splitFn ds).map (d :: ·)
theorem splitFn_eq : ∀ {ds us : List D}, splitFn ds = some us → ds = us ++ [.fn 0]
  | [], _, h => by cases h
  | [d], us, h => by
    unfold splitFn at h
    split at h
    · cases h
    · cases h; rename_i e; cases e; rfl
    · rename_i e; cases e; simp [splitFn] at h
  | d :: d2 :: ds, us, h => by
    have e : splitFn (d :: d2 :: ds) = (splitFn (d2 :: ds)).map (d :: ·) := by
      rw [splitFn]
      intro _ z; cases z
    rw [e] at h
    cases q : splitFn (d2 :: ds) with
    | none => rw [q] at h; cases h
    | some vs =>
      rw [q] at h
      cases h
      rw [splitFn_eq q]; rfl
theorem IsL.snoc {K : PySem.W.Frag} {wl : WlT} {G : Hp} : ∀ {vs : List V} {us : List D} {d : D}, IsL K wl G vs (us ++ [d]) → ∃ ws v, vs = ws ++ [v] ∧ IsL K wl G ws us ∧ Is K wl G v d
  | _, [], d, .cons h .nil => ⟨[], _, rfl, .nil, h⟩
  | _, u :: us, d, .cons h hl => by
    obtain ⟨ws, v, rfl, h1, h2⟩ := IsL.snoc hl
    exact ⟨_ :: ws, v, rfl, .cons h h1, h2⟩
def argFE (n : Nat) (g : List D → M D) (fa : Env → M (List D)) : Env → M D := fun ρ => M.bind (fa ρ) fun ds => M.bind (match splitFn ds with
  | some us => M.pure us
  | none => M.fail) fun us => if us.length + 1 = n then g us else M.fail
theorem de_callFP {fd : FuncData} {h : Addr} {ps : List Str} {T : Tb} (hT : T = ⟨τ, [f], g0, wo⟩) (F : FnG X.prog X.w X.K X.mg X.base k h fd ps (spF X.K τ g0 wo f ps.length g)) (ok : Ok j X) (hk : k ≤ j) (tk : Takes X Wx) (hm : X.mg x = some (.ref h)) (kp : PySem.W.keepIn X.K (.ref h) = true) (hb : Binds X.K fd ps [])
    (ha : DA X T O Wx (e :: es) fr) (hg : Gl X x := by rfl) (hdb : (x == ("__debug__" : Str)) = false := by decide) (he : starEach (e :: es) X.env = (false, eval e X.env) :: starEach es X.env := by rfl) (hpl : (backTo pos (starEach es X.env)).any (·.1) = false := by rfl) :
    DE X T O Wx (.Call (.Name x p) (e :: es) [] pos) (argFE ps.length g fr) := by
  subst hT
  refine ⟨fun pins s σ H Q I h => ?_⟩
  refine wpAny_Call_Name_kw (ld_glob I hg hm ?_ hdb)
  obtain ⟨Γ, ρ, G, w, R, Pq⟩ := h
  have q : tL X.K ⟨τ, [f], g0, wo⟩ O Wx fr σ H (fun vs H1 => spF X.K τ g0 wo f ps.length g vs H1 Q (WE Wx σ)) := post_bind R Pq fun vs ds G1 H1 w1 st R1 l P1 => by
    cases e1 : splitFn ds with
    | none => rw [e1] at P1; exact False.elim P1
    | some us =>
      rw [e1] at P1
      have P2 : Post X.K ⟨τ, [f], g0, wo⟩ Γ O Wx ρ σ G1 H1 IsV ((if us.length + 1 = ps.length then g us else M.fail) w1) Q := P1
      obtain ⟨hn, P3⟩ := ifP' P2
      have e2 := splitFn_eq e1
      subst e2
      obtain ⟨ws, v, rfl, l1, i1⟩ := l.snoc
      have fw := R1.h.fnw (by simp)
      cases i1 with
      | @fn a n hfn =>
        have ea : a = f := by
          have := fw.1 0
          rw [hfn] at this
          exact Option.some.inj this
        subst ea
        refine ⟨Γ.wl, G1, w1, us, ws, R1.h.enter, fw.2, fw.1, R1.h.fg0, rfl, l1, by rw [l1.length]; exact hn, ?_⟩
        cases e3 : g us w1 with
        | fail => rw [e3] at P3; exact P3
        | ok d w' =>
          rw [e3] at P3
          intro v G' H' r i
          obtain ⟨R', st⟩ := R1.after r
          exact P3 v G' H' st R' i
        | exc c p w' =>
          rw [e3] at P3
          intro cls dd G' H' r z
          obtain ⟨R', st⟩ := R1.after r
          exact P3 cls dd G' H' st R'.h z
  refine PySem.W.callWith_K (h₀ := X.base) I.ok.mod.kin kp (thn (ha.run pos pins s σ H _ I q) ?_) he hpl
  rintro us s1 ⟨vs, H1, I1, rv, q1⟩
  refine ⟨I1.kIn, run_fnG F (ok.room.mono hk) ok.g tk ?_ I1 rv q1⟩
  have hl : us.length = ps.length := by rw [← rv.length]; exact F.len _ _ _ _ q1
  have := hb s1 us I1.kIn (by rw [List.append_nil]; exact hl)
  rw [List.append_nil] at this
  exact this
end
end Q

namespace Q
open PySem PySem.Spec PyProof.Rows L2
/-! ## a def within a def: its function made -/
/-- tables may grow, new things may stand -/
structure Grow (H H1 : Hp) : Prop where
  old : ∀ b o, H b = some o → NoTbl o → H1 b = some o
  tbl : ∀ b ps, H b = some (.tbl ps) → ∃ qs, H1 b = some (.tbl qs)
  nn : ∀ b, H1 b = none → H b = none
theorem Grow.trans {H H1 H2 : Hp} (a : Grow H H1) (b : Grow H1 H2) : Grow H H2 :=
  ⟨fun x o h n => b.old x o (a.old x o h n) n, fun x ps h => let ⟨_, h1⟩ := a.tbl x ps h; b.tbl x _ h1, fun x h => a.nn x (b.nn x h)⟩
theorem Grow.new {H : Hp} {p : Addr} {o : HO} (hp : H p = none) : Grow H (upd H p o) := by
  have ne : ∀ {b : Addr} {u : HO}, H b = some u → b ≠ p := fun {b u} h z => by rw [z, hp] at h; cases h
  refine ⟨fun b u h _ => by rw [upd_ne (ne h)]; exact h, fun b ps h => ⟨ps, by rw [upd_ne (ne h)]; exact h⟩, fun b h => ?_⟩
  by_cases z : b = p
  · rw [z]; exact hp
  · rw [upd_ne z] at h; exact h
theorem Grow.table {H : Hp} {p : Addr} {ps qs : Array Value} (hp : H p = some (.tbl ps)) : Grow H (upd H p (.tbl qs)) := by
  refine ⟨fun b u h n => ?_, fun b rs h => ?_, fun b h => ?_⟩
  · have z : b ≠ p := fun z => by rw [z, hp] at h; cases h; exact n ps rfl
    rw [upd_ne z]; exact h
  · by_cases z : b = p
    · exact ⟨qs, by rw [z, upd_same]⟩
    · exact ⟨rs, by rw [upd_ne z]; exact h⟩
  · by_cases z : b = p
    · rw [z, upd_same] at h; cases h
    · rw [upd_ne z] at h; exact h
section
variable {X : Cx} {pins : List (Addr × Obj)} {σ : L2.St} {H : Hp} {s : Shared}
theorem fn_make {τ : List NdefX.NTab} {nm : Nat → Nat → Str} {c T0 : Addr} {name : Str} {params : Arguments} {body : List Stmt} {scope : Scope} {pos : Pos} {E : Value → Shared → Prop} {Q : Value → Shared → Prop} (I : Inv X pins σ H s) (TB : LamX.TabB X.base X.mg c T0) (hc : X.env.code = .ref c)
    (mem : (T0, nm) ∈ τ) (nam : nm pos.line pos.col = X.env.qual ++ name) (uni : ∀ q ∈ τ, q.1 = T0 → q.2 = nm) (tabs : NdefX.TabsN τ H) (cells : ∀ y ∈ scope.names, y.2 = .free → ∃ c, X.env.cells.lookup y.1 = some c)
    (done : ∀ (f c' : Addr) (H1 : Hp) (s' : Shared), Inv X pins σ H1 s' → Grow H H1 → NdefX.TabsN τ H1 → H f = none → H1 f = some (NdefX.FnO f ⟨name, X.env.qual ++ name, params, body, scope, cloFrom X.env.cells scope.names [], c'⟩) → H1 c' = some (LamX.CodeO c' (X.env.qual ++ name)) → Q (.ref f) s') :
    wpAny (model X.prog X.w) X.A (makeFunction name (X.env.qual ++ name) params (.stmts body) scope X.env [] [] [] pos pos.line) Q E s := by
  obtain ⟨ps, at0, tri, told⟩ := (show NdefX.TabN H T0 nm from tabs _ mem)
  have bi : s.heap.BuiltinsAt X.mg T0 := TB.bm.keeps I.bk
  have raw : s.heap.get? T0 = some { cls := .none, data := .fields ps } := I.hok T0 _ at0
  have code := TB.code.keeps I.bk
  have glob := I.mod.glob.keeps I.bk
  cases look : codeAmong pos ps.toList with
  | some cv =>
    obtain ⟨c', rfl, isC⟩ := told pos cv look
    rw [nam] at isC
    refine PySem.W.makeFunction_hit (mg := X.mg) (closure_ok cells) I.ok.glob glob hc code raw tri look bi fun ctv doc h' tk kept _ => ?_
    have J : Inv X pins σ H { s with heap := h', toks := tk } := I.kept kept
    have fresh : H h'.objs.size = none := J.hok.fresh (Nat.le_refl _)
    have J2 := NdefX.inv_fn (F := ⟨name, X.env.qual ++ name, params, body, scope, cloFrom X.env.cells scope.names [], c'⟩) (t' := tk) (doc := doc) (pm := (X.mg "__name__").getD .none) (ctv := ctv) J rfl
    exact done h'.objs.size c' _ _ J2 (.new fresh) (tabs.ext (hx_upd fresh)) fresh upd_same (hx_upd fresh _ _ isC)
  | none =>
    refine PySem.W.makeFunction_K (mg := X.mg) (closure_ok cells) I.ok.glob glob hc code raw tri look TB.gP bi fun c' ctv doc h' tk kept ge lt rec tab => ?_
    obtain ⟨c2, oc, vs, t, e2, hoc, hd, hv⟩ := rec
    cases e2
    have newC : H c' = none := I.hok.fresh ge
    have J := LamX.inv_table (t' := tk) (more := #[rawInt pos.line, rawInt pos.col, .ref c']) (h' := h') I at0 (fun b o hb e => kept b o hb e) tab ge ⟨oc, vs, t, hoc, hd, hv⟩
    generalize hqs : ps ++ #[rawInt pos.line, rawInt pos.col, Value.ref c'] = qs at J
    have g1 : Grow H (upd H T0 (.tbl qs)) := .table at0
    have neC : c' ≠ T0 := fun z => by rw [z, at0] at newC; cases newC
    have newC1 : upd H T0 (.tbl qs) c' = none := by rw [upd_ne neC]; exact newC
    have g2 := g1.trans (Grow.new (o := LamX.CodeO c' (X.env.qual ++ name)) newC1)
    have same : ∀ {b : Addr} {o : HO}, H b = some o → b ≠ T0 → upd (upd H T0 (.tbl qs)) c' (LamX.CodeO c' (X.env.qual ++ name)) b = some o := fun {b o} e n => by
      rw [upd_ne (fun z => by rw [z, newC] at e; cases e), upd_ne n]; exact e
    have codes : ∀ {b : Addr} {q : Str}, H b = some (LamX.CodeO b q) → upd (upd H T0 (.tbl qs)) c' (LamX.CodeO c' (X.env.qual ++ name)) b = some (LamX.CodeO b q) := fun {b q} e => same e fun z => by rw [z, at0] at e; cases e
    have list : qs.toList = ps.toList ++ [rawInt pos.line, rawInt pos.col, .ref c'] := by rw [← hqs]; simp
    have tabs1 : NdefX.TabsN τ (upd (upd H T0 (.tbl qs)) c' (LamX.CodeO c' (X.env.qual ++ name))) := fun q hq => by
      by_cases eT : q.1 = T0
      · rw [uni q hq eT, eT]
        refine ⟨qs, by rw [upd_ne (Ne.symm neC), upd_same], by rw [list]; exact PySem.TriplesOk_snoc _ _ _ _ tri, fun p' cv hcv => ?_⟩
        rw [list] at hcv
        rcases NdefX.among_app2 _ tri hcv with z | ⟨z, z1, z2⟩
        · obtain ⟨c0, e1, e2⟩ := told p' cv z
          exact ⟨c0, e1, codes e2⟩
        · exact ⟨c', z, by rw [← z1, ← z2, nam]; exact upd_same⟩
      · obtain ⟨rs, r1, r2, r3⟩ := tabs q hq
        refine ⟨rs, same r1 eT, r2, fun p' cv hcv => ?_⟩
        obtain ⟨c0, e1, e2⟩ := r3 p' cv hcv
        exact ⟨c0, e1, codes e2⟩
    have newF := J.hok.fresh (Nat.le_refl _)
    have J2 := NdefX.inv_fn (F := ⟨name, X.env.qual ++ name, params, body, scope, cloFrom X.env.cells scope.names [], c'⟩) (t' := tk) (doc := doc) (pm := (X.mg "__name__").getD .none) (ctv := ctv) J rfl
    exact done h'.objs.size c' _ _ J2 (g2.trans (.new newF)) (tabs1.ext (hx_upd newF)) (I.hok.fresh (Nat.le_trans ge (Nat.le_of_lt lt))) upd_same (hx_upd newF _ _ upd_same)
/-- the reading of a def within a def -/
def tFn (τ : List NdefX.NTab) (i : Nat) (mk : Addr → NdefX.NF) : TS := fun D σ H => NdefX.TabsN τ H ∧ ∀ (f c' : Addr) (H1 : Hp), i < σ.length → Grow H H1 → NdefX.TabsN τ H1 → H f = none → H1 f = some (NdefX.FnO f (mk c')) → H1 c' = some (LamX.CodeO c' (mk c').qual) → D.nx (σ.set i (some (.ref f))) H1
theorem ps_fn {st : Stmt} {τ : List NdefX.NTab} {nm : Nat → Nat → Str} {c T0 : Addr} {name : Str} {pos : Pos} {i : Nat} (hst : st = .FunctionDef name (C8.fnArgs st) (C8.fnBody st) [] none [] (C8.fnScope st) none name pos) (TB : LamX.TabB X.base X.mg c T0) (hc : X.env.code = .ref c) (mem : (T0, nm) ∈ τ) (nam : nm pos.line pos.col = X.env.qual ++ name)
    (uni : ∀ q ∈ τ, q.1 = T0 → q.2 = nm) (fr : ∀ y ∈ (C8.fnScope st).names, y.2 = .free → X.env.scope.names.lookup y.1 = some .cell ∨ X.env.scope.names.lookup y.1 = some .free) (d0 : (C8.fnArgs st).defaults = []) (k0 : (C8.fnArgs st).kw_defaults = []) (an : annTrees (C8.fnArgs st) none X.env = [])
    (hN : X.N.Nodup) (hi : X.N[i]? = some name) (hx : Loc X.env.scope name) (hf : X.fn name = true ∨ X.env.scope.names.lookup name = some .local) :
    PS X st (tFn τ i (NdefX.NF.of st name (X.env.qual ++ name) (cloFrom X.env.cells (C8.fnScope st).names []))) := by
  suffices q : PS X (.FunctionDef name (C8.fnArgs st) (C8.fnBody st) [] none [] (C8.fnScope st) none name pos) (tFn τ i (NdefX.NF.of st name (X.env.qual ++ name) (cloFrom X.env.cells (C8.fnScope st).names []))) by
    rw [← hst] at q; exact q
  refine ⟨fun pins s σ H D I ⟨tabs, h⟩ => ?_⟩
  have qn : qualnameIn X.env name name = X.env.qual ++ name := by
    have k : X.env.kindOf name = some .local ∨ X.env.kindOf name = some .cell := hx
    unfold qualnameIn
    rcases k with k | k <;> (rw [k]; first | rfl | exact if_neg (by decide))
  refine PySem.W.nestDef_K d0 k0 an ?_
  rw [qn]
  refine fn_make I TB hc mem nam uni tabs (fun y hy e => (fr y hy e).elim (fun z => I.ok.has _ (.inl z)) fun z => I.ok.has _ (.inr z)) fun f c' H1 s' J gr tb f0 f1 c1 => ?_
  exact store_ok J hN hi hx (v := .ref f) rfl (fun s2 J2 => ⟨_, H1, J2, h f c' H1 (by rw [I.len]; exact (List.getElem?_eq_some_iff.mp hi).1) gr tb f0 f1 c1⟩) hf
end
/-- the view behind it: with the new function in it -/
theorem RelH.grow {T : Tb} {Γ : Ctx} {G H H1 : Hp} {w : Wl} (R : RelH T Γ G H w) (g : Grow H H1) (t : NdefX.TabsN T.tabs H1) : Hx G (tupG G H1) ∧ RelH T Γ (tupG G H1) H1 w := by
  have gx : Hx G (tupG G H1) := fun a o e => by
    rcases tupG_or (G := G) (H := H1) a with ⟨u, hu, h, q⟩ | ⟨_, q⟩
    · have := g.old _ _ (R.sub _ _ e) (R.nt _ _ e)
      rw [h] at this; cases this; exact q
    · rw [q]; exact e
  refine ⟨gx, fun a o e => ?_, fun a o e => ?_, fun a e => ?_, R.g0.trans gx, fun a o h n t => g.old _ _ (R.keep a o h n t) t, fun a h => R.mono a (g.nn a h), fun a e => ?_, t, R.fnw, R.fg0.trans gx, fun a o hf e => ?_⟩
  · rcases tupG_or (G := G) (H := H1) a with ⟨u, hu, h, q⟩ | ⟨_, q⟩
    · rw [q] at e; rw [h]; exact e
    · rw [q] at e; exact g.old _ _ (R.sub _ _ e) (R.nt _ _ e)
  · rcases tupG_or (G := G) (H := H1) a with ⟨u, hu, h, q⟩ | ⟨_, q⟩
    · rw [q] at e; cases e; exact fun ps z => by rw [z] at hu; cases hu
    · rw [q] at e; exact R.nt _ _ e
  · rcases tupG_or (G := G) (H := H1) a with ⟨u, hu, h, q⟩ | ⟨_, q⟩
    · cases e2 : H a with
      | none => exact .inr (R.mono a e2)
      | some v =>
        have nv : NoTbl v := fun ps z => by
          rw [z] at e2
          obtain ⟨qs, h2⟩ := g.tbl a ps e2
          rw [h] at h2; cases h2; cases hu
        have := g.old _ _ e2 nv
        rw [h] at this; cases this
        exact R.nw a (by rw [R.tv a u hu e2]; exact fun y => nomatch y)
    · rw [q] at e; exact R.nw _ e
  · obtain ⟨h1, h2⟩ := R.well a e
    have h3 := g.old _ _ h2 noLst
    refine ⟨?_, h3⟩
    rcases tupG_or (G := G) (H := H1) a with ⟨u, hu, h, q⟩ | ⟨_, q⟩
    · rw [h3] at h; cases h; cases hu
    · rw [q]; exact h1
  · rcases tupG_or (G := G) (H := H1) a with ⟨u, hu, h, q⟩ | ⟨h, _⟩
    · rw [h] at e; cases e; exact q
    · exact absurd e (h o hf)
end Q

namespace Q
open PySem PySem.Spec PyProof.Rows L2
/-! ## a wider base: with the cells that a function has captured -/
open Classical in
noncomputable def hideC (base : Heap) (cl : List (Str × Addr)) : Hp := fun b => if (base.get? b).isSome = true ∨ ∃ y, cl.lookup y = some b then none else some (.tup [])
theorem frames_of {h base base' : Heap} : ∀ {l : List PySem.Env}, h.FunFrames base l → (∀ env ∈ l, ∀ L, env.frame = some L → base.get? L = none → base'.get? L = none) → h.FunFrames base' l
  | [], _, _ => trivial
  | env :: rest, ⟨h1, ⟨L, o, h2, h3, h4, h5⟩, h6⟩, k => ⟨h1, ⟨L, o, h2, k env List.mem_cons_self L h2 h3, h4, h5⟩, frames_of h6 fun e he => k e (List.mem_cons_of_mem _ he)⟩
theorem frame_at {h base : Heap} : ∀ {l : List PySem.Env}, h.FunFrames base l → ∀ env ∈ l, ∀ L, env.frame = some L → ∃ o, h.get? L = some o
  | env :: rest, ⟨_, ⟨L, o, h2, _, h4, _⟩, h6⟩, e, he, L', hL => by
    rcases List.mem_cons.mp he with rfl | he
    · rw [h2] at hL; cases hL; exact ⟨o, h4⟩
    · exact frame_at h6 e he L' hL
section
variable {X : Cx} {pins : List (Addr × Obj)} {σ : L2.St} {H : Hp} {s : Shared} {cl : List (Str × Addr)}
theorem widen (I : Inv X pins σ H s) (hfn : ∀ x, X.fn x = true) (hcl : ∀ y c, cl.lookup y = some c → X.env.cells.lookup y = some c) :
    ∃ base' : Heap, (∀ b o, X.base.get? b = some o → base'.get? b = some o) ∧ Env0 X.prog X.w X.K X.mg base' X.A X.stack s H ∧ ∀ (fr : List Str) (js : List Nat), NdefX.Caps X cl fr js → NdefX.CellsAt cl fr (js.map (NdefX.slotAt σ)) base' (fun _ => none) := by
  classical
  have E := I.env0
  have up : ∀ b o, X.base.get? b = some o → (hidT s.heap (hideC X.base cl)).get? b = some o := fun b o e => hidT_get (E.bs b o e).1 (if_pos (.inl (by rw [e]; rfl)))
  have hid : ∀ b, hideC X.base cl b = none → (X.base.get? b).isSome = true ∨ ∃ y, cl.lookup y = some b := fun b e => by
    unfold hideC at e
    by_cases z : (X.base.get? b).isSome = true ∨ ∃ y, cl.lookup y = some b
    · exact z
    · rw [if_neg z] at e; cases e
  have cellIn : ∀ {y : Str} {c : Addr}, cl.lookup y = some c → ∀ {o : Obj}, s.heap.get? c = some o → (hidT s.heap (hideC X.base cl)).get? c = some o := fun {y c} hy {o} e => hidT_get e (if_pos (.inr ⟨y, hy⟩))
  refine ⟨hidT s.heap (hideC X.base cl), up, ⟨E.frames, ?_, fun b o e => ?_, Nat.le_of_eq (hidT_size _ _), ?_, E.frf, E.hok, E.bare⟩, fun fr js cp => ?_⟩
  · exact ⟨E.mod.kin.keeps up, E.mod.glob.keeps up, let ⟨mb, h1, h2⟩ := E.mod.blt; ⟨mb, h1.keeps up, h2⟩, E.mod.nolimit.keeps up⟩
  · obtain ⟨e1, e2⟩ := of_hidT e
    refine ⟨e1, ?_⟩
    rcases hid b e2 with z | ⟨y, z⟩
    · cases q : X.base.get? b with
      | none => rw [q] at z; cases z
      | some u => exact (E.bs b u q).2
    · exact I.freeC y b (hcl y b z)
  · refine frames_of E.funs fun env he L hL hb => ?_
    cases q : (hidT s.heap (hideC X.base cl)).get? L with
    | none => rfl
    | some u =>
      obtain ⟨e1, e2⟩ := of_hidT q
      rcases hid L e2 with z | ⟨y, z⟩
      · rw [hb] at z; cases z
      · have hc := hcl y L z
        have big := I.ok.cab y L (hfn y) hc
        have own : env ∈ X.outer → False := fun ho => by
          obtain ⟨o, h0⟩ := frame_at I.ok.funs env ho L hL
          exact absurd (Heap.lt_size h0) (Nat.not_lt.mpr big)
        rcases I.ok.stk with k | ⟨k, k2⟩
        · rw [k] at he; exact (own he).elim
        · rw [k] at he
          rcases List.mem_cons.mp he with rfl | ho
          · rw [k2] at hL; cases hL
            obtain ⟨m, ⟨o, es, ep, n1, n2, _⟩, _⟩ := I.loc
            obtain ⟨v, o', c1, c2⟩ := I.cell y _ hc
            rw [n1] at c1; cases c1
            rw [n2] at c2; cases c2
          · exact (own ho).elim
  · have C := NdefX.cells_of I cp
    refine ⟨C.len, fun y c e => ⟨rfl, ?_⟩, C.inj, fun i y e => ?_⟩
    · obtain ⟨_, v, o, h1, h2⟩ := C.all y c e
      exact ⟨v, o, cellIn e h1, h2⟩
    · obtain ⟨c, h1, h2⟩ := C.has i y e
      refine ⟨c, h1, fun v hv => ?_⟩
      obtain ⟨u, r, o, h3, h4⟩ := h2 v hv
      exact ⟨u, r, o, cellIn h1 h3, h4⟩
end
/-! ## the function's own body -/
def startC (n : Nat) (ds : List D) (cs : List (Option D)) : Env := ds.map some ++ (cs ++ List.replicate (n - ds.length - cs.length) none)
/-- a function with what it has captured, on data -/
def fnC (n : Nat) (f : Env → M Fl) (cs : List (Option D)) : List D → M D := fun ds w => endF (f (startC n ds cs) w)
inductive IsW (K : PySem.W.Frag) (wl : WlT) (G : Hp) : List (Option V) → List (Option D) → Prop
  | nil : IsW K wl G [] []
  | some {v : V} {d : D} {ws : List (Option V)} {cs : List (Option D)} : Is K wl G v d → IsW K wl G ws cs → IsW K wl G (.some v :: ws) (.some d :: cs)
  | none {o : Option V} {ws : List (Option V)} {cs : List (Option D)} : IsW K wl G ws cs → IsW K wl G (o :: ws) (.none :: cs)
theorem IsW.length {K : PySem.W.Frag} {wl : WlT} {G : Hp} : ∀ {ws : List (Option V)} {cs : List (Option D)}, IsW K wl G ws cs → ws.length = cs.length
  | _, _, .nil => rfl
  | _, _, .some _ h => congrArg (· + 1) h.length
  | _, _, .none h => congrArg (· + 1) h.length
theorem IsW.get {K : PySem.W.Frag} {wl : WlT} {G : Hp} : ∀ {ws : List (Option V)} {cs : List (Option D)} {i : Nat} {d : D}, IsW K wl G ws cs → cs[i]? = .some (.some d) → ∃ v, ws[i]? = .some (.some v) ∧ Is K wl G v d
  | _, _, 0, _, .some h _, e => by cases e; exact ⟨_, rfl, h⟩
  | _, _, 0, _, .none _, e => by cases e
  | _, _, i + 1, _, .some _ h, e => IsW.get (i := i) h (by simpa using e)
  | _, _, i + 1, _, .none h, e => IsW.get (i := i) h (by simpa using e)
theorem IsW.mono {K : PySem.W.Frag} {wl : WlT} {G G1 : Hp} (e : Hx G G1) : ∀ {ws : List (Option V)} {cs : List (Option D)}, IsW K wl G ws cs → IsW K wl G1 ws cs
  | _, _, .nil => .nil
  | _, _, .some h r => .some (h.mono e) (r.mono e)
  | _, _, .none r => .none (r.mono e)
section
variable {P : Program} {w : World} {K : PySem.W.Frag} {mg : Str → Option Value} {base : Heap} {τ : List NdefX.NTab} {k : Nat}
theorem startF_rel {N : List Str} {wl : WlT} {G H : Hp} {wv : Wl} {vs : List V} {ds : List D} {ws : List (Option V)} {cs : List (Option D)} (e : EnterH τ wl G H wv) (l : IsL K wl G vs ds) (lw : IsW K wl G ws cs) : Rel K (tb0 τ) ⟨wl, G, H⟩ [] (startC N.length ds cs) (NdefX.startF N vs ws) G H wv := by
  refine ⟨e.rel, ?_, fun i d _ h => ?_, fun i d hi => (by cases hi), fun i j l d e hi => (by cases hi)⟩
  · simp only [startC, NdefX.startF, List.length_append, List.length_map, List.length_replicate, l.length, lw.length]
  · unfold startC at h
    unfold NdefX.startF
    rw [List.getElem?_append] at h ⊢
    by_cases hi : i < ds.length
    · rw [if_pos (by simpa using hi), List.getElem?_map] at h
      rw [if_pos (by rw [List.length_map, l.length]; exact hi), List.getElem?_map]
      cases q : ds[i]? with
      | none => rw [q] at h; cases h
      | some d' =>
        rw [q] at h
        cases h
        obtain ⟨v, h1, h2⟩ := l.get q
        exact ⟨v, by rw [h1]; rfl, h2⟩
    · rw [if_neg (by simpa using hi), List.length_map] at h
      rw [if_neg (by rw [List.length_map, l.length]; exact hi), List.length_map, l.length]
      rw [List.getElem?_append] at h ⊢
      by_cases h2 : i - ds.length < cs.length
      · rw [if_pos h2] at h
        rw [if_pos (by rw [lw.length]; exact h2)]
        exact lw.get h
      · rw [if_neg h2, List.getElem?_replicate] at h
        split at h <;> cases h
/-- a def within a def, known as it is called: by its body -/
theorem beh_of {N ps fr : List Str} {F : NdefX.NF} {f : Addr} {ws : List (Option V)} {cs : List (Option D)} {g0 : Hp} {wl0 : WlT} {body : Env → M Fl} {O : List Nat} (S : NdefX.NScope N ps fr F.scope) (hb : ∀ (doc pm ctv : Value) (us : List Value), us.length = ps.length → bindArgs (F.fd doc pm ctv) ⟨us, []⟩ = pure (ps.zip us))
    (hf : g0 f = some (NdefX.FnO f F)) (hc : g0 F.c = some (LamX.CodeO F.c F.qual)) (C : NdefX.CellsAt F.cl fr ws base (fun _ => none)) (lw : IsW K wl0 g0 ws cs) (nf : D.nofnL (cs.filterMap id) = true)
    (hbody : ∀ (A : Around) (outer : List PySem.Env) (s : Shared) (H : Hp) (E : XK), Ok k (NdefX.ncx (L2.CX P w) P w K mg base N F f A outer s H E) → DSs (NdefX.ncx (L2.CX P w) P w K mg base N F f A outer s H E) (tb0 τ) [] [] O (WxE E) F.body body) :
    Beh P w K mg base (k + 1) τ g0 wl0.w f ps.length (fnC N.length body cs) := by
  have swp : ∀ {wl : WlT} {G : Hp}, wl.w = wl0.w → Hx g0 G → IsW K wl G ws cs := fun {wl G} e x => by
    have : ∀ {ws : List (Option V)} {cs : List (Option D)}, IsW K wl0 g0 ws cs → D.nofnL (cs.filterMap id) = true → IsW K wl G ws cs := fun {ws cs} h => by
      induction h with
      | nil => intro _; exact .nil
      | some i _ ih =>
        intro z
        simp only [List.filterMap_cons, id, D.nofnL, Bool.and_eq_true] at z
        exact .some ((Is.swap e.symm i z.1).mono x) (ih z.2)
      | none _ ih => intro z; exact .none (ih (by simpa using z))
    exact this lw nf
  refine ⟨fun s H _ ok x => ?_, fun A outer s H us vs Q E hg hr e0 r ⟨wl, G, wv, ds, hw, hx, en, l, hl, P1⟩ => ?_⟩
  · obtain ⟨od, sl, doc, pm, ctv, ho⟩ := NdefX.fnO_at ok (x _ _ hf)
    exact ⟨_, od, _, sl, ho⟩
  · have hfH := (hx.trans en.sub) _ _ hf
    have hcH := (hx.trans en.sub) _ _ hc
    have lim : s.heap.NoLimit := e0.mod.nolimit.keeps fun b o e => (e0.bs b o e).1
    obtain ⟨od, sl, doc, pm, ctv, ho⟩ := NdefX.fnO_at e0.hok hfH
    have cells : NdefX.CellsAt F.cl fr ws s.heap H := by
      refine ⟨C.len, fun y c e => ?_, C.inj, fun i y e => ?_⟩
      · obtain ⟨_, v, o, h1, h2⟩ := C.all y c e
        exact ⟨(e0.bs c o h1).2, v, o, (e0.bs c o h1).1, h2⟩
      · obtain ⟨c, h1, h2⟩ := C.has i y e
        refine ⟨c, h1, fun v hv => ?_⟩
        obtain ⟨u, q, o, h3, h4⟩ := h2 v hv
        exact ⟨u, q, o, (e0.bs c o h3).1, h4⟩
    refine codeAny_call_function hr.depth ho rfl S.co S.gen rfl (NdefX.codeO_at e0.hok hcH) ?_
    rw [hb doc pm ctv us (by rw [← r.length]; exact hl)]
    refine wpAny_pure (wpAny_newFunctionEnv S.nocell (fun ⟨n, _⟩ hy => S.par n (List.of_mem_zip hy).1) (fun h₁ hns hsb => ⟨lim.fresh _ hsb, ?_⟩) S.kind)
    show codeAny _ _ (.func F.body (NdefX.envF F f s.heap.objs.size)) _ _
    refine codeAny_func ?_
    have kp : ∀ b o, s.heap.get? b = some o → h₁.get? b = some o := fun b o z => hsb.extBut b o (Nat.ne_of_lt (Heap.lt_size z)) (Heap.get?_push_of_some _ z)
    have J := NdefX.inv_startN (CX := L2.CX P w) (N := N) (f := f) (E := E) (tk := s.toks + (ps.zip us).length) S hr.hd e0 hl r cells hns kp
    have go : tS K (tb0 τ) [] [] O (WxE E) body { nx := fun _ H1 => Q .non H1, rt := Q } (NdefX.startF N vs ws) H := by
      refine ⟨⟨wl, G, H⟩, startC N.length ds cs, G, wv, startF_rel en l (swp hw hx), ?_⟩
      have P2 : PostF K τ wl G H (endF (body (startC N.length ds cs) wv)) Q E := P1
      cases e : body (startC N.length ds cs) wv with
      | fail => rw [e] at P2; exact P2
      | exc c p w' => rw [e] at P2; exact fun cls dd σ' G' H' _ r x => P2 cls dd G' H' r x
      | ok r w' =>
        rw [e] at P2
        cases r with
        | nx ρ' => exact fun σ' G' H' _ R => P2 .non G' H' R.h .non
        | rt d => exact fun v G' H' _ r i => P2 v G' H' r i
        | bk ρ' => exact False.elim P2
        | ct ρ' => exact False.elim P2
    refine wpAny_mono ((hbody A outer s H E ⟨hr.deeper _, hg⟩).run [] _ (NdefX.startF N vs ws) H _ J go) (fun fl s' hs => ?_) fun e s' hs => hs
    cases fl with
    | ret u => obtain ⟨v, _, H2, J2, ru, q⟩ := hs; exact ⟨v, H2, J2.os, J2.bare, J2.base, J2.hok, ru, q⟩
    | next => obtain ⟨_, H2, J2, q⟩ := hs; exact ⟨V.non, H2, J2.os, J2.bare, J2.base, J2.hok, rfl, q⟩
    | brk => obtain ⟨_, _, _, q⟩ := hs; exact q.elim
    | cont => obtain ⟨_, _, _, q⟩ := hs; exact q.elim
end
end Q

namespace Q
open PySem PySem.Spec PyProof.Rows L2
/-! ## arguments, the last one a function made here -/
def tLF (K : PySem.W.Frag) (T : Tb) (O : List Nat) (Wx : WX) (j : Nat) (fr : Env → M (List D)) : TA := fun σ H Q => ∃ Γ ρ G w a, Rel K T Γ O ρ σ G H w ∧ σ[j]? = some (some (.ref a)) ∧ Post K T Γ O Wx ρ σ G H IsA (fr ρ w) (fun vs H' => Q (vs ++ [.ref a]) H')
def DAF (X : Cx) (T : Tb) (O : List Nat) (Wx : WX) (j : Nat) (es : List Expr) (fr : Env → M (List D)) : Prop := PA X es (tLF X.K T O Wx j fr)
section
variable {X : Cx} {T : Tb} {L O O' : List Nat} {Wx : WX} {e : Expr} {es : List Expr} {fe : Env → M D} {fr : Env → M (List D)} {p pos pos2 : Pos}
theorem daf_last (j : Nat) {x : Str} (hN : X.N[j]? = some x := by rfl) (hv : Vis X.env.scope x := by first | exact Or.inl rfl | exact Or.inr (Or.inl rfl) | exact Or.inr (Or.inr rfl)) (hd : (x == ("__debug__" : Str)) = false := by decide)
    (hcd : (x == ("__classdict__" : Str)) = false := by decide) (hs : starEach [.Name x p] X.env = (false, eval (.Name x p) X.env) :: starEach [] X.env := by rfl) : DAF X T O Wx j [.Name x p] nilA :=
  pa_imp (pa_cons (pv j hN hv hd hcd) pa_nil hs) fun σ H Q ⟨Γ, ρ, G, w, a, R, h, P⟩ => ⟨.ref a, h, Post.ok (v := ([] : List V)) P R IsL.nil⟩
theorem daf_cons {j : Nat} (ha : DE X T O Wx e fe) (hr : DAF X T O Wx j es fr) (hs : starEach (e :: es) X.env = (false, eval e X.env) :: starEach es X.env := by rfl) : DAF X T O Wx j (e :: es) (consA fe fr) :=
  pa_imp (pa_cons ha hr hs) fun σ H Q ⟨Γ, ρ, G, w, a, R, h, P⟩ => post_bind (Q := fun vs H' => Q (vs ++ [.ref a]) H') R P fun v d G1 H1 w1 st R1 i1 P1 => by
    have P2 : Post X.K T Γ O Wx ρ σ G1 H1 IsA (M.bind (fr ρ) (fun xs => M.pure (d :: xs)) w1) (fun vs H' => Q (vs ++ [.ref a]) H') := P1
    refine ⟨Γ, ρ, G1, w1, a, R1, h, ?_⟩
    simp only [M.bind] at P2
    cases q : fr ρ w1 with
    | fail => rw [q] at P2; exact P2
    | exc c p' w' => rw [q] at P2; exact P2
    | ok ds w' =>
      rw [q] at P2
      intro vs G2 H2 st2 R2 i2
      exact P2 (v :: vs) G2 H2 st2 R2 (.cons (i1.mono st2.x) i2)
theorem Post.step {α β : Type} {K : PySem.W.Frag} {Γ : Ctx} {ρ : Env} {σ : L2.St} {G H G1 H1 : Hp} {I : IR β α} {r : Out α} {Q : β → Hp → Prop} (P : Post K T Γ O Wx ρ σ G H I r Q) (st : Stp Γ.wl G H G1 H1) : Post K T Γ O Wx ρ σ G1 H1 I r Q := by
  cases r with
  | fail => exact P
  | ok d w => exact fun v G' H' s => P v G' H' (st.trans s)
  | exc c p w => exact fun cls dd G' H' s => P cls dd G' H' (st.trans s)
/-! ## a def within a def handed to a def -/
def capE (js : List Nat) (ρ : Env) : List (Option D) := js.map fun j => match ρ[j]? with
  | some o => o
  | none => none
def callCE (n n' : Nat) (js : List Nat) (dF : (List D → M D) → List D → M D) (gb : Env → M Fl) (fr : Env → M (List D)) : Env → M D := fun ρ => M.bind (fr ρ) fun ds =>
  if ds.length + 1 = n ∧ D.nofnL ds = true ∧ D.nofnL ((capE js ρ).filterMap id) = true then M.bind (noX (dF (fnC n' gb (capE js ρ)) ds)) fun d => if d.nofn = true then M.pure d else M.fail else M.fail
theorem cap_rel {Γ : Ctx} {ρ : Env} {σ : L2.St} {G H : Hp} {w : Wl} (R : Rel X.K T Γ [] ρ σ G H w) : ∀ js : List Nat, IsW X.K Γ.wl G (js.map (NdefX.slotAt σ)) (capE js ρ)
  | [] => .nil
  | j :: js => by
    unfold capE
    rw [List.map_cons, List.map_cons]
    cases e : ρ[j]? with
    | none => exact .none (cap_rel R js)
    | some o =>
      cases o with
      | none => exact .none (cap_rel R js)
      | some d =>
        obtain ⟨v, h1, h2⟩ := R.fro j d (by simp) e
        have : NdefX.slotAt σ j = some v := by unfold NdefX.slotAt; rw [h1]
        rw [this]
        exact .some h2 (cap_rel R js)
def tCallC (K : PySem.W.Frag) (T : Tb) (Wx : WX) (j : Nat) (mk : Addr → NdefX.NF) (f : Env → M D) : TE := fun σ H Q => ∃ Γ ρ G w a c', Rel K T Γ [] ρ σ G H w ∧ σ[j]? = some (some (.ref a)) ∧ G a = some (NdefX.FnO a (mk c')) ∧ G c' = some (LamX.CodeO c' (mk c').qual) ∧ Post K T Γ [] Wx ρ σ G H IsV (f ρ w) Q
theorem pe_callC {x : Str} {h : Addr} {fd : FuncData} {ps ps' fr' N' : List Str} {js : List Nat} {k kc j : Nat} {mk : Addr → NdefX.NF} {cl : List (Str × Addr)} {jf : Nat} {dF : (List D → M D) → List D → M D} {gb : Env → M Fl} {OC : List Nat}
    (hfn : ∀ x, X.fn x = true) (hmc : ∀ c', (mk c').c = c') (hcl : ∀ c', (mk c').cl = cl) (S : ∀ c', NdefX.NScope N' ps' fr' (mk c').scope) (hbd : ∀ (c' : Addr) (doc pm ctv : Value) (us : List Value), us.length = ps'.length → bindArgs ((mk c').fd doc pm ctv) ⟨us, []⟩ = pure (ps'.zip us))
    (cp : X.Ok → NdefX.Caps X cl fr' js) (hsub : X.Ok → ∀ y c, cl.lookup y = some c → X.env.cells.lookup y = some c)
    (hbody : ∀ (base' : Heap), (∀ b o, X.base.get? b = some o → base'.get? b = some o) → ∀ (c' f : Addr) (A : Around) (outer : List PySem.Env) (s : Shared) (H : Hp) (E : XK), Ok kc (NdefX.ncx (L2.CX X.prog X.w) X.prog X.w X.K X.mg base' N' (mk c') f A outer s H E) → DSs (NdefX.ncx (L2.CX X.prog X.w) X.prog X.w X.K X.mg base' N' (mk c') f A outer s H E) (tb0 T.tabs) [] [] OC (WxE E) (mk c').body gb)
    (F : ∀ (base' : Heap), (∀ b o, X.base.get? b = some o → base'.get? b = some o) → ∀ (fa : Addr) (g0 : Hp) (wo : Option Addr) (g : List D → M D), Beh X.prog X.w X.K X.mg base' (kc + 1) T.tabs g0 wo fa ps'.length g → FnG X.prog X.w X.K X.mg base' k h fd ps (spF X.K T.tabs g0 wo fa ps.length (dF g)))
    (ok : Ok j X) (hk : k ≤ j) (tk : Takes X Wx) (hm : X.mg x = some (.ref h)) (kp : PySem.W.keepIn X.K (.ref h) = true) (hb : Binds X.K fd ps []) (ha : DAF X T [] Wx jf (e :: es) fr)
    (hg : Gl X x := by rfl) (hdb : (x == ("__debug__" : Str)) = false := by decide) (he : starEach (e :: es) X.env = (false, eval e X.env) :: starEach es X.env := by rfl) (hpl : (backTo pos (starEach es X.env)).any (·.1) = false := by rfl) :
    PE X (.Call (.Name x p) (e :: es) [] pos) (tCallC X.K T Wx jf mk (callCE ps.length N'.length js dF gb fr)) := by
  refine ⟨fun pins s σ H Q I hh => ?_⟩
  refine wpAny_Call_Name_kw (ld_glob I hg hm ?_ hdb)
  obtain ⟨Γ, ρ, G, w, a, c', R, hs, h1, h2, P⟩ := hh
  have q : tLF X.K T [] Wx jf fr σ H (fun vs H1 => ∃ us ds G1 w1, vs = us ++ [.ref a] ∧ Rel X.K T Γ [] ρ σ G1 H1 w1 ∧ Stp Γ.wl G H G1 H1 ∧ IsL X.K Γ.wl G1 us ds ∧
      Post X.K T Γ [] Wx ρ σ G1 H1 IsV ((if ds.length + 1 = ps.length ∧ D.nofnL ds = true ∧ D.nofnL ((capE js ρ).filterMap id) = true then M.bind (noX (dF (fnC N'.length gb (capE js ρ)) ds)) fun d => if d.nofn = true then M.pure d else M.fail else M.fail) w1) Q) := by
    refine ⟨Γ, ρ, G, w, a, R, hs, ?_⟩
    simp only [callCE, M.bind] at P
    cases e : fr ρ w with
    | fail => rw [e] at P; exact P
    | exc c p w' => rw [e] at P; exact P
    | ok ds w1 =>
      rw [e] at P
      intro us G1 H1 st R1 l
      exact ⟨us, ds, G1, w1, rfl, R1, st, l, Post.step P st⟩
  refine PySem.W.callWith_K (h₀ := X.base) I.ok.mod.kin kp (thn (ha.run pos pins s σ H _ I q) ?_) he hpl
  rintro vals s1 ⟨vs, H1, I1, rv, us, ds, G1, w1, ev, R1, st, l, P1⟩
  refine ⟨I1.kIn, ?_⟩
  obtain ⟨⟨c1, c2, c3⟩, P2⟩ := ifP' P1
  obtain ⟨base', up, E', cellsB⟩ := widen (cl := cl) I1 hfn (hsub I1.ok)
  have at1 := st.x _ _ h1
  have at2 := st.x _ _ h2
  have B : Beh X.prog X.w X.K X.mg base' (kc + 1) T.tabs G1 Γ.wl.w a ps'.length (fnC N'.length gb (capE js ρ)) := by
    refine beh_of (F := mk c') (wl0 := Γ.wl) (ws := js.map (NdefX.slotAt σ)) (S c') (hbd c') at1 (by rw [hmc]; exact at2) ?_ (cap_rel R1 js) c3 (fun A outer s H E ok' => hbody base' up c' a A outer s H E ok')
    rw [hcl]
    exact cellsB fr' js (cp I1.ok)
  have Fc := F base' up a G1 Γ.wl.w _ B
  have hl : vals.length = ps.length := by rw [← rv.length, ev, List.length_append, l.length]; exact c1
  have hbt := hb s1 vals I1.kIn (by rw [List.append_nil]; exact hl)
  rw [List.append_nil] at hbt
  have sp : spF X.K T.tabs G1 Γ.wl.w a ps.length (dF (fnC N'.length gb (capE js ρ))) vs H1 Q (WE Wx σ) := by
    have en := R1.h.enter
    refine ⟨⟨Γ.wl.w, fun i => [a][i]?⟩, G1, w1, ds, us, ⟨en.sub, en.nt, en.well, en.tabs, en.tv⟩, rfl, fun _ => rfl, Hx.refl _, ev, IsL.swap (wl := Γ.wl) (wl' := ⟨Γ.wl.w, fun i => [a][i]?⟩) (by rfl) l c2, by rw [l.length]; exact c1, ?_⟩
    simp only [M.bind, noX] at P2
    cases e2 : dF (fnC N'.length gb (capE js ρ)) ds w1 with
    | fail => rw [e2] at P2; exact P2
    | exc c p w' => rw [e2] at P2; exact False.elim P2
    | ok d w' =>
      rw [e2] at P2
      have P3 : Post X.K T Γ [] Wx ρ σ G1 H1 IsV ((if d.nofn = true then M.pure d else M.fail) w') Q := P2
      obtain ⟨nf, P4⟩ := ifP' P3
      intro v G' H' r i
      have r' : RelH (tb0 T.tabs) ⟨Γ.wl, G1, H1⟩ G' H' w' := ⟨r.sub, r.nt, r.nw, r.g0, r.keep, r.mono, r.well, r.tabs, fun z => absurd rfl z, fun _ _ z => (nomatch z), r.tv⟩
      obtain ⟨R', st'⟩ := R1.after r'
      exact P4 v G' H' st' R' (Is.swap (wl := ⟨Γ.wl.w, fun i => [a][i]?⟩) (wl' := Γ.wl) (by rfl) i nf)
  refine wpAny_call (codeAny_mono (Fc.run X.A X.stack s1 H1 ⟨vals, []⟩ vals vs Q (WE Wx σ) ok.g (ok.room.mono hk) E' hbt rv sp) ?_)
  intro r s2 h
  cases r with
  | error e => exact passAt tk σ pins H1 s1 e s2 I1 h
  | ok fl =>
    cases fl with
    | ret u => exact I1.after h
    | _ => exact False.elim h
/-- the def within, and behind it the call that gets it, returned -/
theorem dss_fnRet {st : Stmt} {x name : Str} {h : Addr} {fd : FuncData} {ps ps' fr' N' : List Str} {js : List Nat} {k kc j : Nat} {dF : (List D → M D) → List D → M D} {gb : Env → M Fl} {OC : List Nat} {nm : Nat → Nat → Str} {c T0 : Addr} {posS : Pos} (i : Nat)
    (hst : st = .FunctionDef name (C8.fnArgs st) (C8.fnBody st) [] none [] (C8.fnScope st) none name posS) (TB : LamX.TabB X.base X.mg c T0) (hcode : X.env.code = .ref c) (mem : (T0, nm) ∈ T.tabs) (nam : nm posS.line posS.col = X.env.qual ++ name)
    (uni : ∀ q ∈ T.tabs, q.1 = T0 → q.2 = nm) (free : ∀ y ∈ (C8.fnScope st).names, y.2 = .free → X.env.scope.names.lookup y.1 = some .cell ∨ X.env.scope.names.lookup y.1 = some .free) (d0 : (C8.fnArgs st).defaults = []) (k0 : (C8.fnArgs st).kw_defaults = []) (an : annTrees (C8.fnArgs st) none X.env = [])
    (hN : X.N.Nodup) (hi : X.N[i]? = some name) (hx : Loc X.env.scope name) (hf : X.fn name = true ∨ X.env.scope.names.lookup name = some .local) (hfn : ∀ x, X.fn x = true)
    (S : NdefX.NScope N' ps' fr' (C8.fnScope st)) (hbd : ∀ (c' : Addr) (doc pm ctv : Value) (us : List Value), us.length = ps'.length → bindArgs ((NdefX.NF.of st name (X.env.qual ++ name) (cloFrom X.env.cells (C8.fnScope st).names []) c').fd doc pm ctv) ⟨us, []⟩ = pure (ps'.zip us))
    (hfr : ∀ y ∈ fr', (y, NameKind.free) ∈ (C8.fnScope st).names) (hjs : js.map (fun j => X.N[j]?) = fr'.map some)
    (hbody : ∀ (base' : Heap), (∀ b o, X.base.get? b = some o → base'.get? b = some o) → ∀ (c' f : Addr) (A : Around) (outer : List PySem.Env) (s : Shared) (H : Hp) (E : XK), Ok kc (NdefX.ncx (L2.CX X.prog X.w) X.prog X.w X.K X.mg base' N' (NdefX.NF.of st name (X.env.qual ++ name) (cloFrom X.env.cells (C8.fnScope st).names []) c') f A outer s H E) →
      DSs (NdefX.ncx (L2.CX X.prog X.w) X.prog X.w X.K X.mg base' N' (NdefX.NF.of st name (X.env.qual ++ name) (cloFrom X.env.cells (C8.fnScope st).names []) c') f A outer s H E) (tb0 T.tabs) [] [] OC (WxE E) (C8.fnBody st) gb)
    (F : ∀ (base' : Heap), (∀ b o, X.base.get? b = some o → base'.get? b = some o) → ∀ (fa : Addr) (g0 : Hp) (wo : Option Addr) (g : List D → M D), Beh X.prog X.w X.K X.mg base' (kc + 1) T.tabs g0 wo fa ps'.length g → FnG X.prog X.w X.K X.mg base' k h fd ps (spF X.K T.tabs g0 wo fa ps.length (dF g)))
    (ok : Ok j X) (hk : k ≤ j) (tk : Takes X Wx) (hm : X.mg x = some (.ref h)) (kp : PySem.W.keepIn X.K (.ref h) = true) (hb : Binds X.K fd ps []) (ha : DAF X T [] Wx i (e :: es) fr)
    (hg : Gl X x := by rfl) (hdb : (x == ("__debug__" : Str)) = false := by decide) (he : starEach (e :: es) X.env = (false, eval e X.env) :: starEach es X.env := by rfl) (hpl : (backTo pos (starEach es X.env)).any (·.1) = false := by rfl) :
    DSs X T L O O' Wx [st, .Return (some (.Call (.Name x p) (e :: es) [] pos)) pos2] (fun ρ => retS (callCE ps.length N'.length js dF gb fr) (ρ.set i none)) := by
  have cp : X.Ok → NdefX.Caps X (cloFrom X.env.cells (C8.fnScope st).names []) fr' js := fun okX => NdefX.Caps.made okX free hfr hjs
  refine pss_imp (pss_cons (ps_fn (i := i) hst TB hcode mem nam uni free d0 k0 an hN hi hx hf) (pss_one (ps_ret (pe_callC (mk := NdefX.NF.of st name (X.env.qual ++ name) (cloFrom X.env.cells (C8.fnScope st).names [])) hfn (fun _ => rfl) (fun _ => rfl) (fun _ => S) hbd cp (fun okX => (cp okX).sub) hbody F ok hk tk hm kp hb ha hg hdb he hpl)))) fun D σ H ⟨Γ, ρ, G, w, R, P⟩ => ?_
  obtain ⟨G1, x1, R1⟩ := R.thaw (O1 := []) (by intro i hi; cases hi)
  refine ⟨R1.h.tabs, fun f c' H1 hl gr tb f0 f1 c1 => ?_⟩
  obtain ⟨gx, rh⟩ := R1.h.grow gr tb
  have R2 : Rel X.K T Γ [] (ρ.set i none) (σ.set i (some (.ref f))) (tupG G1 H1) H1 w := by
    refine ⟨rh, by rw [List.length_set, List.length_set]; exact R1.len, fun j d _ h => ?_, fun j d hj => (by cases hj), fun j k l d e hj => (by cases hj)⟩
    rcases get_set h with ⟨_, q⟩ | ⟨ne, q⟩
    · cases q
    · obtain ⟨v, h1, h2⟩ := R1.fro j d (by simp) q
      exact ⟨v, by rw [List.getElem?_set_ne ne]; exact h1, h2.mono gx⟩
  have fix : ∀ {a : Addr} {o : HO}, H1 a = some o → isF o = true → tupG G1 H1 a = some o := fun {a o} h hf => rh.tv a o hf h
  refine ⟨Γ, ρ.set i none, tupG G1 H1, w, f, c', R2, set_get hl, fix f1 rfl, fix c1 rfl, ?_⟩
  have P1 : PostS X.K T Γ L O' Wx G (M.bind (callCE ps.length N'.length js dF gb fr (ρ.set i none)) (fun d => M.pure (.rt d)) w) D := P
  simp only [M.bind] at P1
  cases e : callCE ps.length N'.length js dF gb fr (ρ.set i none) w with
  | fail => rw [e] at P1; exact P1
  | exc c p w' => rw [e] at P1; exact fun cls dd G' H' h1 h2 h3 => P1 cls dd _ G' H' ((x1.trans gx).trans h1.x) h2 h3
  | ok d w' =>
    rw [e] at P1
    exact fun v G2 H2 hx R3 i3 => P1 v G2 H2 ((x1.trans gx).trans hx.x) R3.h i3
end
end Q

namespace Q
open PySem PySem.Spec PyProof.Rows L2
/-! ## lambdas -/
/-- a lambda: its words, what it has captured, its code object -/
structure LamF where
  qual : Str
  params : Arguments
  body : Expr
  scope : Scope
  cl : List (Str × Addr)
  c : Addr
abbrev LamF.nf (F : LamF) : NdefX.NF := ⟨"<lambda>", F.qual, F.params, [], F.scope, F.cl, F.c⟩
def LamO (f : Addr) (F : LamF) : HO := .ext fun h => ∃ (pm ctv : Value), h.get? f = some (PySem.W.kla_obj "<lambda>" F.qual F.params F.body F.scope F.cl pm F.c ctv)
theorem lamO_at {P : Program} {w : World} {H : Hp} {h : Heap} {f : Addr} {F : LamF} (ok : HOk P w H h) (e : H f = some (LamO f F)) : ∃ (pm ctv : Value), h.get? f = some (PySem.W.kla_obj "<lambda>" F.qual F.params F.body F.scope F.cl pm F.c ctv) := (ok f _ e).1
section
variable {X : Cx} {pins : List (Addr × Obj)} {σ : L2.St} {H : Hp} {s : Shared}
theorem inv_lam {F : LamF} {t' : Nat} {pm ctv : Value} (I : Inv X pins σ H s) :
    Inv X pins σ (upd H s.heap.objs.size (LamO s.heap.objs.size F)) { s with heap := s.heap.push (PySem.W.kla_obj "<lambda>" F.qual F.params F.body F.scope F.cl pm F.c ctv), toks := t' } := by
  refine I.laid (fun _ _ y => Heap.get?_push_of_some _ y) (Nat.le_refl _) ?_
  have e : (s.heap.push (PySem.W.kla_obj "<lambda>" F.qual F.params F.body F.scope F.cl pm F.c ctv)).get? s.heap.objs.size = some (PySem.W.kla_obj "<lambda>" F.qual F.params F.body F.scope F.cl pm F.c ctv) := Heap.get?_push_size _ rfl
  exact ⟨⟨pm, ctv, e⟩, ⟨_, e⟩, fun h1 h2 ⟨p, t, z⟩ st => ⟨p, t, st _ z⟩⟩
theorem lam_make {τ : List NdefX.NTab} {nm : Nat → Nat → Str} {c T0 : Addr} {params : Arguments} {body : Expr} {scope : Scope} {pos : Pos} {E : Value → Shared → Prop} {Q : Value → Shared → Prop} (I : Inv X pins σ H s) (TB : LamX.TabB X.base X.mg c T0) (hc : X.env.code = .ref c)
    (mem : (T0, nm) ∈ τ) (nam : nm pos.line pos.col = X.env.qual ++ "<lambda>") (uni : ∀ q ∈ τ, q.1 = T0 → q.2 = nm) (tabs : NdefX.TabsN τ H) (def0 : defaultsOf params X.env = ([], [])) (cells : ∀ y ∈ scope.names, y.2 = .free → ∃ c, X.env.cells.lookup y.1 = some c)
    (done : ∀ (f c' : Addr) (H1 : Hp) (s' : Shared), Inv X pins σ H1 s' → Grow H H1 → NdefX.TabsN τ H1 → H1 f = some (LamO f ⟨X.env.qual ++ "<lambda>", params, body, scope, cloFrom X.env.cells scope.names [], c'⟩) → H1 c' = some (LamX.CodeO c' (X.env.qual ++ "<lambda>")) → Q (.ref f) s') :
    wpAny (model X.prog X.w) X.A (eval (.Lambda params body scope pos) X.env) Q E s := by
  obtain ⟨ps, at0, tri, told⟩ := (show NdefX.TabN H T0 nm from tabs _ mem)
  refine PySem.W.kla_eval def0 ?_
  have bi : s.heap.BuiltinsAt X.mg T0 := TB.bm.keeps I.bk
  have raw : s.heap.get? T0 = some { cls := .none, data := .fields ps } := I.hok T0 _ at0
  have code := TB.code.keeps I.bk
  have glob := I.mod.glob.keeps I.bk
  cases look : codeAmong pos ps.toList with
  | some cv =>
    obtain ⟨c', rfl, isC⟩ := told pos cv look
    rw [nam] at isC
    refine PySem.W.kla_makeFunctionHit (mg := X.mg) (closure_ok cells) I.ok.glob glob hc code raw tri look bi fun ctv h' tk kept _ => ?_
    have J : Inv X pins σ H { s with heap := h', toks := tk } := I.kept kept
    have fresh : H h'.objs.size = none := J.hok.fresh (Nat.le_refl _)
    have J2 := inv_lam (F := ⟨X.env.qual ++ "<lambda>", params, body, scope, cloFrom X.env.cells scope.names [], c'⟩) (t' := tk) (pm := (X.mg "__name__").getD .none) (ctv := ctv) J
    exact done h'.objs.size c' _ _ J2 (.new fresh) (tabs.ext (hx_upd fresh)) upd_same (hx_upd fresh _ _ isC)
  | none =>
    refine PySem.W.kla_makeFunction (mg := X.mg) (closure_ok cells) I.ok.glob glob hc code raw tri look TB.gP bi fun c' ctv h' tk kept ge lt rec tab => ?_
    obtain ⟨c2, oc, vs, t, e2, hoc, hd, hv⟩ := rec
    cases e2
    have newC : H c' = none := I.hok.fresh ge
    have J := LamX.inv_table (t' := tk) (more := #[rawInt pos.line, rawInt pos.col, .ref c']) (h' := h') I at0 (fun b o hb e => kept b o hb e) tab ge ⟨oc, vs, t, hoc, hd, hv⟩
    generalize hqs : ps ++ #[rawInt pos.line, rawInt pos.col, Value.ref c'] = qs at J
    have neC : c' ≠ T0 := fun z => by rw [z, at0] at newC; cases newC
    have newC1 : upd H T0 (.tbl qs) c' = none := by rw [upd_ne neC]; exact newC
    have g2 := (Grow.table (qs := qs) at0).trans (Grow.new (o := LamX.CodeO c' (X.env.qual ++ "<lambda>")) newC1)
    have same : ∀ {b : Addr} {o : HO}, H b = some o → b ≠ T0 → upd (upd H T0 (.tbl qs)) c' (LamX.CodeO c' (X.env.qual ++ "<lambda>")) b = some o := fun {b o} e n => by
      rw [upd_ne (fun z => by rw [z, newC] at e; cases e), upd_ne n]; exact e
    have codes : ∀ {b : Addr} {q : Str}, H b = some (LamX.CodeO b q) → upd (upd H T0 (.tbl qs)) c' (LamX.CodeO c' (X.env.qual ++ "<lambda>")) b = some (LamX.CodeO b q) := fun {b q} e => same e fun z => by rw [z, at0] at e; cases e
    have list : qs.toList = ps.toList ++ [rawInt pos.line, rawInt pos.col, .ref c'] := by rw [← hqs]; simp
    have tabs1 : NdefX.TabsN τ (upd (upd H T0 (.tbl qs)) c' (LamX.CodeO c' (X.env.qual ++ "<lambda>"))) := fun q hq => by
      by_cases eT : q.1 = T0
      · rw [uni q hq eT, eT]
        refine ⟨qs, by rw [upd_ne (Ne.symm neC), upd_same], by rw [list]; exact PySem.TriplesOk_snoc _ _ _ _ tri, fun p' cv hcv => ?_⟩
        rw [list] at hcv
        rcases NdefX.among_app2 _ tri hcv with z | ⟨z, z1, z2⟩
        · obtain ⟨c0, e1, e2⟩ := told p' cv z
          exact ⟨c0, e1, codes e2⟩
        · exact ⟨c', z, by rw [← z1, ← z2, nam]; exact upd_same⟩
      · obtain ⟨rs, r1, r2, r3⟩ := tabs q hq
        refine ⟨rs, same r1 eT, r2, fun p' cv hcv => ?_⟩
        obtain ⟨c0, e1, e2⟩ := r3 p' cv hcv
        exact ⟨c0, e1, codes e2⟩
    have newF := J.hok.fresh (Nat.le_refl _)
    have J2 := inv_lam (F := ⟨X.env.qual ++ "<lambda>", params, body, scope, cloFrom X.env.cells scope.names [], c'⟩) (t' := tk) (pm := (X.mg "__name__").getD .none) (ctv := ctv) J
    exact done h'.objs.size c' _ _ J2 (g2.trans (.new newF)) (tabs1.ext (hx_upd newF)) upd_same (hx_upd newF _ _ upd_same)
def tLam (τ : List NdefX.NTab) (mk : Addr → LamF) : TE := fun _ H Q => NdefX.TabsN τ H ∧ ∀ (f c' : Addr) (H1 : Hp), Grow H H1 → NdefX.TabsN τ H1 → H1 f = some (LamO f (mk c')) → H1 c' = some (LamX.CodeO c' (mk c').qual) → Q (.ref f) H1
theorem pe_lam {τ : List NdefX.NTab} {nm : Nat → Nat → Str} {c T0 : Addr} {params : Arguments} {body : Expr} {scope : Scope} {pos : Pos} (TB : LamX.TabB X.base X.mg c T0) (hc : X.env.code = .ref c) (mem : (T0, nm) ∈ τ) (nam : nm pos.line pos.col = X.env.qual ++ "<lambda>") (uni : ∀ q ∈ τ, q.1 = T0 → q.2 = nm)
    (def0 : defaultsOf params X.env = ([], [])) (fr : ∀ y ∈ scope.names, y.2 = .free → X.env.scope.names.lookup y.1 = some .cell ∨ X.env.scope.names.lookup y.1 = some .free) :
    PE X (.Lambda params body scope pos) (tLam τ fun c' => ⟨X.env.qual ++ "<lambda>", params, body, scope, cloFrom X.env.cells scope.names [], c'⟩) :=
  ⟨fun pins s σ H Q I ⟨tabs, h⟩ => lam_make I TB hc mem nam uni tabs def0 (fun y hy e => (fr y hy e).elim (fun z => I.ok.has _ (.inl z)) fun z => I.ok.has _ (.inr z)) fun f c' H1 s' J gr tb f1 c1 => ⟨.ref f, H1, J, rfl, h f c' H1 gr tb f1 c1⟩⟩
end
/-- a step of an expression that makes a function -/
theorem Rel.grow {K : PySem.W.Frag} {T : Tb} {Γ : Ctx} {O : List Nat} {ρ : Env} {σ : L2.St} {G H H1 : Hp} {w : Wl} (R : Rel K T Γ O ρ σ G H w) (g : Grow H H1) (t : NdefX.TabsN T.tabs H1) : Stp Γ.wl G H (tupG G H1) H1 ∧ Rel K T Γ O ρ σ (tupG G H1) H1 w := by
  obtain ⟨gx, rh⟩ := R.h.grow g t
  have st : Stp Γ.wl G H (tupG G H1) H1 := by
    refine ⟨gx, fun a o h _ n => g.old a o h n, fun a e => ?_, g.nn⟩
    rcases tupG_or (G := G) (H := H1) a with ⟨u, hu, h, q⟩ | ⟨_, q⟩
    · cases e2 : H a with
      | none => exact .inr rfl
      | some v =>
        have nv : NoTbl v := fun ps z => by
          rw [z] at e2
          obtain ⟨qs, h2⟩ := g.tbl a ps e2
          rw [h] at h2; cases h2; cases hu
        have := g.old _ _ e2 nv
        rw [h] at this; cases this
        exact .inl (by rw [R.h.tv a u hu e2]; exact fun y => nomatch y)
    · rw [q] at e; exact .inl e
  exact ⟨st, R.slots' st rh⟩
/-- a lambda on data -/
def fnL (n : Nat) (f : Env → M D) (cs : List (Option D)) : List D → M D := fun ds w => f (startC n ds cs) w
section
variable {P : Program} {w : World} {K : PySem.W.Frag} {mg : Str → Option Value} {base : Heap} {τ : List NdefX.NTab} {k : Nat}
theorem beh_lam {N ps fr : List Str} {F : LamF} {f : Addr} {ws : List (Option V)} {cs : List (Option D)} {g0 : Hp} {wl0 : WlT} {body : Env → M D} (S : NdefX.NScope N ps fr F.scope) (hb : ∀ (pm ctv : Value) (us : List Value), us.length = ps.length → bindArgs (PySem.W.kla_fn "<lambda>" F.qual F.params F.body F.scope F.cl pm (.ref F.c) ctv) ⟨us, []⟩ = pure (ps.zip us))
    (hf : g0 f = some (LamO f F)) (hc : g0 F.c = some (LamX.CodeO F.c F.qual)) (C : NdefX.CellsAt F.cl fr ws base (fun _ => none)) (lw : IsW K wl0 g0 ws cs) (nf : D.nofnL (cs.filterMap id) = true)
    (hbody : ∀ (A : Around) (outer : List PySem.Env) (s : Shared) (H : Hp) (E : XK), Ok k (NdefX.ncx (L2.CX P w) P w K mg base N F.nf f A outer s H E) → DE (NdefX.ncx (L2.CX P w) P w K mg base N F.nf f A outer s H E) (tb0 τ) [] (WxE E) F.body body) :
    Beh P w K mg base (k + 1) τ g0 wl0.w f ps.length (fnL N.length body cs) := by
  have swp : ∀ {wl : WlT} {G : Hp}, wl.w = wl0.w → Hx g0 G → IsW K wl G ws cs := fun {wl G} e x => by
    have : ∀ {ws : List (Option V)} {cs : List (Option D)}, IsW K wl0 g0 ws cs → D.nofnL (cs.filterMap id) = true → IsW K wl G ws cs := fun {ws cs} h => by
      induction h with
      | nil => intro _; exact .nil
      | some i _ ih =>
        intro z
        simp only [List.filterMap_cons, id, D.nofnL, Bool.and_eq_true] at z
        exact .some ((Is.swap e.symm i z.1).mono x) (ih z.2)
      | none _ ih => intro z; exact .none (ih (by simpa using z))
    exact this lw nf
  refine ⟨fun s H _ ok x => ?_, fun A outer s H us vs Q E hg hr e0 r ⟨wl, G, wv, ds, hw, hx, en, l, hl, P1⟩ => ?_⟩
  · obtain ⟨pm, ctv, ho⟩ := lamO_at ok (x _ _ hf)
    exact ⟨_, _, _, _, ho⟩
  · have lim : s.heap.NoLimit := e0.mod.nolimit.keeps fun b o e => (e0.bs b o e).1
    obtain ⟨pm, ctv, ho⟩ := lamO_at e0.hok ((hx.trans en.sub) _ _ hf)
    have cells : NdefX.CellsAt F.nf.cl fr ws s.heap H := by
      refine ⟨C.len, fun y c e => ?_, C.inj, fun i y e => ?_⟩
      · obtain ⟨_, v, o, h1, h2⟩ := C.all y c e
        exact ⟨(e0.bs c o h1).2, v, o, (e0.bs c o h1).1, h2⟩
      · obtain ⟨c, h1, h2⟩ := C.has i y e
        refine ⟨c, h1, fun v hv => ?_⟩
        obtain ⟨u, q, o, h3, h4⟩ := h2 v hv
        exact ⟨u, q, o, (e0.bs c o h3).1, h4⟩
    refine PySem.W.kla_callFunE hr.depth ho rfl S.co S.gen rfl (NdefX.codeO_at e0.hok ((hx.trans en.sub) _ _ hc)) ?_
    rw [hb pm ctv us (by rw [← r.length]; exact hl)]
    refine wpAny_pure (wpAny_newFunctionEnv S.nocell (fun ⟨n, _⟩ hy => S.par n (List.of_mem_zip hy).1) (fun h₁ hns hsb => ⟨lim.fresh _ hsb, ?_⟩) S.kind)
    show codeAny _ _ (.expr F.body (NdefX.envF F.nf f s.heap.objs.size)) _ _
    have kp : ∀ b o, s.heap.get? b = some o → h₁.get? b = some o := fun b o z => hsb.extBut b o (Nat.ne_of_lt (Heap.lt_size z)) (Heap.get?_push_of_some _ z)
    have J := NdefX.inv_startN (CX := L2.CX P w) (N := N) (F := F.nf) (f := f) (E := E) (tk := s.toks + (ps.zip us).length) S hr.hd e0 hl r cells hns kp
    have go : tE K (tb0 τ) [] (WxE E) body (NdefX.startF N vs ws) H Q := by
      refine ⟨⟨wl, G, H⟩, startC N.length ds cs, G, wv, startF_rel en l (swp hw hx), ?_⟩
      have P2 : PostF K τ wl G H (body (startC N.length ds cs) wv) Q E := P1
      cases e : body (startC N.length ds cs) wv with
      | fail => rw [e] at P2; exact P2
      | exc c p w' => rw [e] at P2; exact fun cls dd G' H' _ r x => P2 cls dd G' H' r x
      | ok d w' =>
        rw [e] at P2
        exact fun v G' H' _ R i => P2 v G' H' R.h i
    refine PySem.W.kla_codeExpr (wpAny_mono ((hbody A outer s H E ⟨hr.deeper _, hg⟩).run [] _ (NdefX.startF N vs ws) H Q J go) (fun v s' hq => ?_) fun e s' hq => hq)
    obtain ⟨v', H2, J2, ru, q⟩ := hq
    exact ⟨v', H2, J2.os, J2.bare, J2.base, J2.hok, ru, q⟩
end
end Q

namespace Q
open PySem PySem.Spec PyProof.Rows L2
/-! ## arguments, the last one a lambda -/
def PostLL (K : PySem.W.Frag) (T : Tb) (Γ : Ctx) (O : List Nat) (Wx : WX) (ρ : Env) (σ : L2.St) (G H : Hp) (mk : Addr → LamF) (r : Out (List D)) (Q : List V → Hp → Prop) : Prop :=
  match r with
  | .fail => False
  | .ok ds w' => ∀ us a c' G' H', Stp Γ.wl G H G' H' → Rel K T Γ O ρ σ G' H' w' → IsL K Γ.wl G' us ds → G' a = some (LamO a (mk c')) → G' c' = some (LamX.CodeO c' (mk c').qual) → Q (us ++ [.ref a]) H'
  | .exc c p w' => ∀ cls dd G' H', Stp Γ.wl G H G' H' → RelH T Γ G' H' w' → ExcIs K Γ.wl c p cls dd G' H' → Wx cls dd σ H'
def tLL (K : PySem.W.Frag) (T : Tb) (O : List Nat) (Wx : WX) (mk : Addr → LamF) (fr : Env → M (List D)) : TA := fun σ H Q => ∃ Γ ρ G w, Rel K T Γ O ρ σ G H w ∧ PostLL K T Γ O Wx ρ σ G H mk (fr ρ w) Q
def DAL (X : Cx) (T : Tb) (O : List Nat) (Wx : WX) (mk : Addr → LamF) (es : List Expr) (fr : Env → M (List D)) : Prop := PA X es (tLL X.K T O Wx mk fr)
section
variable {X : Cx} {T : Tb} {L O O' : List Nat} {Wx : WX} {e : Expr} {es : List Expr} {fe : Env → M D} {fr : Env → M (List D)} {p pos pos2 : Pos}
theorem dal_last {nm : Nat → Nat → Str} {c T0 : Addr} {params : Arguments} {body : Expr} {scope : Scope} (TB : LamX.TabB X.base X.mg c T0) (hc : X.env.code = .ref c) (mem : (T0, nm) ∈ T.tabs) (nam : nm pos.line pos.col = X.env.qual ++ "<lambda>") (uni : ∀ q ∈ T.tabs, q.1 = T0 → q.2 = nm)
    (def0 : defaultsOf params X.env = ([], [])) (free : ∀ y ∈ scope.names, y.2 = .free → X.env.scope.names.lookup y.1 = some .cell ∨ X.env.scope.names.lookup y.1 = some .free) (hs : starEach [.Lambda params body scope pos] X.env = (false, eval (.Lambda params body scope pos) X.env) :: starEach [] X.env := by rfl) :
    DAL X T O Wx (fun c' => ⟨X.env.qual ++ "<lambda>", params, body, scope, cloFrom X.env.cells scope.names [], c'⟩) [.Lambda params body scope pos] nilA :=
  pa_imp (pa_cons (pe_lam TB hc mem nam uni def0 free) pa_nil hs) fun σ H Q ⟨Γ, ρ, G, w, R, P⟩ => by
    refine ⟨R.h.tabs, fun f c' H1 gr tb f1 c1 => ?_⟩
    obtain ⟨st, R1⟩ := R.grow gr tb
    exact P [] f c' (tupG G H1) H1 st R1 .nil (R1.h.tv f _ rfl f1) (R1.h.tv c' _ rfl c1)
theorem dal_cons {mk : Addr → LamF} (ha : DE X T O Wx e fe) (hr : DAL X T O Wx mk es fr) (hs : starEach (e :: es) X.env = (false, eval e X.env) :: starEach es X.env := by rfl) : DAL X T O Wx mk (e :: es) (consA fe fr) :=
  pa_imp (pa_cons ha hr hs) fun σ H Q ⟨Γ, ρ, G, w, R, P⟩ => by
    refine ⟨Γ, ρ, G, w, R, ?_⟩
    simp only [consA, M.bind] at P
    cases q : fe ρ w with
    | fail => rw [q] at P; exact P
    | exc c p w' => rw [q] at P; exact P
    | ok d w1 =>
      rw [q] at P
      intro v G1 H1 st R1 i1
      refine ⟨Γ, ρ, G1, w1, R1, ?_⟩
      dsimp only at P
      cases q2 : fr ρ w1 with
      | fail => simp only [q2] at P; exact P
      | exc c p w' => simp only [q2] at P; exact fun cls dd G' H' s => P cls dd G' H' (st.trans s)
      | ok ds w2 =>
        simp only [q2] at P
        exact fun us a c' G' H' s R' l h1 h2 => P (v :: us) a c' G' H' (st.trans s) R' (.cons (i1.mono s.x) l) h1 h2
theorem cap_relO {Γ : Ctx} {ρ : Env} {σ : L2.St} {G H : Hp} {w : Wl} (R : Rel X.K T Γ O ρ σ G H w) : ∀ js : List Nat, (∀ j ∈ js, j ∉ O) → IsW X.K Γ.wl G (js.map (NdefX.slotAt σ)) (capE js ρ)
  | [], _ => .nil
  | j :: js, h => by
    have hr := cap_relO R js fun i hi => h i (List.mem_cons_of_mem _ hi)
    unfold capE
    rw [List.map_cons, List.map_cons]
    cases e : ρ[j]? with
    | none => exact .none hr
    | some o =>
      cases o with
      | none => exact .none hr
      | some d =>
        obtain ⟨v, h1, h2⟩ := R.fro j d (h j List.mem_cons_self) e
        have : NdefX.slotAt σ j = some v := by unfold NdefX.slotAt; rw [h1]
        rw [this]
        exact .some h2 hr
def callLE (n n' : Nat) (js : List Nat) (dF : (List D → M D) → List D → M D) (gb : Env → M D) (fr : Env → M (List D)) : Env → M D := fun ρ => M.bind (fr ρ) fun ds =>
  if ds.length + 1 = n ∧ D.nofnL ds = true ∧ D.nofnL ((capE js ρ).filterMap id) = true then M.bind (noX (dF (fnL n' gb (capE js ρ)) ds)) fun d => if d.nofn = true then M.pure d else M.fail else M.fail
/-- f(e, .., lambda ..: ..) -/
theorem de_callL {x : Str} {h : Addr} {fd : FuncData} {ps ps' fr' N' : List Str} {js : List Nat} {k kc j : Nat} {dF : (List D → M D) → List D → M D} {gb : Env → M D} {params : Arguments} {body : Expr} {scope : Scope}
    (hfn : ∀ x, X.fn x = true) (S : NdefX.NScope N' ps' fr' scope) (hbd : ∀ (q : Str) (cl : List (Str × Addr)) (pm cv ctv : Value) (us : List Value), us.length = ps'.length → bindArgs (PySem.W.kla_fn "<lambda>" q params body scope cl pm cv ctv) ⟨us, []⟩ = pure (ps'.zip us))
    (free : ∀ y ∈ scope.names, y.2 = .free → X.env.scope.names.lookup y.1 = some .cell ∨ X.env.scope.names.lookup y.1 = some .free) (hfr : ∀ y ∈ fr', (y, NameKind.free) ∈ scope.names) (hjs : js.map (fun j => X.N[j]?) = fr'.map some) (hjO : ∀ j ∈ js, j ∉ O)
    (hbody : ∀ (base' : Heap), (∀ b o, X.base.get? b = some o → base'.get? b = some o) → ∀ (c' f : Addr) (A : Around) (outer : List PySem.Env) (s : Shared) (H : Hp) (E : XK), Ok kc (NdefX.ncx (L2.CX X.prog X.w) X.prog X.w X.K X.mg base' N' (LamF.nf ⟨X.env.qual ++ "<lambda>", params, body, scope, cloFrom X.env.cells scope.names [], c'⟩) f A outer s H E) →
      DE (NdefX.ncx (L2.CX X.prog X.w) X.prog X.w X.K X.mg base' N' (LamF.nf ⟨X.env.qual ++ "<lambda>", params, body, scope, cloFrom X.env.cells scope.names [], c'⟩) f A outer s H E) (tb0 T.tabs) [] (WxE E) body gb)
    (F : ∀ (base' : Heap), (∀ b o, X.base.get? b = some o → base'.get? b = some o) → ∀ (fa : Addr) (g0 : Hp) (wo : Option Addr) (g : List D → M D), Beh X.prog X.w X.K X.mg base' (kc + 1) T.tabs g0 wo fa ps'.length g → FnG X.prog X.w X.K X.mg base' k h fd ps (spF X.K T.tabs g0 wo fa ps.length (dF g)))
    (ok : Ok j X) (hk : k ≤ j) (tk : Takes X Wx) (hm : X.mg x = some (.ref h)) (kp : PySem.W.keepIn X.K (.ref h) = true) (hb : Binds X.K fd ps []) (ha : DAL X T O Wx (fun c' => ⟨X.env.qual ++ "<lambda>", params, body, scope, cloFrom X.env.cells scope.names [], c'⟩) (e :: es) fr)
    (hg : Gl X x := by rfl) (hdb : (x == ("__debug__" : Str)) = false := by decide) (he : starEach (e :: es) X.env = (false, eval e X.env) :: starEach es X.env := by rfl) (hpl : (backTo pos (starEach es X.env)).any (·.1) = false := by rfl) :
    DE X T O Wx (.Call (.Name x p) (e :: es) [] pos) (callLE ps.length N'.length js dF gb fr) := by
  refine ⟨fun pins s σ H Q I hh => ?_⟩
  refine wpAny_Call_Name_kw (ld_glob I hg hm ?_ hdb)
  obtain ⟨Γ, ρ, G, w, R, P⟩ := hh
  have q : tLL X.K T O Wx (fun c' => ⟨X.env.qual ++ "<lambda>", params, body, scope, cloFrom X.env.cells scope.names [], c'⟩) fr σ H (fun vs H1 => ∃ us ds a c' G1 w1, vs = us ++ [.ref a] ∧ Rel X.K T Γ O ρ σ G1 H1 w1 ∧ Stp Γ.wl G H G1 H1 ∧ IsL X.K Γ.wl G1 us ds ∧
      G1 a = some (LamO a ⟨X.env.qual ++ "<lambda>", params, body, scope, cloFrom X.env.cells scope.names [], c'⟩) ∧ G1 c' = some (LamX.CodeO c' (X.env.qual ++ "<lambda>")) ∧
      Post X.K T Γ O Wx ρ σ G1 H1 IsV ((if ds.length + 1 = ps.length ∧ D.nofnL ds = true ∧ D.nofnL ((capE js ρ).filterMap id) = true then M.bind (noX (dF (fnL N'.length gb (capE js ρ)) ds)) fun d => if d.nofn = true then M.pure d else M.fail else M.fail) w1) Q) := by
    refine ⟨Γ, ρ, G, w, R, ?_⟩
    have P0 : Post X.K T Γ O Wx ρ σ G H IsV (M.bind (fr ρ) (fun ds => if ds.length + 1 = ps.length ∧ D.nofnL ds = true ∧ D.nofnL ((capE js ρ).filterMap id) = true then M.bind (noX (dF (fnL N'.length gb (capE js ρ)) ds)) fun d => if d.nofn = true then M.pure d else M.fail else M.fail) w) Q := P
    simp only [M.bind] at P0
    cases e : fr ρ w with
    | fail => rw [e] at P0; exact P0
    | exc c p w' => rw [e] at P0; exact P0
    | ok ds w1 =>
      rw [e] at P0
      intro us a c' G1 H1 st R1 l h1 h2
      exact ⟨us, ds, a, c', G1, w1, rfl, R1, st, l, h1, h2, Post.step P0 st⟩
  refine PySem.W.callWith_K (h₀ := X.base) I.ok.mod.kin kp (thn (ha.run pos pins s σ H _ I q) ?_) he hpl
  rintro vals s1 ⟨vs, H1, I1, rv, us, ds, a, c', G1, w1, ev, R1, st, l, at1, at2, P1⟩
  refine ⟨I1.kIn, ?_⟩
  obtain ⟨⟨c1, c2, c3⟩, P2⟩ := ifP' P1
  have cp := NdefX.Caps.made I1.ok free hfr hjs
  obtain ⟨base', up, E', cellsB⟩ := widen (cl := cloFrom X.env.cells scope.names []) I1 hfn cp.sub
  have B : Beh X.prog X.w X.K X.mg base' (kc + 1) T.tabs G1 Γ.wl.w a ps'.length (fnL N'.length gb (capE js ρ)) :=
    beh_lam (F := ⟨X.env.qual ++ "<lambda>", params, body, scope, cloFrom X.env.cells scope.names [], c'⟩) (wl0 := Γ.wl) (ws := js.map (NdefX.slotAt σ)) S (fun pm ctv us hl => hbd _ _ pm _ ctv us hl) at1 at2 (cellsB fr' js cp) (cap_relO R1 js hjO) c3 (fun A outer s H E ok' => hbody base' up c' a A outer s H E ok')
  have Fc := F base' up a G1 Γ.wl.w _ B
  have hl : vals.length = ps.length := by rw [← rv.length, ev, List.length_append, l.length]; exact c1
  have hbt := hb s1 vals I1.kIn (by rw [List.append_nil]; exact hl)
  rw [List.append_nil] at hbt
  have sp : spF X.K T.tabs G1 Γ.wl.w a ps.length (dF (fnL N'.length gb (capE js ρ))) vs H1 Q (WE Wx σ) := by
    have en := R1.h.enter
    refine ⟨⟨Γ.wl.w, fun i => [a][i]?⟩, G1, w1, ds, us, ⟨en.sub, en.nt, en.well, en.tabs, en.tv⟩, rfl, fun _ => rfl, Hx.refl _, ev, IsL.swap (wl := Γ.wl) (wl' := ⟨Γ.wl.w, fun i => [a][i]?⟩) (by rfl) l c2, by rw [l.length]; exact c1, ?_⟩
    simp only [M.bind, noX] at P2
    cases e2 : dF (fnL N'.length gb (capE js ρ)) ds w1 with
    | fail => rw [e2] at P2; exact P2
    | exc c p w' => rw [e2] at P2; exact False.elim P2
    | ok d w' =>
      rw [e2] at P2
      have P3 : Post X.K T Γ O Wx ρ σ G1 H1 IsV ((if d.nofn = true then M.pure d else M.fail) w') Q := P2
      obtain ⟨nf, P4⟩ := ifP' P3
      intro v G' H' r i
      have r' : RelH (tb0 T.tabs) ⟨Γ.wl, G1, H1⟩ G' H' w' := ⟨r.sub, r.nt, r.nw, r.g0, r.keep, r.mono, r.well, r.tabs, fun z => absurd rfl z, fun _ _ z => (nomatch z), r.tv⟩
      obtain ⟨R', st'⟩ := R1.after r'
      exact P4 v G' H' st' R' (Is.swap (wl := ⟨Γ.wl.w, fun i => [a][i]?⟩) (wl' := Γ.wl) (by rfl) i nf)
  refine wpAny_call (codeAny_mono (Fc.run X.A X.stack s1 H1 ⟨vals, []⟩ vals vs Q (WE Wx σ) ok.g (ok.room.mono hk) E' hbt rv sp) ?_)
  intro r s2 h
  cases r with
  | error e => exact passAt tk σ pins H1 s1 e s2 I1 h
  | ok fl =>
    cases fl with
    | ret u => exact I1.after h
    | _ => exact False.elim h
end
end Q

namespace Q
open PySem PySem.Spec PyProof.Rows L2
/-! ## enumerate, of lists and of tuples -/
theorem enum_one {v : Value} {o : Obj} {Hs : Heap → Prop} (B : Begins v o Hs) :
    Meets (Builtin.«enumerate.__new__» ⟨[.type "enumerate", v], []⟩) (fun _ R s => Hs s.heap ∧
      R (.ok (.ret (.ref (s.heap.push o).objs.size))) { s with heap := (s.heap.push o).push { cls := .type "enumerate", data := .fields #[.none, .bool false, .ref s.heap.objs.size, rawInt 0, .none, .none] } }) :=
  .of_wp fun prog w A R s h => by
    obtain ⟨hp, g, d, tk, os⟩ := s
    obtain ⟨h1, h⟩ := h
    have hsub := sub_enumerate
    have it1 : ∀ {A' : Around} {E : Value → Shared → Prop} {Q : Value → Shared → Prop}, Q (.ref hp.objs.size) ⟨hp.push o, g, d, tk, os⟩ → wpAny (model prog w) A' (pyIter v) Q E ⟨hp, g, d, tk, os⟩ :=
      fun q => B.iter prog w _ _ ⟨hp, g, d, tk, os⟩ _ h1 q
    wp_walk using it1
    refine wpAny_stack_any fun _ => wpAny_pure ?_
    split
    · rename_i c _ _ _ _ _
      cases (c == Value.type "enumerate") <;> (wp_walk using it1; exact ⟨_, rfl, h⟩)
    · wp_walk using it1
      exact ⟨_, rfl, h⟩
section
variable {prog : Program} {w : World} {A : Around} {E : Value → Shared → Prop} {s : Shared}
theorem call_enum1 {v : Value} {o : Obj} {Hs : Heap → Prop} {Q : Value → Shared → Prop} (B : Begins v o Hs) (h1 : Hs s.heap)
    (h : ∀ h', IsEnum h' (s.heap.objs.size + 1) s.heap.objs.size 0 .none → h'.get? s.heap.objs.size = some o → (∀ b u, s.heap.get? b = some u → h'.get? b = some u) → Q (.ref (s.heap.objs.size + 1)) { s with heap := h' }) :
    wpAny (model prog w) A (call (.type "enumerate") [v]) Q E s := by
  refine callType_new F.called_enumerate (by decide) (F.typeCall_enumerate_1 _) (F.newCall_enumerate_1 _) (fun obj => F.args_object_init_2 obj _) F.entry_enumerate_new (enum_one B) ⟨h1, ?_⟩
  have sz : (s.heap.push o).objs.size = s.heap.objs.size + 1 := Heap.size_push ..
  show _ ∧ _
  rw [sz]
  have made : IsEnum ((s.heap.push o).push { cls := .type "enumerate", data := .fields #[.none, .bool false, .ref s.heap.objs.size, rawInt 0, .none, .none] }) (s.heap.objs.size + 1) s.heap.objs.size 0 .none := by
    have q := Heap.get?_push_size (s.heap.push o) (o := { cls := .type "enumerate", data := .fields #[.none, .bool false, .ref s.heap.objs.size, rawInt 0, .none, .none] }) rfl
    rw [sz] at q; exact q
  exact ⟨⟨_, made, rfl⟩, h _ made (Heap.get?_push_of_some _ (Heap.get?_push_size _ B.free)) fun b u x => Heap.get?_push_of_some _ (Heap.get?_push_of_some _ x)⟩
end
theorem enum_endT {prog : Program} {w : World} {A : Around} {E : Value → Shared → Prop} {s : Shared} {e it a : Addr} {i : Nat} {c : Int} {old : Value} {items : Array Value} {Q : Option Value → Shared → Prop}
    (hh : A.in1.handled = none) (he : IsEnum s.heap e it c old) (hit : s.heap.IsTupleIter it a i) (ht : s.heap.IsTuple a items) (hx : items[i]? = none)
    (hQ : ∀ h', Heap.ExtBut it s.heap h' → Q none { s with heap := h' }) : wpAny (model prog w) A (pyNext (.ref e)) Q E s := by
  have hT : s.TypeIs (.ref e) "enumerate" := ⟨_, he, rfl⟩
  unfold pyNext
  refine wpAny_bind (wpAny_attempt (wpAny_callSpecial?_slot (name := Str.ofString "__next__") hT F.slot_enumerate_next
    (wpAny_call_entry F.slot_enumerate_next hT F.entry_enumerate_next ?_ (F.args_enumerate_next_1 _))))
  show wpAny _ _ (field (.ref e) 2 >>= _) _ _ _
  refine wpAny_bind (wpAny_field he rfl (x := .ref it) rfl ?_)
  refine wpAny_bind (wpAny_nextOf_tuple_end hh hit ht hx fun h' x q hx' => ?_)
  obtain ⟨o, ho, hc⟩ := hx'
  refine wpAny_bind (wpAny_isInstance (T := "StopIteration") (b := true) ⟨o, ho, hc⟩ isSubtype_stop ?_)
  exact wpAny_pure (hQ _ q)
/-- the tuple at a, each item in a new pair with its place -/
def IteT (K : PySem.W.Frag) (a : Addr) : It where
  go i H := ∃ (xs : List V) (x : V), SqT K H a xs ∧ xs[i]? = some x
  yld i H v H' := ∃ p x, v = .ref p ∧ H p = none ∧ H' = upd H p (.tup [.int (i : Nat), x]) ∧ ∀ xs, SqT K H a xs → xs[i]? = some x
  stop i H := ∃ xs : List V, SqT K H a xs ∧ xs.length ≤ i
theorem turn_enumT {P : Program} {w : World} {K : PySem.W.Frag} {elts : List Expr} {kk : Nat} {tpos : Pos} (a e it : Addr) :
    Turn P w K (.Tuple elts kk tpos) (IteT K a) [e, it] e (fun i h => (∃ old, IsEnum h e it ((i : Nat) : Int) old) ∧ h.IsTupleIter it a i ∧ e ≠ it) where
  mem := List.mem_cons_self
  obj := fun i h st b hb => by
    obtain ⟨⟨old, h1⟩, ⟨o, h2, _, h3⟩, _⟩ := st
    rcases List.mem_cons.mp hb with rfl | hb
    · exact ⟨_, h1, fun v q => nomatch q⟩
    · rw [List.mem_singleton.mp hb]
      exact ⟨o, h2, fun v q => by rw [h3] at q; cases q⟩
  keep := fun i h h' ⟨⟨old, h1⟩, h2, h3⟩ k => ⟨⟨old, k e List.mem_cons_self _ h1⟩, h2.at fun o q => k it (List.mem_cons_of_mem _ List.mem_cons_self) o q, h3⟩
  item := by
    intro X hP hw hK hc i pins s σ H E I own st hg
    subst hP hw hK
    obtain ⟨⟨old, h1⟩, h2, h3⟩ := st
    obtain ⟨xs, x, sq, hx⟩ := hg
    obtain ⟨its, rv, tup, _⟩ := I.tuple sq
    obtain ⟨u, hu, ru⟩ := rv.get hx
    have le : e < s.heap.objs.size := Heap.lt_size h1
    have li : it < s.heap.objs.size := by obtain ⟨_, q, _⟩ := h2; exact Heap.lt_size q
    obtain ⟨ot, ht, hct, _⟩ := id tup
    have ae : a ≠ e := fun z => by
      rw [z, h1] at ht; cases ht
      exact absurd (Value.type.inj hct) (by decide)
    have ai : a ≠ it := fun z => by
      obtain ⟨oi, q1, q2, _⟩ := h2
      rw [z, q1] at ht; cases ht
      rw [q2] at hct; exact absurd (Value.type.inj hct) (by decide)
    have isT : s.heap.IsTuple a its.toArray := tup
    have lt0 : i < its.toArray.size := by
      have := (List.getElem?_eq_some_iff.mp hu).1
      simpa using this
    refine wpAny_pyNext_enum_itemC (n := its.toArray.size) (Draws.tuple (A := X.A.in1) (I.ok.hd hc) it a ai its.toArray) h1 (And.intro h2 isT) lt0 h3 (by simp [h3, Ne.symm ae]) fun y h' tk hy out st' pair _ kept => ?_
    have ey : y = u := by
      have q : its.toArray[i]? = some y := hy
      simp only [List.getElem?_toArray] at q
      rw [hu] at q; exact (Option.some.inj q).symm
    subst ey
    refine ⟨_, rfl, wpAny_letOwnedTupleGo_enum (s := { s with heap := h', toks := tk + 1 }) out fun h'' back sb => ?_⟩
    have at2 : h''.get? s.heap.objs.size = some { cls := .type "tuple", data := .seq #[.int i tk, y] } := (sb.2 _ (Nat.ne_of_gt le)).trans pair
    have obj : ObjOk X.prog X.w (upd H s.heap.objs.size (.tup [.int (i : Nat), x])) h'' s.heap.objs.size (.tup [.int (i : Nat), x]) :=
      ⟨by rw [sizeLine_eq]; show 2 ≤ 16777216; decide, [.int i tk, y], .cons ⟨_, rfl⟩ (.cons ru .nil), ⟨_, at2, rfl, _, rfl⟩⟩
    have J : Inv X pins σ (upd H s.heap.objs.size (.tup [.int (i : Nat), x])) { s with heap := h'', toks := tk + 1 } :=
      I.turnedNew (ch := [e, it]) (fun b ob hb q => (sb.2 b (fun z => hb (by simp [z]))).trans (kept b ob (fun z => hb (by simp [z])) (fun z => hb (by simp [z])) q)) own (Nat.le_refl _) obj
    refine ⟨.ref s.heap.objs.size, _, J, rfl, ⟨_, x, rfl, I.hok.fresh (Nat.le_refl _), rfl, fun ys hy => by rw [I.tuple_inj hy sq]; exact hx⟩, ⟨⟨y, ?_⟩, st'.1.at fun o q => (sb.2 it (Ne.symm h3)).trans q, h3⟩, fun b hb => ?_⟩
    · rw [show ((i + 1 : Nat) : Int) = (i : Int) + 1 by omega]
      exact back
    · have lt : b < s.heap.objs.size := by
        rcases List.mem_cons.mp hb with rfl | hb
        · exact le
        · rw [List.mem_singleton.mp hb]; exact li
      rw [upd_ne (Nat.ne_of_lt lt)]
      exact (own b hb).1
  done := by
    intro X hP hw hK hc i pins s σ H E I own st hg
    subst hP hw hK
    obtain ⟨⟨old, h1⟩, h2, h3⟩ := st
    obtain ⟨xs, sq, hx⟩ := hg
    obtain ⟨its, rv, tup, _⟩ := I.tuple sq
    obtain ⟨ot, ht, hct, _⟩ := id tup
    obtain ⟨f0, f1, f2, f3, f4, f5⟩ := own it (List.mem_cons_of_mem _ List.mem_cons_self)
    have len := rv.length
    exact enum_endT (I.ok.hd hc) h1 h2 tup (by simp; omega) fun h' eb => ⟨rfl, I.turned (t' := s.toks) (fun b o hb q => eb b o hb q) f0 f1 f3 f4 f5⟩
  self := fun A i s Q E ⟨⟨_, h1⟩, _⟩ h => wpAny_pyIter_enum h1 h
def iEnumT (K : PySem.W.Frag) (ta : TA) : TI := fun σ H R => ta σ H fun vs H1 => ∃ a xs, vs = [.ref a] ∧ SqT K H1 a xs ∧ R (IteT K a) H1
theorem pi_enumT {X : Cx} {e : Expr} {ta : TA} {p pos tpos : Pos} {elts : List Expr} {kk : Nat} (hg : Gl X "enumerate") (hm : X.mg "enumerate" = none) (ha : PA X [e] ta) (hs : starEach [e] X.env = [(false, eval e X.env)] := by rfl) :
    PI X (.Tuple elts kk tpos) (.Call (.Name "enumerate" p) [e] [] pos) (iEnumT X.K ta) := by
  refine ⟨fun pins s σ H R I h => ?_⟩
  refine Call_ (ld_blt I hg hm boot_enumerate (PyProof.Rows.callWith_type1 (thn (ha.run pos pins s σ H _ I h) fun us s1 ⟨vs, H1, I1, r1, q1⟩ => ?_) hs rfl))
  obtain ⟨a, xs, ex, hq, q⟩ := q1
  subst ex
  cases r1 with
  | cons r rr =>
    cases rr
    cases r
    obtain ⟨its, rv, p', hz⟩ := I1.tuple hq
    obtain ⟨ot, t1, t2, t3⟩ := id p'
    refine call_enum1 (begins_tuple a its.toArray) p' fun h' he hit hk => wpAny_pyIter_enum he ?_
    have I2 : Inv X pins σ H1 { s1 with heap := h' } := I1.kept (t' := s1.toks) hk
    refine ⟨s1.heap.objs.size + 1, [s1.heap.objs.size + 1, s1.heap.objs.size], _, _, H1, rfl, I2, turn_enumT a (s1.heap.objs.size + 1) s1.heap.objs.size, ⟨⟨.none, he⟩, ⟨_, hit, rfl, rfl⟩, Nat.succ_ne_self _⟩, fun b hb => ?_, q⟩
    have e' : b = s1.heap.objs.size + 1 ∨ b = s1.heap.objs.size := by simpa using hb
    have hle : s1.heap.objs.size ≤ b := by
      rcases e' with z | z
      · rw [z]; exact Nat.le_add_right _ _
      · rw [z]; exact Nat.le_refl _
    exact I1.fpOk hle (I1.hok.fresh hle)
end Q

namespace Q
open PySem PySem.Spec PyProof.Rows L2
/-! ## for i, x in enumerate(xs) -/
def enumL (xs : List D) : List D := xs.mapIdx fun i x => .tup [.int (i : Nat), x]
theorem enumL_get {xs : List D} {i : Nat} : (enumL xs)[i]? = xs[i]?.map fun x => .tup [.int (i : Nat), x] := by
  unfold enumL; rw [List.getElem?_mapIdx]
theorem yields_enumT {K : PySem.W.Frag} {T : Tb} {wl : WlT} {G : Hp} {a : Addr} {vs : List V} {ds : List D} (h : SqT K G a vs) (hl : IsL K wl G vs ds) : Yields K T wl (IteT K a) (enumL ds) G := by
  intro i Γ O ρ σ G1 H w ew R x
  have s1 : SqT K H a vs := R.h.sub.sqT (x.sqT h)
  refine ⟨fun d e => ?_, fun e => ⟨vs, s1, by rw [hl.length]; rw [enumL_get] at e; simpa using e⟩⟩
  rw [enumL_get] at e
  cases e0 : ds[i]? with
  | none => rw [e0] at e; cases e
  | some d0 =>
    rw [e0] at e
    obtain rfl := Option.some.inj e
    obtain ⟨v, h1, h2⟩ := hl.get e0
    refine ⟨⟨vs, v, s1, h1⟩, fun y H' ⟨p, u, e1, hp, e2, e3⟩ => ?_⟩
    subst e1 e2
    have := e3 vs s1
    rw [h1] at this; cases this
    subst ew
    exact ⟨_, Stp.new (R.h.gnone hp) hp, R.alloc hp noTup, .tup upd_same (.cons (.int _) (.cons (h2.mono (x.trans (hx_upd (R.h.gnone hp)))) .nil))⟩
theorem yields_enumL {K : PySem.W.Frag} {T : Tb} {wl : WlT} {G : Hp} {a : Addr} {vs : List V} {ds : List D} (h : SqL K G a vs) (hl : IsL K wl G vs ds) : Yields K T wl (Ite K a) (enumL ds) G := by
  intro i Γ O ρ σ G1 H w ew R x
  have s1 : SqL K H a vs := R.h.sub.sqL (x.sqL h)
  refine ⟨fun d e => ?_, fun e => ⟨vs, s1, by rw [hl.length]; rw [enumL_get] at e; simpa using e⟩⟩
  rw [enumL_get] at e
  cases e0 : ds[i]? with
  | none => rw [e0] at e; cases e
  | some d0 =>
    rw [e0] at e
    obtain rfl := Option.some.inj e
    obtain ⟨v, h1, h2⟩ := hl.get e0
    refine ⟨⟨vs, v, s1, h1⟩, fun y H' ⟨p, u, e1, hp, e2, e3⟩ => ?_⟩
    subst e1 e2
    have := e3 vs s1
    rw [h1] at this; cases this
    subst ew
    exact ⟨_, Stp.new (R.h.gnone hp) hp, R.alloc hp noTup, .tup upd_same (.cons (.int _) (.cons (h2.mono (x.trans (hx_upd (R.h.gnone hp)))) .nil))⟩
def iEnumB (K : PySem.W.Frag) (ta : TA) : TI := fun σ H R => ta σ H fun vs H1 => ∃ a, vs = [.ref a] ∧ ((∃ xs, SqL K H1 a xs ∧ R (Ite K a) H1) ∨ (∃ xs, SqT K H1 a xs ∧ R (IteT K a) H1))
theorem pi_enumB {X : Cx} {e : Expr} {ta : TA} {p pos tpos : Pos} {elts : List Expr} {kk : Nat} (hg : Gl X "enumerate") (hm : X.mg "enumerate" = none) (ha : PA X [e] ta) (hs : starEach [e] X.env = [(false, eval e X.env)] := by rfl) :
    PI X (.Tuple elts kk tpos) (.Call (.Name "enumerate" p) [e] [] pos) (iEnumB X.K ta) := by
  refine ⟨fun pins s σ H R I h => ?_⟩
  refine Call_ (ld_blt I hg hm boot_enumerate (PyProof.Rows.callWith_type1 (thn (ha.run pos pins s σ H _ I h) fun us s1 ⟨vs, H1, I1, r1, q1⟩ => ?_) hs rfl))
  obtain ⟨a, ex, q1⟩ := q1
  subst ex
  cases r1 with
  | cons r rr =>
    cases rr
    cases r
    have fp : ∀ b ∈ [s1.heap.objs.size + 1, s1.heap.objs.size], s1.heap.objs.size ≤ b := fun b hb => by
      have e' : b = s1.heap.objs.size + 1 ∨ b = s1.heap.objs.size := by simpa using hb
      rcases e' with z | z
      · rw [z]; exact Nat.le_add_right _ _
      · rw [z]; exact Nat.le_refl _
    rcases q1 with ⟨xs, hq, q⟩ | ⟨xs, hq, q⟩
    · obtain ⟨its, rv, p', hz⟩ := I1.list hq
      refine call_enumerate_list p'.isList fun h' he hit hsz hk => wpAny_pyIter_enum he ?_
      have I2 : Inv X pins σ H1 { s1 with heap := h' } := I1.kept (t' := s1.toks) hk
      exact ⟨s1.heap.objs.size + 1, [s1.heap.objs.size + 1, s1.heap.objs.size], _, _, H1, rfl, I2, turn_enum a (s1.heap.objs.size + 1) s1.heap.objs.size, ⟨⟨.none, he⟩, hit, Nat.succ_ne_self _⟩, fun b hb => I1.fpOk (fp b hb) (I1.hok.fresh (fp b hb)), q⟩
    · obtain ⟨its, rv, p', hz⟩ := I1.tuple hq
      refine call_enum1 (begins_tuple a its.toArray) p' fun h' he hit hk => wpAny_pyIter_enum he ?_
      have I2 : Inv X pins σ H1 { s1 with heap := h' } := I1.kept (t' := s1.toks) hk
      exact ⟨s1.heap.objs.size + 1, [s1.heap.objs.size + 1, s1.heap.objs.size], _, _, H1, rfl, I2, turn_enumT a (s1.heap.objs.size + 1) s1.heap.objs.size, ⟨⟨.none, he⟩, ⟨_, hit, rfl, rfl⟩, Nat.succ_ne_self _⟩, fun b hb => I1.fpOk (fp b hb) (I1.hok.fresh (fp b hb)), q⟩
def enumD : List D → M (List D)
  | [.tup xs] => M.pure (enumL xs)
  | [.lst xs] => M.pure (enumL xs)
  | [.scr xs] => M.pure (enumL xs)
  | _ => M.fail
section
variable {X : Cx} {T : Tb} {O : List Nat} {Wx : WX}
theorem di_enum {a : Expr} {fa : Env → M (List D)} {p pos tpos : Pos} {elts : List Expr} {kk : Nat} (hm : X.mg "enumerate" = none) (ha : DA X T O Wx [a] fa) (hg : Gl X "enumerate" := by rfl) (hs : starEach [a] X.env = [(false, eval a X.env)] := by rfl) :
    DI X T O Wx (.Tuple elts kk tpos) (.Call (.Name "enumerate" p) [a] [] pos) (argE enumD fa) :=
  pi_imp (pi_enumB hg hm ha hs) fun σ H Q ⟨Γ, ρ, G, w, R, P⟩ => post_bind R P fun v d G1 H1 w1 x1 R1 i1 P1 => by
    cases i1 with
    | nil => exact False.elim P1
    | cons i1 i2 =>
      cases i1 with
      | tup s l =>
        cases i2 with
        | nil => exact ⟨_, rfl, .inr ⟨_, R1.h.sub.sqT (SqT.of s), Post.ok P1 R1 (yields_enumT (SqT.of s) l)⟩⟩
        | cons _ _ => exact False.elim P1
      | lst s l =>
        cases i2 with
        | nil => exact ⟨_, rfl, .inl ⟨_, R1.h.sub.sqL (SqL.of s), Post.ok P1 R1 (yields_enumL (SqL.of s) l)⟩⟩
        | cons _ _ => exact False.elim P1
      | scr s l =>
        cases i2 with
        | nil => exact ⟨_, rfl, .inl ⟨_, R1.h.sub.sqL s, Post.ok P1 R1 (yields_enumL s l)⟩⟩
        | cons _ _ => exact False.elim P1
      | _ => exact False.elim P1
end
end Q

namespace Q
open PySem PySem.Spec PyProof.Rows L2
/-! ## a module's constant: a tuple of texts -/
def strsOk : List Value → List Str → Bool
  | [], [] => true
  | .str y _ :: vs, z :: zs => decide (y = z) && strsOk vs zs
  | _, _ => false
theorem strsOk_vals : ∀ {vs : List Value} {zs : List Str}, strsOk vs zs = true → Vals (zs.map V.str) vs
  | [], [], _ => .nil
  | .str y t :: vs, z :: zs, h => by
    have h2 : (decide (y = z) && strsOk vs zs) = true := h
    obtain ⟨a, b⟩ := Bool.and_eq_true_iff.mp h2
    obtain rfl := of_decide_eq_true a
    exact .cons ⟨t, rfl⟩ (strsOk_vals b)
def tupAt (K : PySem.W.Frag) (zs : List Str) (a : Addr) : Bool := match K.lookup a with
  | some ⟨c, _, .seq its _, _⟩ => decide (c = .type "tuple") && (decide (its.size ≤ sizeLine) && strsOk its.toList zs)
  | _ => false
def tupOk (K : PySem.W.Frag) (x : Str) (zs : List Str) : Bool := match PySem.W.nsIn K mainGlobals x with
  | some (some (.ref a)) => tupAt K zs a
  | _ => false
theorem tupAt_sq {K : PySem.W.Frag} {zs : List Str} {a : Addr} (h : tupAt K zs a = true) (H : Hp) : SqT K H a (zs.map V.str) := by
  unfold tupAt at h
  split at h
  · rename_i c _ its n _ e
    obtain ⟨h1, h2⟩ := Bool.and_eq_true_iff.mp h
    obtain ⟨h2, h3⟩ := Bool.and_eq_true_iff.mp h2
    exact .inr ⟨_, its, n, e, of_decide_eq_true h1, rfl, of_decide_eq_true h2, strsOk_vals h3⟩
  · cases h
theorem tup_ok {K : PySem.W.Frag} {h : Heap} {mg : Str → Option Value} (X : K.In h) (G : h.Ns mainGlobals mg) {x : Str} {zs : List Str} (c : tupOk K x zs = true) : ∃ a, mg x = some (.ref a) ∧ ∀ H, SqT K H a (zs.map V.str) := by
  unfold tupOk at c
  split at c
  · rename_i a e
    exact ⟨a, PySem.W.mg_of X G e, tupAt_sq c⟩
  · cases c
theorem isL_strs {K : PySem.W.Frag} {wl : WlT} {G : Hp} : ∀ zs : List Str, IsL K wl G (zs.map V.str) (zs.map D.str)
  | [] => .nil
  | z :: zs => .cons (.str z) (isL_strs zs)
theorem de_globT {X : Cx} {T : Tb} {O : List Nat} {Wx : WX} {x : Str} {zs : List Str} {pos : Pos} (hm : ∃ a, X.mg x = some (.ref a) ∧ ∀ H, SqT X.K H a (zs.map V.str)) (hg : Gl X x := by rfl) (hd : (x == ("__debug__" : Str)) = false := by decide) :
    DE X T O Wx (.Name x pos) (fun _ => M.pure (.ktp (zs.map D.str))) := by
  obtain ⟨a, hm, sq⟩ := hm
  exact de_const (v := .ref a) (pe_glob hg hm rfl hd) fun _ G => .ktp (sq G) (isL_strs zs)
end Q

namespace Q
open PySem PySem.Spec PyProof.Rows L2
/-! ## len(name), the name owned -/
def lenM : D → M D
  | .lst xs => M.pure (.int (xs.length : Nat))
  | _ => M.fail
section
variable {X : Cx} {T : Tb} {O : List Nat} {Wx : WX} {p1 pos : Pos}
theorem de_lenO (i : Nat) {x : Str} {p : Pos} (hm : X.mg "len" = none) (hO : i ∈ O := by decide) (hN : X.N[i]? = some x := by rfl) (hv : Vis X.env.scope x := by first | exact Or.inl rfl | exact Or.inr (Or.inl rfl) | exact Or.inr (Or.inr rfl)) (hd : (x == ("__debug__" : Str)) = false := by decide)
    (hcd : (x == ("__classdict__" : Str)) = false := by decide) (hg : Gl X "len" := by rfl) (he : starEach [.Name x p1] X.env = (false, eval (.Name x p1) X.env) :: starEach [] X.env := by rfl) (hpl : (backTo pos (starEach ([] : List Expr) X.env)).any (·.1) = false := by rfl) :
    DE X T O Wx (.Call (.Name "len" p) [.Name x p1] [] pos) (fun ρ => M.bind (getV ρ i) lenM) :=
  pe_imp (pe_callB call_len hg hm boot_len' (pa_cons (pv i hN hv hd hcd) pa_nil he) (by decide) (by decide) he hpl) fun σ H Q ⟨Γ, ρ, G, w, R, P⟩ => by
    have P1 : Post X.K T Γ O Wx ρ σ G H IsV (M.bind (getV ρ i) lenM w) Q := P
    simp only [getV, M.bind] at P1
    cases e : ρ[i]? with
    | none => rw [e] at P1; exact False.elim P1
    | some o =>
      cases o with
      | none => rw [e] at P1; exact False.elim P1
      | some d =>
        rw [e] at P1
        obtain ⟨l, o, h1, h2, h3, h4, h5, h6, h7⟩ := R.own i d hO e
        refine ⟨.ref l, h1, ?_⟩
        cases h7 with
        | lst il => exact ⟨_, _, rfl, .inl ⟨_, SqL.of h5, rfl⟩, by rw [il.length]; exact Post.ok P1 R (.int _)⟩
        | _ => exact False.elim P1
end
end Q

namespace Q
open PySem PySem.Spec PyProof.Rows L2
/-! ## a def whose code's address is known (it makes functions) -/
theorem code_at {K : PySem.W.Frag} {p : Str × Option Str} {f : Addr} {fd : FuncData} {oc : Value} {od : Option Addr} {osl : Array (Option Value)} {q : Str} (hf : f = He.fAd K p) (lk : K.lookup f = some ⟨oc, od, .func fd, osl⟩) (h : PySem.W.codeIn K fd.code q = true) : fd.code = .ref (He.codeOf K p) := by
  subst hf
  obtain ⟨c, e⟩ := He.codeIn_ref h
  rw [He.codeOf_eq lk e]
  exact e
theorem fnG_dataC {P : Program} {w : World} {K : PySem.W.Frag} {mg : Str → Option Value} {base : Heap} {τ : List NdefX.NTab} {k : Nat} {f : Addr} {fd : FuncData} {fname qual : Str} {params : Arguments} {body : List Stmt} {scope : Scope} {dvs : List V} {kws : List (Str × V)} {N ps : List Str} {g : Env → M Fl} {O : List Nat} (F : FunD K fname qual params body scope dvs kws f fd) (S : FnScope N ps scope) {p : Str × Option Str} (hf : f = He.fAd K p)
    (hbody : ∀ (A : Around) (outer : List PySem.Env) (s : Shared) (H : Hp) (E : XK), Ok k (bodyX P w K mg base N qual scope f (.ref (He.codeOf K p)) A outer s H E) →
      DSs (bodyX P w K mg base N qual scope f (.ref (He.codeOf K p)) A outer s H E) (tb0 τ) [] [] O (WxE E) body g) :
    FnG P w K mg base (k + 1) f fd ps (spD K τ ps.length (fnM N.length g)) := by
  obtain ⟨oc, od, dV, kV, doc, pm, an, cdv, ct, osl, rfl, lk, hcd, _, _⟩ := F.ex
  obtain rfl : cdv = .ref (He.codeOf K p) := code_at (fd := PySem.W.fnOf _ _ _ _ _ _ _ _ _ _ cdv _) hf lk hcd
  refine fnG_of lk hcd S (fun vs H Q E ⟨wl, G, wv, ds, _, _, h, _⟩ => h) fun A outer s H vs Q E ok ⟨wl, G, wv, ds, en, l, hl, P1⟩ => ⟨_, hbody A outer s H E ok, ?_⟩
  refine ⟨⟨wl, G, H⟩, startE N.length ds, G, wv, start_rel en l, ?_⟩
  have P2 : PostF K τ wl G H (endF (g (startE N.length ds) wv)) Q E := P1
  show PostS K (tb0 τ) ⟨wl, G, H⟩ [] O (WxE E) G (g (startE N.length ds) wv) _
  cases e : g (startE N.length ds) wv with
  | fail => rw [e] at P2; exact P2
  | exc c p w' => rw [e] at P2; exact fun cls dd σ' G' H' _ r x => P2 cls dd G' H' r x
  | ok r w' =>
    rw [e] at P2
    cases r with
    | nx ρ' => exact fun σ' G' H' _ R => P2 .non G' H' R.h .non
    | rt d => exact fun v G' H' _ r i => P2 v G' H' r i
    | bk ρ' => exact False.elim P2
    | ct ρ' => exact False.elim P2
end Q

namespace Q
open PySem PySem.Spec PyProof.Rows L2
theorem tkN {P : Program} {w : World} {K : PySem.W.Frag} {mg : Str → Option Value} {base : Heap} {N : List Str} {nf : NdefX.NF} {f : Addr} {A : Around} {outer : List PySem.Env} {s : Shared} {H : Hp} {E : XK} :
    Takes (NdefX.ncx (L2.CX P w) P w K mg base N nf f A outer s H E) (WxE E) := takes_of (X := NdefX.ncx (L2.CX P w) P w K mg base N nf f A outer s H E) rfl rfl rfl rfl
theorem psN {P : Program} {w : World} {K : PySem.W.Frag} {mg : Str → Option Value} {base : Heap} {N : List Str} {nf : NdefX.NF} {f : Addr} {A : Around} {outer : List PySem.Env} {s : Shared} {H : Hp} {E : XK} :
    PassesOwn (model (NdefX.ncx (L2.CX P w) P w K mg base N nf f A outer s H E).prog (NdefX.ncx (L2.CX P w) P w K mg base N nf f A outer s H E).w) (NdefX.ncx (L2.CX P w) P w K mg base N nf f A outer s H E).A (NdefX.ncx (L2.CX P w) P w K mg base N nf f A outer s H E).env (NdefX.ncx (L2.CX P w) P w K mg base N nf f A outer s H E).xe := passes_of (X := NdefX.ncx (L2.CX P w) P w K mg base N nf f A outer s H E) rfl
theorem uni_of : ∀ {L : List NdefX.NTab} {a : Addr} {b : Nat → Nat → Str}, (L.map (·.1)).Nodup → (a, b) ∈ L → ∀ q ∈ L, q.1 = a → q.2 = b := by
  intro L a b nd m q hq e
  induction L with
  | nil => cases m
  | cons x r ih =>
    have nd' : (x.1 :: r.map (·.1)).Nodup := nd
    obtain ⟨h1, h2⟩ := List.nodup_cons.mp nd'
    rcases List.mem_cons.mp m with m1 | m1 <;> rcases List.mem_cons.mp hq with q1 | q1
    · rw [q1, ← m1]
    · exact absurd (List.mem_map.mpr ⟨q, q1, by rw [e, ← m1]⟩) h1
    · exact absurd (List.mem_map.mpr ⟨(a, b), m1, by rw [← q1, e]⟩) h1
    · exact ih h2 m1 q1
theorem tabB_up {base base' : Heap} {mg : Str → Option Value} {c T0 : Addr} (t : LamX.TabB base mg c T0) (k : ∀ b o, base.get? b = some o → base'.get? b = some o) : LamX.TabB base' mg c T0 :=
  by
  obtain ⟨o, vs, a1, a2, a3, a4, a5, a6, a7, h1, h2⟩ := t.code
  exact ⟨⟨o, vs, a1, a2, a3, a4, a5, a6, a7, k _ _ h1, h2⟩, t.bm.keeps k, t.gP⟩
end Q

namespace Q
open PySem PySem.Spec PyProof.Rows L2
def freeB (ns ms : List (Str × NameKind)) : Bool := ns.all fun y => decide (y.2 ≠ .free) || (decide (ms.lookup y.1 = some .cell) || decide (ms.lookup y.1 = some .free))
theorem free_by {ns ms : List (Str × NameKind)} (h : freeB ns ms = true) : ∀ y ∈ ns, y.2 = .free → ms.lookup y.1 = some .cell ∨ ms.lookup y.1 = some .free := fun y hy e => by
  have q := List.all_eq_true.mp h y hy
  simp only [Bool.or_eq_true, decide_eq_true_eq] at q
  exact q.elim (fun z => absurd e z) id
end Q

namespace Q
open PySem PySem.Spec PyProof.Rows L2

/-! ## sets of texts: their table -/
def txt (v : Value) : Str := match v with
  | .str k _ => k
  | _ => Str.empty
structure TxS (P : Program) (w : World) (es : Array (Int × Value)) (t : SetTable) (M : List Str) : Prop where
  good : ∀ x ∈ es.toList, ∃ k u, x.2 = Value.str k u ∧ x.1 = (PySem.strKind P w).hash k
  per : (es.toList.map fun x => txt x.2).Perm M
  nd : M.Nodup
  few : M.length < scanBound
  fit : t.fits es.size = true
  ris : Ris t.place.toList
  led : w.params.followText "set-order" = true ∨ t.led = true
section
variable {P : Program} {w : World} {es : Array (Int × Value)} {t : SetTable} {M : List Str}
theorem TxS.size (Z : TxS P w es t M) : es.size = M.length := by
  have q := Z.per.length_eq
  rwa [List.length_map, Array.length_toList] at q
theorem TxS.elems (Z : TxS P w es t M) : ElemsOf (PySem.strKind P w) es.toList := fun x hx => by
  obtain ⟨k, u, e1, e2⟩ := Z.good x hx
  rw [e1]
  exact ⟨⟨k, PySem.strKind_is P w k u, e2⟩, rfl⟩
theorem TxS.mem (Z : TxS P w es t M) (k : Str) : k ∈ M ↔ ∃ x ∈ es.toList, (PySem.strKind P w).is k x.2 = true := by
  rw [← Z.per.mem_iff, List.mem_map]
  have one : ∀ x ∈ es.toList, ((PySem.strKind P w).is k x.2 = true ↔ txt x.2 = k) := fun x hx => by
    obtain ⟨j, u, e1, _⟩ := Z.good x hx
    rw [e1]
    show Value.isStrOf k (.str j u) = true ↔ j = k
    simp [Value.isStrOf]
  exact ⟨fun ⟨x, hx, q⟩ => ⟨x, hx, (one x hx).2 q⟩, fun ⟨x, hx, q⟩ => ⟨x, hx, (one x hx).1 q⟩⟩
end
/-- the set of the texts M at a -/
def TxAt (P : Program) (w : World) (h : Heap) (a : Addr) (M : List Str) : Prop := ∃ ob es ep t, h.get? a = some ob ∧ ob.ExactSet ∧ ob.data = .set es ep t ∧ TxS P w es t M
theorem TxAt.keep {P : Program} {w : World} {h h' : Heap} {a : Addr} {M : List Str} (Z : TxAt P w h a M) (k : ∀ o, h.get? a = some o → h'.get? a = some o) : TxAt P w h' a M := by
  obtain ⟨ob, es, ep, t, z, r⟩ := Z
  exact ⟨ob, es, ep, t, k ob z, r⟩
section
variable {P : Program} {w : World} {A : Around} {E : Value → Shared → Prop} {s : Shared} {a : Addr} {M : List Str}
/-- the table is stored, and laid anew if it got too full -/
theorem tx_store {ob : Obj} {es fs : Array (Int × Value)} {ep : Nat} {t u : SetTable} {M' : List Str} {g : Bool → Sem Unit} {no : Bool} {R : Option Bool → Shared → Prop}
    (quiet : ∀ (b : Bool) (z : Shared) (J : Unit → Shared → Prop), J () z → wpAny (model P w) A (g b) J E z)
    (at0 : s.heap.get? a = some ob) (kind : ob.ExactSet) (dat : ob.data = .set es ep t) (Z : TxS P w fs u M')
    (go : ∀ hp, Heap.SameBut a s.heap hp → TxAt P w hp a M' → R (some true) { s with heap := hp }) :
    wpAny (model P w) A (storeSet a fs u >>= fun _ => if (!no && u.tooFull) = true then
        g (relayAll u fs (SetTable.grown fs.size)).2.2 >>= fun _ => storeSet a (relayAll u fs (SetTable.grown fs.size)).1 (relayAll u fs (SetTable.grown fs.size)).2.1 >>= fun _ => pure (some true)
      else pure (some true)) R E s := by
  have room : fs.size < scanBound := by rw [Z.size]; exact Z.few
  have at1 := L2.store_at (es' := fs) (t' := u) at0 dat
  have same1 := Heap.SameBut.update s.heap a (Obj.putSet fs u)
  refine wpAny_bind (wpAny_storeSet_of at0 dat ?_ (fits_of_scanBound room))
  split
  · have pe := relayAll_perm u fs (SetTable.grown fs.size)
    have fi := relayAll_fits u fs (SetTable.grown fs.size)
    have ri := relayAll_ris u fs (SetTable.grown fs.size)
    have le := relayAll_led u fs (SetTable.grown fs.size)
    generalize relayAll u fs (SetTable.grown fs.size) = W at pe fi ri le ⊢
    obtain ⟨gs, v, gave⟩ := W
    dsimp only at pe fi ri le ⊢
    have sz : gs.size = fs.size := by
      have q := pe.length_eq
      rwa [Array.length_toList, Array.length_toList] at q
    refine wpAny_bind (quiet _ _ _ ?_)
    refine wpAny_bind (wpAny_storeSet_of at1 rfl ?_ (fits_of_scanBound (by rw [sz]; exact room)))
    refine wpAny_pure (go _ (same1.trans (Heap.SameBut.update _ a _)) ?_)
    refine ⟨_, gs, _, v, L2.store_at at1 rfl, kind, rfl, ?_⟩
    exact ⟨fun x hx => Z.good x (pe.mem_iff.mp hx), (pe.map _).trans Z.per, Z.nd, Z.few, fi, ri, Z.led.imp id fun z => by rw [le]; exact z⟩
  · exact wpAny_pure (go _ same1 ⟨_, fs, _, u, at1, kind, rfl, Z⟩)
theorem tx_add {k : Str} {u : Tok} {J : Bool → Shared → Prop} (Z : TxAt P w s.heap a M) (room : M.length + 1 < scanBound)
    (go : ∀ b hp M', Heap.SameBut a s.heap hp → TxAt P w hp a M' → (∀ j, j ∈ M' ↔ j = k ∨ j ∈ M) → M'.length ≤ M.length + 1 → J b { s with heap := hp }) :
    wpAny (model P w) A (setAddHashed a (.str k u) ((PySem.strKind P w).hash k)) J E s := by
  obtain ⟨ob, es, ep, t, at0, kind, dat, T⟩ := Z
  have isk : (PySem.strKind P w).is k (.str k u) = true := PySem.strKind_is P w k u
  have few : es.size < scanBound := by rw [T.size]; exact T.few
  unfold setAddHashed setAddHashedIn
  refine wpAny_holding (wpAny_bind (wpAny_setState_of at0 dat T.fit ?_))
  dsimp only
  rw [byScan_of (knd := PySem.strKind P w) rfl few T.elems]
  simp only [↓reduceIte]
  unfold setAddByScan
  refine wpAny_bind ?_
  refine wpAny_bind (wpAny_rule ?_)
  refine wpAny_bind (wpAny_setScan_of isk at0 dat T.fit T.elems ?_)
  have gw : ∀ (b : Bool) (z : Shared) (G : Unit → Shared → Prop), G () z → wpAny (model P w) A (match b with | true => rule "set.scan.the-table-gave-way" | false => pure ()) G E z := fun b z G q => by
    cases b
    · exact wpAny_pure q
    · exact wpAny_rule q
  cases fi : List.findIdx? (fun x => (PySem.strKind P w).is k x.2) es.toList with
  | some j =>
    obtain ⟨lt, yes, _⟩ := List.findIdx?_eq_some_iff_getElem.mp fi
    have inM : k ∈ M := (T.mem k).2 ⟨es.toList[j], List.getElem_mem lt, yes⟩
    dsimp only
    exact wpAny_pure (wpAny_pure (go false s.heap M (Heap.SameBut.refl a s.heap) ⟨ob, es, ep, t, at0, kind, dat, T⟩ (fun i => ⟨.inr, fun z => z.elim (fun e => e ▸ inM) id⟩) (Nat.le_succ _)))
  | none =>
    have out : k ∉ M := fun z => by
      obtain ⟨x, hx, q⟩ := (T.mem k).1 z
      rw [List.findIdx?_eq_none_iff.mp fi x hx] at q
      cases q
    dsimp only
    have pe := layNew_perm t es ((PySem.strKind P w).hash k) (.str k u)
    have ft := layNew_fits t es ((PySem.strKind P w).hash k) (.str k u)
    have ri := layNew_ris t es ((PySem.strKind P w).hash k) (.str k u) T.ris
    have le := layNew_led t es ((PySem.strKind P w).hash k) (.str k u)
    generalize layNew t es ((PySem.strKind P w).hash k) (.str k u) = W at pe ft ri le ⊢
    obtain ⟨fs, v, dum, gave⟩ := W
    dsimp only at pe ft ri le ⊢
    rw [Array.toList_push] at pe
    have pc := pe.trans (List.perm_append_singleton _ _)
    have mk : ∀ v' : SetTable, v'.fits fs.size = true → Ris v'.place.toList → v'.led = v.led → TxS P w fs v' (k :: M) := fun v' h1 h2 h3 => by
      refine ⟨fun x hx => ?_, (pc.map _).trans (T.per.cons k), List.nodup_cons.mpr ⟨out, T.nd⟩, room, h1, h2, T.led.imp id fun z => by rw [h3, le]; exact z⟩
      rcases List.mem_cons.mp (pc.mem_iff.mp hx) with z | z
      · exact ⟨k, u, by rw [z], by rw [z]⟩
      · exact T.good x z
    have fin : ∀ hp, Heap.SameBut a s.heap hp → TxAt P w hp a (k :: M) → J true { s with heap := hp } := fun hp sb r => go true hp _ sb r (fun j => List.mem_cons) (Nat.le_refl _)
    refine wpAny_bind (gw _ _ _ ?_)
    split
    · refine wpAny_bind ?_
      rw [hashByValue_scannable 8 rfl]
      refine wpAny_pure ?_
      refine tx_store gw at0 kind dat (mk _ ?_ ?_ ?_) fun hp sb r => ?_
      · first | exact ft | (split <;> first | exact ft | exact SetTable.fits_plain_off ft)
      · first | exact ri | (split <;> exact ri)
      · first | rfl | (split <;> rfl)
      · dsimp only
        exact wpAny_pure (fin hp sb r)
    · refine wpAny_bind (wpAny_pure ?_)
      simp only [↓reduceIte]
      refine tx_store gw at0 kind dat (mk _ ft ri rfl) fun hp sb r => ?_
      dsimp only
      exact wpAny_pure (fin hp sb r)

/-- the loop that puts what is walked into the set -/
theorem tx_loop {I S : Addr} {fp wr : List Addr} {G : Array GenState → Array GenState → Prop} {n : Nat} {V' : Nat → Value → Prop} {St : Nat → Shared → Prop} {R : Result → Shared → Prop} {xs : List Str}
    (W : WalksS P w A.in1 I fp wr G n V' St) (far : S ∉ fp) (len : n = xs.length) (room : xs.length + 1 < scanBound) (is : ∀ i v, V' i v → ∃ k u, xs[i]? = some k ∧ v = .str k u) :
    ∀ (m i : Nat) (z : Shared) (M' : List Str), n - i = m → i ≤ n → St i z → TxAt P w z.heap S M' → M'.length ≤ i → (∀ j, j ∈ M' ↔ j ∈ xs.take i) →
      (∀ y M2, Moved (S :: wr) G z y → TxAt P w y.heap S M2 → M2.length ≤ n → (∀ j, j ∈ M2 ↔ j ∈ xs) → R (.ok (.ret .none)) y) →
      codeAny (model P w) A (.builtin "set.update.loop" ⟨[.ref S, .ref I], []⟩) R z := by
  have offw : S ∉ wr := fun q => far (W.sub _ q)
  have more : ∀ b ∈ wr, b ∈ S :: wr := fun b q => List.mem_cons_of_mem _ q
  intro m
  induction m with
  | zero =>
    intro i z M' e1 e2 st at0 few mem fin
    obtain rfl : i = n := by omega
    refine codeAny_builtin F.entry_set_update_loop ?_
    rw [Around.under_plainId F.plain_set_update_loop _]
    show wpAny _ A.in1 (pyNext (.ref I) >>= _) _ _ z
    refine wpAny_bind (W.done z _ _ st fun z' mv' => ?_)
    show wpAny _ A.in1 (ret Value.none) _ _ z'
    rw [List.take_of_length_le (by omega)] at mem
    exact wpAny_pure (fin z' M' (mv'.mono more) (at0.keep fun o e => mv'.heap S o offw e) few mem)
  | succ m ih =>
    intro i z M' e1 e2 st at0 few mem fin
    have lt : i < n := by omega
    refine codeAny_builtin F.entry_set_update_loop ?_
    rw [Around.under_plainId F.plain_set_update_loop _]
    show wpAny _ A.in1 (pyNext (.ref I) >>= _) _ _ z
    refine wpAny_bind (W.item i z _ _ lt st fun v z' pv st' mv' => ?_)
    obtain ⟨k, u, hk, rfl⟩ := is i v pv
    have at1 : TxAt P w z'.heap S M' := at0.keep fun o e => mv'.heap S o offw e
    show wpAny _ A.in1 (holding [Value.str k u] (setAdd S (.str k u)) >>= _) _ _ z'
    refine wpAny_bind (wpAny_holding ?_)
    unfold setAdd
    refine wpAny_holding (wpAny_bind ((PySem.strKind P w).pyHash (k := k) (PySem.strKind_is _ _ _ _) ?_))
    refine tx_add (s := { z' with toks := z'.toks + 1 }) at1 (by omega) fun b hp M2 sb at2 mem2 few2 => ?_
    have next : Moved (S :: wr) G z { z' with heap := hp, toks := z'.toks + 1 } := by
      refine (mv'.mono more).then_heap (Nat.le_succ _) fun b' o q e => ?_
      rw [sb.2 b' (fun y : b' = S => q (by rw [y]; exact List.mem_cons_self))]
      exact e
    refine wpAny_pure ⟨plainId_quiet F.plain_set_update_loop _, ih (i + 1) _ M2 (by omega) lt (W.frame _ z' _ _ st' (Nat.le_succ _) fun b' q o e => ?_) at2 (by omega) (fun j => ?_) fun y M3 mv3 at3 few3 mem3 => fin y M3 (Moved.trans W.gtrans next mv3) at3 few3 mem3⟩
    · rw [sb.2 b' (fun y : b' = S => far (by rw [← y]; exact q))]
      exact e
    · rw [mem2 j, mem j, List.take_add_one, hk, List.mem_append]
      simp [or_comm]
end
end Q

namespace Q
open PySem PySem.Spec PyProof.Rows L2
section
variable {P : Program} {w : World} {A : Around} {E : Value → Shared → Prop} {s : Shared}
abbrev setOb (w : World) : Obj := { cls := .type "set", dict := none, data := .set #[] 0 (.fresh 0 0 (!w.params.followText "set-order")) }
theorem tx_fresh {h : Heap} {a : Addr} (z : h.get? a = some (setOb w)) : TxAt P w h a [] :=
  ⟨_, _, _, _, z, ⟨rfl, rfl, rfl⟩, rfl, (fun x hx => by simp at hx), List.Perm.nil, List.nodup_nil, by decide, rfl, List.Pairwise.nil, by
    show _ ∨ (!w.params.followText "set-order") = true
    cases w.params.followText "set-order" <;> simp⟩
/-- set(t) of a tuple of texts -/
theorem tx_of_tup {l : Addr} {its : Array Value} {xs : List Str} {J : Value → Shared → Prop} (nh : A.handled = none) (tl : s.heap.IsTuple l its) (tx : StrsAre its.toList xs) (room : xs.length + 1 < scanBound)
    (go : ∀ (hp : Heap) (tk : Nat) (M : List Str), TxAt P w hp s.heap.objs.size M → M.length ≤ xs.length → (∀ j, j ∈ M ↔ j ∈ xs) → (∀ b o, s.heap.get? b = some o → hp.get? b = some o) → J (.ref s.heap.objs.size) { s with heap := hp, toks := tk }) :
    wpAny (model P w) A (call (.type "set") [.ref l]) J E s := by
  have sz : its.size = xs.length := by
    rw [← StrsAre.len_eq tx, Array.length_toList]
  obtain ⟨c, tl', mro⟩ := F.called_set.mro
  have q1 := F.called_set.made
  have q2 := F.called_set.sub
  refine wpAny_call (codeAny_of_tree ?_)
  show wpAny _ _ (callAny (.type "set") _) _ _ _
  refine wpAny_pure ⟨Code.quiet_builtin _ (by decide +kernel), codeAny_builtin F.entry_type_call ?_⟩
  rw [Around.under_plain (weight_type_call_type "set" [.ref l] []) rfl]
  have q3 := F.called_set.notType
  have q4 := F.called_set.canCreate
  have q5 := F.typeCall_set_1 (.ref l)
  repeat (any_goals (first | assumption | wp_step))

  refine codeAny_mono (L2.code_set_led1 (.ref l) (E := E) (Q₁ := fun v z => v = .ref s.heap.objs.size ∧ z = { s with heap := s.heap.push (setOb w) }) ⟨rfl, rfl⟩) fun r z hr => ?_
  cases r with
  | error e => exact hr
  | ok fl =>
    cases fl with
    | ret v =>
      obtain ⟨rfl, rfl⟩ := hr
      have at0 : (s.heap.push (setOb w)).get? s.heap.objs.size = some (setOb w) := Heap.get?_push_size _ rfl
      have ty : Shared.TypeIs { s with heap := s.heap.push (setOb w) } (.ref s.heap.objs.size) "set" := ⟨_, at0, rfl⟩
      have q6 := F.called_set.init.lookup
      have q7 := F.called_set.init.bind (.ref s.heap.objs.size)
      repeat (any_goals (first | assumption | wp_step))

      refine codeAny_mono (codeAny_call_builtin (R := wants (fun v z => v = .none ∧ ∃ hp tk M, z = { s with heap := hp, toks := tk } ∧ TxAt P w hp s.heap.objs.size M ∧ M.length ≤ xs.length ∧ (∀ j, j ∈ M ↔ j ∈ xs) ∧
          (∀ b o, s.heap.get? b = some o → hp.get? b = some o)) E) F.called_set.init.plain F.entry_set_init (check_set_init_1 ty ?_)) fun r' z' hr' => ?_
      · obtain ⟨⟨oc, od, oda, os⟩, ol, cl, nl, dl⟩ := tl
        simp only at cl dl
        subst cl; subst dl
        have ol' : (s.heap.push (setOb w)).get? l = some { cls := .type "tuple", dict := od, data := .seq its nl, slots := os } := Heap.get?_push_of_some _ ol
        have u1 := F.sub_tuple_set
        have u2 := F.sub_tuple_frozenset
        have u3 : (Value.type "tuple" == Value.type "dict") = false := by decide
        have tl1 : (s.heap.push (setOb w)).IsTuple l its := ⟨_, ol', rfl, nl, rfl⟩
        unfold Builtin.«set.__init__» noKeywords Builtin.Frozenset.updateFrom
        generalize gPI : pyIter = PI
        wp_walk
        subst gPI

        refine wpAny_pyIter_tuple tl1 (wpAny_bind (wpAny_runValue ?_))
        have lt : l < s.heap.objs.size := Heap.lt_size ol
        have nh3 : A.in1.in1.in1.handled = none := by simp [nh]
        have s1 : (s.heap.push (setOb w)).objs.size = s.heap.objs.size + 1 := Heap.size_push ..
        have ne : l ≠ (s.heap.push (setOb w)).objs.size := by rw [s1]; exact Nat.ne_of_lt (Nat.lt_succ_of_lt lt)
        have far : s.heap.objs.size ∉ [(s.heap.push (setOb w)).objs.size, l] := by
          rw [s1]
          simp only [List.mem_cons, List.not_mem_nil, or_false, not_or]
          exact ⟨Nat.ne_of_lt (Nat.lt_succ_self _), Nat.ne_of_gt lt⟩
        refine tx_loop (xs := xs) ((Walks.tuple nh3 _ l ne its).toS) far sz room (fun i v e => ?_) (its.size - 0) 0 _ [] (by omega) (Nat.zero_le _)
          ⟨⟨_, Heap.get?_push_size _ rfl, rfl, rfl⟩, (tl1.push _)⟩ (tx_fresh (Heap.get?_push_of_some _ at0)) (Nat.le_refl _) (fun j => by simp) (fun z M mv at1 few mem => ?_)
        · have lt' : i < xs.length := by rw [← sz]; exact (Array.getElem?_eq_some_iff.mp e).1
          obtain ⟨t, e'⟩ := SS.strs_at tx i v (by rw [Array.getElem?_toList]; exact e)
          exact ⟨xs[i], t, List.getElem?_eq_getElem lt', by rw [e', List.getD_eq_getElem?_getD, List.getElem?_eq_getElem lt']; rfl⟩
        · obtain ⟨hp, ge, dr, tk, os'⟩ := z
          have e1 : ge = s.gens := mv.gens
          have e2 : dr = s.drawn := mv.drawn
          have e3 : os' = s.os := mv.os
          subst e1; subst e2; subst e3
          show wpAny _ _ _ _ _ _
          refine wpAny_pure ?_
          show wpAny _ _ (ret Value.none) _ _ _
          rw [sz] at few
          refine wpAny_pure ⟨rfl, hp, tk, M, rfl, at1, few, mem, fun b o e => ?_⟩
          have lb := Heap.lt_size e
          refine mv.heap b o ?_ (Heap.get?_push_of_some _ (Heap.get?_push_of_some _ e))
          rw [s1]
          simp only [List.mem_cons, List.not_mem_nil, or_false, not_or]
          exact ⟨Nat.ne_of_lt lb, Nat.ne_of_lt (Nat.lt_succ_of_lt lb)⟩
      · cases r' with
        | error e => exact hr'
        | ok fl' =>
          cases fl' with
          | ret v =>
            obtain ⟨rfl, hp, tk, M, rfl, at1, few, mem, keep⟩ := hr'
            repeat (any_goals (first | assumption | wp_step))
            exact go _ _ _ at1 few mem keep
          | _ => exact hr'.elim
    | _ => exact hr.elim
/-- sorted(s) of a set of texts -/
theorem tx_sorted {a : Addr} {M : List Str} {J : Value → Shared → Prop} (Z : TxAt P w s.heap a M) (nh : A.handled = none) (few : M.length < 64)
    (go : ∀ z p (out : Array Value) (c : Nat) (ys : List Str), (∀ b o, s.heap.get? b = some o → z.heap.get? b = some o) → z.gens = s.gens → z.os = s.os → s.heap.objs.size ≤ p → z.heap.get? p = some (seqObj "list" out c) → StrsAre out.toList ys → ys.Perm M → sortedS ys = true → J (.ref p) z) :
    wpAny (model P w) A (call (.builtin "sorted") [.ref a]) J E s := by
  obtain ⟨ob, es, ep, t, at0, kind, dat, T⟩ := Z
  refine Calls.call_function_entry PyProof.Rows.kind_sorted PyProof.Rows.plain_sorted PyProof.Rows.entry_sorted (PyProof.Rows.args_sorted1 _) ?_
  unfold Builtin.«sorted»
  refine wpAny_bind (m := checkCount "sorted" 1 1 _) (wpAny_pure ?_)
  refine wpAny_bind (L2.collect_set (A := A.in1) nh ⟨ob, at0, kind.1, dat⟩ T.fit (by rw [T.size]; exact T.few) T.ris T.led fun z vs k1 hz g1 o1 pm => ?_)
  have vl : vs.length = M.length := by rw [pm.length_eq, List.length_map, Array.length_toList, T.size]
  have is : StrsAre vs (vs.map txt) := tx_all vs fun v hv => by
    obtain ⟨x, hx, q⟩ := List.mem_map.mp (pm.mem_iff.mp hv)
    obtain ⟨k, u, e1, _⟩ := T.good x hx
    exact ⟨k, u, by rw [← q]; exact e1⟩
  have pk : (vs.map txt).Perm M := by
    have q := pm.map txt
    rw [List.map_map] at q
    exact q.trans T.per
  refine wpAny_bind (wpAny_newList ?_ (by rw [vl, sizeLine_eq]; omega))
  have atL : (z.heap.push (seqObj "list" vs.toArray 0)).get? z.heap.objs.size = some (seqObj "list" vs.toArray 0) := Heap.get?_push_size _ rfl
  refine wpAny_bind (wpAny_holding (wpAny_call_entry PyProof.Rows.slot_list_sort ⟨_, atL, rfl⟩ PyProof.Rows.entry_list_sort
    (list_sort_treeK strKind_oneLt (s := { z with heap := z.heap.push (seqObj "list" vs.toArray 0) }) atL is.keysOf (fun v1 v2 rest e => keyKind_strs (by rw [← e]; exact is)) (by rw [vl]; exact few) fun st hp hs => ⟨_, rfl, ?_⟩)
    (PyProof.Rows.args_list_sort _)))
  obtain ⟨ys, y1, y2, y3⟩ := sorted_out_str is hp hs
  obtain ⟨c, hc⟩ := PyProof.Rows.sortedHeap_at (vs := vs) (out := (arrOf st).map (·.2)) atL
  refine wpAny_pure ⟨_, rfl, go _ z.heap.objs.size _ c ys (fun b o e => ?_) g1 o1 hz hc y1 (y2.trans pk) y3⟩
  have q := k1 b o e
  have lt := Heap.lt_size q
  show (sortedHeap (z.heap.push (seqObj "list" vs.toArray 0)) z.heap.objs.size vs _).get? b = some o
  rw [PyProof.Rows.sortedHeap_old (Nat.ne_of_lt lt) (by rw [Heap.size_push]; exact Nat.lt_succ_of_lt lt)]
  exact Heap.get?_push_of_some _ q
where
  tx_all : ∀ vs : List Value, (∀ v ∈ vs, ∃ k u, v = Value.str k u) → StrsAre vs (vs.map txt)
    | [], _ => .nil
    | v :: vs, h => by
      obtain ⟨k, u, rfl⟩ := h _ List.mem_cons_self
      exact .cons k u (tx_all vs fun x hx => h x (List.mem_cons_of_mem _ hx))
end
end Q

namespace Q
open PySem PySem.Spec PyProof.Rows L2
/-! ## sorted(set(t)) of a tuple of texts -/
def ltS (a b : Str) : Bool := decide (a.cps.toList < b.cps.toList)
def insS (x : Str) : List Str → List Str
  | [] => [x]
  | y :: ys => if x = y then y :: ys else if ltS x y then x :: y :: ys else y :: insS x ys
/-- the unlike ones of some texts, ascending -/
def setSort (xs : List Str) : List Str := xs.foldr insS []
theorem mem_insS {x z : Str} : ∀ {ys : List Str}, z ∈ insS x ys ↔ z = x ∨ z ∈ ys
  | [] => by simp [insS]
  | y :: ys => by
    unfold insS
    by_cases h : x = y
    · rw [if_pos h]; subst h; simp
    · rw [if_neg h]
      by_cases g : ltS x y = true
      · rw [if_pos g]; simp
      · rw [if_neg g]
        simp only [List.mem_cons, mem_insS (ys := ys)]
        constructor
        · rintro (a | a | a)
          · exact .inr (.inl a)
          · exact .inl a
          · exact .inr (.inr a)
        · rintro (a | a | a)
          · exact .inr (.inl a)
          · exact .inl a
          · exact .inr (.inr a)
theorem mem_setSort {z : Str} : ∀ {xs : List Str}, z ∈ setSort xs ↔ z ∈ xs
  | [] => by simp [setSort]
  | x :: xs => by
    show z ∈ insS x (setSort xs) ↔ _
    rw [mem_insS, mem_setSort, List.mem_cons]
abbrev UpS (l : List Str) : Prop := l.Pairwise fun a b => a.cps.toList < b.cps.toList
theorem str_ext {a b : Str} (h : a.cps.toList = b.cps.toList) : a = b := by
  cases a; cases b
  simp only [Str.mk.injEq]
  exact Array.toList_inj.mp h
theorem up_insS {x : Str} : ∀ {ys : List Str}, UpS ys → UpS (insS x ys)
  | [], _ => by simp [insS]
  | y :: ys, h => by
    obtain ⟨h1, h2⟩ := List.pairwise_cons.mp h
    unfold insS
    by_cases e : x = y
    · rw [if_pos e]; exact h
    · rw [if_neg e]
      by_cases g : ltS x y = true
      · rw [if_pos g]
        have g' := of_decide_eq_true g
        refine List.pairwise_cons.mpr ⟨fun z hz => ?_, h⟩
        rcases List.mem_cons.mp hz with r | r
        · rw [r]; exact g'
        · exact List.lt_trans g' (h1 z r)
      · rw [if_neg g]
        refine List.pairwise_cons.mpr ⟨fun z hz => ?_, up_insS h2⟩
        rcases mem_insS.mp hz with r | r
        · rw [r]
          have g' : ¬ x.cps.toList < y.cps.toList := fun q => g (decide_eq_true q)
          rcases Decidable.em (y.cps.toList < x.cps.toList) with q | q
          · exact q
          · exact absurd (str_ext (List.le_antisymm (List.not_lt.mp q) (List.not_lt.mp g'))) e
        · exact h1 z r
theorem up_setSort : ∀ (xs : List Str), UpS (setSort xs)
  | [] => List.Pairwise.nil
  | x :: xs => up_insS (up_setSort xs)
theorem up_ext : ∀ {xs ys : List Str}, UpS xs → UpS ys → (∀ z, z ∈ xs ↔ z ∈ ys) → xs = ys
  | [], [], _, _, _ => rfl
  | [], y :: ys, _, _, h => nomatch (h y).2 List.mem_cons_self
  | x :: xs, [], _, _, h => nomatch (h x).1 List.mem_cons_self
  | x :: xs, y :: ys, a, b, h => by
    obtain ⟨a1, a2⟩ := List.pairwise_cons.mp a
    obtain ⟨b1, b2⟩ := List.pairwise_cons.mp b
    have e : x = y := by
      rcases List.mem_cons.mp ((h x).1 List.mem_cons_self) with q | q
      · exact q
      · rcases List.mem_cons.mp ((h y).2 List.mem_cons_self) with r | r
        · exact r.symm
        · exact absurd (List.lt_trans (b1 x q) (a1 y r)) (List.lt_irrefl _)
    subst e
    congr 1
    refine up_ext a2 b2 fun z => ⟨fun q => ?_, fun q => ?_⟩
    · rcases List.mem_cons.mp ((h z).1 (List.mem_cons_of_mem _ q)) with r | r
      · exact absurd (a1 z q) (by rw [r]; exact List.lt_irrefl _)
      · exact r
    · rcases List.mem_cons.mp ((h z).2 (List.mem_cons_of_mem _ q)) with r | r
      · exact absurd (b1 z q) (by rw [r]; exact List.lt_irrefl _)
      · exact r
theorem up_of_sorted : ∀ {ys : List Str}, sortedS ys = true → ys.Nodup → UpS ys := by
  have go : ∀ (ys : List Str) (x : Str), risingS x ys = true → (x :: ys).Nodup → UpS (x :: ys) := by
    intro ys
    induction ys with
    | nil => intro x _ _; simp
    | cons y ys ih =>
      intro x h n
      have h' : (!ltCps y.cps.toList x.cps.toList && risingS y ys) = true := h
      rw [Bool.and_eq_true, ltCps_eq] at h'
      have up := ih y h'.2 (List.nodup_cons.mp n).2
      have lt : x.cps.toList < y.cps.toList := by
        have q : ¬ y.cps.toList < x.cps.toList := by simpa using h'.1
        rcases Decidable.em (x.cps.toList < y.cps.toList) with r | r
        · exact r
        · have e := str_ext (List.le_antisymm (List.not_lt.mp q) (List.not_lt.mp r))
          exact absurd (by rw [e]; exact List.mem_cons_self) (List.nodup_cons.mp n).1
      refine List.pairwise_cons.mpr ⟨fun z hz => ?_, up⟩
      rcases List.mem_cons.mp hz with r | r
      · rw [r]; exact lt
      · exact List.lt_trans lt ((List.pairwise_cons.mp up).1 z r)
  intro ys h n
  cases ys with
  | nil => exact List.Pairwise.nil
  | cons y ys => exact go ys y h n
/-- the texts of some data -/
def strsD : List D → Option (List Str)
  | [] => some []
  | .str x :: ds => (strsD ds).map (x :: ·)
  | _ => none
theorem IsL.strs {K : PySem.W.Frag} {wl : WlT} {G : Hp} : ∀ {vs : List V} {ds : List D} {xs : List Str}, IsL K wl G vs ds → strsD ds = some xs → vs = xs.map V.str
  | _, _, _, .nil, e => by cases e; rfl
  | _, _, _, .cons (d := d) h hl, e => by
    cases d with
    | str x =>
      cases h
      simp only [strsD, Option.map_eq_some_iff] at e
      obtain ⟨ys, e1, rfl⟩ := e
      rw [hl.strs e1]; rfl
    | _ => exact nomatch e
/-- sorted(set(t)) -/
def tSSet (K : PySem.W.Frag) (ta : TE) : TE := fun σ H Q => ta σ H fun x H1 => ∃ (l : Addr) (xs : List Str), x = .ref l ∧ SqT K H1 l (xs.map V.str) ∧ xs.length < 64 ∧ ∀ p, H1 p = none → Q (.ref p) (upd H1 p (.lst ((setSort xs).map V.str)))
section
variable {X : Cx}
theorem pe_sset {a : Expr} {ta : TE} {p p2 q pos : Pos} (hc : X.calm = true) (hm : X.mg "sorted" = none) (hm2 : X.mg "set" = none) (ha : PE X a ta) (hg : Gl X "sorted" := by rfl) (hg2 : Gl X "set" := by rfl)
    (na : starEach [a] X.env = (false, eval a X.env) :: starEach [] X.env := by rfl) : PE X (.Call (.Name "sorted" p) [.Call (.Name "set" p2) [a] [] q] [] pos) (tSSet X.K ta) := by
  refine ⟨fun pins s σ H Q I h => ?_⟩
  refine Call_ (ld_blt I hg hm boot_sorted' ?_)
  refine PyProof.Rows.callWith_builtin1 (PyProof.Rows.args_cons ?_ rfl) rfl rfl
  refine Call_ (ld_blt I hg2 hm2 boot_set' ?_)
  refine PyProof.Rows.callWith_type1 (PyProof.Rows.args_cons (thn (ha.run pins s σ H _ I h) fun v s1 ⟨x, H1, I1, r1, q1⟩ => PyProof.Rows.args_nil ?_) na) na rfl
  obtain ⟨l, xs, rfl, hq, few, q1⟩ := q1
  cases r1
  obtain ⟨its, rv, pl, hz⟩ := I1.tuple hq
  refine tx_of_tup (P := X.prog) (w := X.w) (xs := xs) (I1.ok.hd hc) pl (by simpa using rv.strs) (by unfold scanBound; omega) fun hp tk M at1 len mem keep => ?_
  refine PyProof.Rows.args_nil ?_
  have I2 : Inv X pins σ H1 { s1 with heap := hp, toks := tk } := I1.kept keep
  refine tx_sorted (P := X.prog) (w := X.w) (s := { s1 with heap := hp, toks := tk }) at1 (I1.ok.hd hc) (by omega) fun z p out c ys k g o lt at2 st pm so => ?_
  obtain ⟨_, _, _, _, _, _, _, T⟩ := at1
  have e1 : ys = setSort xs := up_ext (up_of_sorted so (pm.nodup_iff.mpr T.nd)) (up_setSort xs) fun j => by rw [pm.mem_iff, mem, mem_setSort]
  subst e1
  have hn : H1 p = none := I2.hok.fresh lt
  have hlen : ((setSort xs).map V.str).length ≤ sizeLine := by
    rw [List.length_map, pm.length_eq, sizeLine_eq]; omega
  have J : Inv X pins σ (upd H1 p (.lst ((setSort xs).map V.str))) { ({ s1 with heap := hp, toks := tk } : Shared) with heap := z.heap, gens := z.gens, drawn := z.drawn, toks := z.toks } :=
    I2.call (ch := []) (Un.laid k lt hn) (I2.hok.laid k lt ⟨hlen, out.toList, c, vals_of_strs st, at2⟩) (by rw [g]; exact I2.bare) (fun _ z => nomatch z)
  have e : z = { ({ s1 with heap := hp, toks := tk } : Shared) with heap := z.heap, gens := z.gens, drawn := z.drawn, toks := z.toks } := by
    cases z
    cases o
    rfl
  rw [e]
  exact ⟨.ref p, _, J, rfl, q1 p hn⟩
end
def setSortM : D → M D
  | .tup ds => match strsD ds with
    | some xs => if xs.length < 64 then M.pure (.lst ((setSort xs).map .str)) else M.fail
    | none => M.fail
  | _ => M.fail
section
variable {X : Cx} {T : Tb} {O : List Nat} {Wx : WX} {e : Expr} {f : Env → M D} {pos q p p2 : Pos}
theorem df_sset (hc : X.calm = true) (hm : X.mg "sorted" = none) (hm2 : X.mg "set" = none) (he : DE X T O Wx e f) (hg : Gl X "sorted" := by rfl) (hg2 : Gl X "set" := by rfl)
    (na : starEach [e] X.env = (false, eval e X.env) :: starEach [] X.env := by rfl) : DF X T O Wx (.Call (.Name "sorted" p) [.Call (.Name "set" p2) [e] [] q] [] pos) (mpE f setSortM) :=
  pe_imp (pe_sset hc hm hm2 he hg hg2 na) fun σ H Q ⟨Γ, ρ, G, w, R, P⟩ => postN_bind R P fun v d G1 H1 w1 st R i P => by
    cases i with
    | @tup a vs ds s l =>
      simp only [setSortM] at P
      cases h : strsD ds with
      | none => rw [h] at P; exact False.elim P
      | some xs =>
        rw [h] at P
        dsimp only at P
        by_cases few : xs.length < 64
        · rw [if_pos few] at P
          obtain rfl := l.strs h
          exact ⟨a, xs, rfl, R.h.sub.tq s, few, fun p hp => PostN.new P R hp noLst (.lst (isL_strs _))⟩
        · rw [if_neg few] at P; exact False.elim P
    | _ => exact False.elim P
end
theorem fnG_fail {P : Program} {w : World} {K : PySem.W.Frag} {mg : Str → Option Value} {base : Heap} {k : Nat} {f : Addr} {fd : FuncData} {ps : List Str} {τ : List NdefX.NTab} {n : Nat} : FnG P w K mg base k f fd ps (spD K τ n fun _ => M.fail) :=
  ⟨fun _ _ _ _ ⟨_, _, _, _, _, _, _, h⟩ => h.elim, fun _ _ _ _ _ _ _ _ _ _ _ _ _ _ ⟨_, _, _, _, _, _, _, h⟩ => h.elim⟩
end Q

namespace Q
open PySem PySem.Spec PyProof.Rows L2
/-! ## list(s) of a text -/
section
variable {P : Program} {w : World} {A : Around} {E : Value → Shared → Prop} {s : Shared}
theorem txt_list {x : Str} {t : Tok} {J : Value → Shared → Prop} (nh : A.handled = none) (short : x.cps.size ≤ sizeLine)
    (go : ∀ z acc c, (∀ b o, s.heap.get? b = some o → z.heap.get? b = some o) → z.gens = s.gens → z.drawn = s.drawn → z.os = s.os →
      z.heap.get? s.heap.objs.size = some { cls := .type "list", dict := none, data := .seq acc c, slots := #[] } → ItemsOf (SignAt x) acc x.cps.size → J (.ref s.heap.objs.size) z) :
    wpAny (model P w) A (call (.type "list") [.str x t]) J E s := by
  refine callType_codes (Q₁ := fun v z => v = .ref s.heap.objs.size ∧ z = { s with heap := s.heap.push { cls := .type "list", data := .seq #[] } }) PySem.F.called_list (PySem.F.typeCall_list_1 _) PySem.F.entry_list_init (code_list_new _ ⟨rfl, rfl⟩) fun v z hz => ?_
  obtain ⟨rfl, rfl⟩ := hz
  have at0 : (s.heap.push { cls := .type "list", data := .seq #[] }).get? s.heap.objs.size = some { cls := .type "list", data := .seq #[] } := Heap.get?_push_size _ rfl
  refine ⟨⟨_, at0, rfl⟩, PySem.F.args_list_init_2 _ _, ?_⟩
  show wpAny _ A.in1.in1 (do let old ← Builtin.List.listItems (.ref s.heap.objs.size); Builtin.List.listUpdate (.ref s.heap.objs.size) (fun _ => #[]); letGo old.toList.reverse; Builtin.List.listExtendWith (.ref s.heap.objs.size) (.str x t) .none) _ _ _
  refine wpAny_bind ?_
  unfold Builtin.List.listItems
  refine wpAny_bind (wpAny_seqItems at0 rfl (wpAny_pure ?_))
  show wpAny _ A.in1.in1 (updateSeq s.heap.objs.size (fun _ => #[]) >>= fun _ => letGo (#[] : Array Value).toList.reverse >>= fun _ => Builtin.List.listExtendWith (.ref s.heap.objs.size) (.str x t) .none) _ _ _
  refine wpAny_bind (wpAny_updateSeq at0 rfl ?_)
  have at1 := Heap.get?_update_self (Obj.mapSeq (fun _ => (#[] : Array Value))) at0 rfl
  have old : ∀ b o, s.heap.get? b = some o → ((s.heap.push { cls := .type "list", data := .seq #[] }).update s.heap.objs.size (Obj.mapSeq (fun _ => (#[] : Array Value)))).get? b = some o :=
    fun b o e => (Heap.get?_update_other _ _ (Ne.symm (Nat.ne_of_lt (Heap.lt_size e)))).trans (Heap.get?_push_of_some _ e)
  have sz : ((s.heap.push { cls := .type "list", data := .seq #[] }).update s.heap.objs.size (Obj.mapSeq (fun _ => (#[] : Array Value)))).objs.size = s.heap.objs.size + 1 := by
    rw [Heap.size_update, Heap.size_push]
  generalize (s.heap.push { cls := .type "list", data := .seq #[] }).update s.heap.objs.size (Obj.mapSeq (fun _ => (#[] : Array Value))) = Hn at at1 old sz ⊢
  refine wpAny_bind (wpAny_letGo ?_)
  unfold Builtin.List.listExtendWith
  refine wpAny_bind (wpAny_typeOf (T := "str") (v := .str x t) rfl ?_)
  have c1 : Builtin.List.listSameRef (.ref s.heap.objs.size) (.str x t) = false := rfl
  have c2 : (Value.type "str" == Value.type "list") = false := by decide
  have c3 : (Value.type "str" == Value.type "tuple") = false := by decide
  simp only [c1, c2, c3, Bool.or_false, Bool.false_eq_true, if_false]
  refine wpAny_bind (wpAny_pyIter_str fun o St W st => wpAny_bind (wpAny_holding ?_))
  unfold Builtin.List.listLengthHint
  refine wpAny_bind (wpAny_specialOf (T := "str") (v := .str x t) rfl PySem.F.str_len ?_)

  wp_delta
  refine wpAny_bind (wpAny_isInstance (T := "str") (v := .str x t) (b := true) rfl (by rw [isSubtype_type]; kernel_rfl) ?_)
  show wpAny _ _ (typeOf (Value.str x t) >>= _) _ _ _
  refine wpAny_bind (wpAny_typeOf (T := "str") (v := .str x t) rfl (wpAny_pure ?_))
  rw [if_neg (by decide)]
  have far : s.heap.objs.size ∉ [Hn.objs.size] := fun q => by
    have q := List.mem_singleton.mp q
    rw [sz] at q
    exact absurd q (Nat.ne_of_lt (Nat.lt_succ_self _))
  refine wpAny_pure ⟨plainId_quiet PySem.F.plain_extend_loop _, codeAny_extend_loopS (W A.in1.in1 nh).toS short _ far _ x.cps.size 0 _ _ _ rfl (Nat.zero_le _) st (Heap.get?_push_of_some _ at1) (ItemsOf.nil _) fun z acc c mv at2 items => ?_⟩
  refine ⟨rfl, go z acc c (fun b ob e => mv.heap b ob (fun q => ?_) (Heap.get?_push_of_some _ (old b ob e))) mv.gens mv.drawn mv.os at2 items⟩
  have lt := Heap.lt_size e
  rcases List.mem_cons.mp q with h | h
  · exact absurd lt (h ▸ Nat.lt_irrefl _)
  · rw [List.mem_singleton.mp h, sz] at lt
    exact absurd lt (Nat.not_lt.mpr (Nat.le_succ _))
end
abbrev sgV (x : Str) : List V := x.cps.toList.map fun c => V.str ⟨#[c]⟩
theorem sgVals {x : Str} {acc : Array Value} (h : ItemsOf (SignAt x) acc x.cps.size) : Vals (sgV x) acc.toList := by
  have go : ∀ (cs : List Nat) (us : List Value), cs.length = us.length → (∀ (i : Nat) (v : Value), us[i]? = some v → ∃ (c : Nat) (t : Tok), cs[i]? = some c ∧ v = Value.str ⟨#[c]⟩ t) → Vals (cs.map fun c => V.str ⟨#[c]⟩) us := by
    intro cs
    induction cs with
    | nil =>
      intro us e _
      cases us with
      | nil => exact Paired.nil
      | cons _ _ => cases e
    | cons c cs ih =>
      intro us e k
      cases us with
      | nil => cases e
      | cons v us =>
        obtain ⟨c', t, e1, e2⟩ := k 0 v rfl
        cases e1
        exact Paired.cons ⟨t, e2⟩ (ih us (by simpa using e) fun i y hy => k (i + 1) y hy)
  refine go _ _ (by rw [Array.length_toList, Array.length_toList, h.1]) fun i v e => ?_
  rw [Array.getElem?_toList] at e
  obtain ⟨c, u, e1, e2⟩ := h.2 i v e
  exact ⟨c, u, by rw [Array.getElem?_toList]; exact e1, e2⟩
section
variable {X : Cx}
theorem call_list_txt (hc : X.calm = true) : CallR X (.type "list") (fun xs H Q => ∃ x : Str, xs = [.str x] ∧ x.length ≤ sizeLine ∧ ∀ l, H l = none → Q (.ref l) (upd H l (.lst (sgV x)))) := by
  intro pins s σ H xs us Q I r h
  obtain ⟨x, rfl, short, q⟩ := h
  obtain ⟨u, rfl, t, rfl⟩ := vals1 r
  refine txt_list (I.ok.hd hc) short fun z acc c keep g d o at0 items => ?_
  have e : z = { s with heap := z.heap, toks := z.toks } := by
    cases z
    cases s
    cases g; cases d; cases o
    rfl
  rw [e]
  have hz : (sgV x).length ≤ sizeLine := by rw [List.length_map, Array.length_toList]; exact short
  exact ⟨.ref s.heap.objs.size, _, I.laid (t' := z.toks) keep (Nat.le_refl _) (show ObjOk X.prog X.w _ z.heap _ (.lst (sgV x)) from ⟨hz, acc.toList, c, sgVals items, by rw [Array.toArray_toList]; exact at0⟩), rfl, q _ (I.hok.fresh (Nat.le_refl _))⟩
end
def listA : List D → M D
  | [.str s] => if s.length ≤ sizeLine then M.pure (.lst (s.cps.toList.map chr1)) else M.fail
  | ds => listD ds
theorem isL_sg {K : PySem.W.Frag} {wl : WlT} {G : Hp} : ∀ cs : List Nat, IsL K wl G (cs.map fun c => V.str ⟨#[c]⟩) (cs.map chr1)
  | [] => .nil
  | c :: cs => .cons (.str _) (isL_sg cs)
section
variable {X : Cx} {T : Tb} {O : List Nat} {Wx : WX} {e : Expr} {es : List Expr} {fa : Env → M (List D)} {p pos : Pos}
theorem df_listA (hc : X.calm = true) (hm : X.mg "list" = none) (ha : DA X T O Wx (e :: es) fa) (hg : Gl X "list" := by rfl) (hn : ("list" : Str) ≠ "__name__" := by decide) (hdb : (("list" : Str) == ("__debug__" : Str)) = false := by decide)
    (he : starEach (e :: es) X.env = (false, eval e X.env) :: starEach es X.env := by rfl) (hpl : (backTo pos (starEach es X.env)).any (·.1) = false := by rfl) : DF X T O Wx (.Call (.Name "list" p) (e :: es) [] pos) (argE listA fa) :=
  pe_imp (pe_callTy (call_list_of.or (call_list_txt hc)) hg hm boot_list' ha hn hdb he hpl) fun σ H Q ⟨Γ, ρ, G, w, R, P⟩ => postN_bind R P fun vs ds G1 H1 w1 st R l P => by
    cases l with
    | nil => exact False.elim P
    | cons i l =>
      cases l with
      | cons _ _ => cases i <;> exact False.elim P
      | nil =>
        cases i with
        | @lst a vs ds s l => exact .inl ⟨a, vs, rfl, .inl (SqL.of (R.h.sub _ _ s)), fun p hp => PostN.new P R hp noLst (.lst l)⟩
        | @tup a vs ds s l => exact .inl ⟨a, vs, rfl, .inr (R.h.sub.tq s), fun p hp => PostN.new P R hp noLst (.lst l)⟩
        | @scr a vs ds s l => exact .inl ⟨a, vs, rfl, .inl (R.h.sub.sqL s), fun p hp => PostN.new P R hp noLst (.lst l)⟩
        | str x =>
          have P' : PostN X.K T Γ O Wx ρ σ G1 H1 ((if x.length ≤ sizeLine then M.pure (.lst (x.cps.toList.map chr1)) else M.fail) w1) Q := P
          by_cases h : x.length ≤ sizeLine
          · rw [if_pos h] at P'
            exact .inr ⟨x, rfl, h, fun p hp => PostN.new P' R hp noLst (.lst (isL_sg _))⟩
          · rw [if_neg h] at P'
            exact False.elim P'
        | _ => exact False.elim P
end
end Q

namespace Q
open PySem PySem.Spec PyProof.Rows L2
/-! ## t[::-1] of a tuple -/
theorem adj_back (n : Nat) : Builtin.Slice.sliceAdjust none none (-1) (n : Int) = ((n : Int) - 1, -1) := by
  unfold Builtin.Slice.sliceAdjust
  simp
theorem plc_back (n : Nat) : Builtin.Slice.slicePlaces ((n : Int) - 1) (-1) (-1) = n := by
  unfold Builtin.Slice.slicePlaces
  simp
  omega
theorem pick_back (xs : Array Value) : (((List.range xs.size).filterMap fun (k : Nat) => xs[(((xs.size : Nat) : Int) - 1 + (k : Int) * (-1)).toNat]?).toArray) = xs.toList.reverse.toArray := by
  congr 1
  have e : ∀ n, n ≤ xs.size → (List.range n).filterMap (fun (k : Nat) => xs[(((xs.size : Nat) : Int) - 1 + (k : Int) * (-1)).toNat]?) = xs.toList.reverse.take n := by
    intro n
    induction n with
    | zero => intro _; rfl
    | succ n ih =>
      intro h
      rw [List.range_succ, List.filterMap_append, ih (by omega), List.take_add_one]
      congr 1
      have i : (((xs.size : Nat) : Int) - 1 + (n : Int) * (-1)).toNat = xs.size - 1 - n := by omega
      have r : xs.toList.reverse[n]? = xs.toList[xs.toList.length - 1 - n]? := List.getElem?_reverse (by rw [Array.length_toList]; omega)
      rw [r, Array.length_toList, Array.getElem?_toList]
      simp only [List.filterMap_cons, List.filterMap_nil, i]
      cases xs[xs.size - 1 - n]? <;> rfl
  rw [e _ (Nat.le_refl _), List.take_of_length_le (by simp)]
section
variable {P : Program} {w : World} {A : Around} {E : Value → Shared → Prop} {s : Shared}
theorem tup_back {t sl : Addr} {us : Array Value} {tk : Tok} {J : Value → Shared → Prop} (ht : IsTup s.heap t us) (hs : s.heap.IsSliceOf sl .none .none (.int (-1) tk)) (few : us.size ≤ sizeLine)
    (go : J (.ref s.heap.objs.size) { s with heap := s.heap.push { cls := .type "tuple", data := .seq us.toList.reverse.toArray } }) : wpAny (model P w) A (getItem (.ref t) (.ref sl)) J E s := by
  have ok : sizeOk (.seq us.toList.reverse.toArray) := by
    show us.toList.reverse.toArray.size ≤ sizeLine
    rw [List.size_toArray, List.length_reverse, Array.length_toList]
    exact few
  obtain ⟨o, at0, cl, dat⟩ := id hs
  have ty : s.TypeIs (.ref sl) "slice" := ⟨o, at0, cl⟩
  unfold getItem
  try with_reducible refine wpAny_holding ?_
  first | refine wpAny_bind (wpAny_pure ?_) | skip
  refine wpAny_bind (wpAny_sequenceKey ht.typeIs (by decide) (wpAny_bind (wpAny_callSpecial?_slot (name := Str.ofString "__getitem__") ht.typeIs PyProof.Rows.slot_tuple_getitem
    (wpAny_call_entry PyProof.Rows.slot_tuple_getitem ht.typeIs PyProof.Rows.entry_tuple_getitem ?_ (PyProof.Rows.args_tuple_getitem _ _)))))
  show wpAny _ _ (Builtin.Tuple.tupleItemsOf (.ref t) >>= _) _ _ s
  refine wpAny_bind (tupleItemsOf_ ht (wpAny_bind (wpAny_typeOf ty ?_)))
  rw [if_pos (by decide)]
  refine wpAny_bind ?_
  unfold Builtin.Slice.sliceApplied Builtin.Slice.sliceFields
  refine wpAny_bind (wpAny_bind (wpAny_field at0 dat (x := .none) rfl (wpAny_bind (wpAny_field at0 dat (x := .none) rfl (wpAny_bind (wpAny_field at0 dat (x := .int (-1) tk) rfl (wpAny_pure ?_)))))))
  refine wpAny_bind (HT.slicePart_ (.int (-1) tk) ?_)
  show wpAny _ _ (if ((-1 : Int) == 0) = true then _ else _) _ _ s
  rw [if_neg (by decide)]
  refine wpAny_bind (HT.slicePart_ .none (wpAny_bind (HT.slicePart_ .none (wpAny_bind (wpAny_pure ?_)))))
  show wpAny _ _ (match Builtin.Slice.sliceAdjust none none (-1) ((us.size : Nat) : Int) with | (lo, hi) => pure (lo, (-1 : Int), Builtin.Slice.slicePlaces lo hi (-1))) _ _ s
  rw [adj_back]
  show wpAny _ _ (pure (((us.size : Nat) : Int) - 1, (-1 : Int), Builtin.Slice.slicePlaces (((us.size : Nat) : Int) - 1) (-1) (-1))) _ _ s
  rw [plc_back]
  refine wpAny_pure ?_
  show wpAny _ _ (if ((((us.size : Nat) : Int) - 1 == 0 && (-1 : Int) == 1 && us.size == us.size)) = true then _ else _) _ _ s
  rw [if_neg (by simp), pick_back]
  first
    | exact wpAny_bind (m := Builtin.Tuple.tupleExact _) (wpAny_newObj_type (wpAny_pure ⟨_, rfl, wpAny_pure go⟩) ok)
    | exact wpAny_bind (m := Builtin.Tuple.tupleExact _) (wpAny_newObj_type (wpAny_bind (wpAny_pure (wpAny_pure ⟨_, rfl, wpAny_pure go⟩))) ok)
    | exact wpAny_bind (wpAny_bind (m := Builtin.Tuple.tupleExact _) (wpAny_newObj_type (wpAny_pure (wpAny_pure ⟨_, rfl, wpAny_pure go⟩)) ok))
    | exact wpAny_bind (wpAny_bind (m := Builtin.Tuple.tupleExact _) (wpAny_newObj_type (wpAny_pure ⟨_, rfl, wpAny_pure go⟩) ok))
end
def revA : D → Option Int → M D
  | .tup xs, none => M.pure (.tup xs.reverse)
  | d, l => revM d l
theorem vals_rev {vs : List V} {us : List Value} (l : Vals vs us) : Vals vs.reverse us.reverse := by
  induction vs generalizing us with
  | nil => cases l; exact Paired.nil
  | cons v vs ih =>
    cases l with
    | cons h t =>
      rw [List.reverse_cons, List.reverse_cons]
      exact (ih t).append (Paired.cons h Paired.nil)
section
variable {X : Cx} {T : Tb} {O : List Nat} {Wx : WX} {e : Expr} {f : Env → M D} {p1 p2 p3 pos : Pos}
theorem de_revA {k : Nat} (h : DE X T O Wx e f) : DE X T O Wx (.Subscript e (.Slice none none (some (.UnaryOp .USub (.Constant (.int 1) k p1) p2)) p3) pos) (fun ρ => M.bind (f ρ) fun d => M.bind (M.pure none) fun l => revA d l) := by
  refine ⟨fun pins s σ H Q I ⟨Γ, ρ, G, w, R, P⟩ => ?_⟩
  have q0 := post_bind (I := IsV) (Q1 := fun x H1 => ∃ a vs, x = .ref a ∧ ((SqL X.K H1 a vs ∧ ∀ p, H1 p = none → Q (.ref p) (upd H1 p (.lst (pickL vs none none (some (-1)))))) ∨ (SqT X.K H1 a vs ∧ ∀ p, H1 p = none → Q (.ref p) (upd H1 p (.tup vs.reverse))))) R P fun v d G1 H1 w1 s1 R1 i1 P1 => by
    cases i1 with
    | @lst a vs ds s il =>
      refine ⟨a, vs, rfl, .inl ⟨SqL.of (R1.h.sub _ _ s), fun p hp => Post.new P1 R1 hp noLst (.lst upd_same ?_)⟩⟩
      unfold pickL
      rw [il.length]
      exact (il.pick _).mono (hx_upd (R1.h.gnone hp))
    | @tup a vs ds s il => exact ⟨a, vs, rfl, .inr ⟨R1.h.sub.tq s, fun p hp => Post.new P1 R1 hp noTup (.tup upd_same (il.rev.mono (hx_upd (R1.h.gnone hp))))⟩⟩
    | _ => exact False.elim P1
  refine Subscript_ (thn (h.run pins s σ H _ I q0) fun v s1 ⟨x, H1, I1, r1, a, vs, ex, q1⟩ => ?_)
  subst ex
  cases r1
  have hst : PO X (some (.UnaryOp .USub (.Constant (.int 1) k p1) p2)) (tPart (tUn (rU fun i => .int (-i)) (tC (.int 1)))) := po_some (pe_un un_neg pe_int)
  refine wpAny_Slice (thn (po_none.run pins s1 σ H1 (fun o H2 => o = none ∧ H2 = H1) I1 ⟨rfl, rfl⟩) fun vl s2 ⟨l, H2, I2, pl, el, e2⟩ => ?_)
  subst el e2
  refine thn (po_none.run pins s2 σ H2 (fun o H3 => o = none ∧ H3 = H2) I2 ⟨rfl, rfl⟩) fun vu s3 ⟨u, H3, I3, pu, eu, e3⟩ => ?_
  subst eu e3
  refine thn (hst.run pins s3 σ H3 (fun o H4 => o = some (-1) ∧ H4 = H3) I3 ⟨1, rfl, -1, rfl, rfl, rfl⟩) fun vz s4 ⟨o, H4, I4, pz, eo, e4⟩ => ?_
  subst eo e4
  have J : Inv X pins σ H4 { s4 with heap := s4.heap.push { cls := .type "slice", data := .fields #[vl, vu, vz] } } := I4.kept (t' := s4.toks) fun _ _ y => Heap.get?_push_of_some _ y
  rcases q1 with ⟨hx, q2⟩ | ⟨hx, q2⟩
  · obtain ⟨its, r, hL, hz⟩ := J.list hx
    have hn : its.length = vs.length := r.length.symm
    have fin : wpAny (model X.prog X.w) X.A (getItem (.ref a) (.ref s4.heap.objs.size)) (EP X pins σ Q) X.xe { s4 with heap := s4.heap.push { cls := .type "slice", data := .fields #[vl, vu, vz] } } := by
      refine wpAny_getItem_list_slice hL.isList (Heap.IsSliceOf.new _ vl vu vz) pl pu pz (by decide) ?_ (by rw [List.size_toArray, hn]; exact hz)
      have e : slicePick its.toArray none none (some (-1)) = (pickL its none none (some (-1))).toArray := by
        unfold slicePick pickL
        rw [List.size_toArray]
        simp only [List.getElem?_toArray]
      rw [e]
      refine ⟨.ref _, _, J.laid (t' := s4.toks) (o := .lst (pickL vs none none (some (-1)))) (fun _ _ y => Heap.get?_push_of_some _ y) (Nat.le_refl _) ?_, rfl, q2 _ (J.hok.fresh (Nat.le_refl _))⟩
      refine ⟨Nat.le_trans (pick_le vs none) hz, pickL its none none (some (-1)), 0, ?_, Heap.get?_push_size _ rfl⟩
      unfold pickL
      rw [hn]
      exact vals_pick r _
    exact tail_any (ops := [.ref a, .ref s4.heap.objs.size]) hL.isList.typeIs PySem.slot_list_getitem.lookup fin (by with_unfolding_all rfl)
  · obtain ⟨its, r, hT, hz⟩ := J.tuple hx
    have hn : its.length = vs.length := r.length.symm
    cases pl
    cases pu
    cases pz with
    | int _ tk =>
    have fin : wpAny (model X.prog X.w) X.A (getItem (.ref a) (.ref s4.heap.objs.size)) (EP X pins σ Q) X.xe { s4 with heap := s4.heap.push { cls := .type "slice", data := .fields #[.none, .none, .int (-1) tk] } } := by
      refine tup_back hT (Heap.IsSliceOf.new _ _ _ _) (by rw [List.size_toArray, hn]; exact hz) ?_
      refine ⟨.ref _, _, J.laid (t' := s4.toks) (o := .tup vs.reverse) (fun _ _ y => Heap.get?_push_of_some _ y) (Nat.le_refl _) ?_, rfl, q2 _ (J.hok.fresh (Nat.le_refl _))⟩
      exact ⟨by rw [List.length_reverse]; exact hz, _, vals_rev r, IsTup.new _ _⟩
    exact tail_any (ops := [.ref a, .ref s4.heap.objs.size]) hT.typeIs PyProof.Rows.slot_tuple_getitem.lookup fin (by with_unfolding_all rfl)
end
end Q

namespace Q
open PySem PySem.Spec PyProof.Rows L2
/-! ## more evaluation -/
def endM : Fl → M D
  | .nx _ => M.pure .non
  | .rt d => M.pure d
  | _ => M.fail
theorem ev_fnM {n : Nat} {f : Env → M Fl} {ds : List D} : fnM n f ds = M.bind (f (startE n ds)) endM := by
  funext w
  simp only [fnM, M.bind]
  cases f (startE n ds) w with
  | fail => rfl
  | exc c p w' => rfl
  | ok r w' => cases r <;> rfl
@[simp] theorem ev_endRt {d : D} : endM (.rt d) = M.pure d := rfl
@[simp] theorem ev_endNx {ρ : Env} : endM (.nx ρ) = M.pure .non := rfl
section
variable {α β γ : Type} {f g : Env → M Fl} {fa fb fc : Env → M D} {fr fk : Env → M (List D)} {ga gb : Env → M Bool} {ρ : Env} {w : Wl} {i : Nat} {d e : D} {ds es : List D}
@[simp] theorem ev_vE' : vE i ρ = getV ρ i := rfl
@[simp] theorem ev_iE {n : Int} : iE n ρ = M.pure (.int n) := rfl
@[simp] theorem ev_sE {s : Str} : sE s ρ = M.pure (.str s) := rfl
@[simp] theorem ev_bE {b : Bool} : bE b ρ = M.pure (.bl b) := rfl
@[simp] theorem ev_noE : noE ρ = M.pure .non := rfl
@[simp] theorem ev_npE : npE ρ = M.pure none := rfl
@[simp] theorem ev_isiE {t : Ty} : isiE t fa ρ = M.bind (fa ρ) fun d => M.bind (optM (tyD d)) fun u => M.pure (.bl (u.is t)) := rfl
@[simp] theorem ev_yesT : yesT ρ = M.pure true := rfl
@[simp] theorem ev_mpE {k : D → M D} : mpE fa k ρ = M.bind (fa ρ) k := rfl
@[simp] theorem ev_ngE : ngE fa ρ = M.bind (fa ρ) negD := rfl
@[simp] theorem ev_chainE {op op' : D → D → M D} : chainE op op' fa fb fc ρ = M.bind (fa ρ) fun x => M.bind (fb ρ) fun y => M.bind (op x y) fun z => M.bind (asB z) fun k => if k = true then M.bind (fc ρ) fun u => op' y u else M.pure (.bl false) := by
  rfl
theorem ev_lcE {vs : List Nat} {h : D → Env → M Env} : lcE vs fr h ga fa ρ = M.bind (fr ρ) fun items => if items.length ≤ sizeLine then M.bind (lcL h ga fa (wipeE ρ vs) items) fun ys => M.pure (.lst ys) else M.fail := rfl
@[simp] theorem ev_callPE {i m : Nat} {k : List D → M D} : callPE i m k fr ρ = M.bind (getV ρ i) fun d => M.bind (isFn d) fun _ => M.bind (fr ρ) fun ds => if ds.length = m then k ds else M.fail := rfl
@[simp] theorem ev_isFn : isFn (.fn 0) = M.pure () := rfl
@[simp] theorem ev_itT {xs : List D} : itemsD (.tup xs) = M.pure xs := rfl
@[simp] theorem ev_itL {xs : List D} : itemsD (.lst xs) = M.pure xs := rfl
@[simp] theorem ev_itS {s : Str} : itemsD (.str s) = M.pure (s.cps.toList.map chr1) := rfl
@[simp] theorem ev_enT {xs : List D} : enumD [.tup xs] = M.pure (enumL xs) := rfl
@[simp] theorem ev_bindIf {c : Prop} [Decidable c] {a b : M α} {k : α → M β} : M.bind (if c then a else b) k = if c then M.bind a k else M.bind b k := by
  by_cases h : c
  · rw [if_pos h, if_pos h]
  · rw [if_neg h, if_neg h]
theorem ev_lenStr {s : Str} (h : s.length ≤ sizeLine) : lenD [.str s] = M.pure (.int (s.length : Nat)) := if_pos h
theorem noX_ok {m : M α} {a : α} (h : m = M.pure a) : noX m = M.pure a := by rw [h]; rfl
/-- a comprehension that draws nothing -/
theorem lcL_pure {i : Nat} {T : D → Bool} {F : D → D} : ∀ {items : List D}, (∀ d ∈ items, ga (ρ.set i (some d)) = M.pure (T d)) → (∀ d ∈ items, T d = true → fa (ρ.set i (some d)) = M.pure (F d)) → lcL (gNm i) ga fa ρ items = M.pure ((items.filter T).map F)
  | [], _, _ => rfl
  | d :: items, h1, h2 => by
    have ih := lcL_pure (items := items) (fun x hx => h1 x (List.mem_cons_of_mem _ hx)) (fun x hx => h2 x (List.mem_cons_of_mem _ hx))
    unfold lcL
    rw [ev_gNm, ev_noX_pure, ev_pure_bind, h1 d List.mem_cons_self, ev_noX_pure, ev_pure_bind, ih]
    by_cases t : T d = true
    · rw [if_pos t, h2 d List.mem_cons_self t, List.filter_cons_of_pos t]
      rfl
    · rw [if_neg t, List.filter_cons_of_neg t]
theorem lcE_pure {vs : List Nat} {i : Nat} {items : List D} {T : D → Bool} {F : D → D} (hi : fr ρ = M.pure items) (hz : items.length ≤ sizeLine) (h1 : ∀ d ∈ items, ga ((wipeE ρ vs).set i (some d)) = M.pure (T d)) (h2 : ∀ d ∈ items, T d = true → fa ((wipeE ρ vs).set i (some d)) = M.pure (F d)) :
    lcE vs fr (gNm i) ga fa ρ = M.pure (.lst ((items.filter T).map F)) := by
  rw [ev_lcE, hi, ev_pure_bind, if_pos hz, lcL_pure h1 h2]
  rfl
/-- a comprehension that may draw -/
theorem lcL_run {i : Nat} {I : Wl → Prop} {J : D → Prop} : ∀ {items : List D} {w : Wl}, I w → (∀ d ∈ items, ∀ w, I w → Run (fa (ρ.set i (some d))) w fun x w' => J x ∧ I w') → Run (lcL (gNm i) yesT fa ρ items) w fun xs w' => xs.length = items.length ∧ (∀ x ∈ xs, J x) ∧ I w'
  | [], w, hw, _ => ⟨[], w, rfl, rfl, (fun _ h => nomatch h), hw⟩
  | d :: items, w, hw, h => by
    obtain ⟨x, w1, e1, j, hw1⟩ := h d List.mem_cons_self w hw
    obtain ⟨xs, w2, e2, l, js, hw2⟩ := lcL_run (items := items) hw1 fun y hy => h y (List.mem_cons_of_mem _ hy)
    refine ⟨x :: xs, w2, ?_, by simp [l], fun y hy => ?_, hw2⟩
    · unfold lcL
      rw [ev_gNm, ev_noX_pure, ev_pure_bind, ev_yesT, ev_noX_pure, ev_pure_bind, if_pos rfl]
      simp only [M.bind, noX, e1, e2, M.pure]
    · rcases List.mem_cons.mp hy with z | z
      · rw [z]; exact j
      · exact js y z
theorem lcE_run {vs : List Nat} {i : Nat} {items : List D} {I : Wl → Prop} {J : D → Prop} (hi : fr ρ = M.pure items) (hz : items.length ≤ sizeLine) (hw : I w) (h : ∀ d ∈ items, ∀ w, I w → Run (fa ((wipeE ρ vs).set i (some d))) w fun x w' => J x ∧ I w') :
    Run (lcE vs fr (gNm i) yesT fa ρ) w fun d w' => ∃ xs, d = .lst xs ∧ xs.length = items.length ∧ (∀ x ∈ xs, J x) ∧ I w' := by
  rw [ev_lcE, hi, ev_pure_bind, if_pos hz]
  exact Run.bind (lcL_run hw h) fun xs w' ⟨l, j, hw'⟩ => ⟨_, w', rfl, xs, rfl, l, j, hw'⟩
/-- a for that ends each turn by going on -/
theorem forL_run {h : D → Env → M Env} {I : Env → Wl → Prop} : ∀ {items : List D} {ρ : Env} {w : Wl}, I ρ w → (∀ d ∈ items, ∀ ρ w, I ρ w → Run (noX (h d ρ)) w fun ρ1 w1 => Run (f ρ1) w1 fun r w2 => ∃ ρ2, r = .nx ρ2 ∧ I ρ2 w2) →
    Run (forL h f items ρ) w fun r w' => ∃ ρ', r = .nx ρ' ∧ I ρ' w'
  | [], ρ, w, hi, _ => ⟨.nx ρ, w, rfl, ρ, rfl, hi⟩
  | d :: items, ρ, w, hi, step => by
    rw [ev_forCons]
    refine Run.bind (step d List.mem_cons_self ρ w hi) fun ρ1 w1 h1 => Run.bind h1 fun r w2 ⟨ρ2, e, h2⟩ => ?_
    subst e
    exact forL_run h2 fun y hy => step y (List.mem_cons_of_mem _ hy)
end
theorem blsD_map' (xs : List D) (g : D → Bool) : blsD (xs.map fun d => D.bl (g d)) = some (xs.map g) := by
  have : (xs.map fun d => D.bl (g d)) = (xs.map g).map D.bl := by rw [List.map_map]; rfl
  rw [this, blsD_map]
theorem ev_all {xs : List D} {g : D → Bool} : allD [.lst (xs.map fun d => D.bl (g d))] = M.pure (.bl (xs.all g)) := by
  show (match blsD (xs.map fun d => D.bl (g d)) with
    | some ns => M.pure (D.bl (ns.all id))
    | none => M.fail) = _
  rw [blsD_map']
  simp [List.all_map]
/-! ## types -/
section
variable {b : Bool} {i : Int} {s : Str} {xs : List D}
@[simp] theorem ty_non : tyD (.non) = some .non := rfl
@[simp] theorem ty_bl : tyD (.bl b) = some .bl := rfl
@[simp] theorem ty_int : tyD (.int i) = some .int := rfl
@[simp] theorem ty_str : tyD (.str s) = some .str := rfl
@[simp] theorem ty_tup : tyD (.tup xs) = some .tup := rfl
@[simp] theorem ty_lst : tyD (.lst xs) = some .lst := rfl
@[simp] theorem is_non_int : Ty.is .non .int = false := rfl
@[simp] theorem is_non_bl : Ty.is .non .bl = false := rfl
@[simp] theorem is_non_str : Ty.is .non .str = false := rfl
@[simp] theorem is_non_tup : Ty.is .non .tup = false := rfl
@[simp] theorem is_non_lst : Ty.is .non .lst = false := rfl
@[simp] theorem is_bl_int : Ty.is .bl .int = true := rfl
@[simp] theorem is_bl_bl : Ty.is .bl .bl = true := rfl
@[simp] theorem is_bl_str : Ty.is .bl .str = false := rfl
@[simp] theorem is_bl_tup : Ty.is .bl .tup = false := rfl
@[simp] theorem is_bl_lst : Ty.is .bl .lst = false := rfl
@[simp] theorem is_int_int : Ty.is .int .int = true := rfl
@[simp] theorem is_int_bl : Ty.is .int .bl = false := rfl
@[simp] theorem is_int_str : Ty.is .int .str = false := rfl
@[simp] theorem is_int_tup : Ty.is .int .tup = false := rfl
@[simp] theorem is_int_lst : Ty.is .int .lst = false := rfl
@[simp] theorem is_str_int : Ty.is .str .int = false := rfl
@[simp] theorem is_str_bl : Ty.is .str .bl = false := rfl
@[simp] theorem is_str_str : Ty.is .str .str = true := rfl
@[simp] theorem is_str_tup : Ty.is .str .tup = false := rfl
@[simp] theorem is_str_lst : Ty.is .str .lst = false := rfl
@[simp] theorem is_tup_int : Ty.is .tup .int = false := rfl
@[simp] theorem is_tup_bl : Ty.is .tup .bl = false := rfl
@[simp] theorem is_tup_str : Ty.is .tup .str = false := rfl
@[simp] theorem is_tup_tup : Ty.is .tup .tup = true := rfl
@[simp] theorem is_tup_lst : Ty.is .tup .lst = false := rfl
@[simp] theorem is_lst_int : Ty.is .lst .int = false := rfl
@[simp] theorem is_lst_bl : Ty.is .lst .bl = false := rfl
@[simp] theorem is_lst_str : Ty.is .lst .str = false := rfl
@[simp] theorem is_lst_tup : Ty.is .lst .tup = false := rfl
@[simp] theorem is_lst_lst : Ty.is .lst .lst = true := rfl
end
/-! ## plain values -/
inductive Pl (L : Nat) : Nat → D → Prop
  | non {n : Nat} : Pl L n .non
  | bl {n : Nat} (b : Bool) : Pl L n (.bl b)
  | int {n : Nat} (i : Int) : Pl L n (.int i)
  | str {n : Nat} {s : Str} : s.length ≤ 100 → PyData.strOk s = true → Pl L n (.str s)
  | tup {n : Nat} {ds : List D} : ds.length ≤ L → (∀ d ∈ ds, Pl L n d) → Pl L (n + 1) (.tup ds)
  | lst {n : Nat} {ds : List D} : ds.length ≤ L → (∀ d ∈ ds, Pl L n d) → Pl L (n + 1) (.lst ds)
theorem Pl.up {L M n m : Nat} {d : D} (h : Pl L n d) : L ≤ M → n ≤ m → Pl M m d := by
  induction h generalizing m with
  | non => intros; exact .non
  | bl b => intros; exact .bl b
  | int i => intros; exact .int i
  | str h k => intros; exact .str h k
  | tup h _ ih =>
    intro a b
    cases m with
    | zero => omega
    | succ m => exact .tup (Nat.le_trans h a) fun d hd => ih d hd a (by omega)
  | lst h _ ih =>
    intro a b
    cases m with
    | zero => omega
    | succ m => exact .lst (Nat.le_trans h a) fun d hd => ih d hd a (by omega)
theorem pyOkL_of : ∀ {ds : List D}, (∀ d ∈ ds, d.pyOk = true) → D.pyOkL ds = true
  | [], _ => by simp only [D.pyOkL]
  | d :: ds, h => by
    simp only [D.pyOkL, h d List.mem_cons_self, pyOkL_of fun x hx => h x (List.mem_cons_of_mem _ hx), Bool.and_self]
theorem nofnL_of : ∀ {ds : List D}, (∀ d ∈ ds, d.nofn = true) → D.nofnL ds = true
  | [], _ => by simp only [D.nofnL]
  | d :: ds, h => by
    simp only [D.nofnL, h d List.mem_cons_self, nofnL_of fun x hx => h x (List.mem_cons_of_mem _ hx), Bool.and_self]
theorem layL_of : ∀ {ds : List D}, (∀ d ∈ ds, d.py.canLay0 = true) → PyData.canLayAll0 (D.pyL ds) = true
  | [], _ => by simp only [D.pyL, PyData.canLayAll0]
  | d :: ds, h => by
    simp only [D.pyL, PyData.canLayAll0, h d List.mem_cons_self, layL_of fun x hx => h x (List.mem_cons_of_mem _ hx), Bool.and_self]
theorem Pl.pyOk {L n : Nat} {d : D} (h : Pl L n d) : d.pyOk = true := by
  induction h with
  | tup h k ih => simp only [D.pyOk]; exact pyOkL_of ih
  | lst h k ih => simp only [D.pyOk]; exact pyOkL_of ih
  | _ => simp only [D.pyOk]
theorem Pl.nofn {L n : Nat} {d : D} (h : Pl L n d) : d.nofn = true := by
  induction h with
  | tup h k ih => simp only [D.nofn]; exact nofnL_of ih
  | lst h k ih => simp only [D.nofn]; exact nofnL_of ih
  | _ => simp only [D.nofn]
theorem Pl.lay {L n : Nat} {d : D} (h : Pl L n d) : d.py.canLay0 = true := by
  induction h with
  | tup h k ih => simp only [D.py, PyData.canLay0]; exact layL_of ih
  | lst h k ih => simp only [D.py, PyData.canLay0]; exact layL_of ih
  | str h k => simp only [D.py, PyData.canLay0]; exact k
  | _ => simp only [D.py, PyData.canLay0]
theorem depL_of {n : Nat} : ∀ {ds : List D}, (∀ d ∈ ds, d.py.depth ≤ n) → PyData.depthAll (D.pyL ds) ≤ n
  | [], _ => by simp only [D.pyL, PyData.depthAll]; exact Nat.zero_le _
  | d :: ds, h => by
    simp only [D.pyL, PyData.depthAll]
    exact Nat.max_le.mpr ⟨h d List.mem_cons_self, depL_of fun x hx => h x (List.mem_cons_of_mem _ hx)⟩
theorem Pl.dep {L n : Nat} {d : D} (h : Pl L n d) : d.py.depth ≤ n := by
  induction h with
  | tup h k ih => simp only [D.py, PyData.depth]; exact Nat.succ_le_succ (depL_of ih)
  | lst h k ih => simp only [D.py, PyData.depth]; exact Nat.succ_le_succ (depL_of ih)
  | _ => simp only [D.py, PyData.depth]; exact Nat.zero_le _
theorem Pl.sh {L n : Nat} {d : D} (h : Pl L n d) (hn : n ≤ 64) : shOk d = true := by
  unfold shOk SeqAt.shaped
  rw [h.pyOk, h.lay, decide_eq_true (Nat.le_trans h.dep hn)]
  rfl
theorem Pl.ty {L n : Nat} {d : D} (h : Pl L n d) : ∃ t, tyD d = some t := by
  cases h <;> exact ⟨_, rfl⟩
/-- comparing values that are no texts -/
theorem ev_ne {d e : D} (hd : shOk d = true) (he : shOk e = true) (h : ∀ a, d ≠ .str a) : neD d e = M.pure (.bl (!eqvD d e)) := by
  rcases str_or d e with ⟨a, b, e1, _⟩ | ⟨_, q⟩
  · exact absurd e1 (h a)
  · rw [q, if_pos ⟨hd, he⟩]
theorem ev_eq {d e : D} (hd : shOk d = true) (he : shOk e = true) (h : ∀ a, d ≠ .str a) : eqD d e = M.pure (.bl (eqvD d e)) := by
  rcases str_or d e with ⟨a, b, e1, _⟩ | ⟨q, _⟩
  · exact absurd e1 (h a)
  · rw [q, if_pos ⟨hd, he⟩]
theorem eqv_nilT {xs : List D} : eqvD (.tup xs) (.tup []) = xs.isEmpty := by
  cases xs <;> rfl
theorem eqv_nilL {xs : List D} : eqvD (.lst xs) (.lst []) = xs.isEmpty := by
  cases xs <;> rfl
theorem eqv_strs : ∀ {xs ys : List Str}, PyData.eqvAll (D.pyL (xs.map D.str)) (D.pyL (ys.map D.str)) = decide (xs = ys)
  | [], [] => rfl
  | [], y :: ys => rfl
  | x :: xs, [] => rfl
  | x :: xs, y :: ys => by
    show ((x == y) && PyData.eqvAll (D.pyL (xs.map D.str)) (D.pyL (ys.map D.str))) = _
    rw [eqv_strs]
    by_cases h : x = y
    · subst h; simp
    · have : (x == y) = false := beq_eq_false_iff_ne.mpr h
      rw [this]
      simp [h]
theorem eqv_strL {xs ys : List Str} : eqvD (.lst (xs.map D.str)) (.lst (ys.map D.str)) = decide (xs = ys) := eqv_strs
end Q

namespace Q
open PySem PySem.Spec PyProof.Rows L2
/-! ## the law's well -/
def drawF : List D → M D := fnM 4 (seqS (ifS' (tst (bin2 gtD (bin2 ixX (vE 0) (iE 0)) (iE 0))) (seqS (asgS (argE divmodD (consA (bin2 ixX (vE 0) (iE 0)) (consA (vE 1) nilA))) (gTup 2 (gCons (gPutW 0 (iE 0)) (gCons (gNm 3) gNil))))
  (retS (vE 3))) nilS)
  (seqS (putWS 0 (bin2 addD (bin2 ixX (vE 0) (iE 2)) (iE 1)) (iE 2))
  (seqS (setKS 2 (bin2 modD (argE intD (consA (bin2 addD (bin2 mulD (bin2 ixX (vE 0) (iE 1)) (iE 40009)) (bin2 mulD (iE 15013) (bin2 ixX (vE 0) (iE 2)))) nilA)) (iE 2147483629)))
  (seqS (putWS 0 (bin2 modD (argE intD (consA (bin2 addD (bin2 mulD (vE 2) (bin2 addD (bin2 modD (argE intD (consA (vE 2) nilA)) (iE 5003)) (iE 20011))) (bin2 ixX (vE 0) (iE 2))) nilA)) (iE 2147483629)) (iE 1))
  (retS (bin2 modD (argE intD (consA (bin2 divD (bin2 ixX (vE 0) (iE 1)) (iE 1031)) nilA)) (vE 1)))))))
def ofG : List D → M D := fnM 2 (retS (bin2 ixX (vE 1) (argN 2 drawF (consA (vE 0) (consA (argE lenD (consA (vE 1) nilA)) nilA)))))
def unlikeF : List D → M D := fnM 5 (seqS (setS 3 (argE listA (consA (vE 1) nilA)))
  (seqS (forS (argE rng1D (consA (bin2 subD (argE lenD (consA (vE 1) nilA)) (vE 2)) nilA)) (gNm 4) (mutS 3 popAtM (consA (argN 2 drawF (consA (vE 0) (consA (mpE (vE 3) lenM) nilA))) nilA)))
  (retS (vE 3))))
def wordsF : List D → M D := fnM 1 (seqS (setS 0 (lstE (consA (sE "add") (consA (sE "ahead") (consA (sE "all") (consA (sE "at") (consA (sE "behind") (consA (sE "book") (consA (sE "by") (consA (sE "close") (consA (sE "drop") (consA (sE "end") (consA (sE "ends") (consA (sE "flight") nilA))))))))))))))
  (seqS (setS 0 (bin2 addD (vE 0) (lstE (consA (sE "from") (consA (sE "kinds") (consA (sE "land") (consA (sE "late") (consA (sE "least") (consA (sE "move") (consA (sE "none") (consA (sE "of") (consA (sE "open") (consA (sE "row") (consA (sE "show") nilA))))))))))))))
  (seqS (setS 0 (bin2 addD (vE 0) (lstE (consA (sE "time") (consA (sE "times") (consA (sE "to") (consA (sE "with") nilA)))))))
  (retS (vE 0)))))
def namesF : List D → M D := fnM 7 (seqS (parS2 3 4 (consA (lstE nilA) (consA (sE "abcdefghijklmnopqrstuvwxyz") nilA)))
  (seqS (forS (itE (argN 3 unlikeF (consA (vE 0) (consA (slE (vE 4) npE (partE (iE 25))) (consA (vE 1) nilA))))) (gNm 2) (seqS (setS 5 (vE 2))
  (seqS (forS (argE rng1D (consA (argN 2 ofG (consA (vE 0) (consA (tupE (consA (iE 0) (consA (iE 0) (consA (iE 1) (consA (iE 2) (consA (iE 4) (consA (iE 7) nilA))))))) nilA))) nilA)) (gNm 6) (setS 5 (bin2 addD (vE 5) (bin2 ixX (vE 4) (argN 2 drawF (consA (vE 0) (consA (iE 26) nilA)))))))
  (mutS 3 appM (consA (ifE (tst (bin2 (inM false) (vE 5) (fun _ => wordsF []))) (bin2 addD (slE (vE 5) npE (partE (iE 7))) (sE "q")) (vE 5)) nilA)))))
  (retS (vE 3))))
def tableF : List D → M D := fnM 10 (seqS (setKS 3 (bin2 addD (iE 1) (argN 2 drawF (consA (vE 0) (consA (vE 2) nilA)))))
  (seqS (setKS 4 (bin2 eqD (argN 2 drawF (consA (vE 0) (consA (iE 3) nilA))) (iE 0)))
  (seqS (setS 5 (lstE nilA))
  (seqS (forS (argE rng1D (consA (vE 1) nilA)) (gNm 6) (seqS (setS 7 (lcE [8] (argE rng1D (consA (vE 1) nilA)) (gNm 8) yesT (bin2 addD (iE 1) (argN 2 drawF (consA (vE 0) (consA (vE 2) nilA))))))
  (mutS 5 appM (consA (argE tupleD (consA (lcE [9] (itE (vE 7)) (gNm 9) yesT (ifE (orT (notT (truT (vE 4))) (tst (bin2 eqD (argN 2 drawF (consA (vE 0) (consA (iE 3) nilA))) (iE 0)))) (vE 9) (vE 3))) nilA)) nilA))))
  (retS (argE tupleD (consA (vE 5) nilA)))))))
def bookF : List D → M D := fnM 4 (seqS (setS 3 (argE tupleD (consA (argN 2 namesF (consA (vE 0) (consA (bin2 addD (iE 1) (argE maxD (consA (argN 2 drawF (consA (vE 0) (consA (vE 1) nilA))) (consA (argN 2 drawF (consA (vE 0) (consA (vE 1) nilA))) nilA)))) nilA))) nilA)))
  (retS (tupE (consA (vE 3) (consA (argN 3 tableF (consA (vE 0) (consA (argE lenD (consA (vE 3) nilA)) (consA (vE 2) nilA)))) nilA)))))
def isF2 : List D → M D := fnM 2 (retS (bin2 eqD (argE reprD (consA (vE 0) nilA)) (argE reprD (consA (vE 1) nilA))))
def wellF (k : Int) : List D → M D := fnN 5 (seqN (setKS 2 (bin2 addD (iE k) (bin2 mulD (iE 5231) (vE 1))))
  (seqN (forS (itE (slE (vE 0) npE (partE (iE 9)))) (gNm 3) (setKS 2 (bin2 modD (argE intD (consA (bin2 addD (bin2 addD (bin2 mulD (vE 2) (iE 47521)) (bin2 modD (argE intD (consA (vE 3) nilA)) (iE 2147483549))) (iE 41)) nilA)) (iE 2147483629))))
  (seqN (setS 4 (ifE (tst (bin2 ltD (vE 1) (argE lenD (consA (vE 0) nilA)))) (argE intD (consA (bin2 ixX (vE 0) (vE 1)) nilA)) (iE 0)))
  (seqN (setKS 2 (bin2 modD (argE intD (consA (bin2 addD (bin2 addD (bin2 mulD (vE 2) (iE 61)) (bin2 mulD (bin2 modD (argE intD (consA (vE 4) nilA)) (iE 2147483549)) (iE 16007))) (iE 17)) nilA)) (iE 2147483629)))
  (retS (lstE (consA (ifE (orT (tst (bin2 ltD (vE 4) (iE 0))) (tst (bin2 geD (vE 4) (bin2 powD (iE 10) (iE 15))))) (argE absD (consA (vE 4) nilA)) (iE 0)) (consA (vE 2) (consA (iE 0) nilA)))))))))
theorem drawF_ok {w : Wl} {n : Int} (hw : Good w) (h0 : 0 < n) (h1 : n < 1073741824) : Run (drawF [.well, .int n]) w fun d w' => ∃ r : Int, d = .int r ∧ 0 ≤ r ∧ r < n ∧ Good w' := by
  obtain ⟨a, b, c, rfl⟩ := hw
  by_cases ha : 0 < a
  · refine fnM_run ⟨.rt (.int (a % n)), [a / n, b, c], ?_, _, rfl, Int.emod_nonneg _ (by omega), Int.emod_lt_of_pos _ h0, _, _, _, rfl⟩
    simp [h0, h1, ha]
  · have q1 : ∀ x : Int, -18446744073709551616 < x % 2147483629 := fun x => by have := Int.emod_nonneg x (b := 2147483629) (by decide); omega
    have q2 : ∀ x : Int, x % 2147483629 < 18446744073709551616 := fun x => by have := Int.emod_lt_of_pos x (b := 2147483629) (by decide); omega
    have e : ∃ (m : Int) (b' : Int), (seqS (ifS' (tst (bin2 gtD (bin2 ixX (vE 0) (iE 0)) (iE 0))) (seqS (asgS (argE divmodD (consA (bin2 ixX (vE 0) (iE 0)) (consA (vE 1) nilA))) (gTup 2 (gCons (gPutW 0 (iE 0)) (gCons (gNm 3) gNil)))) (retS (vE 3))) nilS)
      (seqS (putWS 0 (bin2 addD (bin2 ixX (vE 0) (iE 2)) (iE 1)) (iE 2))
      (seqS (setKS 2 (bin2 modD (argE intD (consA (bin2 addD (bin2 mulD (bin2 ixX (vE 0) (iE 1)) (iE 40009)) (bin2 mulD (iE 15013) (bin2 ixX (vE 0) (iE 2)))) nilA)) (iE 2147483629)))
      (seqS (putWS 0 (bin2 modD (argE intD (consA (bin2 addD (bin2 mulD (vE 2) (bin2 addD (bin2 modD (argE intD (consA (vE 2) nilA)) (iE 5003)) (iE 20011))) (bin2 ixX (vE 0) (iE 2))) nilA)) (iE 2147483629)) (iE 1))
      (retS (bin2 modD (argE intD (consA (bin2 divD (bin2 ixX (vE 0) (iE 1)) (iE 1031)) nilA)) (vE 1))))))) (startE 4 [.well, .int n]) [a, b, c] = .ok (.rt (.int (m % n))) [a, b', c + 1] := by
      simp [h0, h1, ha, q1, q2]
      exact ⟨_, rfl⟩
    obtain ⟨m, b', e⟩ := e
    exact fnM_run ⟨_, _, e, _, rfl, Int.emod_nonneg _ (by omega), Int.emod_lt_of_pos _ h0, _, _, _, rfl⟩
theorem ofG_ok {w : Wl} {xs : List D} {d0 : D} (hd : d0 = .lst xs ∨ d0 = .tup xs) (hw : Good w) (h0 : xs ≠ []) (h1 : xs.length < 1073741824) : Run (ofG [.well, d0]) w fun d w' => d ∈ xs ∧ Good w' := by
  refine fnM_run ?_
  have hl : 0 < xs.length := List.length_pos_iff.mpr h0
  have en : lenD [d0] = M.pure (.int (xs.length : Nat)) := by rcases hd with rfl | rfl <;> rfl
  have at' : ∀ r : Int, 0 ≤ r → r < xs.length → ∃ d, d ∈ xs ∧ ixX d0 (.int r) = M.pure d := fun r r0 r1 => by
    refine ⟨xs[r.toNat]'(by omega), List.getElem_mem _, ?_⟩
    rcases hd with rfl | rfl
    · exact ev_ixL r0 r1
    · exact ev_ixT r0 r1
  simp [en]
  refine Run.bind (drawF_ok hw (n := (xs.length : Nat)) (by omega) (by omega)) fun a w2 ⟨r, e, r0, r1, g⟩ => ?_
  subst e
  obtain ⟨d, hd, q⟩ := at' r r0 r1
  simp only [q]
  exact ⟨_, w2, rfl, hd, g⟩
/-- a for, by how many turns are left -/
theorem forL_runN {f : Env → M Fl} {h : D → Env → M Env} {I : Nat → Env → Wl → Prop} : ∀ {items : List D} {ρ : Env} {w : Wl}, I items.length ρ w → (∀ n, ∀ d ∈ items, ∀ ρ w, I (n + 1) ρ w → Run (noX (h d ρ)) w fun ρ1 w1 => Run (f ρ1) w1 fun r w2 => ∃ ρ2, r = .nx ρ2 ∧ I n ρ2 w2) →
    Run (forL h f items ρ) w fun r w' => ∃ ρ', r = .nx ρ' ∧ I 0 ρ' w'
  | [], ρ, w, hi, _ => ⟨.nx ρ, w, rfl, ρ, rfl, hi⟩
  | d :: items, ρ, w, hi, step => by
    rw [ev_forCons]
    refine Run.bind (step _ d List.mem_cons_self ρ w hi) fun ρ1 w1 h1 => Run.bind h1 fun r w2 ⟨ρ2, e, h2⟩ => ?_
    subst e
    exact forL_runN h2 fun n y hy => step n y (List.mem_cons_of_mem _ hy)
theorem run_pure {α : Type} {m : M α} {a : α} {w : Wl} {P : α → Wl → Prop} (e : m = M.pure a) (h : P a w) : Run m w P := ⟨a, w, by rw [e]; rfl, h⟩
theorem ev_popAt {xs : List D} {r : Int} (h0 : 0 ≤ r) (h1 : r < xs.length) (h2 : xs.length < 1000000) : popAtM xs [.int r] = M.pure (xs.eraseIdx r.toNat) := by
  have e : seqIndex? r xs.length = some r.toNat := by
    unfold seqIndex?
    simp [show ¬ r < 0 by omega, h0, h1]
  show (if -(2 ^ 63) ≤ r ∧ r < 2 ^ 63 then (match seqIndex? r xs.length with
    | some k => if k < xs.length then M.pure (xs.eraseIdx k) else M.fail
    | none => M.fail) else M.fail) = _
  rw [if_pos ⟨by omega, by omega⟩, e]
  dsimp only
  rw [if_pos (by omega)]
theorem ev_app {xs : List D} {y : D} (h : xs.length < 1000000) : appM xs [y] = M.pure (xs ++ [y]) := if_pos (by rw [sizeLine_eq]; omega)
def SgIn (s : Str) (d : D) : Prop := ∃ c ∈ s.cps.toList, d = chr1 c
theorem unlikeF_ok {w : Wl} {s : Str} {many : Nat} (hw : Good w) (h0 : 0 < many) (h1 : many ≤ s.length) (h2 : s.length ≤ 1000) :
    Run (unlikeF [.well, .str s, .int (many : Nat)]) w fun d w' => ∃ xs : List D, d = .lst xs ∧ xs.length = many ∧ (∀ x ∈ xs, SgIn s x) ∧ Good w' := by
  refine fnM_run ?_
  have hs : s.length ≤ sizeLine := by rw [sizeLine_eq]; omega
  have eA : listA [.str s] = M.pure (.lst (s.cps.toList.map chr1)) := if_pos hs
  have er : rng1D [.int (((s.length : Nat) : Int) - ((many : Nat) : Int))] = M.pure ((List.range (s.length - many)).map fun i => D.int (0 + (i : Nat))) := by
    rw [show ((s.length : Nat) : Int) - ((many : Nat) : Int) = ((s.length - many : Nat) : Int) by omega]
    exact rng1_nat _ (by omega)
  simp [eA, ev_lenStr hs, er]
  refine Run.bind (forL_runN (I := fun n ρ w => ∃ (xs : List D) (x4 : Option D), ρ = [some .well, some (.str s), some (.int (many : Nat)), some (.lst xs), x4] ∧ (xs.length = many + n ∧ xs.length ≤ 1000) ∧ (∀ x ∈ xs, SgIn s x) ∧ Good w) ?_ ?_) fun r w' ⟨ρ', e, xs, x4, e2, l, m, g⟩ => ?_
  · refine ⟨_, _, rfl, ?_, fun x hx => ?_, hw⟩
    · simp only [List.length_map, List.length_range, Array.length_toList]
      have : s.cps.size = s.length := rfl
      omega
    · obtain ⟨c, hc, rfl⟩ := List.mem_map.mp hx
      exact ⟨c, hc, rfl⟩
  · rintro n d hd ρ w ⟨xs, x4, rfl, l, m, g⟩
    refine run_pure (a := [some .well, some (.str s), some (.int (many : Nat)), some (.lst xs), some d]) rfl ?_
    conv => arg 1; simp [lenM]
    refine Run.bind (drawF_ok g (n := (xs.length : Nat)) (by omega) (by omega)) fun a w2 ⟨r, e, r0, r1, g2⟩ => ?_
    subst e
    conv => arg 1; simp [ev_popAt r0 r1 (by omega)]
    exact ⟨_, w2, rfl, _, rfl, _, _, rfl, by rw [List.length_eraseIdx_of_lt (by omega)]; omega, fun x hx => m x (List.mem_of_mem_eraseIdx hx), g2⟩
  · subst e e2
    exact ⟨_, w', rfl, _, rfl, by simpa using l.1, m, g⟩
end Q

namespace Q
open PySem PySem.Spec PyProof.Rows L2
/-! ## drawn names -/
def LETS : Str := "abcdefghijklmnopqrstuvwxyz"
def wordsL : List Str := ["add", "ahead", "all", "at", "behind", "book", "by", "close", "drop", "end", "ends", "flight", "from", "kinds", "land", "late", "least", "move", "none", "of", "open", "row", "show", "time", "times", "to", "with"]
def inLet (s : Str) : Prop := ∀ c ∈ s.cps.toList, c ∈ LETS.cps.toList
theorem let_small : ∀ c ∈ LETS.cps.toList, c < 0x110000 := by decide +kernel
theorem inLet.ok {s : Str} (h : inLet s) : PyData.strOk s = true := by
  unfold PyData.strOk
  rw [← Array.all_toList]
  exact List.all_eq_true.mpr fun c hc => decide_eq_true (let_small c (h c hc))
theorem inLet.app {s t : Str} (h : inLet s) (k : inLet t) : inLet (s ++ t) := fun c hc => by
  rw [PySem.Str.cps_append, Array.toList_append] at hc
  exact (List.mem_append.mp hc).elim (h c) (k c)
theorem words_ev : wordsF [] = M.pure (.lst (wordsL.map D.str)) := by
  unfold wordsF
  rw [ev_fnM]
  simp [mkLst, sizeLine_eq, addD]
  rfl
theorem words_sh : shOk (.lst (wordsL.map D.str)) = true := by decide +kernel
theorem any_strs (s : Str) : ∀ zs : List Str, (D.pyL (zs.map D.str)).any (fun z => PyData.eqv z (D.str s).py) = decide (s ∈ zs)
  | [] => rfl
  | z :: zs => by
    show (PyData.eqv (.str z) (.str s) || (D.pyL (zs.map D.str)).any (fun z => PyData.eqv z (D.str s).py)) = _
    rw [any_strs s zs]
    show ((z == s) || _) = _
    by_cases q : s = z
    · subst q; simp
    · have : (z == s) = false := beq_eq_false_iff_ne.mpr fun e => q e.symm
      rw [this]; simp [q]
theorem str_sh {s : Str} (h : PyData.strOk s = true) : shOk (.str s) = true := by
  unfold shOk SeqAt.shaped
  simp only [D.pyOk, D.py, PyData.canLay0, h, PyData.depth]
  rfl
theorem in_strL {neg : Bool} {s : Str} {zs : List Str} (h : PyData.strOk s = true) (hz : shOk (.lst (zs.map D.str)) = true) : inM neg (.str s) (.lst (zs.map D.str)) = M.pure (.bl (if neg = true then !decide (s ∈ zs) else decide (s ∈ zs))) := by
  have e : inP (.str s) (.lst (zs.map D.str)) = some (decide (s ∈ zs)) := by
    show (if shOk (.str s) = true ∧ shOk (.lst (zs.map D.str)) = true then some ((D.pyL (zs.map D.str)).any fun z => PyData.eqv z (D.str s).py) else none) = _
    rw [if_pos ⟨str_sh h, hz⟩, any_strs]
  unfold inM
  rw [e]; rfl
theorem word_q : ∀ s ∈ wordsL, addD (.str (cutS s none (some 7))) (.str "q") = M.pure (.str (cutS s none (some 7) ++ "q")) ∧ (cutS s none (some 7) ++ "q" : Str).length ≤ 8 ∧ ((cutS s none (some 7) ++ "q" : Str).cps.toList.all fun c => decide (c ∈ LETS.cps.toList)) = true ∧ (cutS s none (some 7) ++ "q" : Str) ∉ wordsL ∧ (cutS s none (some 7) ++ "q" : Str).cps.toList.head? = s.cps.toList.head? := by
  intro s hs
  refine ⟨?_, ?_⟩
  · show (if (cutS s none (some 7)).length + ("q" : Str).length ≤ sizeLine then M.pure (D.str (cutS s none (some 7) ++ "q")) else M.fail) = _
    refine if_pos ?_
    have : ∀ s ∈ wordsL, (cutS s none (some 7)).length + ("q" : Str).length ≤ 100 := by decide +kernel
    have := this s hs
    rw [sizeLine_eq]; omega
  · revert s
    decide +kernel
theorem chr1_let {c : Nat} (h : c ∈ LETS.cps.toList) : inLet ⟨#[c]⟩ := fun d hd => by
  have : d = c := by simpa using hd
  rw [this]; exact h
theorem ev_ixLet {r : Int} (h0 : 0 ≤ r) (h1 : r < 26) : ∃ c ∈ LETS.cps.toList, ixX (.str LETS) (.int r) = M.pure (chr1 c) := by
  have hl : r < LETS.cps.toList.length := h1
  refine ⟨LETS.cps.toList[r.toNat]'(by omega), List.getElem_mem _, ?_⟩
  show (if LETS.length ≤ sizeLine then (match L2.atI LETS.cps.toList r with | some c => M.pure (chr1 c) | none => M.fail) else M.fail) = _
  rw [if_pos (by rw [sizeLine_eq]; decide), atI_nat h0 hl]
/-- a name: one to eight letters, no word, beginning so -/
def NmOk (a : Nat) (s : Str) : Prop := 1 ≤ s.length ∧ s.length ≤ 8 ∧ inLet s ∧ s ∉ wordsL ∧ s.cps.toList.head? = some a
theorem addS {s t : Str} (h : s.length + t.length ≤ 1000) : addD (.str s) (.str t) = M.pure (.str (s ++ t)) := if_pos (by rw [sizeLine_eq]; omega)
theorem cutS_ev {s : Str} {lo hi : Option Int} (h : s.length ≤ 1000) : cutD (.str s) lo hi = M.pure (.str (cutS s lo hi)) := if_pos (by rw [sizeLine_eq]; omega)
theorem namesF_ok {w : Wl} {many : Nat} (hw : Good w) (h0 : 0 < many) (h1 : many ≤ 25) :
    Run (namesF [.well, .int (many : Nat)]) w fun d w' => ∃ xs : List Str, d = .lst (xs.map D.str) ∧ xs.length = many ∧ (∀ x ∈ xs, ∃ a, NmOk a x) ∧ Good w' := by
  refine fnM_run ?_
  have cutL25 : cutD (.str (Str.ofString "abcdefghijklmnopqrstuvwxyz")) none (some 25) = M.pure (.str (cutS LETS none (some 25))) := cutS_ev (by decide)
  conv => arg 1; simp [ev_mkLst, ev_mkTup, cutL25]
  refine Run.bind (unlikeF_ok hw h0 (s := cutS LETS none (some 25)) (by have : (cutS LETS none (some 25)).length = 25 := by decide +kernel
                                                                        omega) (by decide +kernel)) fun a w1 ⟨ls, e, ll, lo, g1⟩ => ?_
  subst e
  conv => arg 1; simp
  refine Run.bind (forL_runN (I := fun n ρ w => ∃ (xs : List Str) (x2 x5 x6 : Option D), ρ = [some .well, some (.int (many : Nat)), x2, some (.lst (xs.map D.str)), some (.str LETS), x5, x6] ∧ xs.length + n = many ∧ (∀ x ∈ xs, ∃ a, NmOk a x) ∧ Good w) ?_ ?_) fun r w' ⟨ρ', e, xs, x2, x5, x6, e2, l, m, g⟩ => ?_
  · exact ⟨[], none, none, none, rfl, by simpa using ll, (fun _ h => nomatch h), g1⟩
  · rintro n d hd ρ w ⟨xs, x2, x5, x6, rfl, l, m, g⟩
    obtain ⟨c, hc, rfl⟩ := lo d hd
    have cl : c ∈ LETS.cps.toList := by
      have : ∀ c ∈ (cutS LETS none (some 25)).cps.toList, c ∈ LETS.cps.toList := by decide +kernel
      exact this c hc
    refine run_pure (a := [some .well, some (.int (many : Nat)), some (chr1 c), some (.lst (xs.map D.str)), some (.str LETS), x5, x6]) rfl ?_
    conv => arg 1; simp [ev_mkTup]
    refine Run.bind (ofG_ok (.inr rfl) g (by simp) (by simp)) fun a w2 ⟨ha, g2⟩ => ?_
    have : ∃ k : Nat, a = .int (k : Nat) ∧ k ≤ 7 := by
      simp only [List.mem_cons, List.not_mem_nil, or_false] at ha
      rcases ha with rfl | rfl | rfl | rfl | rfl | rfl
      · exact ⟨0, rfl, by omega⟩
      · exact ⟨0, rfl, by omega⟩
      · exact ⟨1, rfl, by omega⟩
      · exact ⟨2, rfl, by omega⟩
      · exact ⟨4, rfl, by omega⟩
      · exact ⟨7, rfl, by omega⟩
    obtain ⟨k, rfl, hk⟩ := this
    conv => arg 1; simp [rng1_nat k (by omega)]
    refine Run.bind (forL_runN (I := fun n ρ w => ∃ (s : Str) (x6 : Option D), ρ = [some .well, some (.int (many : Nat)), some (chr1 c), some (.lst (xs.map D.str)), some (.str LETS), some (.str s), x6] ∧ (1 ≤ s.length ∧ s.length + n ≤ 8) ∧ inLet s ∧ s.cps.toList.head? = some c ∧ Good w) ?_ ?_) fun r w3 ⟨ρ', e, s, x6', e2, ⟨sl, sl2⟩, sm, sh, g3⟩ => ?_
    · refine ⟨⟨#[c]⟩, x6, rfl, ⟨Nat.le_refl _, ?_⟩, chr1_let cl, rfl, g2⟩
      rw [List.length_map, List.length_range]
      show 1 + k ≤ 8
      omega
    · rintro n d hd ρ w ⟨s, x6, rfl, ⟨sl, sl2⟩, sm, sh, g⟩
      refine run_pure (a := [some .well, some (.int (many : Nat)), some (chr1 c), some (.lst (xs.map D.str)), some (.str LETS), some (.str s), some d]) rfl ?_
      conv => arg 1; simp
      refine Run.bind (drawF_ok g (by omega) (by omega)) fun a w2 ⟨r, e, r0, r1, g2⟩ => ?_
      subst e
      obtain ⟨c2, hc2, q⟩ := ev_ixLet r0 r1
      have ad : addD (.str s) (chr1 c2) = M.pure (.str (s ++ ⟨#[c2]⟩)) := addS (by show s.length + 1 ≤ 1000; omega)
      conv => arg 1; simp [q, ad]
      have la : (s ++ (⟨#[c2]⟩ : Str)).length = s.length + 1 := PySem.Str.length_append _ _
      refine ⟨_, w2, rfl, _, rfl, _, _, rfl, ⟨by omega, by omega⟩, sm.app (chr1_let hc2), ?_, g2⟩
      rw [PySem.Str.cps_append, Array.toList_append, List.head?_append, sh]; rfl
    · subst e e2
      conv => arg 1; simp [words_ev]
      have iw := in_strL (neg := false) sm.ok words_sh
      rw [if_neg (by decide)] at iw
      have ap : ∀ t : Str, appM (xs.map D.str) [.str t] = M.pure ((xs ++ [t]).map D.str) := fun t => by
        rw [ev_app (by rw [List.length_map]; omega), List.map_append]; rfl
      by_cases hin : s ∈ wordsL
      · obtain ⟨z1, z2, z3, z4, z5⟩ := word_q s hin
        rw [decide_eq_true hin] at iw
        have cs : cutD (.str s) none (some 7) = M.pure (.str (cutS s none (some 7))) := cutS_ev (by omega)
        conv => arg 1; simp [iw, cs, z1, ap]
        refine ⟨_, w3, rfl, _, rfl, xs ++ [cutS s none (some 7) ++ "q"], some (chr1 c), some (.str s), x6', by simp, ?_, fun x hx => ?_, g3⟩
        · rw [List.length_append, List.length_singleton]; omega
        · rcases List.mem_append.mp hx with h | h
          · exact m x h
          · rw [List.mem_singleton.mp h]
            refine ⟨c, ?_, z2, fun d hd => of_decide_eq_true (List.all_eq_true.mp z3 d hd), z4, by rw [z5]; exact sh⟩
            rw [PySem.Str.length_append]
            exact Nat.le_add_left _ _
      · rw [decide_eq_false hin] at iw
        conv => arg 1; simp [iw, ap]
        refine ⟨_, w3, rfl, _, rfl, xs ++ [s], some (chr1 c), some (.str s), x6', by simp, ?_, fun x hx => ?_, g3⟩
        · rw [List.length_append, List.length_singleton]; omega
        · rcases List.mem_append.mp hx with h | h
          · exact m x h
          · rw [List.mem_singleton.mp h]
            exact ⟨c, sl, by omega, sm, hin, sh⟩
  · subst e e2
    exact ⟨_, w', rfl, xs, rfl, by simpa using l, m, g⟩
end Q

namespace Q
open PySem PySem.Spec PyProof.Rows L2
/-! ## drawn books -/
theorem map_of {α β : Type} {f : α → β} {P : α → Prop} : ∀ {xs : List β}, (∀ x ∈ xs, ∃ a, x = f a ∧ P a) → ∃ as : List α, xs = as.map f ∧ ∀ a ∈ as, P a
  | [], _ => ⟨[], rfl, fun _ h => nomatch h⟩
  | x :: xs, h => by
    obtain ⟨a, e, p⟩ := h x List.mem_cons_self
    obtain ⟨as, e2, ps⟩ := map_of fun y hy => h y (List.mem_cons_of_mem _ hy)
    refine ⟨a :: as, by rw [e, e2]; rfl, fun b hb => ?_⟩
    rcases List.mem_cons.mp hb with z | z
    · rw [z]; exact p
    · exact ps b z
theorem ev_eqII {a b : Int} : eqD (.int a) (.int b) = M.pure (.bl (decide (a = b))) := by
  rw [ev_eq (d := .int a) (e := .int b) rfl rfl (fun _ e => nomatch e)]
  congr 2
def rowD (r : List Int) : D := .tup (r.map D.int)
def NumIn (high : Int) (x : D) : Prop := ∃ i : Int, x = .int i ∧ 1 ≤ i ∧ i ≤ high
def tabB : Env → M Fl := (seqS (setS 7 (lcE [8] (argE rng1D (consA (vE 1) nilA)) (gNm 8) yesT (bin2 addD (iE 1) (argN 2 drawF (consA (vE 0) (consA (vE 2) nilA))))))
  (mutS 5 appM (consA (argE tupleD (consA (lcE [9] (itE (vE 7)) (gNm 9) yesT (ifE (orT (notT (truT (vE 4))) (tst (bin2 eqD (argN 2 drawF (consA (vE 0) (consA (iE 3) nilA))) (iE 0)))) (vE 9) (vE 3))) nilA)) nilA)))
theorem ev_argRng {fa : Env → M D} {ρ : Env} {n : Nat} (h : fa ρ = M.pure (.int (n : Nat))) (hn : n < 1000000) : argE rng1D (consA fa nilA) ρ = M.pure ((List.range n).map fun i => D.int (0 + (i : Nat))) := by
  rw [ev_argE, ev_consA, h, ev_pure_bind, ev_nilA, ev_pure_bind, ev_pure_bind, rng1_nat n hn]
def rngA (i : Nat) : Env → M (List D) := argE rng1D (consA (vE i) nilA)
theorem rngA_ev {i n : Nat} {ρ : Env} (h : getV ρ i = M.pure (.int (n : Nat))) (hn : n < 1000000) : rngA i ρ = M.pure ((List.range n).map fun i => D.int (0 + (i : Nat))) := ev_argRng h hn
theorem tableF_eq : tableF = fnM 10 (seqS (setKS 3 (bin2 addD (iE 1) (argN 2 drawF (consA (vE 0) (consA (vE 2) nilA)))))
  (seqS (setKS 4 (bin2 eqD (argN 2 drawF (consA (vE 0) (consA (iE 3) nilA))) (iE 0)))
  (seqS (setS 5 (lstE nilA))
  (seqS (forS (rngA 1) (gNm 6) tabB)
  (retS (argE tupleD (consA (vE 5) nilA))))))) := rfl
theorem tabB_eq (ρ : Env) : tabB ρ = M.bind (lcE [8] (argE rng1D (consA (vE 1) nilA)) (gNm 8) yesT (bin2 addD (iE 1) (argN 2 drawF (consA (vE 0) (consA (vE 2) nilA)))) ρ) fun d => M.bind (mutS 5 appM (consA (argE tupleD (consA (lcE [9] (itE (vE 7)) (gNm 9) yesT (ifE (orT (notT (truT (vE 4))) (tst (bin2 eqD (argN 2 drawF (consA (vE 0) (consA (iE 3) nilA))) (iE 0)))) (vE 9) (vE 3))) nilA)) nilA) (ρ.set 7 (some d))) fun r => M.pure r := by
  unfold tabB
  rw [ev_seqS, ev_setS, ev_assoc]
  congr 1
  funext d
  rw [ev_pure_bind]
  funext w
  simp only [M.bind]
  cases mutS 5 appM _ (ρ.set 7 (some d)) w <;> rfl
theorem tableF_ok {w : Wl} {many : Nat} {high : Int} (hw : Good w) (h0 : many ≤ 100) (h1 : 0 < high) (h2 : high < 1000) :
    Run (tableF [.well, .int (many : Nat), .int high]) w fun d w' => ∃ rs : List (List Int), d = .tup (rs.map rowD) ∧ rs.length = many ∧ (∀ r ∈ rs, r.length = many ∧ ∀ x ∈ r, 1 ≤ x ∧ x ≤ high) ∧ Good w' := by
  generalize hz : ((many : Nat) : Int) = z
  rw [tableF_eq]
  refine fnM_run ?_
  have hr : ∀ ρ, getV ρ 1 = M.pure (.int z) → rngA 1 ρ = M.pure ((List.range many).map fun i => D.int (0 + (i : Nat))) := fun ρ h => rngA_ev (by rw [hz]; exact h) (by omega)
  conv => arg 1; simp [ev_mkLst]
  refine Run.bind (drawF_ok hw h1 (by omega)) fun a w1 ⟨b, e, b0, b1, g1⟩ => ?_
  subst e
  conv => arg 1; simp
  refine Run.bind (drawF_ok g1 (by omega) (by omega)) fun a w2 ⟨p, e, p0, p1, g2⟩ => ?_
  subst e
  rw [ev_eqII, ev_pure_bind, if_pos (by rfl), hr _ rfl, ev_pure_bind]
  refine Run.bind (forL_runN (I := fun n ρ w => ∃ (rs : List (List Int)) (x6 x7 : Option D), ρ = [some .well, some (.int z), some (.int high), some (.int (1 + b)), some (.bl (decide (p = 0))), some (.lst (rs.map rowD)), x6, x7, none, none] ∧ rs.length + n = many ∧ (∀ r ∈ rs, r.length = many ∧ ∀ x ∈ r, 1 ≤ x ∧ x ≤ high) ∧ Good w) ?_ ?_) fun r w' ⟨ρ', e, rs, x6, x7, e2, l, m, g⟩ => ?_
  · exact ⟨[], none, none, rfl, by simp, (fun _ h => nomatch h), g2⟩
  · rintro n d hd ρ w ⟨rs, x6, x7, rfl, l, m, g⟩
    refine run_pure (a := [some .well, some (.int z), some (.int high), some (.int (1 + b)), some (.bl (decide (p = 0))), some (.lst (rs.map rowD)), some d, x7, none, none]) rfl ?_
    have r1 : Run (lcE [8] (argE rng1D (consA (vE 1) nilA)) (gNm 8) yesT (bin2 addD (iE 1) (argN 2 drawF (consA (vE 0) (consA (vE 2) nilA)))) [some .well, some (.int z), some (.int high), some (.int (1 + b)), some (.bl (decide (p = 0))), some (.lst (rs.map rowD)), some d, x7, none, none]) w
        fun d w' => ∃ xs, d = .lst xs ∧ xs.length = ((List.range many).map fun i => D.int (0 + (i : Nat))).length ∧ (∀ x ∈ xs, NumIn high x) ∧ Good w' :=
      lcE_run (items := (List.range many).map fun i => D.int (0 + (i : Nat))) (ev_argRng (by rw [hz]; rfl) (by omega)) (by rw [List.length_map, List.length_range, sizeLine_eq]; omega) g fun y hy w hw => by
        conv => arg 1; simp [wipeE]
        refine Run.bind (drawF_ok hw h1 (by omega)) fun a w1 ⟨c, e, c0, c1, g1⟩ => ?_
        subst e
        exact ⟨.int (1 + c), w1, rfl, ⟨_, rfl, by omega, by omega⟩, g1⟩
    rw [tabB_eq]
    refine Run.bind r1 fun a w3 ⟨ys, e, yl, yo, g3⟩ => ?_
    subst e
    rw [List.length_map, List.length_range] at yl
    have r2 : Run (lcE [9] (itE (vE 7)) (gNm 9) yesT (ifE (orT (notT (truT (vE 4))) (tst (bin2 eqD (argN 2 drawF (consA (vE 0) (consA (iE 3) nilA))) (iE 0)))) (vE 9) (vE 3)) [some .well, some (.int z), some (.int high), some (.int (1 + b)), some (.bl (decide (p = 0))), some (.lst (rs.map rowD)), some d, some (.lst ys), none, none]) w3
        fun d w' => ∃ xs, d = .lst xs ∧ xs.length = ys.length ∧ (∀ x ∈ xs, NumIn high x) ∧ Good w' :=
      lcE_run (items := ys) rfl (by rw [sizeLine_eq]; omega) g3 fun y hy w hw => by
        by_cases hp : p = 0
        · rw [decide_eq_true hp]
          conv => arg 1; simp [wipeE]
          refine Run.bind (drawF_ok hw (by omega) (by omega)) fun a w1 ⟨c, e, c0, c1, g1⟩ => ?_
          subst e
          by_cases hc : c = 0
          · conv => arg 1; simp [ev_eqII, hc]
            exact ⟨y, w1, rfl, yo y hy, g1⟩
          · conv => arg 1; simp [ev_eqII, hc]
            exact ⟨.int (1 + b), w1, rfl, ⟨_, rfl, by omega, by omega⟩, g1⟩
        · rw [decide_eq_false hp]
          conv => arg 1; simp [wipeE]
          exact ⟨y, w, rfl, yo y hy, hw⟩
    rw [ev_mutS, ev_consA, ev_argE, ev_consA]
    show Run (M.bind (M.bind (M.pure (rs.map rowD)) fun xs => M.bind (M.bind (M.bind (M.bind (lcE [9] (itE (vE 7)) (gNm 9) yesT (ifE (orT (notT (truT (vE 4))) (tst (bin2 eqD (argN 2 drawF (consA (vE 0) (consA (iE 3) nilA))) (iE 0)))) (vE 9) (vE 3)) [some .well, some (.int z), some (.int high), some (.int (1 + b)), some (.bl (decide (p = 0))), some (.lst (rs.map rowD)), some d, some (.lst ys), none, none]) fun x => M.bind (M.pure []) fun xs => M.pure (x :: xs)) tupleD) fun x => M.bind (M.pure []) fun xs => M.pure (x :: xs)) fun es => M.bind (appM xs es) fun ys' => M.pure (Fl.nx [some .well, some (.int z), some (.int high), some (.int (1 + b)), some (.bl (decide (p = 0))), some (.lst ys'), some d, some (.lst ys), none, none])) fun r => M.pure r) _ _
    simp only [ev_pure_bind, ev_assoc]
    refine Run.bind r2 fun a w4 ⟨zs, e, zl, zo, g4⟩ => ?_
    subst e
    obtain ⟨is, e, io⟩ := map_of (f := D.int) (P := fun i => 1 ≤ i ∧ i ≤ high) zo
    subst e
    have ap : appM (rs.map rowD) [.tup (is.map D.int)] = M.pure ((rs ++ [is]).map rowD) := by
      rw [ev_app (by rw [List.length_map]; omega), List.map_append]; rfl
    have te : tupleD [.lst (is.map D.int)] = M.pure (.tup (is.map D.int)) := rfl
    conv => arg 1; simp [te, ap]
    rw [List.length_map] at zl
    refine ⟨_, w4, rfl, _, rfl, rs ++ [is], some d, some (.lst ys), by simp, ?_, fun r hr => ?_, g4⟩
    · rw [List.length_append, List.length_singleton]; omega
    · rcases List.mem_append.mp hr with h | h
      · exact m r h
      · rw [List.mem_singleton.mp h]
        exact ⟨by omega, io⟩
  · subst e e2
    have te : tupleD [.lst (rs.map rowD)] = M.pure (.tup (rs.map rowD)) := rfl
    conv => arg 1; simp [te]
    exact ⟨_, w', rfl, rs, rfl, by simpa using l, m, g⟩
/-- what a drawn book is -/
def BkOk (high : Int) (xs : List Str) (rs : List (List Int)) : Prop := rs.length = xs.length ∧ (∀ r ∈ rs, r.length = xs.length ∧ ∀ x ∈ r, 1 ≤ x ∧ x ≤ high)
def bookD (xs : List Str) (rs : List (List Int)) : D := .tup [.tup (xs.map D.str), .tup (rs.map rowD)]
theorem bookF_ok {w : Wl} {most high : Int} (hw : Good w) (h0 : 0 < most) (h3 : most ≤ 25) (h1 : 0 < high) (h2 : high < 1000) :
    Run (bookF [.well, .int most, .int high]) w fun d w' => ∃ xs rs, d = bookD xs rs ∧ 1 ≤ xs.length ∧ (xs.length : Int) ≤ most ∧ (∀ x ∈ xs, ∃ a, NmOk a x) ∧ BkOk high xs rs ∧ Good w' := by
  refine fnM_run ?_
  conv => arg 1; simp [ev_mkTup]
  refine Run.bind (drawF_ok hw h0 (by omega)) fun a w1 ⟨r1, e, p0, p1, g1⟩ => ?_
  subst e
  conv => arg 1; simp
  refine Run.bind (drawF_ok g1 h0 (by omega)) fun a w2 ⟨r2, e, q0, q1, g2⟩ => ?_
  subst e
  conv => arg 1; simp
  have : ∃ k : Nat, (1 + if r1 < r2 then r2 else r1) = ((k : Nat) : Int) ∧ 0 < k ∧ (k : Int) ≤ most := by
    refine ⟨(1 + if r1 < r2 then r2 else r1).toNat, ?_⟩
    split <;> omega
  obtain ⟨k, ek, k0, k1⟩ := this
  rw [ek]
  refine Run.bind (namesF_ok g2 k0 (by omega)) fun a w3 ⟨xs, e, xl, xo, g3⟩ => ?_
  subst e
  have te : tupleD [.lst (xs.map D.str)] = M.pure (.tup (xs.map D.str)) := rfl
  conv => arg 1; simp [te, xl]
  refine Run.bind (tableF_ok g3 (by omega) h1 h2) fun a w4 ⟨rs, e, rl, ro, g4⟩ => ?_
  subst e
  exact ⟨_, w4, rfl, xs, rs, rfl, by omega, by omega, xo, ⟨by omega, fun r hr => ⟨by rw [(ro r hr).1]; omega, (ro r hr).2⟩⟩, g4⟩
end Q

namespace Q
open PySem PySem.Spec PyProof.Rows L2
/-! ## {k: v for a in x if .. for b in y if ..} -/
abbrev dc2 (kx vx t0 i0 t1 i1 : Expr) (f0 f1 : List Expr) (sc : Scope) (ps : Pos) : Expr := .DictComp kx vx [⟨t0, i0, f0, 0⟩, ⟨t1, i1, f1, 0⟩] sc ps
section
variable (kx vx t0 i0 t1 i1 : Expr) (f0 f1 : List Expr) (sc : Scope) (ps : Pos) (it : Value) (D : Addr) (en : PySem.Env)
theorem d2_out : compTurn (dc2 kx vx t0 i0 t1 i1 f0 f1 sc ps) 0 it (.ref D) en = (do
    standAt i0.pos
    match ← pyNext it with
    | none => pure (.done .next)
    | some got =>
      letOwnedTupleGo t0 it got
      assign t0 en got
      let mut all := true
      for t in f0 do
        if all then all ← isTrue t en (eval t en)
      if all then
        let src ← eval i1 en
        standAt i1.pos
        let src ← foldedSetIterable i1 en src
        let _ ← runOwn (.compStart (dc2 kx vx t0 i0 t1 i1 f0 f1 sc ps) 1 (← holding [src] (pyIter src)) (.ref D) en) en
      again (.compLoop (dc2 kx vx t0 i0 t1 i1 f0 f1 sc ps) 0 it (.ref D) en)) := by rfl
theorem d2_in : compTurn (dc2 kx vx t0 i0 t1 i1 f0 f1 sc ps) 1 it (.ref D) en = (do
    standAt i1.pos
    match ← pyNext it with
    | none => pure (.done .next)
    | some got =>
      letOwnedTupleGo t1 it got
      assign t1 en got
      let mut all := true
      for t in f1 do
        if all then all ← isTrue t en (eval t en)
      if all then
        (do
          let key ← eval kx en
          let val ← holding [key] (eval vx en)
          standAt { kx.pos with endLine := vx.pos.endLine, endCol := vx.pos.endCol }
          holding [key, val] (dictSet D key val))
      again (.compLoop (dc2 kx vx t0 i0 t1 i1 f0 f1 sc ps) 1 it (.ref D) en)) := by rfl
end
section
variable {P : Program} {w : World} {A : Around} {R : Result → Shared → Prop} {s : Shared} {kx vx t0 i0 t1 i1 : Expr} {f0 f1 : List Expr} {sc : Scope} {ps : Pos} {it : Value} {D : Addr} {en : PySem.Env}
abbrev badK (P : Program) (w : World) (A : Around) (en : PySem.Env) (R : Result → Shared → Prop) : Value → Shared → Prop := notedBy (model P w) A en fun e z => R (.error e) z
abbrev testL (f : List Expr) (en : PySem.Env) : Sem Bool := forIn f true fun c r => if r = true then do let b ← isTrue c en (eval c en); pure (ForInStep.yield b) else pure (ForInStep.yield r)
/-- one turn of a clause: the next item, its store, the tests -/
def turnW (P : Program) (w : World) (A : Around) (en : PySem.Env) (R : Result → Shared → Prop) (it : Value) (t : Expr) (f : List Expr) (K : Bool → Shared → Prop) (z : Shared) : Prop :=
  wpAny (model P w) A (pyNext it) (fun r z1 => match r with
    | none => R (.ok .next) z1
    | some v => wpAny (model P w) A (letOwnedTupleGo t it v) (fun _ z2 => wpAny (model P w) A (assign t en v) (fun _ z3 => wpAny (model P w) A (testL f en) K (badK P w A en R) z3) (badK P w A en R) z2) (badK P w A en R) z1) (badK P w A en R) z
theorem d2_loop0 (plainI : ∀ x, foldedSetIterable i1 en x = pure x) (I : Nat → Shared → Prop)
    (turn : ∀ n z, I n z → turnW P w A en R it t0 f0 (fun b z3 => if b = true then
        wpAny (model P w) A (eval i1 en) (fun x z4 => wpAny (model P w) A (pyIter x) (fun it1 z5 => codeAny (model P w) A (.compStart (dc2 kx vx t0 i0 t1 i1 f0 f1 sc ps) 1 it1 (.ref D) en) (fun r y => match r with
          | .ok _ => ∃ m, m < n ∧ I m y
          | .error _ => False) z5) (badK P w A en R) z4) (badK P w A en R) z3
      else ∃ m, m < n ∧ I m z3) z) (n : Nat) (h : I n s) : codeAny (model P w) A (.compLoop (dc2 kx vx t0 i0 t1 i1 f0 f1 sc ps) 0 it (.ref D) en) R s := by
  refine codeAny_loop rfl I (fun n z hI => ?_) n h
  show wpAny _ A ((compTurn (dc2 kx vx t0 i0 t1 i1 f0 f1 sc ps) 0 it (.ref D) en).onRaise (fun x => do noteFrame x en; theTreesLotGoes x)) _ _ z
  refine wpAny_noted ?_
  rw [d2_out]
  have q := turn n z hI
  unfold turnW at q
  refine wpAny_bind (wpAny_standAt (wpAny_bind (wpAny_mono q (fun r z1 k1 => ?_) fun _ _ k => k)))
  cases r with
  | none => exact wpAny_pure k1
  | some v =>
    refine wpAny_bind (wpAny_mono k1 (fun _ z2 k2 => wpAny_bind (wpAny_mono k2 (fun _ z3 k3 => wpAny_bind (wpAny_mono k3 (fun b z4 k4 => ?_) fun _ _ k => k)) fun _ _ k => k)) fun _ _ k => k)
    cases b with
    | false => exact wpAny_pure ⟨rfl, k4⟩
    | true =>
      refine wpAny_bind (wpAny_mono k4 (fun x z5 k5 => wpAny_bind (wpAny_standAt (wpAny_bind (wpAny_of_eq (plainI x) (wpAny_bind (wpAny_holding (wpAny_mono k5 (fun it1 z6 k6 => ?_) fun _ _ k => k))))))) fun _ _ k => k)
      refine wpAny_bind (wpAny_runOwn ?_)
      rw [Around.mark_none]
      refine codeAny_mono k6 fun r y hr => ?_
      cases r with
      | ok f =>
        first
          | exact wpAny_pure ⟨rfl, hr⟩
          | exact wpAny_bind (wpAny_pure (wpAny_pure ⟨rfl, hr⟩))
      | error e => exact hr.elim
theorem d2_loop1 (I : Nat → Shared → Prop)
    (turn : ∀ n z, I n z → turnW P w A en R it t1 f1 (fun b z3 => if b = true then
        wpAny (model P w) A (eval kx en) (fun kv z4 => wpAny (model P w) A (eval vx en) (fun vv z5 => wpAny (model P w) A (dictSet D kv vv) (fun _ z6 => ∃ m, m < n ∧ I m z6) (badK P w A en R) z5) (badK P w A en R) z4) (badK P w A en R) z3
      else ∃ m, m < n ∧ I m z3) z) (n : Nat) (h : I n s) : codeAny (model P w) A (.compLoop (dc2 kx vx t0 i0 t1 i1 f0 f1 sc ps) 1 it (.ref D) en) R s := by
  refine codeAny_loop rfl I (fun n z hI => ?_) n h
  show wpAny _ A ((compTurn (dc2 kx vx t0 i0 t1 i1 f0 f1 sc ps) 1 it (.ref D) en).onRaise (fun x => do noteFrame x en; theTreesLotGoes x)) _ _ z
  refine wpAny_noted ?_
  rw [d2_in]
  have q := turn n z hI
  unfold turnW at q
  refine wpAny_bind (wpAny_standAt (wpAny_bind (wpAny_mono q (fun r z1 k1 => ?_) fun _ _ k => k)))
  cases r with
  | none => exact wpAny_pure k1
  | some v =>
    refine wpAny_bind (wpAny_mono k1 (fun _ z2 k2 => wpAny_bind (wpAny_mono k2 (fun _ z3 k3 => wpAny_bind (wpAny_mono k3 (fun b z4 k4 => ?_) fun _ _ k => k)) fun _ _ k => k)) fun _ _ k => k)
    cases b with
    | false => exact wpAny_pure ⟨rfl, k4⟩
    | true => exact wpAny_bind (wpAny_bind (wpAny_mono k4 (fun kv z5 k5 => wpAny_bind (wpAny_holding (wpAny_mono k5 (fun vv z6 k6 => wpAny_bind (wpAny_standAt (wpAny_holding (wpAny_mono k6 (fun _ z7 k7 => wpAny_pure ⟨rfl, k7⟩) fun _ _ k => k)))) fun _ _ k => k))) fun _ _ k => k))
/-- how the second clause starts -/
theorem d2_start1 (h0 : codeAny (model P w) A (.compLoop (dc2 kx vx t0 i0 t1 i1 f0 f1 sc ps) 1 it (.ref D) en) R s)
    (h : wpAny (model P w) A (pyIter it) (fun it' z => codeAny (model P w) A (.compLoop (dc2 kx vx t0 i0 t1 i1 f0 f1 sc ps) 1 it' (.ref D) en) R z) (badK P w A en R) s) :
    codeAny (model P w) A (.compStart (dc2 kx vx t0 i0 t1 i1 f0 f1 sc ps) 1 it (.ref D) en) R s := by
  refine codeAny_of_tree ?_
  show wpAny _ _ ((compStart (dc2 kx vx t0 i0 t1 i1 f0 f1 sc ps) 1 it (.ref D) en).onRaise (fun x => do noteFrame x en; standAt theWindowsPlace)) _ _ s
  refine wpAny_notedAt ?_
  unfold compStart
  show wpAny _ _ (ask >>= _) _ _ s
  refine wpAny_bind (wpAny_askSetting (wpAny_ite ?_))
  split
  · first
      | exact wpAny_bind (wpAny_pure (wpAny_pure ⟨rfl, h0⟩))
      | exact wpAny_pure ⟨rfl, h0⟩
  · first
      | exact wpAny_bind (wpAny_rule (wpAny_bind (wpAny_standAt (wpAny_bind (wpAny_mono h (fun it' z k => wpAny_pure ⟨rfl, k⟩) fun _ _ k => k)))))
      | (refine wpAny_bind (wpAny_rule ?_); show wpAny _ _ (standAt i1.pos >>= _) _ _ s; exact wpAny_bind (wpAny_standAt (wpAny_bind (wpAny_mono h (fun it' z k => wpAny_pure ⟨rfl, k⟩) fun _ _ k => k))))
end
end Q

namespace Q
open PySem PySem.Spec PyProof.Rows L2
section
variable {X : Cx}
theorem d_dput {pins : List (Addr × Obj)} {σ : L2.St} {H H' : Hp} {s : Shared} {a : Addr} {y v : V} {u r : Value} {J : Unit → Shared → Prop} {E : Value → Shared → Prop} (hu : X.A.units + 1 < cLine) (I : Inv X pins σ H s) (g : DPut H a y v H') (ry : RelV y u) (rv : RelV v r)
    (h : ∀ z, Inv X pins σ H' z → J () z) : wpAny (model X.prog X.w) X.A (dictSet a u r) J E s := by
  rcases g with ⟨kvs, k, e, ey, l, eH⟩ | ⟨kvs, k, b, e, ey, eb, l, eH⟩
  · subst ey eH
    exact d_dictSet I e l ry rv h
  · subst ey eH
    cases (show u = Value.ref b from ry)
    obtain ⟨z, nm, xs, rel, dd⟩ := L2.dt_of I.hok e
    have len1 : xs.length ≤ sizeLine := by rw [← Paired.length rel]; exact z
    have len2 : (putK kvs k v).length ≤ sizeLine := by have := length_putK kvs k v; omega
    refine wpAny_dictSet_heap (hsz := len1) (show X.A.units < cLine by omega) (key_of I.hok eb) dd fun hp dd' same => h _ ?_
    obtain ⟨ob, es, ep, q1, q2, q3, q4, _, q5⟩ := dd'
    refine d_write I (by rw [e]; exact True.intro) same ⟨ob, q1⟩ ⟨len2, nm, _, (rel.put k eb rv).keeps fun c ys ec => ?_, ob, es, ep, q1, q2, q3, q4, q5⟩
    rw [upd_ne (ne_of ec e (fun z => nomatch z))]
    exact ec
abbrev BlkG (X : Cx) (scope : Scope) (F : Cx → Prop) : Prop := ∀ (s : Shared) (H : Hp) (C : Addr) (cl : List (Str × Addr)) (fp : List Addr), F (X.blk s H scope (compEnvC scope cl C X.env) fp)
/-- what the two clauses do: o0 the new dict, empty -/
def tDc2 (o0 : HO) (wa : TI) (ga : TG) (ta : TT) (wb : TI) (gb : TG) (tb : TT) (tk tv : TE) (va vb : List Nat) : TE := fun σ H Q => wa σ H fun J Ha => ∀ D, Ha D = none → ∃ W : Nat → Nat → Hp → Prop, (∃ m, W 0 m (upd Ha D o0)) ∧ ∀ i m Hi, W i m Hi →
  (J.stop i Hi ∧ Q (.ref D) Hi) ∨ (J.go i Hi ∧ ∃ Nx : Hp → Prop, (∀ Hn, Nx Hn → ∃ m', m' < m ∧ W (i + 1) m' Hn) ∧ ∀ x Hx', J.yld i Hi x Hx' → ga x (wipe σ va) Hx' fun σ2 H2 => wipe σ2 va = wipe σ va ∧ ta σ2 H2 fun b H3 =>
    if b = true then wb σ2 H3 fun J1 H4 => ∃ W1 : Nat → Nat → Hp → Prop, (∃ m, W1 0 m H4) ∧ ∀ j k Hj, W1 j k Hj →
      (J1.stop j Hj ∧ Nx Hj) ∨ (J1.go j Hj ∧ ∃ Nx1 : Hp → Prop, (∀ Hn, Nx1 Hn → ∃ k', k' < k ∧ W1 (j + 1) k' Hn) ∧ ∀ x1 Hy, J1.yld j Hj x1 Hy → gb x1 (wipe σ2 vb) Hy fun σ3 H5 => wipe σ3 vb = wipe σ2 vb ∧ tb σ3 H5 fun b1 H6 =>
        if b1 = true then tk σ3 H6 fun y H7 => tv σ3 H7 fun z H8 => ∃ H9, DPut H8 D y z H9 ∧ Nx1 H9 else Nx1 H6)
    else Nx H3)
theorem dc2_core {pins : List (Addr × Obj)} {s : Shared} {σ : L2.St} {H : Hp} {Q : VK} {kx vx t0 i0 t1 i1 : Expr} {f0 f1 : List Expr} {scope : Scope} {own : List (Str × Nat)} {vb : List Nat} {pos pos' : Pos} {o0 : HO} {wa wb : TI} {ga gb : TG} {ta tb : TT} {tk tv : TE} {use : Option (Value → Sem Unit)} {Qf : Value → Shared → Prop}
    (ho : o0 = .dK [] ∨ o0 = .dT []) (hu : X.A.units + 1 < cLine) (calm : X.calm = true) (nd : X.N.Nodup) (I : Inv X pins σ H s) (p0 : PI X t0 i0 wa) (ok : BlkOk X.N X.env.scope scope own) (sub : ∀ i ∈ vb, i ∈ own.map (·.2))
    (p1 : BlkG X scope fun Y => PG Y t0 ga) (p2 : BlkG X scope fun Y => PTs Y f0 ta) (p3 : BlkG X scope fun Y => PI Y t1 i1 wb) (p4 : BlkG X scope fun Y => PG Y t1 gb) (p5 : BlkG X scope fun Y => PTs Y f1 tb) (p6 : BlkG X scope fun Y => PE Y kx tk) (p7 : BlkG X scope fun Y => PE Y vx tv)
    (z0 : ∀ x, foldedSetIterable i0 X.env x = pure x) (z1 : ∀ en x, foldedSetIterable i1 en x = pure x) (h : tDc2 o0 wa ga ta wb gb tb tk tv (own.map (·.2)) vb σ H Q)
    (back : ∀ D C z m H', Inv X pins σ H' z → Q (.ref D) H' → z.heap.Ns C m → FpOk X pins H' C → compPost (model X.prog X.w) X.A X.xe use Qf (.ref D) C (.ok .next) z) :
    wpAny (model X.prog X.w) X.A (comprehension (dc2 kx vx t0 i0 t1 i1 f0 f1 scope pos) scope X.env pos' newDict false (eval i0 X.env) use) Qf X.xe s := by
  have frees : ∀ y ∈ scope.names, y.2 = .free → ∃ c, X.env.cells.lookup y.1 = some c := fun y hy e => (ok.free y hy e).elim (fun k => I.ok.has _ (.inl k)) (fun k => I.ok.has _ (.inr k))
  refine wpAny_comprehension_free (use := use) rfl z0 (closure_ok frees) ok.kind (fun y hy e => by rw [ok.uniq y hy, e]) (thn (p0.run pins s σ H _ I h) fun xv s1 hx => thn hx fun itv s2 got => ?_)
  obtain ⟨it, fp, tn, J, H2, e, I2, T, at2, fp2, q⟩ := got
  subst e
  refine wpAny_newObj_type (newEnv_comp ?_)
  generalize eD : s2.heap.objs.size = D
  have freeD : H2 D = none := I2.hok.fresh (Nat.le_of_eq eD)
  obtain ⟨W, ⟨m0, w0⟩, turn⟩ := q D freeD
  generalize es3 : ({ s2 with heap := s2.heap.push { cls := .type "dict", data := .dict #[] } } : Shared) = s3
  have I3 : Inv X pins σ (upd H2 D o0) s3 := by
    rw [← es3]
    refine I2.laid (t' := s2.toks) (fun b o e => Heap.get?_push_of_some _ e) (Nat.le_of_eq eD) ?_
    rw [← eD]
    rcases ho with rfl | rfl
    · exact dk_empty s2.heap I2.big
    · exact dt_empty s2.heap I2.big
  have heap3 : s3.heap = s2.heap.push { cls := .type "dict", data := .dict #[] } := by rw [← es3]
  have low : ∀ b ∈ fp, b < s2.heap.objs.size := fun b hb => let ⟨_, e, _⟩ := T.obj _ _ at2 b hb; Heap.lt_size e
  have fp3 : ∀ b ∈ fp, FpOk X pins (upd H2 D o0) b ∧ b < s3.heap.objs.size := fun b hb => by
    have lt := low b hb
    have ne : b ≠ D := by rw [← eD]; exact Nat.ne_of_lt lt
    exact ⟨⟨by rw [upd_ne ne]; exact (fp2 b hb).1, (fp2 b hb).2⟩, by rw [heap3, Heap.size_push]; exact Nat.lt_succ_of_lt lt⟩
  have at3 : tn 0 s3.heap := T.keep _ _ _ at2 fun b _ o e => by rw [heap3]; exact Heap.get?_push_of_some _ e
  have I4 := block_start I3 ok nd fp3
  generalize eC : cellsFrom (s3.heap.objs.size + 1) scope.names (cloFrom X.env.cells scope.names []) = cl at I4
  have q1 := p1 s3 (upd H2 D o0) s3.heap.objs.size cl fp
  have q2 := p2 s3 (upd H2 D o0) s3.heap.objs.size cl fp
  have q3 := p3 s3 (upd H2 D o0) s3.heap.objs.size cl fp
  have q4 := p4 s3 (upd H2 D o0) s3.heap.objs.size cl fp
  have q5 := p5 s3 (upd H2 D o0) s3.heap.objs.size cl fp
  have q6 := p6 s3 (upd H2 D o0) s3.heap.objs.size cl fp
  have q7 := p7 s3 (upd H2 D o0) s3.heap.objs.size cl fp
  show codeAny _ _ (.compStart (dc2 kx vx t0 i0 t1 i1 f0 f1 scope pos) 0 (.ref it) (.ref D) (compEnvC scope cl s3.heap.objs.size X.env)) (compPost (model X.prog X.w) X.A X.xe use Qf (.ref D) s3.heap.objs.size) { s3 with heap := pushCells (s3.heap.push { cls := .type "dict", data := .dict #[] }) scope.names }
  have none3 : ∀ b ∈ fp, (upd H2 D o0) b = none := fun b hb => (fp3 b hb).1.1
  generalize ee : compEnvC scope cl s3.heap.objs.size X.env = ce at I4 q1 q2 q3 q4 q5 q6 q7 ⊢
  have locC : ce.locals = s3.heap.objs.size := by subst ee; rfl
  generalize eH3 : upd H2 D o0 = H3 at I3 I4 q1 q2 q3 q4 q5 q6 q7 w0 none3 fp3
  generalize es4 : ({ s3 with heap := pushCells (s3.heap.push { cls := .type "dict", data := .dict #[] }) scope.names } : Shared) = s4 at I4 ⊢
  have at4 : tn 0 s4.heap := T.keep _ _ _ at3 fun b _ o e => by rw [← es4]; exact pushCells_keeps _ _ _ _ (Heap.get?_push_of_some _ e)
  generalize eY : X.blk s3 H3 scope ce fp = Y at I4 q1 q2 q3 q4 q5 q6 q7
  have aY : Y.prog = X.prog ∧ Y.w = X.w ∧ Y.A = X.A := by subst eY; exact ⟨rfl, rfl, rfl⟩
  have outer : ∀ {σ' : L2.St} {H' : Hp} {z : Shared}, Inv (X.blk s3 H3 scope ce fp) [] σ' H' z → (∀ b ∈ fp, H' b = none) → ∀ b ∈ fp, FpOk (X.blk s3 H3 scope ce fp) [] H' b := fun {σ' H' z} J' hn b hb =>
    ⟨hn b hb, (J'.ok.exf b hb).1, J'.ok.exfs b hb, .inl hb, fun x c e => (J'.ok.exf b hb).2 x c e, fun p hp => absurd (show p ∈ ([] : List (Addr × Obj)) ++ [] from hp) (by simp)⟩
  subst eY
  have loop : codeAny (model X.prog X.w) X.A (.compLoop (dc2 kx vx t0 i0 t1 i1 f0 f1 scope pos) 0 (.ref it) (.ref D) ce) (compPost (model X.prog X.w) X.A X.xe use Qf (.ref D) s3.heap.objs.size) s4 := by
    refine d2_loop0 (z1 ce) (fun n z => ∃ i H', Inv (X.blk s3 H3 scope ce fp) [] (wipe σ (own.map (·.2))) H' z ∧ tn i z.heap ∧ (∀ b ∈ fp, H' b = none) ∧ W i n H') ?_ m0 ⟨0, H3, I4, at4, none3, w0⟩
    rintro n s5 ⟨i, H5, I5, at5, none5, w5⟩
    unfold turnW
    rcases turn i n H5 w5 with ⟨stop, qq⟩ | ⟨go, Nx, hNx, step⟩
    · refine thnF (T.done (X.blk s3 H3 scope ce fp) rfl rfl rfl calm i [] s5 _ H5 (fun _ _ => False) I5 (outer I5 none5) at5 stop) fun r s6 ⟨hr, I6⟩ => ?_
      subst hr
      have I7 : Inv X pins σ H5 s6 := I3.call' (ch := fp) I6.os I6.base I6.hok I6.bare fun b hb => ⟨(fp3 b hb).1.2.2.2.1, (fp3 b hb).1.2.1, (fp3 b hb).1.2.2.2.2.1, (fp3 b hb).1.2.2.2.2.2⟩
      have noC : H5 s3.heap.objs.size = none := by
        have y : H5 ce.locals = none := I6.free
        rwa [locC] at y
      obtain ⟨m, hn, _⟩ := I6.loc
      have hn : s6.heap.Ns ce.locals m := hn
      rw [locC] at hn
      exact back D s3.heap.objs.size s6 m H5 I7 qq hn (I3.fpOk (Nat.le_refl _) noC)
    · refine thnF (T.item (X.blk s3 H3 scope ce fp) rfl rfl rfl calm i [] s5 _ H5 (fun _ _ => False) I5 (outer I5 none5) at5 go) fun r s6 ⟨u, hr, got6⟩ => ?_
      subst hr
      refine thnF got6 fun _ s7 ⟨x, H7, I7, r7, y7, at7, none7⟩ => ?_
      refine thnF (q1.run _ s7 _ H7 x u _ (I7.pinned (outer I7 none7) (T.obj _ _ at7)) r7 (step x H7 y7)) fun _ s8 ⟨σ8, H8, I8, wi8, k8⟩ => ?_
      refine thnF (q2.run _ s8 σ8 H8 _ I8 k8) fun b s9 ⟨H9, I9, k9⟩ => ?_
      have len8 : (wipe σ (own.map (·.2))).length = σ8.length := by rw [← wi8, wipe_length]
      -- a turn of the first clause ends
      have fin : ∀ {σ9 : L2.St} {z : Shared} {H' : Hp}, Inv (X.blk s3 H3 scope ce fp) ([] ++ pinsAt fp s7.heap) σ9 H' z → (wipe σ (own.map (·.2))).length = σ9.length → (∀ (j : Nat) v, (wipe σ (own.map (·.2)))[j]? = some (some v) → σ9[j]? = some (some v)) → Nx H' →
          ∃ m, m < n ∧ ∃ i H', Inv (X.blk s3 H3 scope ce fp) [] (wipe σ (own.map (·.2))) H' z ∧ tn i z.heap ∧ (∀ b ∈ fp, H' b = none) ∧ W i m H' := fun {σ9 z H'} I' hl hk nx => by
        obtain ⟨m', hm, w'⟩ := hNx H' nx
        have pin : ∀ b ∈ fp, ∀ o, s7.heap.get? b = some o → z.heap.get? b = some o ∧ H' b = none := fun b hb o e =>
          have y := I'.pin (b, o) (List.mem_append_right _ (List.mem_append_right _ (mem_pinsAt hb e)))
          ⟨y.1, y.2.1⟩
        exact ⟨m', hm, i + 1, H', (I'.unpinned (pins := [])).weak hl hk, T.keep _ _ _ at7 fun b hb o e => (pin b hb o e).1, fun b hb => let ⟨o, e, _⟩ := T.obj _ _ at7 b hb; (pin b hb o e).2, w'⟩
      cases b with
      | false =>
        simp only [Bool.false_eq_true, if_false] at k9 ⊢
        exact fin I9 len8 (fun j v e => by rw [← wi8] at e; exact (wipe_some e).1) k9
      | true =>
        simp only [if_true] at k9 ⊢
        refine thnF (q3.run _ s9 σ8 H9 _ I9 k9) fun xv s10 hx => thnF hx fun itv s11 got11 => ?_
        obtain ⟨it1, fp1, tn1, J1, H11, e1, I11, T1, at11, f11, W1, ⟨m1, w1⟩, turn1⟩ := got11
        subst e1
        have inner : ∀ {H' : Hp}, (∀ b ∈ fp1, H' b = none) → ∀ b ∈ fp1, FpOk (X.blk s3 H3 scope ce fp) ([] ++ pinsAt fp s7.heap) H' b := fun hn b hb => ⟨hn b hb, (f11 b hb).2⟩
        have loop1 : codeAny (model X.prog X.w) X.A (.compLoop (dc2 kx vx t0 i0 t1 i1 f0 f1 scope pos) 1 (.ref it1) (.ref D) ce)
            (fun r z => match r with
              | .ok _ => ∃ m, m < n ∧ ∃ i H', Inv (X.blk s3 H3 scope ce fp) [] (wipe σ (own.map (·.2))) H' z ∧ tn i z.heap ∧ (∀ b ∈ fp, H' b = none) ∧ W i m H'
              | .error _ => False) s11 := by
          refine d2_loop1 (fun k z => ∃ j H', Inv (X.blk s3 H3 scope ce fp) ([] ++ pinsAt fp s7.heap) (wipe σ8 vb) H' z ∧ tn1 j z.heap ∧ (∀ b ∈ fp1, H' b = none) ∧ W1 j k H') ?_ m1 ⟨0, H11, I11.weak (wipe_length _ _) (fun j v e => (wipe_some e).1), at11, fun b hb => (f11 b hb).1, w1⟩
          rintro k s12 ⟨j, H12, I12, at12, none12, w12⟩
          unfold turnW
          rcases turn1 j k H12 w12 with ⟨stop1, nx1⟩ | ⟨go1, Nx1, hNx1, step1⟩
          · refine thnF (T1.done (X.blk s3 H3 scope ce fp) rfl rfl rfl calm j _ s12 (wipe σ8 vb) H12 (fun _ _ => False) I12 (inner none12) at12 stop1) fun r s13 ⟨hr, I13⟩ => ?_
            subst hr
            refine fin I13 (len8.trans (wipe_length σ8 vb).symm) (fun j v e => ?_) nx1
            rw [← wi8] at e
            obtain ⟨e1, e2⟩ := wipe_some e
            rw [wipe_out fun z => e2 (sub j z)]
            exact e1
          · refine thnF (T1.item (X.blk s3 H3 scope ce fp) rfl rfl rfl calm j _ s12 (wipe σ8 vb) H12 (fun _ _ => False) I12 (inner none12) at12 go1) fun r s13 ⟨u1, hr, got13⟩ => ?_
            subst hr
            refine thnF got13 fun _ s14 ⟨x1, H14, I14, r14, y14, at14, none14⟩ => ?_
            refine thnF (q4.run _ s14 (wipe σ8 vb) H14 x1 u1 _ (I14.pinned (inner none14) (T1.obj _ _ at14)) r14 (step1 x1 H14 y14)) fun _ s15 ⟨σ15, H15, I15, wi15, k15⟩ => ?_
            refine thnF (q5.run _ s15 σ15 H15 _ I15 k15) fun b1 s16 ⟨H16, I16, k16⟩ => ?_
            have fin1 : ∀ {z : Shared} {H' : Hp}, Inv (X.blk s3 H3 scope ce fp) (([] ++ pinsAt fp s7.heap) ++ pinsAt fp1 s14.heap) σ15 H' z → Nx1 H' → ∃ m, m < k ∧ ∃ j H', Inv (X.blk s3 H3 scope ce fp) ([] ++ pinsAt fp s7.heap) (wipe σ8 vb) H' z ∧ tn1 j z.heap ∧ (∀ b ∈ fp1, H' b = none) ∧ W1 j m H' := fun {z H'} I' nx => by
              obtain ⟨m', hm, w'⟩ := hNx1 H' nx
              have pin : ∀ b ∈ fp1, ∀ o, s14.heap.get? b = some o → z.heap.get? b = some o ∧ H' b = none := fun b hb o e =>
                have y := I'.pin (b, o) (List.mem_append_right _ (List.mem_append_right _ (mem_pinsAt hb e)))
                ⟨y.1, y.2.1⟩
              exact ⟨m', hm, j + 1, H', I'.unpinned.weak (by rw [← wi15, wipe_length]) (fun j v e => by rw [← wi15] at e; exact (wipe_some e).1), T1.keep _ _ _ at14 fun b hb o e => (pin b hb o e).1, fun b hb => let ⟨o, e, _⟩ := T1.obj _ _ at14 b hb; (pin b hb o e).2, w'⟩
            cases b1 with
            | false =>
              simp only [Bool.false_eq_true, if_false] at k16 ⊢
              exact fin1 I16 k16
            | true =>
              simp only [if_true] at k16 ⊢
              refine thnF (q6.run _ s16 σ15 H16 _ I16 k16) fun kv s17 ⟨yk, H17, I17, r17, k17⟩ => ?_
              refine thnF (q7.run _ s17 σ15 H17 _ I17 k17) fun vv s18 ⟨yv, H18, I18, r18, H19, put, nx⟩ => ?_
              exact d_dput (X := X.blk s3 H3 scope ce fp) hu I18 put r17 r18 fun s19 I19 => fin1 I19 nx
        exact d2_start1 loop1 (T1.self X.A 0 _ _ _ at11 loop1)
  exact codeAny_compStart_dict loop (T.self X.A 0 _ _ _ at4 loop)
theorem pe_dc2 {kx vx t0 i0 t1 i1 : Expr} {f0 f1 : List Expr} {scope : Scope} {own : List (Str × Nat)} {vb : List Nat} {pos : Pos} {o0 : HO} {wa wb : TI} {ga gb : TG} {ta tb : TT} {tk tv : TE} (ho : o0 = .dK [] ∨ o0 = .dT []) (hu : X.A.units + 1 < cLine) (calm : X.calm = true) (nd : X.N.Nodup) (p0 : PI X t0 i0 wa) (ok : BlkOk X.N X.env.scope scope own) (sub : ∀ i ∈ vb, i ∈ own.map (·.2))
    (p1 : BlkG X scope fun Y => PG Y t0 ga) (p2 : BlkG X scope fun Y => PTs Y f0 ta) (p3 : BlkG X scope fun Y => PI Y t1 i1 wb) (p4 : BlkG X scope fun Y => PG Y t1 gb) (p5 : BlkG X scope fun Y => PTs Y f1 tb) (p6 : BlkG X scope fun Y => PE Y kx tk) (p7 : BlkG X scope fun Y => PE Y vx tv)
    (z0 : ∀ x, foldedSetIterable i0 X.env x = pure x := by intro _; rfl) (z1 : ∀ en x, foldedSetIterable i1 en x = pure x := by intro _ _; rfl) : PE X (dc2 kx vx t0 i0 t1 i1 f0 f1 scope pos) (tDc2 o0 wa ga ta wb gb tb tk tv (own.map (·.2)) vb) := by
  refine ⟨fun pins s σ H Q I h => ?_⟩
  rw [arm_eval_DictComp]
  refine dc2_core ho hu calm nd I p0 ok sub p1 p2 p3 p4 p5 p6 p7 z0 z1 h fun D C z m H' I' q hn f => ⟨m, hn, fun hp sb => ?_⟩
  obtain ⟨a0, a1, a2, a3, a4, a5⟩ := f
  exact ⟨.ref D, H', I'.turned (t' := z.toks) (fun b o hb e => (sb.2 b hb).trans e) a0 a1 a3 a4 a5, rfl, q⟩
end
end Q

namespace Q
open PySem PySem.Spec PyProof.Rows L2
/-! ## dict comprehension with two clauses, on data -/
def putA (b : Bool) (acc : List (D × D)) (k v : D) : M (List (D × D)) := if keyIn b k = true ∧ acc.length < sizeLine then M.pure (putD acc k v) else M.fail
def dcI (g : D → Env → M Env) (t : Env → M Bool) (fk fv : Env → M D) (ρ : Env) (b : Bool) : List D → List (D × D) → M (List (D × D))
  | [], acc => M.pure acc
  | d :: ds, acc => M.bind (noX (g d ρ)) fun ρ1 => M.bind (noX (t ρ1)) fun c => if c = true then M.bind (noX (fk ρ1)) fun k => M.bind (noX (fv ρ1)) fun v => M.bind (putA b acc k v) fun acc' => dcI g t fk fv ρ b ds acc' else dcI g t fk fv ρ b ds acc
def dcO (g0 : D → Env → M Env) (t0 : Env → M Bool) (fi : Env → M (List D)) (g : D → Env → M Env) (t : Env → M Bool) (fk fv : Env → M D) (vb : List Nat) (ρ : Env) (b : Bool) : List D → List (D × D) → M (List (D × D))
  | [], acc => M.pure acc
  | d :: ds, acc => M.bind (noX (g0 d ρ)) fun ρ1 => M.bind (noX (t0 ρ1)) fun c => if c = true then M.bind (noX (fi ρ1)) fun items => M.bind (dcI g t fk fv (wipeE ρ1 vb) b items acc) fun acc' => dcO g0 t0 fi g t fk fv vb ρ b ds acc' else dcO g0 t0 fi g t fk fv vb ρ b ds acc
def dcE2 (va vb : List Nat) (b : Bool) (f0 : Env → M (List D)) (g0 : D → Env → M Env) (t0 : Env → M Bool) (fi : Env → M (List D)) (g : D → Env → M Env) (t : Env → M Bool) (fk fv : Env → M D) : Env → M D := fun ρ => M.bind (f0 ρ) fun items => M.bind (dcO g0 t0 fi g t fk fv vb (wipeE ρ va) b items []) fun acc => M.pure (.dct b acc)
def emptyO (b : Bool) : HO := if b = true then .dT [] else .dK []
section
variable {K : PySem.W.Frag} {T : Tb} {Γ : Ctx} {O : List Nat} {ρ : Env} {σ : L2.St} {G H : Hp} {w : Wl}
theorem dput_rel {l : Addr} {o : HO} {b : Bool} {acc : List (D × D)} {k v : D} {y z : V} (e : Hx G H) (hl : H l = some o) (io : IsO K Γ.wl G o (.dct b acc)) (iy : Is K Γ.wl G y k) (iz : Is K Γ.wl G z v) (hk : keyIn b k = true) (len : acc.length < sizeLine) :
    ∃ o', NoTbl o' ∧ isF o' = false ∧ IsO K Γ.wl G o' (.dct b (putD acc k v)) ∧ DPut H l y z (upd H l o') := by
  cases io with
  | @dK kk ds h1 h2 =>
    rcases keyIn_rel e hk iy with ⟨_, q, rfl, rfl⟩ | ⟨z, _⟩
    · obtain ⟨p1, p2⟩ := put_rel kD sameKey_kD h1 h2 q iz
      exact ⟨.dK (putK kk q z), noDK, rfl, .dK p1 p2, DPut.k hl (by rw [kvs_len h1]; exact len)⟩
    · cases z
  | @dT kk ds h1 h2 =>
    rcases keyIn_rel e hk iy with ⟨z, _⟩ | ⟨_, q, b, rfl, rfl, hb⟩
    · cases z
    · obtain ⟨p1, p2⟩ := put_rel kT sameKey_kT h1 h2 q iz
      exact ⟨.dT (putK kk q z), noDT, rfl, .dT p1 p2, DPut.t hl hb (by rw [kvs_len h1]; exact len)⟩
end
section
variable {X : Cx} {T : Tb} {Wx : WX}
theorem dc2_rd {own : List (Str × Nat)} {vb : List Nat} {b : Bool} {f0 fi : Env → M (List D)} {g0 g : D → Env → M Env} {t0 t : Env → M Bool} {fk fv : Env → M D} (σ : L2.St) (H : Hp) (Q : VK) (hh : tN X.K T [] Wx (dcE2 (own.map (·.2)) vb b f0 g0 t0 fi g t fk fv) σ H Q) :
    tDc2 (emptyO b) (tI X.K T [] Wx f0) (tGt X.K T [] [] (List.map (fun p : Str × Nat => p.2) own) g0) (tT X.K T [] WF t0) (tI X.K T [] WF fi) (tGt X.K T [] [] vb g) (tT X.K T [] WF t) (tE X.K T [] WF fk) (tE X.K T [] WF fv) (own.map (·.2)) vb σ H Q := by
  obtain ⟨Γ, ρ, G, w, R, P⟩ := hh
  refine postN_bind R P fun J items G1 H1 w1 st1 R1 Y P1 pD hD => ?_
  have io0 : IsO X.K Γ.wl G1 (emptyO b) (.dct b []) := by
    cases b
    · exact .dK rfl .nil
    · exact .dT rfl .nil
  have nt0 : NoTbl (emptyO b) := by cases b <;> (intro ps z; cases z)
  obtain ⟨R0, n0, s0⟩ := R1.lay hD nt0 io0.nf
  generalize hv : own.map (·.2) = vs at *
  have thru : ∀ {G2 H2 : Hp} {o' : HO}, Stp Γ.wl G1 H1 G2 H2 → Stp Γ.wl G1 H1 G2 (upd H2 pD o') := fun {G2 H2 o'} q => by
    refine ⟨q.x, fun a o e q1 q2 => ?_, q.nw, fun a e => ?_⟩
    · have z : a ≠ pD := fun z => by rw [z, hD] at e; cases e
      rw [upd_ne z]; exact q.kp _ _ e q1 q2
    · by_cases z : a = pD
      · subst z; exact hD
      · rw [upd_ne z] at e; exact q.mono _ e
  let fin : List (D × D) → M D := fun acc => M.pure (.dct b acc)
  let Nxt : Nat → Hp → Prop := fun i H3 => i ≤ items.length ∧ ∃ G2 w2 o acc, Stp Γ.wl G1 H1 G2 H3 ∧ Rel X.K T Γ [] ρ σ G2 H3 w2 ∧ New Γ [] ρ σ G2 H3 pD o ∧ IsO X.K Γ.wl G2 o (.dct b acc) ∧
    PostN X.K T Γ [] Wx ρ σ G1 H1 (M.bind (dcO g0 t0 fi g t fk fv vb (wipeE ρ vs) b (items.drop i) acc) fin w2) Q
  refine ⟨fun i m H2 => m = items.length - i ∧ Nxt i H2, ⟨items.length, by simp, Nat.zero_le _, G1, w1, _, [], s0, R0, n0, io0, P1⟩, ?_⟩
  rintro i m H2 ⟨rfl, hi, G2, w2, o2, acc, st2, R2, n2, io2, P2⟩
  obtain ⟨Ya, Yb⟩ := Y i Γ [] _ _ G2 H2 w2 rfl (R2.wipe vs) st2.x
  rcases drop_get (l := items) (i := i) with ⟨e1, e2⟩ | ⟨d, e1, e2⟩
  · rw [e2] at P2
    exact .inl ⟨Yb e1, P2 pD o2 G2 H2 st2 R2 n2 hD io2⟩
  · rw [e2] at P2
    have hlt : i < items.length := (List.getElem?_eq_some_iff.mp e1).1
    obtain ⟨go, yl⟩ := Ya d e1
    refine .inr ⟨go, Nxt (i + 1), fun H' q => ⟨items.length - (i + 1), by omega, rfl, q⟩, fun x H3 hy => ?_⟩
    obtain ⟨G3, st3, R3, i3⟩ := yl x H3 hy
    simp only [dcO] at P2
    rw [M.bind_assoc] at P2
    refine noX_target (Pr := fun r => PostN X.K T Γ [] Wx ρ σ G1 H1 r Q) (fun z => z) R3 i3 P2 fun ρ1 σ1 G4 H4 w4 of st4 R4 P4 => ?_
    refine ⟨(wipe_off of).trans (wipe_off off_wipe), ?_⟩
    rw [M.bind_assoc] at P4
    refine noX_step (Pr := fun r => PostN X.K T Γ [] Wx ρ σ G1 H1 r Q) (fun z => z) R4 P4 fun k k' G5 H5 w5 st5 R5 ek P5 => ?_
    obtain rfl : k = k' := ek
    rw [M.ite_bind] at P5
    have st25 := st3.trans (st4.trans st5)
    cases k with
    | false =>
      show (if false = true then _ else _)
      rw [if_neg (by decide)] at P5 ⊢
      exact ⟨hlt, G5, w5, o2, acc, st2.trans st25, R2.slots' st25 R5.h, n2.step st25, io2.mono st25.x, P5⟩
    | true =>
      show (if true = true then _ else _)
      rw [if_pos rfl] at P5 ⊢
      rw [M.bind_assoc] at P5
      refine noX_step (Pr := fun r => PostN X.K T Γ [] Wx ρ σ G1 H1 r Q) (fun z => z) R5 P5 fun J1 items1 G6 H6 w6 st6 R6 Y1 P6 => ?_
      rw [M.bind_assoc] at P6
      have st26 := st25.trans st6
      let Nx1 : Nat → Hp → Prop := fun j H7 => j ≤ items1.length ∧ ∃ G7 w7 o acc, Stp Γ.wl G1 H1 G7 H7 ∧ Hx G6 G7 ∧ Rel X.K T Γ [] ρ σ G7 H7 w7 ∧ Rel X.K T Γ [] (wipeE ρ1 vb) (wipe σ1 vb) G7 H7 w7 ∧ New Γ [] ρ σ G7 H7 pD o ∧ New Γ [] (wipeE ρ1 vb) (wipe σ1 vb) G7 H7 pD o ∧ IsO X.K Γ.wl G7 o (.dct b acc) ∧
        PostN X.K T Γ [] Wx ρ σ G1 H1 (M.bind (dcI g t fk fv (wipeE ρ1 vb) b (items1.drop j) acc) (fun acc' => M.bind (dcO g0 t0 fi g t fk fv vb (wipeE ρ vs) b (items.drop (i + 1)) acc') fin) w7) Q
      have n6 := n2.step st26
      have n6' : New Γ [] (wipeE ρ1 vb) (wipe σ1 vb) G6 H6 pD o2 := by
        exact ⟨n6.at_, n6.g, n6.b, n6.w, n6.nt, fun jj dd hjo e q => nomatch hjo⟩
      refine ⟨fun j m H7 => m = items1.length - j ∧ Nx1 j H7, ⟨items1.length, by simp, Nat.zero_le _, G6, w6, o2, acc, st2.trans st26, Hx.refl _, R2.slots' st26 R6.h, R6.wipe vb, n6, n6', io2.mono st26.x, P6⟩, ?_⟩
      rintro j m1 H7 ⟨rfl, hj, G7, w7, o7, acc7, st7, x67, R7, R7', n7, n7', io7, P7⟩
      obtain ⟨Ya1, Yb1⟩ := Y1 j Γ [] _ _ G7 H7 w7 rfl R7' x67
      rcases drop_get (l := items1) (i := j) with ⟨e3, e4⟩ | ⟨d1, e3, e4⟩
      · rw [e4] at P7
        exact .inl ⟨Yb1 e3, hlt, G7, w7, o7, acc7, st7, R7, n7, io7, P7⟩
      · rw [e4] at P7
        have hlt1 : j < items1.length := (List.getElem?_eq_some_iff.mp e3).1
        obtain ⟨go1, yl1⟩ := Ya1 d1 e3
        refine .inr ⟨go1, Nx1 (j + 1), fun H' q => ⟨items1.length - (j + 1), by omega, rfl, q⟩, fun x1 H8 hy1 => ?_⟩
        obtain ⟨G8, st8, R8, i8⟩ := yl1 x1 H8 hy1
        simp only [dcI] at P7
        rw [M.bind_assoc] at P7
        refine noX_target (Pr := fun r => PostN X.K T Γ [] Wx ρ σ G1 H1 r Q) (fun z => z) R8 i8 P7 fun ρ9 σ9 G9 H9 w9 of9 st9 R9 P9 => ?_
        refine ⟨(wipe_off of9).trans (wipe_off off_wipe), ?_⟩
        rw [M.bind_assoc] at P9
        refine noX_step (Pr := fun r => PostN X.K T Γ [] Wx ρ σ G1 H1 r Q) (fun z => z) R9 P9 fun c c' Ga Ha wa sta Ra ec Pa => ?_
        obtain rfl : c = c' := ec
        rw [M.ite_bind] at Pa
        have st7a := st8.trans (st9.trans sta)
        cases c with
        | false =>
          show (if false = true then _ else _)
          rw [if_neg (by decide)] at Pa ⊢
          exact ⟨hlt1, Ga, wa, o7, acc7, st7.trans st7a, x67.trans st7a.x, R7.slots' st7a Ra.h, R7'.slots' st7a Ra.h, n7.step st7a, n7'.step st7a, io7.mono st7a.x, Pa⟩
        | true =>
          show (if true = true then _ else _)
          rw [if_pos rfl] at Pa ⊢
          rw [M.bind_assoc] at Pa
          refine noX_step (Pr := fun r => PostN X.K T Γ [] Wx ρ σ G1 H1 r Q) (fun z => z) Ra Pa fun y yd Gb Hb wb stb Rb ib Pb => ?_
          rw [M.bind_assoc] at Pb
          refine noX_step (Pr := fun r => PostN X.K T Γ [] Wx ρ σ G1 H1 r Q) (fun z => z) Rb Pb fun z zd Gc Hc wc stc Rc ic Pc => ?_
          have st7c := st7a.trans (stb.trans stc)
          rw [M.bind_assoc] at Pc
          unfold putA at Pc
          by_cases hk : keyIn b yd = true ∧ acc7.length < sizeLine
          · rw [if_pos hk] at Pc
            have nC := n7.step st7c
            have nC' := n7'.step st7c
            obtain ⟨o', nt', _, io', put⟩ := dput_rel Rc.h.sub nC.at_ (io7.mono st7c.x) (ib.mono stc.x) ic hk.1 hk.2
            obtain ⟨Rd, nd⟩ := Rel.pokeO (R7.slots' st7c Rc.h) nC (io7.mono st7c.x) nt' io'
            obtain ⟨Rd', nd'⟩ := Rel.pokeO (R7'.slots' st7c Rc.h) nC' (io7.mono st7c.x) nt' io'
            exact ⟨_, put, hlt1, Gc, wc, o', putD acc7 yd zd, thru (st7.trans st7c), x67.trans st7c.x, Rd, Rd', nd, nd', io', Pc⟩
          · rw [if_neg hk] at Pc
            exact False.elim Pc
/-- {k: v for a in x if .. for b in y if ..}, no name owning anything -/
theorem df_dc2 {kx vx c0 i0 c1 i1 : Expr} {l0 l1 : List Expr} {scope : Scope} {own : List (Str × Nat)} {vb : List Nat} {pos : Pos} {b : Bool} {f0 fi : Env → M (List D)} {g0 g : D → Env → M Env} {t0 t : Env → M Bool} {fk fv : Env → M D}
    (hu : X.A.units + 64 < cLine) (calm : X.calm = true) (nd : X.N.Nodup) (p0 : DI X T [] Wx c0 i0 f0) (ok : BlkOk X.N X.env.scope scope own) (sub : ∀ i ∈ vb, i ∈ own.map (·.2))
    (p1 : BlkG X scope fun Y => DG Y T [] [] (own.map (·.2)) c0 g0) (p2 : BlkG X scope fun Y => DTs Y T [] WF l0 t0) (p3 : BlkG X scope fun Y => DI Y T [] WF c1 i1 fi) (p4 : BlkG X scope fun Y => DG Y T [] [] vb c1 g) (p5 : BlkG X scope fun Y => DTs Y T [] WF l1 t) (p6 : BlkG X scope fun Y => DE Y T [] WF kx fk) (p7 : BlkG X scope fun Y => DE Y T [] WF vx fv)
    (z0 : ∀ x, foldedSetIterable i0 X.env x = pure x := by intro _; rfl) (z1 : ∀ en x, foldedSetIterable i1 en x = pure x := by intro _ _; rfl) :
    DF X T [] Wx (.DictComp kx vx [⟨c0, i0, l0, 0⟩, ⟨c1, i1, l1, 0⟩] scope pos) (dcE2 (own.map (·.2)) vb b f0 g0 t0 fi g t fk fv) :=
  pe_imp (pe_dc2 (o0 := emptyO b) (ga := tGt X.K T [] [] (List.map (fun p : Str × Nat => p.2) own) g0) (gb := tGt X.K T [] [] vb g) (ta := tT X.K T [] WF t0) (tb := tT X.K T [] WF t) (wb := tI X.K T [] WF fi) (tk := tE X.K T [] WF fk) (tv := tE X.K T [] WF fv) (by cases b <;> simp [emptyO]) (by omega) calm nd p0 ok sub p1 p2 p3 p4 p5 p6 p7 z0 z1) fun σ H Q hh => dc2_rd σ H Q hh
end
end Q

namespace Q
open PySem PySem.Spec PyProof.Rows L2 RZ
/-! ## zip of two, each a list or a tuple -/
/-- the iterator at it over the source at l, next place k; b: over a tuple -/
def ItB : Bool → Heap → Addr → Addr → Nat → Prop
  | true, h, it, l, k => h.IsTupleIter it l k
  | false, h, it, l, k => h.IsListIter it l k
def SrB : Bool → Heap → Addr → Array Value → Prop
  | true, h, l, xs => h.IsTuple l xs
  | false, h, l, xs => h.IsList l xs
theorem ItB.ob {b : Bool} {h : Heap} {it l : Addr} {k : Nat} (x : ItB b h it l k) : ∃ o, h.get? it = some o ∧ ∀ v, o.data ≠ .cell v := by
  cases b <;> obtain ⟨o, e, _, d⟩ := x <;> exact ⟨o, e, fun v q => by rw [d] at q; cases q⟩
theorem ItB.mv {b : Bool} {h h' : Heap} {it l : Addr} {k : Nat} (x : ItB b h it l k) (e : ∀ o, h.get? it = some o → h'.get? it = some o) : ItB b h' it l k := by
  cases b <;> obtain ⟨o, q, r⟩ := x <;> exact ⟨o, e o q, r⟩
theorem SrB.mv {b : Bool} {h h' : Heap} {l : Addr} {xs : Array Value} (x : SrB b h l xs) (e : ∀ o, h.get? l = some o → h'.get? l = some o) : SrB b h' l xs := by
  cases b <;> obtain ⟨o, q, r⟩ := x <;> exact ⟨o, e o q, r⟩
theorem SrB.lt {b : Bool} {h : Heap} {l : Addr} {xs : Array Value} (x : SrB b h l xs) : l < h.objs.size := by
  cases b <;> obtain ⟨o, q, _⟩ := x <;> exact Heap.lt_size q
section
variable {P : Program} {w : World} {A : Around} {E : Value → Shared → Prop} {s : Shared}
theorem nxB {b : Bool} {it l : Addr} {k : Nat} {xs : Array Value} {x : Value} {J : Value → Shared → Prop} (i : ItB b s.heap it l k) (r : SrB b s.heap l xs) (hx : xs[k]? = some x)
    (go : ∀ hp, ItB b hp it l (k + 1) → Heap.SameBut it s.heap hp → J x { s with heap := hp }) : wpAny (model P w) A (Builtin.SmallTypes.nextOf (.ref it)) J E s := by
  cases b
  · exact wpAny_nextOf_list_item i r hx go
  · exact nextOf_tuple_item i r hx go
theorem ndB {b : Bool} {it l : Addr} {k : Nat} {xs : Array Value} {J : Value → Shared → Prop} (nh : A.handled = none) (i : ItB b s.heap it l k) (r : SrB b s.heap l xs) (hx : xs[k]? = none)
    (go : ∀ hp e, Heap.ExtBut it s.heap hp → (∃ o, hp.get? e = some o ∧ o.cls = .type "StopIteration") → E (.ref e) { s with heap := hp }) : wpAny (model P w) A (Builtin.SmallTypes.nextOf (.ref it)) J E s := by
  cases b
  · exact wpAny_nextOf_list_end nh i r hx go
  · exact nextOf_tuple_end nh i r hx go
variable {b1 b2 : Bool} {z TI TO i1 i2 l1 l2 : Addr} {k : Nat} {xs ys : Array Value} {x y p q : Value}
theorem zpB_item {J : Value → Shared → Prop} (D : ZipApart z TI TO i1 i2 l1 l2) (az : IsZip s.heap z TI TO .none) (aI : IsPair s.heap TI (.ref i1) (.ref i2)) (aO : IsPair s.heap TO p q)
    (t1 : ItB b1 s.heap i1 l1 k) (t2 : ItB b2 s.heap i2 l2 k) (r1 : SrB b1 s.heap l1 xs) (r2 : SrB b2 s.heap l2 ys) (ex : xs[k]? = some x) (ey : ys[k]? = some y)
    (go : ∀ hp, IsZip hp z TI TO (rawInt s.heap.objs.size) → IsPair hp TO x y → ItB b1 hp i1 l1 (k + 1) → ItB b2 hp i2 l2 (k + 1) → IsPair hp s.heap.objs.size x y → hp.objs.size = s.heap.objs.size + 1 →
      (∀ c o, c ≠ z → c ≠ TO → c ≠ i1 → c ≠ i2 → s.heap.get? c = some o → hp.get? c = some o) → J (.ref s.heap.objs.size) { s with heap := hp }) :
    wpAny (model P w) A (Builtin.«zip.__next__» ⟨[.ref z], []⟩) (fun fin s' => ∃ v, fin = .done (.ret v) ∧ J v s') E s := by
  show wpAny _ _ (field (.ref z) 2 >>= _) _ _ _
  refine wpAny_bind (wpAny_field az rfl (x := .bool false) rfl ?_)
  show wpAny _ _ (field (.ref z) 3 >>= _) _ _ _
  refine wpAny_bind (wpAny_field az rfl (x := .ref TI) rfl (wpAny_bind (wpAny_seqItems aI rfl ?_)))
  show wpAny _ _ (Builtin.SmallTypes.ownedTupleIsFree (.ref z) >>= _) _ _ _
  refine wpAny_bind ?_
  unfold Builtin.SmallTypes.ownedTupleIsFree
  refine wpAny_bind (wpAny_field az rfl (x := .none) rfl (wpAny_pure ?_))
  simp only [if_true]
  refine wpAny_bind (wpAny_rule (wpAny_bind (wpAny_field az rfl (x := .ref TO) rfl (wpAny_bind (wpAny_setField_rec az (by simp) fun g1 z1 m1 => ?_)))))
  replace z1 : IsZip g1 z TI TO .ellipsis := z1
  refine wpAny_bind ?_
  simp only [List.zipIdx_cons, List.zipIdx_nil, List.forIn_cons, List.forIn_nil]
  refine wpAny_bind (wpAny_bind (wpAny_onRaise ?_))
  show wpAny _ _ (Builtin.SmallTypes.nextOf (.ref i1) >>= _) _ _ _
  refine wpAny_bind (nxB (t1.mv fun o e => m1.extBut _ _ D.i1z e) (r1.mv fun o e => m1.extBut _ _ D.l1z e) ex fun g2 u1 m2 => wpAny_pure ?_)
  have O2 : IsPair g2 TO p q := m2.extBut _ _ D.TOi1 (m1.extBut _ _ D.TOz aO)
  refine wpAny_bind (wpAny_seqItems O2 rfl (wpAny_bind (wpAny_updateSeq_pair O2 fun g3 O3 m3 => ?_)))
  replace O3 : IsPair g3 TO x q := O3
  refine wpAny_bind (wpAny_letGo (wpAny_pure (wpAny_bind (wpAny_bind (wpAny_onRaise ?_)))))
  show wpAny _ _ (Builtin.SmallTypes.nextOf (.ref i2) >>= _) _ _ _
  refine wpAny_bind (nxB (t2.mv fun o e => m3.extBut _ _ D.TOi2.symm (m2.extBut _ _ D.i12.symm (m1.extBut _ _ D.i2z e))) (r2.mv fun o e => m3.extBut _ _ D.l2TO (m2.extBut _ _ D.l2i1 (m1.extBut _ _ D.l2z e))) ey fun g4 u2 m4 => wpAny_pure ?_)
  have O4 : IsPair g4 TO x q := m4.extBut _ _ D.TOi2 O3
  refine wpAny_bind (wpAny_seqItems O4 rfl (wpAny_bind (wpAny_updateSeq_pair O4 fun g5 O5 m5 => ?_)))
  replace O5 : IsPair g5 TO x y := O5
  refine wpAny_bind (wpAny_letGo (wpAny_pure (wpAny_pure (wpAny_bind (wpAny_seqItems O5 rfl (wpAny_bind (wpAny_newTuple ?_)))))))
  have sz : g5.objs.size = s.heap.objs.size := by rw [m5.1, m4.1, m3.1, m2.1, m1.1]
  have z5 : IsZip g5 z TI TO .ellipsis := m5.extBut _ _ D.TOz.symm (m4.extBut _ _ D.i2z.symm (m3.extBut _ _ D.TOz.symm (m2.extBut _ _ D.i1z.symm z1)))
  have old5 : ∀ c o, c ≠ z → c ≠ TO → c ≠ i1 → c ≠ i2 → s.heap.get? c = some o → g5.get? c = some o := fun c o n1 n2 n3 n4 e => m5.extBut _ _ n2 (m4.extBut _ _ n4 (m3.extBut _ _ n2 (m2.extBut _ _ n3 (m1.extBut _ _ n1 e))))
  have v1 : ItB b1 g5 i1 l1 (k + 1) := u1.mv fun o e => m5.extBut _ _ D.TOi1.symm (m4.extBut _ _ D.i12 (m3.extBut _ _ D.TOi1.symm e))
  have v2 : ItB b2 g5 i2 l2 (k + 1) := u2.mv fun o e => m5.extBut _ _ D.TOi2.symm e
  have ltz : z < g5.objs.size := Heap.lt_size z5
  show wpAny _ _ (Builtin.SmallTypes.ownedTupleHandOut (.ref z) (.ref g5.objs.size) >>= _) _ _ _
  refine wpAny_bind ?_
  unfold Builtin.SmallTypes.ownedTupleHandOut
  have z6 : IsZip (g5.push { cls := .type "tuple", data := .seq #[x, y] }) z TI TO .ellipsis := Heap.get?_push_of_some _ z5
  refine wpAny_bind (wpAny_setField_rec z6 (by simp) fun g7 z7 m7 => ?_)
  replace z7 : IsZip g7 z TI TO (rawInt g5.objs.size) := z7
  refine wpAny_setField_rec z7 (by simp) fun g8 z8 m8 => ?_
  replace z8 : IsZip g8 z TI TO (rawInt g5.objs.size) := z8
  have up : ∀ c o, c ≠ z → g5.get? c = some o → g8.get? c = some o := fun c o n e => m8.extBut _ _ n (m7.extBut _ _ n (Heap.get?_push_of_some _ e))
  have T8 : IsPair g8 g5.objs.size x y := m8.extBut _ _ (Nat.ne_of_gt ltz) (m7.extBut _ _ (Nat.ne_of_gt ltz) (Heap.get?_push_size _ rfl))
  have s8 : g8.objs.size = g5.objs.size + 1 := by rw [m8.1, m7.1, Heap.size_push]
  rw [sz] at z8 T8 s8
  refine wpAny_pure ⟨_, rfl, ?_⟩
  show J (.ref g5.objs.size) _
  rw [sz]
  exact go g8 z8 (up _ _ D.TOz O5) (v1.mv fun o e => up _ o D.i1z e) (v2.mv fun o e => up _ o D.i2z e) T8 s8 fun c o n1 n2 n3 n4 e => up c o n1 (old5 c o n1 n2 n3 n4 e)
theorem zpB_end {J : PySem.Fin → Shared → Prop} (nh : A.handled = none) (D : ZipApart z TI TO i1 i2 l1 l2) (az : IsZip s.heap z TI TO .none) (aI : IsPair s.heap TI (.ref i1) (.ref i2)) (aO : IsPair s.heap TO p q)
    (t1 : ItB b1 s.heap i1 l1 k) (t2 : ItB b2 s.heap i2 l2 k) (r1 : SrB b1 s.heap l1 xs) (r2 : SrB b2 s.heap l2 ys) (over : xs[k]? = none ∨ ys[k]? = none)
    (go : ∀ hp e, (∀ c o, c ≠ z → c ≠ TO → c ≠ i1 → c ≠ i2 → s.heap.get? c = some o → hp.get? c = some o) → (∃ o, hp.get? e = some o ∧ o.cls = .type "StopIteration") → E (.ref e) { s with heap := hp }) :
    wpAny (model P w) A (Builtin.«zip.__next__» ⟨[.ref z], []⟩) J E s := by
  show wpAny _ _ (field (.ref z) 2 >>= _) _ _ _
  refine wpAny_bind (wpAny_field az rfl (x := .bool false) rfl ?_)
  show wpAny _ _ (field (.ref z) 3 >>= _) _ _ _
  refine wpAny_bind (wpAny_field az rfl (x := .ref TI) rfl (wpAny_bind (wpAny_seqItems aI rfl ?_)))
  show wpAny _ _ (Builtin.SmallTypes.ownedTupleIsFree (.ref z) >>= _) _ _ _
  refine wpAny_bind ?_
  unfold Builtin.SmallTypes.ownedTupleIsFree
  refine wpAny_bind (wpAny_field az rfl (x := .none) rfl (wpAny_pure ?_))
  simp only [if_true]
  refine wpAny_bind (wpAny_rule (wpAny_bind (wpAny_field az rfl (x := .ref TO) rfl (wpAny_bind (wpAny_setField_rec az (by simp) fun g1 z1 m1 => ?_)))))
  replace z1 : IsZip g1 z TI TO .ellipsis := z1
  refine wpAny_bind ?_
  simp only [List.zipIdx_cons, List.zipIdx_nil, List.forIn_cons, List.forIn_nil]
  refine wpAny_bind (wpAny_bind (wpAny_onRaise ?_))
  show wpAny _ _ (Builtin.SmallTypes.nextOf (.ref i1) >>= _) _ _ _
  cases ex : xs[k]? with
  | none =>
    refine wpAny_bind (ndB nh (t1.mv fun o e => m1.extBut _ _ D.i1z e) (r1.mv fun o e => m1.extBut _ _ D.l1z e) ex fun g2 e m2 ⟨oe, at_, cl⟩ => ?_)
    have z2 : IsZip g2 z TI TO .ellipsis := m2 _ _ D.i1z.symm z1
    have ne : e ≠ z := fun h => by subst h; rw [z2] at at_; cases at_; simp at cl
    exact wpAny_setField_rec z2 (by simp) fun g3 _ m3 => go g3 e (fun c o n1 _ n3 _ h => m3.extBut _ _ n1 (m2 _ _ n3 (m1.extBut _ _ n1 h))) ⟨oe, m3.extBut _ _ ne at_, cl⟩
  | some x =>
    have ey : ys[k]? = none := by rcases over with h | h; rw [ex] at h; cases h; exact h
    refine wpAny_bind (nxB (t1.mv fun o e => m1.extBut _ _ D.i1z e) (r1.mv fun o e => m1.extBut _ _ D.l1z e) ex fun g2 u1 m2 => wpAny_pure ?_)
    have O2 : IsPair g2 TO p q := m2.extBut _ _ D.TOi1 (m1.extBut _ _ D.TOz aO)
    refine wpAny_bind (wpAny_seqItems O2 rfl (wpAny_bind (wpAny_updateSeq_pair O2 fun g3 O3 m3 => ?_)))
    refine wpAny_bind (wpAny_letGo (wpAny_pure (wpAny_bind (wpAny_bind (wpAny_onRaise ?_)))))
    show wpAny _ _ (Builtin.SmallTypes.nextOf (.ref i2) >>= _) _ _ _
    refine wpAny_bind (ndB nh (t2.mv fun o e => m3.extBut _ _ D.TOi2.symm (m2.extBut _ _ D.i12.symm (m1.extBut _ _ D.i2z e))) (r2.mv fun o e => m3.extBut _ _ D.l2TO (m2.extBut _ _ D.l2i1 (m1.extBut _ _ D.l2z e))) ey fun g4 e m4 ⟨oe, at_, cl⟩ => ?_)
    have z4 : IsZip g4 z TI TO .ellipsis := m4 _ _ D.i2z.symm (m3.extBut _ _ D.TOz.symm (m2.extBut _ _ D.i1z.symm z1))
    have ne : e ≠ z := fun h => by subst h; rw [z4] at at_; cases at_; simp at cl
    exact wpAny_setField_rec z4 (by simp) fun g5 _ m5 => go g5 e (fun c o n1 n2 n3 n4 h => m5.extBut _ _ n1 (m4 _ _ n4 (m3.extBut _ _ n2 (m2.extBut _ _ n3 (m1.extBut _ _ n1 h))))) ⟨oe, m5.extBut _ _ ne at_, cl⟩
theorem nextB_item {J : Option Value → Shared → Prop} (D : ZipApart z TI TO i1 i2 l1 l2) (az : IsZip s.heap z TI TO .none) (aI : IsPair s.heap TI (.ref i1) (.ref i2)) (aO : IsPair s.heap TO p q)
    (t1 : ItB b1 s.heap i1 l1 k) (t2 : ItB b2 s.heap i2 l2 k) (r1 : SrB b1 s.heap l1 xs) (r2 : SrB b2 s.heap l2 ys) (ex : xs[k]? = some x) (ey : ys[k]? = some y)
    (go : ∀ hp, IsZip hp z TI TO (rawInt s.heap.objs.size) → IsPair hp TO x y → ItB b1 hp i1 l1 (k + 1) → ItB b2 hp i2 l2 (k + 1) → IsPair hp s.heap.objs.size x y → hp.objs.size = s.heap.objs.size + 1 →
      (∀ c o, c ≠ z → c ≠ TO → c ≠ i1 → c ≠ i2 → s.heap.get? c = some o → hp.get? c = some o) → J (some (.ref s.heap.objs.size)) { s with heap := hp }) : wpAny (model P w) A (pyNext (.ref z)) J E s := by
  have ty : s.TypeIs (.ref z) "zip" := ⟨_, az, rfl⟩
  unfold pyNext
  exact wpAny_bind (wpAny_attempt (wpAny_callSpecial?_slot (name := Str.ofString "__next__") ty PySem.F.slot_zip_next (wpAny_call_entry PySem.F.slot_zip_next ty PySem.F.entry_zip_next
    (zpB_item D az aI aO t1 t2 r1 r2 ex ey fun hp c1 c2 c3 c4 c5 c6 c7 => wpAny_pure (go hp c1 c2 c3 c4 c5 c6 c7)) (PySem.F.args_zip_next_1 _))))
theorem nextB_end {J : Option Value → Shared → Prop} (nh : A.handled = none) (D : ZipApart z TI TO i1 i2 l1 l2) (az : IsZip s.heap z TI TO .none) (aI : IsPair s.heap TI (.ref i1) (.ref i2)) (aO : IsPair s.heap TO p q)
    (t1 : ItB b1 s.heap i1 l1 k) (t2 : ItB b2 s.heap i2 l2 k) (r1 : SrB b1 s.heap l1 xs) (r2 : SrB b2 s.heap l2 ys) (over : xs[k]? = none ∨ ys[k]? = none)
    (go : ∀ hp, (∀ c o, c ≠ z → c ≠ TO → c ≠ i1 → c ≠ i2 → s.heap.get? c = some o → hp.get? c = some o) → J none { s with heap := hp }) : wpAny (model P w) A (pyNext (.ref z)) J E s := by
  have ty : s.TypeIs (.ref z) "zip" := ⟨_, az, rfl⟩
  unfold pyNext
  refine wpAny_bind (wpAny_attempt (wpAny_callSpecial?_slot (name := Str.ofString "__next__") ty PySem.F.slot_zip_next (wpAny_call_entry PySem.F.slot_zip_next ty PySem.F.entry_zip_next
    (zpB_end nh D az aI aO t1 t2 r1 r2 over fun hp e old ⟨o, at_, cl⟩ => ?_) (PySem.F.args_zip_next_1 _))))
  exact wpAny_bind (wpAny_isInstance (T := "StopIteration") (b := true) ⟨o, at_, cl⟩ isSubtype_stop (wpAny_pure (go _ old)))
end
def itN (b : Bool) : String := if b = true then "tuple_iterator" else "list_iterator"
abbrev zb1 (b : Bool) (h : Heap) (l : Addr) : Heap := h.push { cls := .type (itN b), data := .fields #[.ref l, .int 0 0] }
abbrev zb3 (b1 b2 : Bool) (h : Heap) (l1 l2 : Addr) : Heap := (zb1 b2 (zb1 b1 h l1) l2).push { cls := .type "tuple", data := .seq #[.ref h.objs.size, .ref (zb1 b1 h l1).objs.size] }
abbrev zb4 (b1 b2 : Bool) (h : Heap) (l1 l2 : Addr) : Heap := (zb3 b1 b2 h l1 l2).push { cls := .type "tuple", data := .seq #[.none, .none] }
abbrev zb5 (b1 b2 : Bool) (h : Heap) (l1 l2 : Addr) : Heap := (zb4 b1 b2 h l1 l2).push { cls := .type "zip", data := .fields #[.none, .bool false, .bool false, .ref (zb1 b2 (zb1 b1 h l1) l2).objs.size, .ref (zb3 b1 b2 h l1 l2).objs.size] }
theorem zipNew_tt (l1 l2 : Addr) (xs ys : Array Value) : Meets (Builtin.«zip.__new__» ⟨[.type "zip", .ref l1, .ref l2], []⟩) (fun _ R s => SrB true s.heap l1 xs ∧ SrB true s.heap l2 ys ∧ R (.ok (.ret (.ref (zb4 true true s.heap l1 l2).objs.size))) { s with heap := zb5 true true s.heap l1 l2 }) :=
  .of_wp fun prog w A R s h => by
    obtain ⟨hp, g, d, tk, os⟩ := s
    obtain ⟨r1, r2, h⟩ := h
    have sub := sub_zip
    have y1 : Heap.IsTuple (Shared.heap ⟨hp, g, d, tk, os⟩) l1 xs := r1
    have y2 : Heap.IsTuple (Shared.heap ⟨hp.push { cls := .type "tuple_iterator", data := .fields #[.ref l1, .int 0 0] }, g, d, tk, os⟩) l2 ys := Heap.IsTuple.push r2 _
    wp_walk using wpAny_pyIter_tuple y1, wpAny_pyIter_tuple y2
    exact ⟨_, rfl, h⟩
theorem zipNew_tl (l1 l2 : Addr) (xs ys : Array Value) : Meets (Builtin.«zip.__new__» ⟨[.type "zip", .ref l1, .ref l2], []⟩) (fun _ R s => SrB true s.heap l1 xs ∧ SrB false s.heap l2 ys ∧ R (.ok (.ret (.ref (zb4 true false s.heap l1 l2).objs.size))) { s with heap := zb5 true false s.heap l1 l2 }) :=
  .of_wp fun prog w A R s h => by
    obtain ⟨hp, g, d, tk, os⟩ := s
    obtain ⟨r1, r2, h⟩ := h
    have sub := sub_zip
    have y1 : Heap.IsTuple (Shared.heap ⟨hp, g, d, tk, os⟩) l1 xs := r1
    have y2 : Heap.IsList (Shared.heap ⟨hp.push { cls := .type "tuple_iterator", data := .fields #[.ref l1, .int 0 0] }, g, d, tk, os⟩) l2 ys := Heap.IsList.push r2 _
    wp_walk using wpAny_pyIter_tuple y1, wpAny_pyIter_list y2
    exact ⟨_, rfl, h⟩
theorem zipNew_lt (l1 l2 : Addr) (xs ys : Array Value) : Meets (Builtin.«zip.__new__» ⟨[.type "zip", .ref l1, .ref l2], []⟩) (fun _ R s => SrB false s.heap l1 xs ∧ SrB true s.heap l2 ys ∧ R (.ok (.ret (.ref (zb4 false true s.heap l1 l2).objs.size))) { s with heap := zb5 false true s.heap l1 l2 }) :=
  .of_wp fun prog w A R s h => by
    obtain ⟨hp, g, d, tk, os⟩ := s
    obtain ⟨r1, r2, h⟩ := h
    have sub := sub_zip
    have y1 : Heap.IsList (Shared.heap ⟨hp, g, d, tk, os⟩) l1 xs := r1
    have y2 : Heap.IsTuple (Shared.heap ⟨hp.push { cls := .type "list_iterator", data := .fields #[.ref l1, .int 0 0] }, g, d, tk, os⟩) l2 ys := Heap.IsTuple.push r2 _
    wp_walk using wpAny_pyIter_list y1, wpAny_pyIter_tuple y2
    exact ⟨_, rfl, h⟩
theorem zipNew_ll (l1 l2 : Addr) (xs ys : Array Value) : Meets (Builtin.«zip.__new__» ⟨[.type "zip", .ref l1, .ref l2], []⟩) (fun _ R s => SrB false s.heap l1 xs ∧ SrB false s.heap l2 ys ∧ R (.ok (.ret (.ref (zb4 false false s.heap l1 l2).objs.size))) { s with heap := zb5 false false s.heap l1 l2 }) :=
  .of_wp fun prog w A R s h => by
    obtain ⟨hp, g, d, tk, os⟩ := s
    obtain ⟨r1, r2, h⟩ := h
    have sub := sub_zip
    have y1 : Heap.IsList (Shared.heap ⟨hp, g, d, tk, os⟩) l1 xs := r1
    have y2 : Heap.IsList (Shared.heap ⟨hp.push { cls := .type "list_iterator", data := .fields #[.ref l1, .int 0 0] }, g, d, tk, os⟩) l2 ys := Heap.IsList.push r2 _
    wp_walk using wpAny_pyIter_list y1, wpAny_pyIter_list y2
    exact ⟨_, rfl, h⟩
theorem zipNew (b1 b2 : Bool) (l1 l2 : Addr) (xs ys : Array Value) : Meets (Builtin.«zip.__new__» ⟨[.type "zip", .ref l1, .ref l2], []⟩) (fun _ R s => SrB b1 s.heap l1 xs ∧ SrB b2 s.heap l2 ys ∧ R (.ok (.ret (.ref (zb4 b1 b2 s.heap l1 l2).objs.size))) { s with heap := zb5 b1 b2 s.heap l1 l2 }) := by
  cases b1 <;> cases b2
  · exact zipNew_ll l1 l2 xs ys
  · exact zipNew_lt l1 l2 xs ys
  · exact zipNew_tl l1 l2 xs ys
  · exact zipNew_tt l1 l2 xs ys
section
variable {P : Program} {w : World} {A : Around} {E : Value → Shared → Prop} {s : Shared}
theorem itB_new {b : Bool} {h : Heap} {it l : Addr} (e : h.get? it = some { cls := .type (itN b), data := .fields #[.ref l, .int 0 0] }) : ItB b h it l 0 := by
  cases b <;> exact ⟨_, e, rfl, rfl⟩
theorem callZB (b1 b2 : Bool) {l1 l2 : Addr} {xs ys : Array Value} {J : Value → Shared → Prop} (r1 : SrB b1 s.heap l1 xs) (r2 : SrB b2 s.heap l2 ys)
    (go : ∀ hp, IsZip hp (s.heap.objs.size + 4) (s.heap.objs.size + 2) (s.heap.objs.size + 3) .none → IsPair hp (s.heap.objs.size + 2) (.ref s.heap.objs.size) (.ref (s.heap.objs.size + 1)) →
      IsPair hp (s.heap.objs.size + 3) .none .none → ItB b1 hp s.heap.objs.size l1 0 → ItB b2 hp (s.heap.objs.size + 1) l2 0 → (∀ c o, s.heap.get? c = some o → hp.get? c = some o) → J (.ref (s.heap.objs.size + 4)) { s with heap := hp }) :
    wpAny (model P w) A (call (.type "zip") [.ref l1, .ref l2]) J E s := by
  refine callType_new PySem.F.called_zip (by decide) (PySem.F.typeCall_zip_2 _ _) (PySem.F.newCall_zip_2 _ _) (fun obj => PySem.F.args_object_init_3 obj _ _) PySem.F.entry_zip_new (zipNew b1 b2 l1 l2 xs ys) ⟨r1, r2, ?_⟩
  have n1 : (zb1 b1 s.heap l1).objs.size = s.heap.objs.size + 1 := Heap.size_push ..
  have n2 : (zb1 b2 (zb1 b1 s.heap l1) l2).objs.size = s.heap.objs.size + 2 := by rw [Heap.size_push, n1]
  have n3 : (zb3 b1 b2 s.heap l1 l2).objs.size = s.heap.objs.size + 3 := by rw [Heap.size_push, n2]
  have n4 : (zb4 b1 b2 s.heap l1 l2).objs.size = s.heap.objs.size + 4 := by rw [Heap.size_push, n3]
  have a5 : (zb5 b1 b2 s.heap l1 l2).get? (zb4 b1 b2 s.heap l1 l2).objs.size = some _ := Heap.get?_push_size _ rfl
  have a4 : (zb5 b1 b2 s.heap l1 l2).get? (zb3 b1 b2 s.heap l1 l2).objs.size = some _ := Heap.get?_push_of_some _ (Heap.get?_push_size _ rfl)
  have a3 : (zb5 b1 b2 s.heap l1 l2).get? (zb1 b2 (zb1 b1 s.heap l1) l2).objs.size = some _ := Heap.get?_push_of_some _ (Heap.get?_push_of_some _ (Heap.get?_push_size _ rfl))
  have a2 : (zb5 b1 b2 s.heap l1 l2).get? (zb1 b1 s.heap l1).objs.size = some _ := Heap.get?_push_of_some _ (Heap.get?_push_of_some _ (Heap.get?_push_of_some _ (Heap.get?_push_size _ rfl)))
  have a1 : (zb5 b1 b2 s.heap l1 l2).get? s.heap.objs.size = some _ := Heap.get?_push_of_some _ (Heap.get?_push_of_some _ (Heap.get?_push_of_some _ (Heap.get?_push_of_some _ (Heap.get?_push_size _ rfl))))
  show _ ∧ _
  rw [n2, n3, n4] at a5
  rw [n1, n2] at a3
  rw [n3] at a4
  rw [n1] at a2
  rw [n4]
  exact ⟨⟨_, a5, rfl⟩, go _ a5 a3 a4 (itB_new a1) (itB_new a2) fun c o e => Heap.get?_push_of_some _ (Heap.get?_push_of_some _ (Heap.get?_push_of_some _ (Heap.get?_push_of_some _ (Heap.get?_push_of_some _ e))))⟩
end
/-- a source as the abstract heap knows it -/
def SqB (K : PySem.W.Frag) : Bool → Hp → Addr → List V → Prop
  | true, H, a, xs => SqT K H a xs
  | false, H, a, xs => SqL K H a xs
def ItzB (K : PySem.W.Frag) (b1 b2 : Bool) (a b : Addr) : It :=
  ⟨fun i H => ∃ (xs ys : List V) (x y : V), SqB K b1 H a xs ∧ SqB K b2 H b ys ∧ xs[i]? = some x ∧ ys[i]? = some y,
    fun i H v H' => ∃ T x y, v = .ref T ∧ H T = none ∧ H' = upd H T (.tup [x, y]) ∧ (∀ xs, SqB K b1 H a xs → xs[i]? = some x) ∧ ∀ ys, SqB K b2 H b ys → ys[i]? = some y,
    fun i H => ∃ xs ys : List V, SqB K b1 H a xs ∧ SqB K b2 H b ys ∧ (xs.length ≤ i ∨ ys.length ≤ i)⟩
section
variable {X : Cx} {pins : List (Addr × Obj)} {σ : L2.St} {H : Hp} {s : Shared} {b : Bool} {a : Addr} {xs : List V}
theorem srB_of (I : Inv X pins σ H s) (q : SqB X.K b H a xs) : ∃ its : List Value, Vals xs its ∧ SrB b s.heap a its.toArray := by
  cases b
  · obtain ⟨its, r, p, _⟩ := I.list q
    exact ⟨its, r, p.isList⟩
  · obtain ⟨its, r, p, _⟩ := I.tuple q
    exact ⟨its, r, p⟩
theorem sqB_inj {ys : List V} (I : Inv X pins σ H s) (q : SqB X.K b H a xs) (q2 : SqB X.K b H a ys) : ys = xs := by
  cases b
  · exact I.list_inj q2 q
  · exact I.tuple_inj q2 q
end
end Q

namespace Q
open PySem PySem.Spec PyProof.Rows L2 RZ
theorem turn_zipB {P : Program} {w : World} {K : PySem.W.Frag} {elts : List Expr} {kk : Nat} {tpos : Pos} {b1 b2 : Bool} {a b z TI TO i1 i2 : Addr} (D : ZipApart z TI TO i1 i2 a b) :
    Turn P w K (.Tuple elts kk tpos) (ItzB K b1 b2 a b) [z, TI, TO, i1, i2] z (fun i h => IsZip h z TI TO .none ∧ IsPair h TI (.ref i1) (.ref i2) ∧ (∃ x y, IsPair h TO x y) ∧ ItB b1 h i1 a i ∧ ItB b2 h i2 b i) where
  mem := by simp
  obj := fun i h st c hc => by
    obtain ⟨hz, hTI, ⟨x, y, hTO⟩, u1, u2⟩ := st
    have e' : c = z ∨ c = TI ∨ c = TO ∨ c = i1 ∨ c = i2 := by simpa using hc
    rcases e' with q | q | q | q | q
    · rw [q]; exact ⟨_, hz, fun v q => nomatch q⟩
    · rw [q]; exact ⟨_, hTI, fun v q => nomatch q⟩
    · rw [q]; exact ⟨_, hTO, fun v q => nomatch q⟩
    · rw [q]; exact u1.ob
    · rw [q]; exact u2.ob
  keep := fun i h h' st k => by
    obtain ⟨hz, hTI, ⟨x, y, hTO⟩, h1, h2⟩ := st
    exact ⟨k z (by simp) _ hz, k TI (by simp) _ hTI, ⟨x, y, k TO (by simp) _ hTO⟩, h1.mv fun o q => k i1 (by simp) o q, h2.mv fun o q => k i2 (by simp) o q⟩
  item := by
    intro X hP hw hK hc i pins s σ H E I hf st hg
    subst hP hw hK
    obtain ⟨hz, hTI, ⟨x0, y0, hTO⟩, h1, h2⟩ := st
    obtain ⟨xs, ys, x, y, hqx, hqy, hx, hy⟩ := hg
    obtain ⟨its, rv, p⟩ := srB_of I hqx
    obtain ⟨its2, rv2, p2⟩ := srB_of I hqy
    obtain ⟨u, hu, ru⟩ := rv.get hx
    obtain ⟨u2, hu2, ru2⟩ := rv2.get hy
    have hzl : z < s.heap.objs.size := Heap.lt_size hz
    refine nextB_item D hz hTI hTO h1 h2 p p2 (x := u) (y := u2) (by simpa using hu) (by simpa using hu2) fun h' z' TO' h1' h2' hT hsz hk => ?_
    refine ⟨_, rfl, wpAny_letOwnedTupleGo_zip (s := { s with heap := h' }) z' fun h'' z'' sb => ?_⟩
    have hT2 : h''.get? s.heap.objs.size = some { cls := .type "tuple", data := .seq #[u, u2] } := (sb.2 _ (Nat.ne_of_gt hzl)).trans hT
    have new : ObjOk X.prog X.w (upd H s.heap.objs.size (.tup [x, y])) h'' s.heap.objs.size (.tup [x, y]) :=
      ⟨by show 2 ≤ sizeLine; decide, [u, u2], .cons ru (.cons ru2 .nil), ⟨_, hT2, rfl, _, rfl⟩⟩
    have I1 : Inv X pins σ (upd H s.heap.objs.size (.tup [x, y])) { s with heap := h'' } :=
      I.turnedNew (t' := s.toks) (ch := [z, TI, TO, i1, i2]) (fun c o hb q => (sb.2 c (fun q' => hb (by simp [q']))).trans (hk c o (fun q' => hb (by simp [q'])) (fun q' => hb (by simp [q'])) (fun q' => hb (by simp [q'])) (fun q' => hb (by simp [q'])) q)) hf (Nat.le_refl _) new
    refine ⟨.ref s.heap.objs.size, _, I1, rfl, ⟨_, x, y, rfl, I.hok.fresh (Nat.le_refl _), rfl, fun l hl => by rw [sqB_inj I hqx hl]; exact hx, fun l hl => by rw [sqB_inj I hqy hl]; exact hy⟩, ⟨z'', ?_, ⟨u, u2, ?_⟩, ?_, ?_⟩, fun c hcm => ?_⟩
    · exact (sb.2 _ D.TIz).trans (hk _ _ D.TIz D.TITO D.TIi1 D.TIi2 hTI)
    · exact (sb.2 _ D.TOz).trans TO'
    · exact h1'.mv fun o q => (sb.2 _ D.i1z).trans q
    · exact h2'.mv fun o q => (sb.2 _ D.i2z).trans q
    · have hlt : c < s.heap.objs.size := by
        have e' : c = z ∨ c = TI ∨ c = TO ∨ c = i1 ∨ c = i2 := by simpa using hcm
        rcases e' with q | q | q | q | q
        · rw [q]; exact hzl
        · rw [q]; exact Heap.lt_size hTI
        · rw [q]; exact Heap.lt_size hTO
        · rw [q]; obtain ⟨_, e1, _⟩ := h1.ob; exact Heap.lt_size e1
        · rw [q]; obtain ⟨_, e2, _⟩ := h2.ob; exact Heap.lt_size e2
      rw [upd_ne (Nat.ne_of_lt hlt)]
      exact (hf c hcm).1
  done := by
    intro X hP hw hK hc i pins s σ H E I hf st hg
    subst hP hw hK
    obtain ⟨hz, hTI, ⟨x0, y0, hTO⟩, h1, h2⟩ := st
    obtain ⟨xs, ys, hqx, hqy, hend⟩ := hg
    obtain ⟨its, rv, p⟩ := srB_of I hqx
    obtain ⟨its2, rv2, p2⟩ := srB_of I hqy
    have l1 := rv.length
    have l2 := rv2.length
    have he : its.toArray[i]? = none ∨ its2.toArray[i]? = none := by
      rcases hend with q | q
      · exact .inl (by simp; omega)
      · exact .inr (by simp; omega)
    exact nextB_end (I.ok.hd hc) D hz hTI hTO h1 h2 p p2 he fun h' hk => ⟨rfl, I.turnedL (t' := s.toks) (ch := [z, TI, TO, i1, i2]) (fun c o hb q =>
      hk c o (fun q' => hb (by simp [q'])) (fun q' => hb (by simp [q'])) (fun q' => hb (by simp [q'])) (fun q' => hb (by simp [q'])) q) hf⟩
  self := fun A i s Q E st h => wpAny_pyIter_zip st.1 h
def iZipB (K : PySem.W.Frag) (ta : TA) : TI := fun σ H R => ta σ H fun vs H1 => ∃ a b b1 b2 xs ys, vs = [.ref a, .ref b] ∧ SqB K b1 H1 a xs ∧ SqB K b2 H1 b ys ∧ R (ItzB K b1 b2 a b) H1
theorem pi_zipB {X : Cx} {e e2 : Expr} {ta : TA} {p pos tpos : Pos} {elts : List Expr} {kk : Nat} (hg : Gl X "zip") (hm : X.mg "zip" = none) (ha : PA X [e, e2] ta)
    (hs : starEach [e, e2] X.env = (false, eval e X.env) :: starEach [e2] X.env := by rfl) (hpl : (backTo pos (starEach [e2] X.env)).any (·.1) = false := by rfl) :
    PI X (.Tuple elts kk tpos) (.Call (.Name "zip" p) [e, e2] [] pos) (iZipB X.K ta) := by
  refine ⟨fun pins s σ H R I h => ?_⟩
  refine Call_ (ld_blt I hg hm PyProof.Rows.boot_zip (PyProof.Rows.callWith_type1 (thn (ha.run pos pins s σ H _ I h) fun us s1 ⟨vs, H1, I1, r1, q1⟩ => ?_) hs hpl))
  obtain ⟨a, b, b1, b2, xs, ys, ex, hqx, hqy, q⟩ := q1
  subst ex
  cases r1 with
  | cons r rr =>
    cases rr with
    | cons r' rr =>
      cases rr
      cases r
      cases r'
      have fresh5 : ∀ c, c ∈ [s1.heap.objs.size + 4, s1.heap.objs.size + 2, s1.heap.objs.size + 3, s1.heap.objs.size, s1.heap.objs.size + 1] → FpOk X pins H1 c := fun c hcm => by
        have e' : c = s1.heap.objs.size + 4 ∨ c = s1.heap.objs.size + 2 ∨ c = s1.heap.objs.size + 3 ∨ c = s1.heap.objs.size ∨ c = s1.heap.objs.size + 1 := by simpa using hcm
        have hle : s1.heap.objs.size ≤ c := by
          rcases e' with z | z | z | z | z
          · rw [z]; exact Nat.le_add_right _ _
          · rw [z]; exact Nat.le_add_right _ _
          · rw [z]; exact Nat.le_add_right _ _
          · rw [z]; exact Nat.le_refl _
          · rw [z]; exact Nat.le_add_right _ _
        exact I1.fpOk hle (I1.hok.fresh hle)
      obtain ⟨its, rv, p1⟩ := srB_of I1 hqx
      obtain ⟨its2, rv2, p2⟩ := srB_of I1 hqy
      refine callZB b1 b2 p1 p2 fun h' hz hTI hTO h1 h2 hk => wpAny_pyIter_zip hz ?_
      have I2 : Inv X pins σ H1 { s1 with heap := h' } := I1.kept (t' := s1.toks) hk
      exact ⟨s1.heap.objs.size + 4, [s1.heap.objs.size + 4, s1.heap.objs.size + 2, s1.heap.objs.size + 3, s1.heap.objs.size, s1.heap.objs.size + 1], _, _, H1, rfl, I2, turn_zipB (PySem.W.ktu_apart s1.heap.objs.size a b p1.lt p2.lt), ⟨hz, hTI, ⟨_, _, hTO⟩, h1, h2⟩, fresh5, q⟩
/-! on data -/
def zipL (xs ys : List D) : List D := (xs.zip ys).map fun p => .tup [p.1, p.2]
theorem zipL_get : ∀ {xs ys : List D} {i : Nat}, (zipL xs ys)[i]? = (match xs[i]?, ys[i]? with | some x, some y => some (.tup [x, y]) | _, _ => none)
  | [], ys, i => by simp [zipL]
  | x :: xs, [], i => by cases i <;> simp [zipL] <;> split <;> simp_all
  | x :: xs, y :: ys, 0 => by simp [zipL]
  | x :: xs, y :: ys, i + 1 => by
    have := zipL_get (xs := xs) (ys := ys) (i := i)
    simpa [zipL] using this
/-- a source with its data -/
inductive SrcD (K : PySem.W.Frag) (wl : WlT) (G : Hp) : Addr → List D → Bool → List V → Prop
  | mk {a : Addr} {ds : List D} {b : Bool} {vs : List V} (s : SqB K b G a vs) (l : IsL K wl G vs ds) : SrcD K wl G a ds b vs
theorem SqB.up {K : PySem.W.Frag} {b : Bool} {G H : Hp} {a : Addr} {vs : List V} (x : Hx G H) (s : SqB K b G a vs) : SqB K b H a vs := by
  cases b
  · exact x.sqL s
  · exact x.sqT s
theorem SqB.sub {K : PySem.W.Frag} {b : Bool} {G H : Hp} {a : Addr} {vs : List V} (x : Hx G H) (s : SqB K b G a vs) : SqB K b H a vs := s.up x
theorem yields_zipB {K : PySem.W.Frag} {T : Tb} {wl : WlT} {G : Hp} {a b : Addr} {b1 b2 : Bool} {vs us : List V} {ds es : List D} (h : SqB K b1 G a vs) (hl : IsL K wl G vs ds) (h' : SqB K b2 G b us) (hl' : IsL K wl G us es) : Yields K T wl (ItzB K b1 b2 a b) (zipL ds es) G := by
  intro i Γ O ρ σ G1 H w ew R x
  have s1 : SqB K b1 H a vs := (h.up x).up R.h.sub
  have s2 : SqB K b2 H b us := (h'.up x).up R.h.sub
  refine ⟨fun d e => ?_, fun e => ⟨vs, us, s1, s2, ?_⟩⟩
  · rw [zipL_get] at e
    split at e
    · rename_i d0 e0 q0 q1
      obtain rfl := Option.some.inj e
      obtain ⟨v, h1, h2⟩ := hl.get q0
      obtain ⟨u, h3, h4⟩ := hl'.get q1
      refine ⟨⟨vs, us, v, u, s1, s2, h1, h3⟩, fun y H' ⟨p, x1, y1, e1, hp, e2, e3, e4⟩ => ?_⟩
      subst e1 e2
      have t1 := e3 vs s1
      rw [h1] at t1; cases t1
      have t2 := e4 us s2
      rw [h3] at t2; cases t2
      subst ew
      have x2 := x.trans (hx_upd (o := .tup [v, u]) (R.h.gnone hp))
      exact ⟨_, Stp.new (R.h.gnone hp) hp, R.alloc hp noTup, .tup upd_same (.cons (h2.mono x2) (.cons (h4.mono x2) .nil))⟩
    · cases e
  · rw [zipL_get] at e
    rw [hl.length, hl'.length]
    split at e
    · cases e
    · rename_i z
      cases q0 : ds[i]? with
      | none => exact .inl (by simpa using q0)
      | some d => cases q1 : es[i]? with
        | none => exact .inr (by simpa using q1)
        | some e => exact absurd q1 (z d e q0)
def srcL : D → M (List D)
  | .tup xs => M.pure xs
  | .lst xs => M.pure xs
  | .scr xs => M.pure xs
  | .ktp xs => M.pure xs
  | _ => M.fail
def zipD : List D → M (List D)
  | [x, y] => M.bind (srcL x) fun xs => M.bind (srcL y) fun ys => M.pure (zipL xs ys)
  | _ => M.fail
theorem M.pb {α β : Type} {a : α} {f : α → M β} : M.bind (M.pure a) f = f a := rfl
theorem zipD_two {x y : D} : zipD [x, y] = M.bind (srcL x) fun xs => M.bind (srcL y) fun ys => M.pure (zipL xs ys) := rfl
theorem src_of {K : PySem.W.Frag} {wl : WlT} {G : Hp} {v : V} {d : D} {w : Wl} {k : List D → M (List D)} {w1 : Wl} (i : Is K wl G v d) (h : M.bind (srcL d) k w1 ≠ .fail) : ∃ a b vs ds, v = .ref a ∧ SqB K b G a vs ∧ IsL K wl G vs ds ∧ srcL d = M.pure ds := by
  cases i with
  | tup s l => exact ⟨_, true, _, _, rfl, SqT.of s, l, rfl⟩
  | lst s l => exact ⟨_, false, _, _, rfl, SqL.of s, l, rfl⟩
  | scr s l => exact ⟨_, false, _, _, rfl, s, l, rfl⟩
  | ktp s l => exact ⟨_, true, _, _, rfl, s, l, rfl⟩
  | _ => exact absurd rfl h
section
variable {X : Cx} {T : Tb} {O : List Nat} {Wx : WX}
theorem di_zip {a b : Expr} {fa : Env → M (List D)} {p pos tpos : Pos} {elts : List Expr} {kk : Nat} (hm : X.mg "zip" = none) (ha : DA X T O Wx [a, b] fa) (hg : Gl X "zip" := by rfl)
    (hs : starEach [a, b] X.env = (false, eval a X.env) :: starEach [b] X.env := by rfl) (hpl : (backTo pos (starEach [b] X.env)).any (·.1) = false := by rfl) :
    DI X T O Wx (.Tuple elts kk tpos) (.Call (.Name "zip" p) [a, b] [] pos) (argE zipD fa) :=
  pi_imp (pi_zipB hg hm ha hs hpl) fun σ H Q ⟨Γ, ρ, G, w, R, P⟩ => post_bind R P fun v d G1 H1 w1 x1 R1 i1 P1 => by
    cases i1 with
    | nil => exact False.elim P1
    | cons i1 i2 =>
      cases i2 with
      | nil => exact False.elim P1
      | cons i2 i3 =>
        cases i3 with
        | cons _ _ => exact False.elim P1
        | nil =>
          have n1 : zipD [_, _] w1 ≠ .fail := fun z => by rw [z] at P1; exact P1
          obtain ⟨a1, b1, vs, ds, rfl, s1, l1, e1⟩ := src_of (w := w1) i1 n1
          have P2 := P1
          rw [zipD_two] at P2 n1
          rw [e1, M.pb] at P2 n1
          obtain ⟨a2, b2, us, es, rfl, s2, l2, e2⟩ := src_of (w := w1) i2 n1
          rw [e2, M.pb] at P2
          exact ⟨a1, a2, b1, b2, vs, us, rfl, s1.up R1.h.sub, s2.up R1.h.sub, Post.ok P2 R1 (yields_zipB s1 l1 s2 l2)⟩
end
end Q

namespace Q
open PySem PySem.Spec PyProof.Rows L2
/-! ## for tg in xs: x = e (a value without objects): what xs reads stays owned -/
section
variable {K : PySem.W.Frag} {T : Tb} {Γ : Ctx} {O : List Nat} {ρ : Env} {σ σ' : L2.St} {G H : Hp} {w : Wl} {ys : List Nat}
theorem Rel.offW (R : Rel K T Γ O ρ σ G H w) (of : Off ys σ σ') (hd : ∀ j ∈ ys, j ∉ O) : Rel K T Γ O (wipeE ρ ys) σ' G H w := by
  refine ⟨R.h, by rw [wipeE_length, of.1]; exact R.len, fun i d hi e => ?_, fun i d hi e => ?_, fun i j l d e hi hj ne e1 e2 e3 e4 => ?_⟩
  · obtain ⟨h1, h2⟩ := wipeE_get e
    obtain ⟨v, q1, q2⟩ := R.fro i d hi h2
    exact ⟨v, by rw [of.2 i h1]; exact q1, q2⟩
  · obtain ⟨h1, h2⟩ := wipeE_get e
    obtain ⟨l, o, q1, q2⟩ := R.own i d hi h2
    exact ⟨l, o, by rw [of.2 i h1]; exact q1, q2⟩
  · obtain ⟨h1, h2⟩ := wipeE_get e1
    obtain ⟨h3, h4⟩ := wipeE_get e2
    rw [of.2 i h1] at e3
    rw [of.2 j h3] at e4
    exact R.inj i j l d e hi hj ne h2 h4 e3 e4
theorem Rel.know {i : Nat} {v : V} {d : D} (R : Rel K T Γ O ρ σ G H w) (hi : i ∉ O) (e : σ[i]? = some (some v)) (iv : Is K Γ.wl G v d) : Rel K T Γ O (ρ.set i (some d)) σ G H w := by
  refine ⟨R.h, by rw [List.length_set]; exact R.len, fun j d' hj h => ?_, fun j d' hj h => ?_, fun j k l d1 d2 hj hk ne h1 h2 h3 h4 => ?_⟩
  · rcases get_set h with ⟨rfl, q⟩ | ⟨ne, q⟩
    · cases q; exact ⟨v, e, iv⟩
    · exact R.fro j d' hj q
  · rcases get_set h with ⟨rfl, q⟩ | ⟨ne, q⟩
    · exact absurd hj hi
    · exact R.own j d' hj q
  · rcases get_set h1 with ⟨rfl, q⟩ | ⟨_, q1⟩
    · exact absurd hj hi
    · rcases get_set h2 with ⟨rfl, q⟩ | ⟨_, q2⟩
      · exact absurd hk hi
      · exact R.inj j k l d1 d2 hj hk ne q1 q2 h3 h4
theorem Off.weak {vs us : List Nat} {σ σ' : L2.St} (h : Off vs σ σ') (hs : ∀ j ∈ vs, j ∈ us) : Off us σ σ' := ⟨h.1, fun j hj => h.2 j fun z => hj (hs j z)⟩
theorem Off.set {us : List Nat} {σ : L2.St} {i : Nat} {v : Option V} (hi : i ∈ us) : Off us σ (σ.set i v) := ⟨List.length_set, fun j hj => List.getElem?_set_ne (fun z => hj (by rw [← z]; exact hi))⟩
end
def foldL (g : D → Env → M Env) (fe : Env → M D) (i : Nat) : List D → Env → M Env
  | [], ρ => M.pure ρ
  | d :: ds, ρ => M.bind (noX (g d ρ)) fun ρ1 => M.bind (fe ρ1) fun v => foldL g fe i ds (ρ1.set i (some v))
def foldK (i : Nat) (xs : List Nat) (ρ ρ' : Env) : M Fl := match ρ'[i]? with
  | some (some d) => if d.atom = true then M.pure (.nx ((wipeE ρ (i :: xs)).set i (some d))) else M.fail
  | _ => M.fail
theorem foldK_ok {K : PySem.W.Frag} {T : Tb} {Γ : Ctx} {L O : List Nat} {Wx : WX} {G : Hp} {E : Ends} {i : Nat} {xs : List Nat} {ρ ρ' : Env} {w : Wl} (P : PostS K T Γ L O Wx G (foldK i xs ρ ρ' w) E) :
    ∃ d, ρ'[i]? = some (some d) ∧ d.atom = true ∧ PostS K T Γ L O Wx G (M.pure (.nx ((wipeE ρ (i :: xs)).set i (some d))) w) E := by
  unfold foldK at P
  generalize ρ'[i]? = r at P
  match r, P with
  | some (some d), P =>
    obtain ⟨ha, P4⟩ := ifS P
    exact ⟨d, rfl, ha, P4⟩
  | some none, P => exact False.elim P
  | none, P => exact False.elim P
def foldS (i : Nat) (xs : List Nat) (fi : Env → M (List D)) (g : D → Env → M Env) (fe : Env → M D) : Env → M Fl := fun ρ => M.bind (fi ρ) fun items => M.bind (foldL g fe i items ρ) fun ρ' => foldK i xs ρ ρ'
section
variable {X : Cx} {T : Tb} {L O : List Nat} {Wx : WX} {xs : List Nat} {tg iter val : Expr} {pos p1 p2 : Pos} {fi : Env → M (List D)} {g : D → Env → M Env} {fe : Env → M D}
theorem ds_fold (i0 : Nat) {x : Str} (hN : X.N.Nodup) (hp : PassesOwn (model X.prog X.w) X.A X.env X.xe) (hc : X.calm = true) (hi : DI X T [] Wx tg iter fi) (hg : DG X T [] [] xs tg g) (he : DE X T [] Wx val fe)
    (hd : ∀ j ∈ i0 :: xs, j ∉ O := by decide) (hi0 : X.N[i0]? = some x := by rfl) (hx : Loc X.env.scope x := by first | exact Or.inl rfl | exact Or.inr rfl)
    (hsw : swapsWith val (some (.Name x p2)) p1.line X.env = pure false := by rfl) (hfn : X.fn x = true ∨ X.env.scope.names.lookup x = some .local := by first | exact .inl rfl | exact .inr rfl)
    (hf : ∀ x, foldedSetIterable iter X.env x = pure x := by intro _; rfl) : DS X T L O O Wx (.For tg iter [.Assign [.Name x p2] val p1] [] pos) (foldS i0 xs fi g fe) :=
  ps_imp (ps_for hp hc hi hg (pss_one (ps_set hN hi0 hx he hsw hfn)) hf) fun E σ H ⟨Γ, ρ, G, w, R, P⟩ => by
    obtain ⟨G1, x1, R1⟩ := R.thaw (O1 := []) (fun _ z => nomatch z)
    refine PostS.bindE P x1 R1 fun J items G2 H2 w2 st2 R2 Y P2 => ?_
    refine ⟨fun i m σ' H' => i ≤ items.length ∧ m = items.length - i ∧ ∃ ρ' G' w', Stp Γ.wl G1 H G' H' ∧ Hx G2 G' ∧ Off (i0 :: xs) σ σ' ∧ Rel X.K T Γ [] ρ' σ' G' H' w' ∧ PostS X.K T Γ L O Wx G (M.bind (foldL g fe i0 (items.drop i) ρ') (foldK i0 xs ρ) w') E, ⟨items.length, Nat.zero_le _, rfl, ρ, G2, w2, st2, Hx.refl _, Off.refl, R2, P2⟩, ?_⟩
    rintro i m σ' H' ⟨hle, rfl, ρ', G', w', st', x2, of', R', P'⟩
    obtain ⟨Ya, Yb⟩ := Y i Γ [] ρ' σ' G' H' w' rfl R' x2
    rcases drop_get (l := items) (i := i) with ⟨e1, e2⟩ | ⟨d, e1, e2⟩
    · rw [e2] at P'
      refine .inl ⟨Yb e1, ?_⟩
      have P3 : PostS X.K T Γ L O Wx G (foldK i0 xs ρ ρ' w') E := P'
      obtain ⟨d, hd', ha, P4⟩ := foldK_ok P3
      obtain ⟨v, q1, q2⟩ := R'.fro i0 d (fun z => nomatch z) hd'
      obtain ⟨gx, Rb⟩ := R.back R'.h (x1.trans st'.x) st'.kp
      exact P4 σ' _ H' gx ((Rb.offW of' hd).know (hd i0 List.mem_cons_self) q1 (q2.atom ha))
    · rw [e2] at P'
      have hlt : i < items.length := (List.getElem?_eq_some_iff.mp e1).1
      obtain ⟨go, yl⟩ := Ya d e1
      refine .inr ⟨go, fun σ' H' => i + 1 ≤ items.length ∧ ∃ ρ' G' w', Stp Γ.wl G1 H G' H' ∧ Hx G2 G' ∧ Off (i0 :: xs) σ σ' ∧ Rel X.K T Γ [] ρ' σ' G' H' w' ∧ PostS X.K T Γ L O Wx G (M.bind (foldL g fe i0 (items.drop (i + 1)) ρ') (foldK i0 xs ρ) w') E, fun σ' H' ⟨h1, h2⟩ => ⟨items.length - (i + 1), by omega, h1, rfl, h2⟩, fun x H3 hy => ?_⟩
      obtain ⟨G3, st3, R3, i3⟩ := yl x H3 hy
      simp only [foldL] at P'
      rw [M.bind_assoc] at P'
      refine noX_target (Pr := fun r => PostS X.K T Γ L O Wx G r E) (fun z => z) R3 i3 P' fun ρ1 σ1 G4 H4 w4 of4 st4 R4 P4 => ?_
      rw [M.bind_assoc] at P4
      have st14 := st'.trans (st3.trans st4)
      refine PostS.bindE P4 (x1.trans st14.x) R4 fun v dv G5 H5 w5 st5 R5 i5 P5 => ?_
      have st15 := st14.trans st5
      refine ⟨hlt, ρ1.set i0 (some dv), G5, w5, st15, x2.trans (st3.x.trans (st4.x.trans st5.x)), (of'.trans (of4.weak fun j hj => List.mem_cons_of_mem _ hj)).trans (Off.set List.mem_cons_self), R5.store i5, P5⟩
end
end Q

namespace Q
open PySem PySem.Spec PyProof.Rows L2
/-! ## a def of the module handed as a function -/
theorem beh_glob {P : Program} {w : World} {K : PySem.W.Frag} {mg : Str → Option Value} {base : Heap} {τ : List NdefX.NTab} {k m : Nat} {f : Addr} {fd : FuncData} {ps : List Str} {g : List D → M D} {fname qual : Str} {params : Arguments} {body : List Stmt} {scope : Scope} {dvs : List V} {kws : List (Str × V)}
    (F : FnG P w K mg base k f fd ps (spD K τ m g)) (D : FunD K fname qual params body scope dvs kws f fd) (hb : Binds K fd ps []) (hm : ps.length = m) (g0 : Hp) (wo : Option Addr) : Beh P w K mg base k τ g0 wo f m g := by
  refine ⟨fun s H kin ok x => ?_, fun A outer s H us vs Q E hg hr e0 r ⟨wl, G, wv, ds, hw, hx, en, l, hl, P1⟩ => ?_⟩
  · obtain ⟨oc, od, dV, kV, doc, pm, an, cdv, ct, osl, rfl, lk, _⟩ := D.ex
    exact ⟨oc, od, _, osl, kin f _ lk⟩
  · have kin : K.In s.heap := e0.mod.kin.keeps fun b o e => (e0.bs b o e).1
    have b := hb s us kin (by rw [List.append_nil, ← r.length, hl, hm])
    rw [List.append_nil] at b
    exact F.run A outer s H ⟨us, []⟩ us vs Q E hg hr e0 b r ⟨wl, G, wv, ds, en, l, hl, P1⟩
def tLG (K : PySem.W.Frag) (T : Tb) (O : List Nat) (Wx : WX) (f : Addr) (fr : Env → M (List D)) : TA := fun σ H Q => ∃ Γ ρ G w, Rel K T Γ O ρ σ G H w ∧ Post K T Γ O Wx ρ σ G H IsA (fr ρ w) (fun vs H' => Q (vs ++ [.ref f]) H')
def DAG (X : Cx) (T : Tb) (O : List Nat) (Wx : WX) (f : Addr) (es : List Expr) (fr : Env → M (List D)) : Prop := PA X es (tLG X.K T O Wx f fr)
def callGE (n : Nat) (dF : (List D → M D) → List D → M D) (g : List D → M D) (fr : Env → M (List D)) : Env → M D := fun ρ => M.bind (fr ρ) fun ds =>
  if ds.length + 1 = n ∧ D.nofnL ds = true then M.bind (noX (dF g ds)) fun d => if d.nofn = true then M.pure d else M.fail else M.fail
section
variable {X : Cx} {T : Tb} {L O O' : List Nat} {Wx : WX} {e : Expr} {es : List Expr} {fe : Env → M D} {fr : Env → M (List D)} {p pos pos2 : Pos}
theorem dag_last {f : Addr} {x : Str} (hm : X.mg x = some (.ref f)) (hg : Gl X x := by rfl) (hd : (x == ("__debug__" : Str)) = false := by decide) (hs : starEach [.Name x p] X.env = (false, eval (.Name x p) X.env) :: starEach [] X.env := by rfl) : DAG X T O Wx f [.Name x p] nilA :=
  pa_imp (pa_cons (pe_glob (v := .ref f) hg hm rfl hd) pa_nil hs) fun σ H Q ⟨Γ, ρ, G, w, R, P⟩ => Post.ok (v := ([] : List V)) P R IsL.nil
theorem dag_cons {f : Addr} (ha : DE X T O Wx e fe) (hr : DAG X T O Wx f es fr) (hs : starEach (e :: es) X.env = (false, eval e X.env) :: starEach es X.env := by rfl) : DAG X T O Wx f (e :: es) (consA fe fr) :=
  pa_imp (pa_cons ha hr hs) fun σ H Q ⟨Γ, ρ, G, w, R, P⟩ => post_bind (Q := fun vs H' => Q (vs ++ [.ref f]) H') R P fun v d G1 H1 w1 st R1 i1 P1 => by
    have P2 : Post X.K T Γ O Wx ρ σ G1 H1 IsA (M.bind (fr ρ) (fun xs => M.pure (d :: xs)) w1) (fun vs H' => Q (vs ++ [.ref f]) H') := P1
    refine ⟨Γ, ρ, G1, w1, R1, ?_⟩
    simp only [M.bind] at P2
    cases q : fr ρ w1 with
    | fail => rw [q] at P2; exact P2
    | exc c p' w' => rw [q] at P2; exact P2
    | ok ds w' =>
      rw [q] at P2
      intro vs G2 H2 st2 R2 i2
      exact P2 (v :: vs) G2 H2 st2 R2 (.cons (i1.mono st2.x) i2)
theorem de_callG {x : Str} {h fy : Addr} {fd : FuncData} {ps : List Str} {k kc j m : Nat} {dF : (List D → M D) → List D → M D} {g : List D → M D}
    (B : ∀ g0 wo, Beh X.prog X.w X.K X.mg X.base kc T.tabs g0 wo fy m g) (F : ∀ (g0 : Hp) (wo : Option Addr), Beh X.prog X.w X.K X.mg X.base kc T.tabs g0 wo fy m g → FnG X.prog X.w X.K X.mg X.base k h fd ps (spF X.K T.tabs g0 wo fy ps.length (dF g)))
    (ok : Ok j X) (hk : k ≤ j) (tk : Takes X Wx) (hm : X.mg x = some (.ref h)) (kp : PySem.W.keepIn X.K (.ref h) = true) (hb : Binds X.K fd ps []) (ha : DAG X T O Wx fy (e :: es) fr)
    (hg : Gl X x := by rfl) (hdb : (x == ("__debug__" : Str)) = false := by decide) (he : starEach (e :: es) X.env = (false, eval e X.env) :: starEach es X.env := by rfl) (hpl : (backTo pos (starEach es X.env)).any (·.1) = false := by rfl) :
    DE X T O Wx (.Call (.Name x p) (e :: es) [] pos) (callGE ps.length dF g fr) := by
  refine ⟨fun pins s σ H Q I hh => ?_⟩
  refine wpAny_Call_Name_kw (ld_glob I hg hm ?_ hdb)
  obtain ⟨Γ, ρ, G, w, R, P⟩ := hh
  have q : tLG X.K T O Wx fy fr σ H (fun vs H1 => ∃ us ds G1 w1, vs = us ++ [.ref fy] ∧ Rel X.K T Γ O ρ σ G1 H1 w1 ∧ Stp Γ.wl G H G1 H1 ∧ IsL X.K Γ.wl G1 us ds ∧
      Post X.K T Γ O Wx ρ σ G1 H1 IsV ((if ds.length + 1 = ps.length ∧ D.nofnL ds = true then M.bind (noX (dF g ds)) fun d => if d.nofn = true then M.pure d else M.fail else M.fail) w1) Q) := by
    refine ⟨Γ, ρ, G, w, R, ?_⟩
    have P0 : Post X.K T Γ O Wx ρ σ G H IsV (M.bind (fr ρ) (fun ds => if ds.length + 1 = ps.length ∧ D.nofnL ds = true then M.bind (noX (dF g ds)) fun d => if d.nofn = true then M.pure d else M.fail else M.fail) w) Q := P
    simp only [M.bind] at P0
    cases e : fr ρ w with
    | fail => rw [e] at P0; exact P0
    | exc c p w' => rw [e] at P0; exact P0
    | ok ds w1 =>
      rw [e] at P0
      intro us G1 H1 st R1 l
      exact ⟨us, ds, G1, w1, rfl, R1, st, l, Post.step P0 st⟩
  refine PySem.W.callWith_K (h₀ := X.base) I.ok.mod.kin kp (thn (ha.run pos pins s σ H _ I q) ?_) he hpl
  rintro vals s1 ⟨vs, H1, I1, rv, us, ds, G1, w1, ev, R1, st, l, P1⟩
  refine ⟨I1.kIn, ?_⟩
  obtain ⟨⟨c1, c2⟩, P2⟩ := ifP' P1
  have Fc := F (fun _ => none) Γ.wl.w (B _ _)
  have hl : vals.length = ps.length := by rw [← rv.length, ev, List.length_append, l.length]; exact c1
  have hbt := hb s1 vals I1.kIn (by rw [List.append_nil]; exact hl)
  rw [List.append_nil] at hbt
  have sp : spF X.K T.tabs (fun _ => none) Γ.wl.w fy ps.length (dF g) vs H1 Q (WE Wx σ) := by
    have en := R1.h.enter
    refine ⟨⟨Γ.wl.w, fun i => [fy][i]?⟩, G1, w1, ds, us, ⟨en.sub, en.nt, en.well, en.tabs, en.tv⟩, rfl, fun _ => rfl, fun _ _ z => (nomatch z), ev, IsL.swap (wl := Γ.wl) (wl' := ⟨Γ.wl.w, fun i => [fy][i]?⟩) (by rfl) l c2, by rw [l.length]; exact c1, ?_⟩
    simp only [M.bind, noX] at P2
    cases e2 : dF g ds w1 with
    | fail => rw [e2] at P2; exact P2
    | exc c p w' => rw [e2] at P2; exact False.elim P2
    | ok d w' =>
      rw [e2] at P2
      have P3 : Post X.K T Γ O Wx ρ σ G1 H1 IsV ((if d.nofn = true then M.pure d else M.fail) w') Q := P2
      obtain ⟨nf, P4⟩ := ifP' P3
      intro v G' H' r i
      have r' : RelH (tb0 T.tabs) ⟨Γ.wl, G1, H1⟩ G' H' w' := ⟨r.sub, r.nt, r.nw, r.g0, r.keep, r.mono, r.well, r.tabs, fun z => absurd rfl z, fun _ _ z => (nomatch z), r.tv⟩
      obtain ⟨R', st'⟩ := R1.after r'
      exact P4 v G' H' st' R' (Is.swap (wl := ⟨Γ.wl.w, fun i => [fy][i]?⟩) (wl' := Γ.wl) (by rfl) i nf)
  refine wpAny_call (codeAny_mono (Fc.run X.A X.stack s1 H1 ⟨vals, []⟩ vals vs Q (WE Wx σ) ok.g (ok.room.mono hk) I1.env0 hbt rv sp) ?_)
  intro r s2 h
  cases r with
  | error e => exact passAt tk σ pins H1 s1 e s2 I1 h
  | ok fl =>
    cases fl with
    | ret u => exact I1.after h
    | _ => exact False.elim h
/-- the def within, and behind it x = a call that gets it, then the rest -/
theorem dss_fnSet {st : Stmt} {x y name : Str} {h : Addr} {fd : FuncData} {ps ps' fr' N' : List Str} {js : List Nat} {k kc j : Nat} {dF : (List D → M D) → List D → M D} {gb : Env → M Fl} {OC : List Nat} {nm : Nat → Nat → Str} {c T0 : Addr} {posS posT : Pos} {rest : List Stmt} {frest : Env → M Fl} (i jy : Nat)
    (hst : st = .FunctionDef name (C8.fnArgs st) (C8.fnBody st) [] none [] (C8.fnScope st) none name posS) (TB : LamX.TabB X.base X.mg c T0) (hcode : X.env.code = .ref c) (mem : (T0, nm) ∈ T.tabs) (nam : nm posS.line posS.col = X.env.qual ++ name)
    (uni : ∀ q ∈ T.tabs, q.1 = T0 → q.2 = nm) (free : ∀ y ∈ (C8.fnScope st).names, y.2 = .free → X.env.scope.names.lookup y.1 = some .cell ∨ X.env.scope.names.lookup y.1 = some .free) (d0 : (C8.fnArgs st).defaults = []) (k0 : (C8.fnArgs st).kw_defaults = []) (an : annTrees (C8.fnArgs st) none X.env = [])
    (hN : X.N.Nodup) (hi : X.N[i]? = some name) (hx : Loc X.env.scope name) (hf : X.fn name = true ∨ X.env.scope.names.lookup name = some .local) (hfn : ∀ x, X.fn x = true)
    (S : NdefX.NScope N' ps' fr' (C8.fnScope st)) (hbd : ∀ (c' : Addr) (doc pm ctv : Value) (us : List Value), us.length = ps'.length → bindArgs ((NdefX.NF.of st name (X.env.qual ++ name) (cloFrom X.env.cells (C8.fnScope st).names []) c').fd doc pm ctv) ⟨us, []⟩ = pure (ps'.zip us))
    (hfr : ∀ y ∈ fr', (y, NameKind.free) ∈ (C8.fnScope st).names) (hjs : js.map (fun j => X.N[j]?) = fr'.map some)
    (hbody : ∀ (base' : Heap), (∀ b o, X.base.get? b = some o → base'.get? b = some o) → ∀ (c' f : Addr) (A : Around) (outer : List PySem.Env) (s : Shared) (H : Hp) (E : XK), Ok kc (NdefX.ncx (L2.CX X.prog X.w) X.prog X.w X.K X.mg base' N' (NdefX.NF.of st name (X.env.qual ++ name) (cloFrom X.env.cells (C8.fnScope st).names []) c') f A outer s H E) →
      DSs (NdefX.ncx (L2.CX X.prog X.w) X.prog X.w X.K X.mg base' N' (NdefX.NF.of st name (X.env.qual ++ name) (cloFrom X.env.cells (C8.fnScope st).names []) c') f A outer s H E) (tb0 T.tabs) [] [] OC (WxE E) (C8.fnBody st) gb)
    (F : ∀ (base' : Heap), (∀ b o, X.base.get? b = some o → base'.get? b = some o) → ∀ (fa : Addr) (g0 : Hp) (wo : Option Addr) (g : List D → M D), Beh X.prog X.w X.K X.mg base' (kc + 1) T.tabs g0 wo fa ps'.length g → FnG X.prog X.w X.K X.mg base' k h fd ps (spF X.K T.tabs g0 wo fa ps.length (dF g)))
    (ok : Ok j X) (hk : k ≤ j) (tk : Takes X Wx) (hm : X.mg x = some (.ref h)) (kp : PySem.W.keepIn X.K (.ref h) = true) (hb : Binds X.K fd ps []) (ha : DAF X T [] Wx i (e :: es) fr)
    (hrest : DSs X T L [] O' Wx rest frest) (hjy : X.N[jy]? = some y := by rfl) (hy : Loc X.env.scope y := by first | exact Or.inl rfl | exact Or.inr rfl)
    (hsw : swapsWith (.Call (.Name x p) (e :: es) [] pos) (some (.Name y posT)) pos2.line X.env = pure false := by rfl) (hfy : X.fn y = true ∨ X.env.scope.names.lookup y = some .local := by first | exact .inl rfl | exact .inr rfl)
    (hg : Gl X x := by rfl) (hdb : (x == ("__debug__" : Str)) = false := by decide) (he : starEach (e :: es) X.env = (false, eval e X.env) :: starEach es X.env := by rfl) (hpl : (backTo pos (starEach es X.env)).any (·.1) = false := by rfl) :
    DSs X T L O O' Wx (st :: .Assign [.Name y posT] (.Call (.Name x p) (e :: es) [] pos) pos2 :: rest) (fun ρ => seqS (setS jy (callCE ps.length N'.length js dF gb fr)) frest (ρ.set i none)) := by
  have cp : X.Ok → NdefX.Caps X (cloFrom X.env.cells (C8.fnScope st).names []) fr' js := fun okX => NdefX.Caps.made okX free hfr hjs
  refine pss_imp (pss_cons (ps_fn (i := i) hst TB hcode mem nam uni free d0 k0 an hN hi hx hf) (pss_cons (ps_set (i := jy) hN hjy hy (pe_callC (mk := NdefX.NF.of st name (X.env.qual ++ name) (cloFrom X.env.cells (C8.fnScope st).names [])) hfn (fun _ => rfl) (fun _ => rfl) (fun _ => S) hbd cp (fun okX => (cp okX).sub) hbody F ok hk tk hm kp hb ha hg hdb he hpl) hsw hfy) hrest)) fun D σ H ⟨Γ, ρ, G, w, R, P⟩ => ?_
  obtain ⟨G1, x1, R1⟩ := R.thaw (O1 := []) (by intro i hi; cases hi)
  refine ⟨R1.h.tabs, fun f c' H1 hl gr tb f0 f1 c1 => ?_⟩
  obtain ⟨gx, rh⟩ := R1.h.grow gr tb
  have R2 : Rel X.K T Γ [] (ρ.set i none) (σ.set i (some (.ref f))) (tupG G1 H1) H1 w := by
    refine ⟨rh, by rw [List.length_set, List.length_set]; exact R1.len, fun j d _ h => ?_, fun j d hj => (by cases hj), fun j k l d e hj => (by cases hj)⟩
    rcases get_set h with ⟨_, q⟩ | ⟨ne, q⟩
    · cases q
    · obtain ⟨v, h1, h2⟩ := R1.fro j d (by simp) q
      exact ⟨v, by rw [List.getElem?_set_ne ne]; exact h1, h2.mono gx⟩
  have fix : ∀ {a : Addr} {o : HO}, H1 a = some o → isF o = true → tupG G1 H1 a = some o := fun {a o} h hf => rh.tv a o hf h
  refine ⟨Γ, ρ.set i none, tupG G1 H1, w, f, c', R2, set_get hl, fix f1 rfl, fix c1 rfl, ?_⟩
  have P1 : PostS X.K T Γ L O' Wx G (M.bind (M.bind (callCE ps.length N'.length js dF gb fr (ρ.set i none)) fun d => M.pure (Fl.nx ((ρ.set i none).set jy (some d)))) (fun r => match r with | Fl.nx ρ' => frest ρ' | r => M.pure r) w) D := P
  rw [M.bind_assoc] at P1
  simp only [M.bind] at P1
  cases e : callCE ps.length N'.length js dF gb fr (ρ.set i none) w with
  | fail => rw [e] at P1; exact P1
  | exc c p w' => rw [e] at P1; exact fun cls dd G' H' h1 h2 h3 => P1 cls dd _ G' H' ((x1.trans gx).trans h1.x) h2 h3
  | ok d w' =>
    rw [e] at P1
    refine fun v G2 H2 hx R3 i3 => ⟨Γ, (ρ.set i none).set jy (some d), G2, w', R3.store i3, ?_⟩
    exact PostS.widen (show PostS X.K T Γ L O' Wx G (frest ((ρ.set i none).set jy (some d)) w') D from P1) ((x1.trans gx).trans hx.x)
end
end Q

namespace Q
open PySem PySem.Spec PyProof.Rows L2
/-! ## range with a step -/
def rng3L (i c : Int) (n : Nat) : List D := (List.range n).map fun k => .int (i + (k : Nat) * c)
def rng3D : List D → M (List D)
  | [.int i, .int j, .int c] => if c ≠ 0 ∧ c.natAbs < 1073741824 ∧ Builtin.Range.small i j c = true ∧ 0 ≤ Builtin.Range.rangeSize i j c then M.pure (rng3L i c (Builtin.Range.rangeSize i j c).toNat) else M.fail
  | _ => M.fail
theorem yields_rngC {K : PySem.W.Frag} {T : Tb} {wl : WlT} {G : Hp} {lo c : Int} {n : Nat} : Yields K T wl (Itc lo c n) (rng3L lo c n) G := by
  intro i Γ O ρ σ G1 H w ew R x
  unfold rng3L
  refine ⟨fun d e => ?_, fun e => ?_⟩
  · rw [List.getElem?_map] at e
    by_cases hi : i < n
    · rw [List.getElem?_range hi] at e
      obtain rfl := Option.some.inj e
      exact ⟨hi, fun y H' ⟨e1, e2⟩ => by subst e1 e2; exact ⟨G1, Stp.refl, R, .int _⟩⟩
    · rw [List.getElem?_eq_none_iff.mpr (by simp; omega)] at e; cases e
  · have := List.getElem?_eq_none_iff.mp e
    show n ≤ i
    simpa using this
theorem rng3_eq {i j c : Int} : rng3D [.int i, .int j, .int c] = if c ≠ 0 ∧ c.natAbs < 1073741824 ∧ Builtin.Range.small i j c = true ∧ 0 ≤ Builtin.Range.rangeSize i j c then M.pure (rng3L i c (Builtin.Range.rangeSize i j c).toNat) else M.fail := rfl
theorem rng3_of {K : PySem.W.Frag} {wl : WlT} {G : Hp} {vs : List V} {ds : List D} {w : Wl} (l : IsL K wl G vs ds) (h : rng3D ds w ≠ .fail) :
    ∃ (i j c : Int) (n : Nat), vs = [.int i, .int j, .int c] ∧ RgC i j c n ∧ rng3D ds = M.pure (rng3L i c n) := by
  cases l with
  | nil => exact absurd rfl h
  | cons a l => cases a <;> cases l <;> first
    | exact absurd rfl h
    | (rename_i a l; cases a <;> cases l <;> first
      | exact absurd rfl h
      | (rename_i a l; cases a <;> cases l <;> first
        | exact absurd rfl h
        | (rename_i i j c
           by_cases q : c ≠ 0 ∧ c.natAbs < 1073741824 ∧ Builtin.Range.small i j c = true ∧ 0 ≤ Builtin.Range.rangeSize i j c
           · exact ⟨i, j, c, (Builtin.Range.rangeSize i j c).toNat, rfl, ⟨q.1, q.2.1, q.2.2.1, (Int.toNat_of_nonneg q.2.2.2).symm⟩, by rw [rng3_eq, if_pos q]⟩
           · exact absurd (by rw [rng3_eq, if_neg q]; rfl) h)))
section
variable {X : Cx} {T : Tb} {O : List Nat} {Wx : WX}
theorem di_rng3 {tg a b c : Expr} {fa : Env → M (List D)} {p pos : Pos} (hm : X.mg "range" = none) (ha : DA X T O Wx [a, b, c] fa) (hg : Gl X "range" := by rfl)
    (hs : starEach [a, b, c] X.env = (false, eval a X.env) :: starEach [b, c] X.env := by rfl) (hpl : (backTo pos (starEach [b, c] X.env)).any (·.1) = false := by rfl) :
    DI X T O Wx tg (.Call (.Name "range" p) [a, b, c] [] pos) (argE rng3D fa) :=
  pi_imp (pi_range3 hg hm ha hs hpl) fun σ H Q ⟨Γ, ρ, G, w, R, P⟩ => post_bind R P fun v d G1 H1 w1 x1 R1 i1 P1 => by
    obtain ⟨i, j, c, n, e, r, q⟩ := rng3_of (w := w1) i1 fun z => by rw [z] at P1; exact P1
    rw [q] at P1
    exact ⟨i, j, c, n, e, r, Post.ok P1 R1 yields_rngC⟩
theorem dik_rng3 {tg a b c : Expr} {fa : Env → M (List D)} {p pos : Pos} (hm : X.mg "range" = none) (ha : DA X T O Wx [a, b, c] fa) (hg : Gl X "range" := by rfl)
    (hs : starEach [a, b, c] X.env = (false, eval a X.env) :: starEach [b, c] X.env := by rfl) (hpl : (backTo pos (starEach [b, c] X.env)).any (·.1) = false := by rfl) :
    DIK X T O Wx tg (.Call (.Name "range" p) [a, b, c] [] pos) (argE rng3D fa) :=
  pi_imp (pi_range3 hg hm ha hs hpl) fun σ H Q ⟨Γ, ρ, G, w, R, P⟩ => post_bind R P fun v d G1 H1 w1 x1 R1 i1 P1 => by
    obtain ⟨i, j, c, n, e, r, q⟩ := rng3_of (w := w1) i1 fun z => by rw [z] at P1; exact P1
    rw [q] at P1
    exact ⟨i, j, c, n, e, r, Post.ok P1 R1 fun _ => yields_rngC⟩
/-! ## sep.join(texts) -/
def joinM (a : Str) : List D → M D
  | [.lst ds] => match strsD ds with
    | some ys => if (ys.map (·.length)).sum + ys.length * a.length ≤ 16777216 then M.pure (.str (Txt.join a ys)) else M.fail
    | none => M.fail
  | [.tup ds] => match strsD ds with
    | some ys => if (ys.map (·.length)).sum + ys.length * a.length ≤ 16777216 then M.pure (.str (Txt.join a ys)) else M.fail
    | none => M.fail
  | _ => M.fail
def joinE (fo : Env → M D) (fa : Env → M (List D)) : Env → M D := fun ρ => M.bind (fo ρ) fun x => match x with
  | .str a => M.bind (fa ρ) (joinM a)
  | _ => M.fail
theorem de_join {o e : Expr} {fo : Env → M D} {fa : Env → M (List D)} {apos cpos : Pos} (ho : DE X T O Wx o fo) (ha : DA X T O Wx [e] fa)
    (hbase : attributeBase o "join" X.env (eval o X.env) = eval o X.env := by rfl)
    (hfew : ((backTo cpos (starEach [e] X.env)).all (fun x => !x.1) && (backToKw cpos (keywordEach [] X.env)).all (fun x => x.1.isSome)
      && decide (([e] : List Expr).length + ([] : List Keyword).length + (if ([] : List Keyword).isEmpty then 0 else 1) < 30)) = true := by rfl)
    (hline : (apos.endLine == cpos.line) = true := by rfl) (hs : starEach [e] X.env = (false, eval e X.env) :: starEach [] X.env := by rfl) (hplain : (backTo cpos (starEach [] X.env)).any (·.1) = false := by rfl) :
    DE X T O Wx (.Call (.Attribute o "join" apos) [e] [] cpos) (joinE fo fa) :=
  pe_imp (pe_bm PySem.F.plainAttrs_str PySem.F.slot_str_join PySem.F.type_str_join mt_join ho ha hbase hfew hline hs hplain) fun σ H Q ⟨Γ, ρ, G, w, R, P⟩ => post_bind R P fun v d G1 H1 w1 st R1 i P1 => by
    cases i with
    | str a =>
      refine ⟨rfl, post_bind R1 P1 fun vs ds G2 H2 w2 st2 R2 l P2 => ?_⟩
      cases l with
      | nil => exact False.elim P2
      | cons i2 l => cases l with
        | cons _ _ => cases i2 <;> exact False.elim P2
        | nil => cases i2 with
          | @lst p vs ds s il =>
            simp only [joinM] at P2
            cases h : strsD ds with
            | none => rw [h] at P2; exact False.elim P2
            | some ys =>
              rw [h] at P2
              dsimp only at P2
              by_cases few : (ys.map (·.length)).sum + ys.length * a.length ≤ 16777216
              · rw [if_pos few] at P2
                obtain rfl := il.strs h
                exact ⟨a, p, ys, rfl, rfl, .inl (SqL.of (R2.h.sub _ _ s)), few, Post.ok P2 R2 (.str _)⟩
              · rw [if_neg few] at P2; exact False.elim P2
          | @tup p vs ds s il =>
            simp only [joinM] at P2
            cases h : strsD ds with
            | none => rw [h] at P2; exact False.elim P2
            | some ys =>
              rw [h] at P2
              dsimp only at P2
              by_cases few : (ys.map (·.length)).sum + ys.length * a.length ≤ 16777216
              · rw [if_pos few] at P2
                obtain rfl := il.strs h
                exact ⟨a, p, ys, rfl, rfl, .inr (R2.h.sub.tq s), few, Post.ok P2 R2 (.str _)⟩
              · rw [if_neg few] at P2; exact False.elim P2
          | _ => exact False.elim P2
    | _ => exact False.elim P1
/-! ## sorted(unlike texts) -/
def sortSM : List D → M D
  | [.lst ds] => match strsD ds with
    | some xs => if xs.length < 64 ∧ xs.Nodup then M.pure (.lst ((setSort xs).map D.str)) else M.fail
    | none => M.fail
  | _ => M.fail
theorem df_sortS {e : Expr} {es : List Expr} {fa : Env → M (List D)} {p pos : Pos} (hm : X.mg "sorted" = none) (ha : DA X T O Wx (e :: es) fa) (hg : Gl X "sorted" := by rfl) (hn : ("sorted" : Str) ≠ "__name__" := by decide) (hdb : (("sorted" : Str) == ("__debug__" : Str)) = false := by decide)
    (he : starEach (e :: es) X.env = (false, eval e X.env) :: starEach es X.env := by rfl) (hpl : (backTo pos (starEach es X.env)).any (·.1) = false := by rfl) : DF X T O Wx (.Call (.Name "sorted" p) (e :: es) [] pos) (argE sortSM fa) :=
  pe_imp (pe_callB cr_sortedS hg hm boot_sorted' ha hn hdb he hpl) fun σ H Q ⟨Γ, ρ, G, w, R, P⟩ => postN_bind R P fun vs ds G1 H1 w1 st R l P => by
    cases l with
    | nil => exact False.elim P
    | cons i l =>
      cases l with
      | cons _ _ => cases i <;> exact False.elim P
      | nil =>
        cases i with
        | @lst a vs ds s il =>
          simp only [sortSM] at P
          cases h : strsD ds with
          | none => rw [h] at P; exact False.elim P
          | some xs =>
            rw [h] at P
            dsimp only at P
            by_cases c : xs.length < 64 ∧ xs.Nodup
            · rw [if_pos c] at P
              obtain rfl := il.strs h
              refine ⟨a, xs, rfl, SqL.of (R.h.sub _ _ s), c.1, fun ys p pm so hp => ?_⟩
              have e : ys = setSort xs := up_ext (up_of_sorted so (pm.nodup_iff.mpr c.2)) (up_setSort xs) fun z => by rw [mem_setSort]; exact pm.mem_iff
              rw [e]
              exact PostN.new P R hp noLst (.lst (isL_strs _))
            · rw [if_neg c] at P; exact False.elim P
        | _ => exact False.elim P
end
end Q

namespace Q
open PySem PySem.Spec PyProof.Rows L2
/-! ## xs.append(e), e a value without objects that may read xs -/
def atomL (ds : List D) : Bool := ds.all D.atom
theorem IsL.atoms {K : PySem.W.Frag} {wl : WlT} {G H : Hp} : ∀ {vs : List V} {ds : List D}, IsL K wl G vs ds → atomL ds = true → IsL K wl H vs ds
  | _, _, .nil, _ => .nil
  | _, _, .cons h hl, z => by
    simp only [atomL, List.all_cons, Bool.and_eq_true] at z
    exact .cons (h.atom z.1) (IsL.atoms hl z.2)
def mutKS (i : Nat) (m : List D → List D → M (List D)) (fa : Env → M (List D)) : Env → M Fl := fun ρ => M.bind (getL ρ i) fun xs => M.bind (fa ρ) fun es => if atomL es = true then M.bind (m xs es) fun ys => M.pure (.nx (ρ.set i (some (.lst ys)))) else M.fail
section
variable {X : Cx} {T : Tb} {L O O1 : List Nat} {Wx : WX} {e : Expr} {es : List Expr} {fas : Env → M (List D)} {p1 p2 p3 q1 q2 q3 pos : Pos}
theorem ds_mutK (i : Nat) {x name : Str} {nm : String} {r : V → List V → Hp → VK → Prop} {m : List D → List D → M (List D)} (slot : Slot "list" name nm) (hty : typeOf (.builtin nm) = pure (.type "method_descriptor")) (hm : MtR X nm r) (hr : MutSp X.K T r m) (ha : DA X T [] Wx (e :: es) fas) (hO : i ∈ O := by decide) (hN : X.N[i]? = some x := by rfl) (hx : Vis X.env.scope x := by first | exact Or.inl rfl | exact Or.inr (Or.inl rfl) | exact Or.inr (Or.inr rfl))
    (hd : (x == ("__debug__" : Str)) = false := by decide) (hcd : (x == ("__classdict__" : Str)) = false := by decide) (hbase : attributeBase (.Name x p1) name X.env (eval (.Name x p1) X.env) = eval (.Name x p1) X.env := by rfl)
    (hfew : ((backTo p3 (starEach (e :: es) X.env)).all (fun x => !x.1) && (backToKw p3 (keywordEach [] X.env)).all (fun x => x.1.isSome)
      && decide ((e :: es).length + ([] : List Keyword).length + (if ([] : List Keyword).isEmpty then 0 else 1) < 30)) = true := by rfl)
    (hline : (p2.endLine == p3.line) = true := by rfl) (hst : starEach (e :: es) X.env = (false, eval e X.env) :: starEach es X.env := by rfl) (hplain : (backTo p3 (starEach es X.env)).any (·.1) = false := by rfl)
    (hsw : swapsWith (.Call (.Attribute (.Name x p1) name p2) (e :: es) [] p3) none pos.line X.env = pure false := by rfl) :
    DS X T L O O Wx (.Expr (.Call (.Attribute (.Name x p1) name p2) (e :: es) [] p3) pos) (mutKS i m fas) :=
  ps_imp (ps_expr (pe_bm PySem.F.plainAttrs_list slot hty hm (pv i hN hx hd hcd) ha hbase hfew hline hst hplain) hsw) fun D σ H ⟨Γ, ρ, G, w, R, P⟩ => by
    obtain ⟨ds, l, vs, e1, e2, hl, il, P3⟩ := getL_ok hO R P
    refine ⟨.ref l, e2, .inl ⟨rfl, vs, SqL.of hl⟩, ?_⟩
    obtain ⟨G1, x1, R1⟩ := R.thaw (O1 := []) (fun _ z => nomatch z)
    refine PostS.bindE P3 x1 R1 fun us es G2 H2 w2 st2 R2 i2 P4 => ?_
    obtain ⟨at_, P5⟩ := ifS P4
    obtain ⟨gx, Rb⟩ := R.back R2.h (x1.trans st2.x) st2.kp
    obtain ⟨vs2, hl2, il2⟩ := ownL Rb hO e1 e2
    exact hr Γ L O O Wx ρ σ G _ H2 w2 l vs2 us ds es _ D _ Rb hl2 il2 (i2.atoms at_) P5 fun v vs' ds' iv P6 => P6 σ _ _ gx (Rb.write (o := .lst vs2) hO e1 e2 noLst (.lst iv))
/-! ## xs.append(ys.pop(e)) -/
def popM (ys : List D) (d : D) : M (D × List D) := match d with
  | .int k => if -(2 ^ 63) ≤ k ∧ k < 2 ^ 63 then (match seqIndex? k ys.length with
    | some m => match ys[m]? with
      | some y => M.pure (y, ys.eraseIdx m)
      | none => M.fail
    | none => M.fail) else M.fail
  | _ => M.fail
def appPopS (i j : Nat) (fe : Env → M D) : Env → M Fl := fun ρ => M.bind (getL ρ i) fun xs => M.bind (getL ρ j) fun ys => M.bind (fe ρ) fun d => M.bind (popM ys d) fun p => if xs.length < sizeLine then M.pure (.nx ((ρ.set j (some (.lst p.2))).set i (some (.lst (xs ++ [p.1]))))) else M.fail
theorem popM_ok {K : PySem.W.Frag} {T : Tb} {Γ : Ctx} {L O : List Nat} {Wx : WX} {G0 G : Hp} {E : Ends} {v : V} {d : D} {ys : List D} {vs : List V} {w : Wl} {k : D × List D → M Fl} (iv : IsL K Γ.wl G vs ys) (i : Is K Γ.wl G v d) (P : PostS K T Γ L O Wx G0 (M.bind (popM ys d) k w) E) :
    ∃ n m u y, v = .int n ∧ -(2 ^ 63) ≤ n ∧ n < 2 ^ 63 ∧ seqIndex? n vs.length = some m ∧ vs[m]? = some u ∧ Is K Γ.wl G u y ∧ IsL K Γ.wl G (vs.eraseIdx m) (ys.eraseIdx m) ∧ PostS K T Γ L O Wx G0 (k (y, ys.eraseIdx m) w) E := by
  cases i with
  | int n =>
    have P' : PostS K T Γ L O Wx G0 (M.bind (if -(2 ^ 63) ≤ n ∧ n < 2 ^ 63 then (match seqIndex? n ys.length with
      | some m => match ys[m]? with
        | some y => M.pure (y, ys.eraseIdx m)
        | none => M.fail
      | none => M.fail) else M.fail) k w) E := P
    by_cases h : -(2 ^ 63) ≤ n ∧ n < 2 ^ 63
    · rw [if_pos h] at P'
      cases q : seqIndex? n ys.length with
      | none => rw [q] at P'; exact False.elim P'
      | some m =>
        rw [q] at P'
        dsimp only at P'
        cases r : ys[m]? with
        | none => rw [r] at P'; exact False.elim P'
        | some y =>
          rw [r] at P'
          obtain ⟨u, h1, h2⟩ := iv.get r
          exact ⟨n, m, u, y, rfl, h.1, h.2, by rw [iv.length]; exact q, h1, h2, iv.erase m, P'⟩
    · rw [if_neg h] at P'; exact False.elim P'
  | _ => exact False.elim P
theorem ds_appPop (i j : Nat) {x y : Str} {p4 p5 p6 : Pos} {fe : Env → M D} (ne : i ≠ j) (ha : DE X T O1 Wx e fe) (hs : SubL O1 O := by decide) (hO : i ∈ O1 := by decide) (hO2 : j ∈ O1 := by decide) (hN : X.N[i]? = some x := by rfl) (hN2 : X.N[j]? = some y := by rfl)
    (hx : Vis X.env.scope x := by first | exact Or.inl rfl | exact Or.inr (Or.inl rfl) | exact Or.inr (Or.inr rfl)) (hy : Vis X.env.scope y := by first | exact Or.inl rfl | exact Or.inr (Or.inl rfl) | exact Or.inr (Or.inr rfl))
    (hd : (x == ("__debug__" : Str)) = false := by decide) (hcd : (x == ("__classdict__" : Str)) = false := by decide) (hd2 : (y == ("__debug__" : Str)) = false := by decide) (hcd2 : (y == ("__classdict__" : Str)) = false := by decide)
    (hbase : attributeBase (.Name x p1) "append" X.env (eval (.Name x p1) X.env) = eval (.Name x p1) X.env := by rfl) (hbase2 : attributeBase (.Name y p4) "pop" X.env (eval (.Name y p4) X.env) = eval (.Name y p4) X.env := by rfl)
    (hfew : ((backTo p3 (starEach [.Call (.Attribute (.Name y p4) "pop" p5) [e] [] p6] X.env)).all (fun x => !x.1) && (backToKw p3 (keywordEach [] X.env)).all (fun x => x.1.isSome)
      && decide (([.Call (.Attribute (.Name y p4) "pop" p5) [e] [] p6] : List Expr).length + ([] : List Keyword).length + (if ([] : List Keyword).isEmpty then 0 else 1) < 30)) = true := by rfl)
    (hfew2 : ((backTo p6 (starEach [e] X.env)).all (fun x => !x.1) && (backToKw p6 (keywordEach [] X.env)).all (fun x => x.1.isSome)
      && decide (([e] : List Expr).length + ([] : List Keyword).length + (if ([] : List Keyword).isEmpty then 0 else 1) < 30)) = true := by rfl)
    (hline : (p2.endLine == p3.line) = true := by rfl) (hline2 : (p5.endLine == p6.line) = true := by rfl)
    (hst : starEach [.Call (.Attribute (.Name y p4) "pop" p5) [e] [] p6] X.env = (false, eval (.Call (.Attribute (.Name y p4) "pop" p5) [e] [] p6) X.env) :: starEach [] X.env := by rfl) (hst2 : starEach [e] X.env = (false, eval e X.env) :: starEach [] X.env := by rfl)
    (hplain : (backTo p3 (starEach [] X.env)).any (·.1) = false := by rfl) (hplain2 : (backTo p6 (starEach [] X.env)).any (·.1) = false := by rfl)
    (hsw : swapsWith (.Call (.Attribute (.Name x p1) "append" p2) [.Call (.Attribute (.Name y p4) "pop" p5) [e] [] p6] [] p3) none pos.line X.env = pure false := by rfl) :
    DS X T L O O1 Wx (.Expr (.Call (.Attribute (.Name x p1) "append" p2) [.Call (.Attribute (.Name y p4) "pop" p5) [e] [] p6] [] p3) pos) (appPopS i j fe) :=
  ps_imp (ps_expr (pe_bm PySem.F.plainAttrs_list PySem.F.slot_list_append PySem.F.type_list_append mt_append (pv i hN hx hd hcd)
    (pa_cons (pe_bm PySem.F.plainAttrs_list PySem.F.slot_list_pop PySem.F.type_list_pop mt_popAt (pv j hN2 hy hd2 hcd2) (pa_cons ha pa_nil hst2) hbase2 hfew2 hline2 hst2 hplain2) pa_nil hst) hbase hfew hline hst hplain) hsw) fun E σ H ⟨Γ, ρ, G, w, R, P⟩ => by
    obtain ⟨G1, x1, R1⟩ := R.thaw hs
    obtain ⟨ds, l, vs, e1, e2, hl, il, P3⟩ := getL_ok hO R1 P
    obtain ⟨ds', l', vs', e1', e2', hl', il', P4⟩ := getL_ok hO2 R1 P3
    refine ⟨.ref l, e2, .inl ⟨rfl, vs, SqL.of hl⟩, .ref l', e2', .inl ⟨rfl, vs', SqL.of hl'⟩, ?_⟩
    refine PostS.bindE P4 x1 R1 fun u d G2 H2 w2 st2 R2 i2 P5 => ?_
    obtain ⟨us', hl2', il2'⟩ := ownL R2 hO2 e1' e2'
    obtain ⟨n, m, z, yd, rfl, b1, b2, b3, b4, b5, b6, P6⟩ := popM_ok il2' i2 P5
    obtain ⟨c, P7⟩ := ifS P6
    have R3 := R2.write (o := .lst us') hO2 e1' e2' noLst (.lst b6)
    have e1a : (ρ.set j (some (.lst (ds'.eraseIdx m))))[i]? = some (some (.lst ds)) := by rw [List.getElem?_set_ne (Ne.symm ne)]; exact e1
    obtain ⟨us, hl2, il2⟩ := ownL R3 hO e1a e2
    have R4 := R3.write (o := .lst us) hO e1a e2 noLst (.lst (il2.append (.cons b5 .nil)))
    exact ⟨l', us', n, m, z, rfl, rfl, hl2', b1, b2, b3, b4, l, us, z, rfl, rfl, hl2, by rw [il2.length]; exact c, P7 σ G2 _ (x1.trans st2.x) R4⟩
end
end Q

namespace Q
open PySem PySem.Spec PyProof.Rows L2
/-! ## a, b = x, y where a name is a block's, too -/
theorem IsM.step {K : PySem.W.Frag} {Γ : Ctx} {O : List Nat} {ρ : Env} {σ : L2.St} {G H G' H' : Hp} (st : Stp Γ.wl G H G' H') : ∀ {fl : List Bool} {vs : List V} {ds : List D}, IsM K Γ O ρ σ G H fl vs ds → IsM K Γ O ρ σ G' H' fl vs ds
  | _, _, _, .nil => .nil
  | _, _, _, .val h r => .val (h.mono st.x) (IsM.step st r)
  | _, _, _, .new n io hp r => .new (n.step st) (io.mono st.x) hp (IsM.step st r)
theorem IsM.len {K : PySem.W.Frag} {Γ : Ctx} {O : List Nat} {ρ : Env} {σ : L2.St} {G H : Hp} : ∀ {fl : List Bool} {vs : List V} {ds : List D}, IsM K Γ O ρ σ G H fl vs ds → vs.length = fl.length
  | _, _, _, .nil => rfl
  | _, _, _, .val _ r => congrArg (· + 1) (IsM.len r)
  | _, _, _, .new _ _ _ r => congrArg (· + 1) (IsM.len r)
section
variable {X : Cx} {T : Tb} {L O O1 O' : List Nat} {Wx : WX} {a b : Expr} {fr : Env → M (List D)} {pos : Pos}
theorem ds_parC (i j : Nat) {b1 b2 : Bool} {x y : Str} {px py pt pt2 : Pos} {kt k2 : Nat} (hc : X.calm = true) (hN : X.N.Nodup) (ha : DM X T O1 Wx [b1, b2] [a, b] fr) (hs : SubL O1 O := by decide) (ho : O' = oSet b2 j (oSet b1 i O1) := by rfl)
    (hi : X.N[i]? = some x := by rfl) (hj : X.N[j]? = some y := by rfl) (hx : Loc X.env.scope x := by first | exact Or.inl rfl | exact Or.inr rfl) (hy : Loc X.env.scope y := by first | exact Or.inl rfl | exact Or.inr rfl)
    (hf : X.fn x = true ∨ X.env.scope.names.lookup x = some .local := by first | exact .inl rfl | exact .inr rfl) (hf2 : X.fn y = true ∨ X.env.scope.names.lookup y = some .local := by first | exact .inl rfl | exact .inr rfl)
    (hw : swappedStores [.Tuple [.Name x px, .Name y py] kt pt] (.Tuple [a, b] k2 pt2) X.env = pure none := by rfl) (hsw : swapsWithSole [.Tuple [.Name x px, .Name y py] kt pt] (.Tuple [a, b] k2 pt2) pos.line X.env = pure false := by rfl)
    (h1 : (assignEach [.Tuple [.Name x px, .Name y py] kt pt] X.env).map (·.2) = [assign (.Tuple [.Name x px, .Name y py] kt pt) X.env] := by rfl)
    (hn : (assignEach [.Name x px, .Name y py] X.env).length = 2 := by rfl) (hst : (assignEach [.Name x px, .Name y py] X.env).findIdx? (·.1) = none := by rfl)
    (s1 : (assignEach [.Name x px, .Name y py] X.env).map (·.2) = assign (.Name x px) X.env :: (assignEach [.Name y py] X.env).map (·.2) := by rfl) (s2 : (assignEach [.Name y py] X.env).map (·.2) = assign (.Name y py) X.env :: (assignEach [] X.env).map (·.2) := by rfl) :
    DS X T L O O' Wx (.Assign [.Tuple [.Name x px, .Name y py] kt pt] (.Tuple [a, b] k2 pt2) pos) (parS2 i j fr) :=
  ps_imp (ps_asg (pe_tup ha) (pg_tup hc (pgs_cons (pg_name hN hi hx hf) (pgs_cons (pg_name hN hj hy hf2) pgs_nil s2) s1) hn hst) hsw hw h1) fun E σ H ⟨Γ, ρ, G, w, R, P⟩ => by
    subst ho
    obtain ⟨G1, x1, R1⟩ := R.thaw hs
    refine PostS.bindM P x1 R1 fun vs ds G2 H2 w2 st R2 i2 P2 => ?_
    have l2 := i2.len
    refine ⟨by rw [l2, sizeLine_eq]; show 2 ≤ 16777216; decide, fun p hp => ⟨p, vs, rfl, SqT.of upd_same, l2, ?_⟩⟩
    have sn := Stp.new (wl := Γ.wl) (o := .tup vs) (R2.h.gnone hp) hp
    have R3 := R2.alloc (o := .tup vs) hp noTup
    obtain ⟨v, d, vr, dr, rfl, rfl, R4, i4⟩ := R3.storeM (i := i) (i2.step sn)
    obtain ⟨v2, d2, vr2, dr2, rfl, rfl, R5, i5⟩ := R4.storeM (i := j) i4
    cases i5
    exact ⟨v, [v2], rfl, v2, [], rfl, rfl, P2 _ _ _ (x1.trans (st.x.trans sn.x)) R5⟩
end
end Q

namespace Fm
open PySem PySem.Spec PyProof.Rows L2 Q
/-! ## what the laws of books and flights share -/
def F_is_whole : List D → M D := fnM 1 (retS (andE (isiE .int (vE 0)) (notE (isiE .bl (vE 0)))))
def F_is_word : List D → M D := fnM 2 (retS (andE (isiE .str (vE 0)) (andE (bin2 neD (vE 0) (sE "")) (argE allD (consA (lcE [1] (itE (vE 0)) (gNm 1) yesT (bin2 (inM false) (vE 1) (sE "abcdefghijklmnopqrstuvwxyz"))) nilA)))))
def F_is_tuple_of : List D → M D := fnM 2 (retS (andE (isiE .tup (vE 0)) (bin2 eqD (argE lenD (consA (vE 0) nilA)) (vE 1))))
def F_is_one_of : List D → M D := fnM 2 (retS (andE (isiE .str (vE 0)) (bin2 (inM false) (vE 0) (vE 1))))
def F_wrong_at (g : List D → M D) : List D → M D := fun ds => fnM 5 (seqS (ifS' (notT (truT (isiE .tup (vE 0)))) (retS (lstE (consA noE nilA))) nilS)
  (seqS (forS (argE enumD (consA (vE 0) nilA)) (gTup 2 (gCons (gNm 3) (gCons (gNm 4) gNil))) (ifS' (orT (andT (tst (bin2 notND (vE 1) noE)) (tst (bin2 geD (vE 3) (vE 1)))) (notT (truT (callPE 2 2 g (consA (vE 4) (consA (slE (vE 0) npE (partE (vE 3))) nilA)))))) (retS (lstE (consA (vE 3) nilA))) nilS))
  (retS (lstE nilA)))) (ds ++ [.fn 0])
def F_numbers_of : List D → M D := fnM 5 (retS (dcE2 [1, 2, 3, 4] [3, 4] true (argE enumD (consA (bin2 ixX (vE 0) (iE 0)) nilA)) (gTup 2 (gCons (gNm 1) (gCons (gNm 2) gNil))) yesT (argE enumD (consA (bin2 ixX (vE 0) (iE 0)) nilA)) (gTup 2 (gCons (gNm 3) (gCons (gNm 4) gNil))) yesT (tupE (consA (vE 2) (consA (vE 4) nilA))) (bin2 ixX (bin2 ixX (bin2 ixX (vE 0) (iE 1)) (vE 1)) (vE 3))))
def F_as_it_is : List D → M D := fnM 2 (retS (ifE (tst (bin2 neD (vE 0) (tupE nilA))) (vE 1) (iE 0)))
def F_are_in_time : List D → M D := fnM 4 (retS (argE allD (consA (lcE [2, 3] (argE zipD (consA (vE 0) (consA (vE 1) nilA))) (gTup 2 (gCons (gNm 2) (gCons (gNm 3) gNil))) yesT (bin2 leD (vE 3) (bin2 ixX (vE 2) (iE 3)))) nilA)))
def F__law_well : List D → M D := fnN 5 (seqN (setS 2 (ifE (tst (bin2 ltD (vE 1) (argE lenD (consA (vE 0) nilA)))) (argE intD (consA (bin2 ixX (vE 0) (vE 1)) nilA)) (bin2 addD (bin2 mulD (iE 8311) (vE 1)) (iE 1301))))
  (seqN (setKS 3 (bin2 addD (iE 30011) (bin2 mulD (iE 2903) (vE 1))))
  (seqN (forS (itE (bin2 addD (slE (vE 0) npE (partE (iE 7))) (lstE (consA (vE 2) nilA)))) (gNm 4) (setKS 3 (bin2 modD (argE intD (consA (bin2 addD (bin2 addD (bin2 mulD (vE 3) (iE 40009)) (bin2 modD (argE intD (consA (vE 4) nilA)) (iE 2147480009))) (iE 73)) nilA)) (iE 2147480009))))
  (retS (lstE (consA (ifE (orT (tst (bin2 ltD (vE 2) (iE 0))) (tst (bin2 geD (vE 2) (bin2 powD (iE 10) (iE 15))))) (argE absD (consA (vE 2) nilA)) (iE 0)) (consA (vE 3) (consA (iE 0) nilA))))))))
def F__law_dip : List D → M D := fnM 3 (seqS (ifS' (tst (bin2 gtD (bin2 ixX (vE 0) (iE 0)) (iE 0))) (seqS (asgS (argE divmodD (consA (bin2 ixX (vE 0) (iE 0)) (consA (vE 1) nilA))) (gTup 2 (gCons (gPutW 0 (iE 0)) (gCons (gNm 2) gNil))))
  (retS (vE 2))) nilS)
  (seqS (putWS 0 (bin2 addD (bin2 ixX (vE 0) (iE 2)) (iE 1)) (iE 2))
  (seqS (putWS 0 (bin2 modD (argE intD (consA (bin2 addD (bin2 addD (bin2 mulD (bin2 ixX (vE 0) (iE 1)) (iE 48271)) (bin2 mulD (iE 7919) (bin2 ixX (vE 0) (iE 2)))) (iE 83)) nilA)) (iE 2147480009)) (iE 1))
  (retS (bin2 modD (argE intD (consA (bin2 divD (bin2 ixX (vE 0) (iE 1)) (iE 163)) nilA)) (vE 1))))))
def F__law_turns : List D → M D := fnM 1 (retS (mpE (argE maxD (consA (iE 2) (consA (argE minD (consA (argE lenD (consA (vE 0) nilA)) (consA (iE 3) nilA))) nilA))) (rg1M .lst)))
def F__law_table : List D → M D := fnM 6 (seqS (setS 1 (fun _ => M.pure (.dct true [])))
  (seqS (forS (argE zipD (consA (bin2 ixX (vE 0) (iE 0)) (consA (bin2 ixX (vE 0) (iE 1)) nilA))) (gTup 2 (gCons (gNm 2) (gCons (gNm 3) gNil))) (forS (argE zipD (consA (bin2 ixX (vE 0) (iE 0)) (consA (vE 3) nilA))) (gTup 2 (gCons (gNm 4) (gCons (gNm 5) gNil))) (putS 1 (vE 5) (tupE (consA (vE 2) (consA (vE 4) nilA))))))
  (retS (vE 1))))
def F_is_number : List D → M D := fnM 3 (seqS (ifS' (orT (notT (truT (argN 1 F_is_whole (consA (vE 0) nilA)))) (andT (tst (bin2 notND (vE 1) noE)) (tst (bin2 ltD (vE 0) (vE 1))))) (retS (bE false)) nilS)
  (retS (orE (bin2 isND (vE 2) noE) (bin2 leD (vE 0) (vE 2)))))
def F_is_name : List D → M D := fnM 1 (retS (andE (argN 1 F_is_word (consA (vE 0) nilA)) (andE (bin2 leD (argE lenD (consA (vE 0) nilA)) (iE 8)) (bin2 (inM true) (vE 0) (fun _ => M.pure (.ktp (wordsL.map D.str)))))))
def F_wrong_from_one (g : List D → M D) : List D → M D := fun ds => fnM 3 (retS (ifE (andT (truT (isiE .tup (vE 0))) (tst (bin2 eqD (vE 0) (tupE nilA)))) (lstE (consA noE nilA)) (argFE 3 (F_wrong_at g) (consA (vE 0) (consA (vE 1) (consA (vE 2) nilA)))))) (ds ++ [.fn 0])
def F_earliest_by (g : List D → M D) : List D → M D := fun ds => fnM 9 (seqS (parS2 4 5 (consA (argN 1 F_numbers_of (consA (vE 0) nilA)) (consA (lstE nilA) nilA)))
  (seqS (forS (itE (vE 1)) (gNm 3) (seqS (setS 6 (bin2 ixX (vE 3) (iE 2)))
  (seqS (foldS 6 [7, 8] (argE zipD (consA (vE 1) (consA (vE 5) nilA))) (gTup 2 (gCons (gNm 7) (gCons (gNm 8) gNil))) (argE maxD (consA (vE 6) (consA (bin2 addD (vE 8) (bin2 ixX (vE 4) (tupE (consA (bin2 ixX (vE 7) (iE 1)) (consA (bin2 ixX (vE 3) (iE 1)) nilA))))) nilA))))
  (mutS 5 appM (consA (callPE 2 2 g (consA (vE 3) (consA (vE 6) nilA))) nilA)))))
  (retS (vE 5)))) (ds ++ [.fn 0])
def F__law_one : List D → M D := fnM 2 (retS (bin2 ixX (vE 1) (argN 2 F__law_dip (consA (vE 0) (consA (argE lenD (consA (vE 1) nilA)) nilA)))))
def F__law_shuffled : List D → M D := fnM 5 (seqS (parS2 3 4 (consA (argE listA (consA (vE 1) nilA)) (consA (lstE nilA) nilA)))
  (seqS (forS (argE rng1D (consA (argE lenD (consA (vE 3) nilA)) nilA)) (gNm 2) (appPopS 4 3 (argN 2 F__law_dip (consA (vE 0) (consA (mpE (vE 3) lenM) nilA)))))
  (retS (argE tupleD (consA (vE 4) nilA)))))
def F_is_line : List D → M D := fnM 3 (retS (andE (argN 2 F_is_tuple_of (consA (vE 0) (consA (vE 1) nilA))) (argE allD (consA (lcE [2] (itE (vE 0)) (gNm 2) yesT (argN 3 F_is_number (consA (vE 2) (consA (iE 1) (consA (iE 9) nilA))))) nilA))))
def F_is_time : List D → M D := fnM 1 (retS (argN 3 F_is_number (consA (vE 0) (consA (iE 0) (consA (iE 999) nilA)))))
def F_check_number : List D → M D := fnM 3 (ifS' (notT (truT (argN 3 F_is_number (consA (vE 0) (consA (vE 1) (consA (vE 2) nilA)))))) deadS nilS)
def F__law_words : List D → M D := fnM 11 (seqS (parS2 4 5 (consA (sE "abcdefghijklmnopqrstuvwxyz") (consA (lstE nilA) nilA)))
  (seqS (setS 2 (lstE (consA (sE "add") (consA (sE "ahead") (consA (sE "all") (consA (sE "at") (consA (sE "behind") (consA (sE "book") (consA (sE "by") (consA (sE "close") (consA (sE "drop") (consA (sE "end") (consA (sE "ends") (consA (sE "flight") (consA (sE "from") nilA)))))))))))))))
  (seqS (setS 2 (bin2 addD (vE 2) (lstE (consA (sE "kinds") (consA (sE "land") (consA (sE "late") (consA (sE "least") (consA (sE "move") (consA (sE "none") (consA (sE "of") (consA (sE "open") (consA (sE "row") (consA (sE "show") (consA (sE "time") (consA (sE "times") nilA)))))))))))))))
  (seqS (setS 2 (bin2 addD (vE 2) (lstE (consA (sE "to") (consA (sE "with") nilA)))))
  (seqS (forS (argE rng1D (consA (vE 1) nilA)) (gNm 3) (seqS (setS 6 (joinE (sE "") (consA (lcE [8] (argE rng1D (consA (bin2 addD (iE 1) (argN 2 F__law_dip (consA (vE 0) (consA (argN 2 F__law_one (consA (vE 0) (consA (lstE (consA (iE 2) (consA (iE 3) (consA (iE 8) nilA)))) nilA))) nilA)))) nilA)) (gNm 8) yesT (argN 2 F__law_one (consA (vE 0) (consA (vE 4) nilA)))) nilA)))
  (seqS (setS 7 (bin2 addD (bin2 addD (lstE (consA (vE 6) nilA)) (lcE [9] (itE (vE 4)) (gNm 9) yesT (bin2 addD (bin2 addD (slE (vE 6) npE (partE (iE 6))) (vE 9)) (sE "q")))) (lcE [9] (itE (vE 4)) (gNm 9) yesT (bin2 addD (bin2 addD (slE (vE 6) npE (partE (iE 6))) (vE 9)) (sE "z")))))
  (mutKS 5 appM (consA (bin2 ixX (lcE [10] (itE (vE 7)) (gNm 10) (tst (bin2 (inM true) (vE 10) (bin2 addD (vE 5) (vE 2)))) (vE 10)) (iE 0)) nilA)))))
  (retS (argE tupleD (consA (argE sortSM (consA (vE 5) nilA)) nilA))))))))
def F_is_flight : List D → M D := fnM 2 (seqS (ifS' (orT (notT (truT (argN 2 F_is_tuple_of (consA (vE 1) (consA (iE 4) nilA))))) (orT (notT (truT (argN 1 F_is_name (consA (bin2 ixX (vE 1) (iE 0)) nilA)))) (notT (truT (argN 2 F_is_one_of (consA (bin2 ixX (vE 1) (iE 1)) (consA (vE 0) nilA))))))) (retS (bE false)) nilS)
  (retS (andE (argN 1 F_is_time (consA (bin2 ixX (vE 1) (iE 2)) nilA)) (argN 3 F_is_number (consA (bin2 ixX (vE 1) (iE 3)) (consA (bin2 ixX (vE 1) (iE 2)) (consA (iE 999) nilA)))))))
def F_earliest_of : List D → M D := fnM 3 (seqS (setS 2 (callGE 3 F_earliest_by F_as_it_is (consA (vE 0) (consA (vE 1) nilA))))
  (retS (ifE (truT (argN 2 F_are_in_time (consA (vE 1) (consA (vE 2) nilA)))) (vE 2) (lstE nilA))))
def F_held_times : List D → M D := fnM 5 (fun ρ => seqS (setS 4 (callCE (["book", "flights", "next_open"] : List Str).length (["flight", "time", "hold"] : List Str).length [2] F_earliest_by (retS (bin2 addD (vE 1) (bin2 modD (bin2 subD (bin2 ixX (vE 0) (iE 2)) (vE 1)) (vE 2)))) (consA (vE 0) (consA (vE 1) nilA)))) (retS (ifE (truT (argN 2 F_are_in_time (consA (vE 1) (consA (vE 4) nilA)))) (vE 4) (lstE nilA))) (ρ.set 3 none))
def F__law_book : List D → M D := fnM 6 (seqS (setS 2 (argN 2 F__law_words (consA (vE 0) (consA (bin2 addD (iE 1) (argN 2 F__law_dip (consA (vE 0) (consA (vE 1) nilA)))) nilA))))
  (seqS (setS 3 (argN 2 F__law_one (consA (vE 0) (consA (lstE (consA (iE 2) (consA (iE 3) (consA (iE 4) (consA (iE 9) nilA))))) nilA))))
  (retS (tupE (consA (vE 2) (consA (argE tupleD (consA (lcE [4] (itE (vE 2)) (gNm 4) yesT (argE tupleD (consA (lcE [5] (itE (vE 2)) (gNm 5) yesT (bin2 addD (iE 1) (argN 2 F__law_dip (consA (vE 0) (consA (vE 3) nilA))))) nilA))) nilA)) nilA))))))
def F__law_flights : List D → M D := fnM 8 (seqS (setS 4 (lstE nilA))
  (seqS (forS (itE (argN 2 F__law_shuffled (consA (vE 0) (consA (argN 2 F__law_words (consA (vE 0) (consA (bin2 addD (iE 1) (argN 2 F__law_dip (consA (vE 0) (consA (vE 2) nilA)))) nilA))) nilA)))) (gNm 5) (seqS (setS 6 (argN 2 F__law_dip (consA (vE 0) (consA (bin2 addD (vE 3) (iE 1)) nilA))))
  (seqS (setS 7 (bin2 addD (vE 6) (argN 2 F__law_one (consA (vE 0) (consA (lstE (consA (iE 0) (consA (argN 2 F__law_dip (consA (vE 0) (consA (bin2 addD (bin2 subD (vE 3) (vE 6)) (iE 1)) nilA))) (consA (bin2 subD (vE 3) (vE 6)) (consA (bin2 subD (vE 3) (vE 6)) nilA))))) nilA)))))
  (mutS 4 appM (consA (tupE (consA (vE 5) (consA (argN 2 F__law_one (consA (vE 0) (consA (bin2 ixX (vE 1) (iE 0)) nilA))) (consA (vE 6) (consA (vE 7) nilA))))) nilA)))))
  (retS (argE tupleD (consA (vE 4) nilA)))))
def F_wrong_kinds : List D → M D := fnM 2 (fun ρ => retS (callCE (["value", "most", "is_right"] : List Str).length (["each", "before"] : List Str).length [] F_wrong_from_one (retS (andE (argN 1 F_is_name (consA (vE 0) nilA)) (orE (bin2 eqD (vE 1) (tupE nilA)) (bin2 ltD (bin2 ixX (vE 1) (ngE (iE 1))) (vE 0))))) (consA (vE 0) (consA (iE 5) nilA))) (ρ.set 1 none))
def F_is_book_form : List D → M D := fnM 3 (seqS (ifS' (orT (notT (truT (argN 2 F_is_tuple_of (consA (vE 0) (consA (iE 2) nilA))))) (tst (bin2 neD (argN 1 F_wrong_kinds (consA (bin2 ixX (vE 0) (iE 0)) nilA)) (lstE nilA)))) (retS (bE false)) nilS)
  (seqS (setKS 1 (argE lenD (consA (bin2 ixX (vE 0) (iE 0)) nilA)))
  (retS (andE (argN 2 F_is_tuple_of (consA (bin2 ixX (vE 0) (iE 1)) (consA (vE 1) nilA))) (argE allD (consA (lcE [2] (itE (bin2 ixX (vE 0) (iE 1))) (gNm 2) yesT (argN 2 F_is_line (consA (vE 2) (consA (vE 1) nilA)))) nilA))))))
def F_wrong_flights : List D → M D := fnM 3 (fun ρ => retS (callCE (["value", "most", "is_right"] : List Str).length (["each", "before", "kinds", "other"] : List Str).length [0] F_wrong_from_one (retS (andE (argN 2 F_is_flight (consA (vE 2) (consA (vE 0) nilA))) (bin2 (inM true) (bin2 ixX (vE 0) (iE 0)) (lcE [3] (itE (vE 1)) (gNm 3) yesT (bin2 ixX (vE 3) (iE 0)))))) (consA (vE 1) (consA (iE 10) nilA))) (ρ.set 2 none))
def F_check_book : List D → M D := fnM 1 (ifS' (notT (truT (argN 1 F_is_book_form (consA (vE 0) nilA)))) deadS nilS)
def F_check_flights : List D → M D := fnM 3 (seqS (dropS (argN 1 F_check_book (consA (vE 0) nilA)))
  (forS (itE (argN 2 F_wrong_flights (consA (bin2 ixX (vE 0) (iE 0)) (consA (vE 1) nilA)))) (gNm 2) deadS))
def F_held : List D → M D := fnM 4 (seqS (dropS (argN 2 F_check_flights (consA (vE 0) (consA (vE 1) nilA))))
  (seqS (dropS (argN 3 F_check_number (consA (vE 2) (consA (iE 1) (consA (iE 30) nilA)))))
  (seqS (setS 3 (argN 3 F_held_times (consA (vE 0) (consA (vE 1) (consA (vE 2) nilA)))))
  (retS (ifE (tst (bin2 neD (vE 3) (lstE nilA))) (argE tupleD (consA (vE 3) nilA)) noE)))))
def F_earliest : List D → M D := fnM 3 (seqS (dropS (argN 2 F_check_flights (consA (vE 0) (consA (vE 1) nilA))))
  (seqS (setS 2 (argN 2 F_earliest_of (consA (vE 0) (consA (vE 1) nilA))))
  (retS (ifE (tst (bin2 neD (vE 2) (lstE nilA))) (argE tupleD (consA (vE 2) nilA)) noE))))
end Fm

namespace Fm
open PySem PySem.Spec PyProof.Rows L2 Q
/-! ## names -/
def LET : Str := "abcdefghijklmnopqrstuvwxyz"
def letB (c : Nat) : Bool := decide (c ∈ LET.cps.toList)
def letsB (s : Str) : Bool := s.cps.toList.all letB
def nameB (s : Str) : Bool := decide (1 ≤ s.length) && decide (s.length ≤ 8) && letsB s && !decide (s ∈ wordsL)
def nameD : D → Bool
  | .str s => nameB s
  | _ => false
theorem in_let (c : Nat) : inM false (chr1 c) (.str LET) = M.pure (.bl (letB c)) := rfl
theorem notin_let (c : Nat) : inM true (chr1 c) (.str LET) = M.pure (.bl (!letB c)) := rfl
theorem len_zero {s : Str} : decide (s = Str.ofString "") = !decide (1 ≤ s.length) := by
  by_cases h : s = Str.ofString ""
  · subst h; rfl
  · rw [decide_eq_false h]
    have : 1 ≤ s.length := by
      rcases Nat.eq_zero_or_pos s.length with z | z
      · exfalso
        apply h
        cases s with
        | mk c =>
          have : c.size = 0 := z
          have e : c = #[] := Array.eq_empty_of_size_eq_zero this
          rw [e]; rfl
      · exact z
    rw [decide_eq_true this]; rfl
theorem lc_let {s : Str} {ρ : Q.Env} {i j : Nat} (hi : getV ρ i = M.pure (.str s)) (hj : j < ρ.length) (h : s.length ≤ sizeLine) : lcE [j] (itE (vE i)) (gNm j) yesT (bin2 (inM false) (vE j) (sE LET)) ρ = M.pure (.lst (s.cps.toList.map fun c => .bl (letB c))) := by
  rw [lcE_pure (items := s.cps.toList.map chr1) (T := fun _ => true) (F := fun d => match d with | .str ⟨⟨[c]⟩⟩ => .bl (letB c) | _ => .non) (by simp [hi]) (by rw [List.length_map, Array.length_toList]; exact h) (fun d hd => rfl) fun d hd _ => ?_]
  · rw [List.filter_eq_self.mpr (fun _ _ => rfl), List.map_map]; rfl
  · obtain ⟨c, _, rfl⟩ := List.mem_map.mp hd
    have e : getV ((wipeE ρ [j]).set j (some (chr1 c))) j = M.pure (chr1 c) := by
      unfold getV
      rw [List.getElem?_set_self (by rw [wipeE_length]; exact hj)]
    simp only [ev_bin2, ev_vE', e, ev_pure_bind, ev_sE]
    exact in_let c
theorem word_str {s : Str} (h : s.length ≤ sizeLine) : F_is_word [.str s] = M.pure (.bl (decide (1 ≤ s.length) && letsB s)) := by
  unfold F_is_word
  rw [ev_fnM]
  have hl : lcE [1] (itE (vE 0)) (gNm 1) yesT (bin2 (inM false) (vE 1) (sE "abcdefghijklmnopqrstuvwxyz")) [some (.str s), none] = M.pure (.lst (s.cps.toList.map fun c => .bl (letB c))) := lc_let rfl (by simp) h
  have ne : neD (.str s) (.str (Str.ofString "")) = M.pure (.bl (decide (1 ≤ s.length))) := by
    show M.pure (D.bl (!decide (s = Str.ofString ""))) = _
    rw [len_zero, Bool.not_not]
  have al : allD [.lst (s.cps.toList.map fun c => D.bl (letB c))] = M.pure (.bl (letsB s)) := by
    have : s.cps.toList.map (fun c => D.bl (letB c)) = (s.cps.toList.map letB).map D.bl := by rw [List.map_map]; rfl
    rw [this]
    show (match blsD ((s.cps.toList.map letB).map D.bl) with
      | some ns => M.pure (D.bl (ns.all id))
      | none => M.fail) = _
    rw [blsD_map]
    show M.pure (D.bl ((s.cps.toList.map letB).all id)) = _
    rw [List.all_map]; rfl
  by_cases h1 : 1 ≤ s.length
  · rw [decide_eq_true h1] at ne ⊢
    simp [hl, ne, al]
  · rw [decide_eq_false h1] at ne ⊢
    simp [hl, ne, al]
theorem word_no {d : D} {n L : Nat} (h : Pl L n d) (hs : ∀ s, d ≠ .str s) : F_is_word [d] = M.pure (.bl false) := by
  unfold F_is_word
  rw [ev_fnM]
  cases h with
  | str => exact absurd rfl (hs _)
  | _ => simp
theorem flVs_strs : ∀ zs : List Str, flVs (zs.map D.str) = some (zs.map V.str)
  | [] => rfl
  | z :: zs => by
    rw [List.map_cons, List.map_cons]
    unfold flVs
    rw [flVs_strs zs]; rfl
theorem eqV_str (a b : Str) : eqV (V.str a) (V.str b) = decide (a = b) := by
  show (a == b) = _
  by_cases h : a = b
  · subst h; simp
  · rw [decide_eq_false h]; exact beq_eq_false_iff_ne.mpr h
theorem in_strs {neg : Bool} {s : Str} {zs : List Str} : inM neg (.str s) (.ktp (zs.map D.str)) = M.pure (.bl (if neg = true then !decide (s ∈ zs) else decide (s ∈ zs))) := by
  have e : inP (.str s) (.ktp (zs.map D.str)) = some (decide (s ∈ zs)) := by
    show (match flV (.str s), flVs (zs.map D.str) with
      | some v, some vs => some (inV v vs)
      | _, _ => none) = _
    rw [flVs_strs]
    show some (inV (V.str s) (zs.map V.str)) = _
    congr 1
    unfold inV
    rw [List.any_map]
    have : ((fun y => eqV y (V.str s)) ∘ V.str) = fun z => decide (z = s) := funext fun z => eqV_str z s
    rw [this]
    by_cases h : s ∈ zs
    · rw [decide_eq_true h]
      exact List.any_eq_true.mpr ⟨s, h, by simp⟩
    · rw [decide_eq_false h]
      exact List.any_eq_false.mpr fun z hz => by
        have : z ≠ s := fun q => h (q ▸ hz)
        simp [this]
  unfold inM
  rw [e]; rfl
theorem name_str {s : Str} (h : s.length ≤ sizeLine) : F_is_name [.str s] = M.pure (.bl (nameB s)) := by
  unfold F_is_name
  rw [ev_fnM]
  have w1 := in_strs (neg := true) (s := s) (zs := wordsL)
  rw [if_pos rfl] at w1
  have w0 := word_str h
  unfold nameB
  generalize letsB s = l at w0 ⊢
  generalize decide (s ∈ wordsL) = z at w1 ⊢
  by_cases h1 : 1 ≤ s.length
  · rw [decide_eq_true h1] at w0 ⊢
    by_cases h2 : s.length ≤ 8
    · rw [decide_eq_true h2]
      have h2' : ((s.length : Nat) : Int) ≤ 8 := by omega
      cases l <;> simp [w0, ev_lenStr h, w1, h2']
    · rw [decide_eq_false h2]
      have h2' : ¬ ((s.length : Nat) : Int) ≤ 8 := by omega
      cases l <;> simp [w0, ev_lenStr h, w1, h2']
  · rw [decide_eq_false h1] at w0 ⊢
    simp [w0]
theorem name_all {d : D} {n L : Nat} (h : Pl L n d) : F_is_name [d] = M.pure (.bl (nameD d)) := by
  by_cases q : ∃ s, d = .str s
  · obtain ⟨s, rfl⟩ := q
    cases h with
    | str h1 h2 => exact name_str (by rw [sizeLine_eq]; omega)
  · have w := word_no h fun s e => q ⟨s, e⟩
    have e : nameD d = false := by
      cases d with
      | str s => exact absurd ⟨s, rfl⟩ q
      | _ => rfl
    unfold F_is_name
    rw [ev_fnM, e]
    simp [w]
def gR : List D → M D := fnC (["each", "before"] : List Str).length (retS (andE (argN 1 F_is_name (consA (vE 0) nilA)) (orE (bin2 eqD (vE 1) (tupE nilA)) (bin2 ltD (bin2 ixX (vE 1) (ngE (iE 1))) (vE 0))))) []
def ltL (zs : List Str) (b : Str) : Bool := match zs.getLast? with
  | some a => decide (a.cps.toList < b.cps.toList)
  | none => true
theorem ev_fnC {n : Nat} {f : Q.Env → M Fl} {cs : List (Option D)} {ds : List D} : fnC n f cs ds = M.bind (f (startC n ds cs)) endM := by
  funext w
  simp only [fnC, M.bind]
  cases f (startC n ds cs) w with
  | fail => rfl
  | exc c p w' => rfl
  | ok r w' => cases r <;> rfl
theorem last_at {zs : List Str} (a : Str) : ixX (.tup ((zs ++ [a]).map D.str)) (.int (-1)) = M.pure (.str a) := by
  show (match L2.atI ((zs ++ [a]).map D.str) (-1) with | some d => M.pure d | none => M.fail) = _
  have : L2.atI ((zs ++ [a]).map D.str) (-1) = some (.str a) := by
    unfold L2.atI ixN
    rw [List.length_map, List.length_append, List.length_singleton, if_neg (by omega), if_pos (by omega)]
    have e : (-1 + ((zs.length + 1 : Nat) : Int)).toNat = zs.length := by omega
    simp only [Option.bind_some]
    rw [e, List.map_append, List.getElem?_append_right (by simp)]
    simp
  rw [this]
theorem gR_no {d : D} {n L : Nat} {zs : List Str} (h : Pl L n d) (hn : nameD d = false) : gR [d, .tup (zs.map D.str)] = M.pure (.bl false) := by
  unfold gR
  rw [ev_fnC]
  have e := name_all h
  rw [hn] at e
  simp [startC, e]
theorem gR_str {s : Str} {zs : List Str} (h1 : s.length ≤ 100) (h2 : PyData.strOk s = true) (hz : zs.length ≤ 50) (ho : ∀ z ∈ zs, z.length ≤ 100 ∧ PyData.strOk z = true) : gR [.str s, .tup (zs.map D.str)] = M.pure (.bl (nameB s && ltL zs s)) := by
  unfold gR
  rw [ev_fnC]
  have e := name_all (n := 0) (L := 0) (.str h1 h2)
  have e' : F_is_name [.str s] = M.pure (.bl (nameB s)) := e
  have sh : shOk (.tup (zs.map D.str)) = true := Pl.sh (L := 50) (n := 1) (.tup (by rw [List.length_map]; exact hz) fun d hd => by
    obtain ⟨z, hz, rfl⟩ := List.mem_map.mp hd
    exact .str (ho z hz).1 (ho z hz).2) (by decide)
  have q : eqD (.tup (zs.map D.str)) (.tup []) = M.pure (.bl zs.isEmpty) := by
    rw [ev_eq sh (by decide +kernel) (fun _ e => nomatch e), eqv_nilT, List.isEmpty_map]
  cases hb : nameB s
  · rw [hb] at e'
    simp [startC, e']
  · rw [hb] at e'
    rcases List.eq_nil_or_concat zs with z | ⟨ys, a, z⟩
    · subst z
      simp only [List.map_nil, List.isEmpty_nil] at q
      simp [startC, e', q, mkTup, ltL]
    · rw [List.concat_eq_append] at z
      subst z
      have qe : (ys ++ [a]).isEmpty = false := by simp
      rw [qe] at q
      have la := last_at (zs := ys) a
      simp only [List.map_append, List.map_cons, List.map_nil] at q la
      simp [startC, e', q, mkTup, ltL, la, ltD]
def allR : List Str → List D → Bool
  | _, [] => true
  | zs, .str b :: ys => decide (zs.length < 5) && (nameB b && ltL zs b) && allR (zs ++ [b]) ys
  | _, _ => false
def enF (i : Nat) : List D → List D
  | [] => []
  | x :: xs => .tup [.int (i : Nat), x] :: enF (i + 1) xs
theorem enF_eq : ∀ (xs : List D) (i : Nat), xs.mapIdx (fun j x => D.tup [.int ((j + i : Nat) : Int), x]) = enF i xs
  | [], _ => rfl
  | x :: xs, i => by
    rw [List.mapIdx_cons]
    show D.tup [.int ((0 + i : Nat) : Int), x] :: xs.mapIdx (fun j x => D.tup [.int ((j + 1 + i : Nat) : Int), x]) = D.tup [.int (i : Nat), x] :: enF (i + 1) xs
    rw [← enF_eq xs (i + 1), Nat.zero_add]
    congr 1
    congr 1
    funext j x
    congr 4
    omega
theorem enumL_eq (xs : List D) : enumL xs = enF 0 xs := by
  rw [← enF_eq]; rfl
theorem cut_take {α : Type} (xs : List α) (n : Nat) (h : n ≤ xs.length) : cutL xs none (some ((n : Nat) : Int)) = xs.take n := by
  unfold cutL
  rw [HT.sIx_nat]
  show (xs.drop 0).take (min n xs.length - 0) = _
  rw [List.drop_zero, Nat.sub_zero, Nat.min_eq_left h]
def wB : Q.Env → M Fl := ifS' (orT (andT (tst (bin2 notND (vE 1) noE)) (tst (bin2 geD (vE 3) (vE 1)))) (notT (truT (callPE 2 2 gR (consA (vE 4) (consA (slE (vE 0) npE (partE (vE 3))) nilA)))))) (retS (lstE (consA (vE 3) nilA))) nilS
theorem w_loop {L n : Nat} {ks : List D} (hL : ks.length ≤ 50) (hp : ∀ d ∈ ks, Pl L n d) : ∀ (ys : List D) (zs : List Str) (x3 x4 : Option D), ks = zs.map D.str ++ ys →
    ∃ r, forL (gTup 2 (gCons (gNm 3) (gCons (gNm 4) gNil))) wB (enF zs.length ys) [some (.tup ks), some (.int 5), some (.fn 0), x3, x4] = M.pure r ∧
      if allR zs ys = true then ∃ y3 y4, r = .nx [some (.tup ks), some (.int 5), some (.fn 0), y3, y4] else ∃ j : Int, r = .rt (.lst [.int j])
  | [], zs, x3, x4, _ => ⟨_, rfl, by rw [if_pos (by simp [allR])]; exact ⟨_, _, rfl⟩⟩
  | y :: ys, zs, x3, x4, e => by
    have cut : cutD (.tup ks) none (some ((zs.length : Nat) : Int)) = M.pure (.tup (zs.map D.str)) := by
      show M.pure (D.tup (cutL ks none (some ((zs.length : Nat) : Int)))) = _
      rw [cut_take _ _ (by rw [e]; simp), e, List.take_left' (by simp)]
    have py : Pl L n y := hp y (by rw [e]; simp)
    have zOk : ∀ z ∈ zs, z.length ≤ 100 ∧ PyData.strOk z = true := fun z hz => by
      have : Pl L n (.str z) := hp _ (by rw [e]; exact List.mem_append_left _ (List.mem_map.mpr ⟨z, hz, rfl⟩))
      cases this with
      | str a b => exact ⟨a, b⟩
    have zl : zs.length ≤ 50 := by
      have : ks.length = zs.length + (ys.length + 1) := by rw [e]; simp
      omega
    unfold enF
    rw [ev_forCons]
    have st : noX ((gTup 2 (gCons (gNm 3) (gCons (gNm 4) gNil))) (.tup [.int (zs.length : Nat), y]) [some (.tup ks), some (.int 5), some (.fn 0), x3, x4]) = M.pure [some (.tup ks), some (.int 5), some (.fn 0), some (.int (zs.length : Nat)), some y] := rfl
    rw [st, ev_pure_bind]
    have run : ∀ b : Bool, gR [y, .tup (zs.map D.str)] = M.pure (.bl b) → wB [some (.tup ks), some (.int 5), some (.fn 0), some (.int (zs.length : Nat)), some y] = M.pure (if (decide (zs.length < 5) && b) = true then .nx [some (.tup ks), some (.int 5), some (.fn 0), some (.int (zs.length : Nat)), some y] else .rt (.lst [.int (zs.length : Nat)])) := fun b hb => by
      unfold wB
      by_cases h5 : zs.length < 5
      · have h5' : ¬ (5 : Int) ≤ ((zs.length : Nat) : Int) := by omega
        cases b <;> simp [notND, D.isNon, h5, h5', cut, hb, mkLst, sizeLine_eq]
      · have h5' : (5 : Int) ≤ ((zs.length : Nat) : Int) := by omega
        simp [notND, D.isNon, h5, h5', mkLst, sizeLine_eq]
    by_cases q : ∃ s, y = .str s
    · obtain ⟨s, rfl⟩ := q
      cases py with
      | str h1 h2 =>
        rw [run _ (gR_str h1 h2 zl zOk), ev_pure_bind]
        unfold allR
        cases hc : decide (zs.length < 5) && (nameB s && ltL zs s)
        · refine ⟨_, rfl, ?_⟩
          simp
        · simp only [if_true, Bool.true_and]
          have := w_loop hL hp ys (zs ++ [s]) (some (.int (zs.length : Nat))) (some (.str s)) (by rw [e]; simp)
          rw [List.length_append] at this
          exact this
    · have hn : nameD y = false := by
        cases y with
        | str s => exact absurd ⟨s, rfl⟩ q
        | _ => rfl
      rw [run _ (gR_no py hn), ev_pure_bind, Bool.and_false]
      have ha : allR zs (y :: ys) = false := by
        cases y with
        | str s => exact absurd ⟨s, rfl⟩ q
        | _ => rfl
      rw [ha]
      exact ⟨_, rfl, by simp⟩
def kB : D → Bool
  | .tup ks => !ks.isEmpty && allR [] ks
  | _ => false
@[simp] theorem ev_eqI {a b : Int} : eqD (.int a) (.int b) = M.pure (.bl (decide (a = b))) := by
  rw [ev_eq (d := .int a) (e := .int b) rfl rfl (fun _ e => nomatch e)]
  congr 2
@[simp] theorem ev_neI {a b : Int} : neD (.int a) (.int b) = M.pure (.bl (!decide (a = b))) := by
  rw [ev_ne (d := .int a) (e := .int b) rfl rfl (fun _ e => nomatch e)]
  congr 3
theorem split2 {L n : Nat} {v : D} (h : Pl L n v) : splitFn [v, .int 5, .fn 0] = some [v, .int 5] := by cases h <;> rfl
theorem wrong_at_eq {ds : List D} : F_wrong_at gR ds = fnM 5 (seqS (ifS' (notT (truT (isiE .tup (vE 0)))) (retS (lstE (consA noE nilA))) nilS) (seqS (forS (argE enumD (consA (vE 0) nilA)) (gTup 2 (gCons (gNm 3) (gCons (gNm 4) gNil))) wB) (retS (lstE nilA)))) (ds ++ [.fn 0]) := rfl
theorem at_run {L n : Nat} {ks : List D} (h : Pl L n (.tup ks)) (hL : L ≤ 50) : ∃ x, F_wrong_at gR [.tup ks, .int 5] = M.pure (.lst x) ∧ Pl 1 1 (.lst x) ∧ x.isEmpty = allR [] ks := by
  cases h with
  | tup h1 h2 =>
    obtain ⟨r, e, q⟩ := w_loop (Nat.le_trans h1 hL) h2 ks [] none none rfl
    rw [wrong_at_eq, ev_fnM]
    have lp : forL (gTup 2 (gCons (gNm 3) (gCons (gNm 4) gNil))) wB (enumL ks) [some (.tup ks), some (.int 5), some (.fn 0), none, none] = M.pure r := by
      rw [enumL_eq]; exact e
    cases c : allR [] ks
    · rw [c] at q
      obtain ⟨j, rfl⟩ := q
      refine ⟨[.int j], ?_, .lst (by simp) (fun d hd => by rw [List.mem_singleton.mp hd]; exact .int j), rfl⟩
      simp [lp, mkLst, sizeLine_eq]
    · rw [c] at q
      obtain ⟨y3, y4, rfl⟩ := q
      refine ⟨[], ?_, .lst (by simp) (fun d hd => nomatch hd), rfl⟩
      simp [lp, mkLst]
theorem ev_callCE {n n' : Nat} {js : List Nat} {dF : (List D → M D) → List D → M D} {gb : Q.Env → M Fl} {fr : Q.Env → M (List D)} {ρ : Q.Env} : callCE n n' js dF gb fr ρ = M.bind (fr ρ) fun ds =>
  if ds.length + 1 = n ∧ D.nofnL ds = true ∧ D.nofnL ((capE js ρ).filterMap id) = true then M.bind (noX (dF (fnC n' gb (capE js ρ)) ds)) fun d => if d.nofn = true then M.pure d else M.fail else M.fail := rfl
theorem from_one {L n : Nat} {v : D} (h : Pl L n v) (hL : L ≤ 50) (hn : n ≤ 64) : ∃ x, F_wrong_from_one gR [v, .int 5] = M.pure (.lst x) ∧ Pl 1 1 (.lst x) ∧ x.isEmpty = kB v := by
  have nonL : Pl 1 1 (.lst [.non]) := .lst (by simp) fun d hd => by rw [List.mem_singleton.mp hd]; exact .non
  unfold F_wrong_from_one
  rw [ev_fnM]
  by_cases q : ∃ ks, v = .tup ks
  · obtain ⟨ks, rfl⟩ := q
    have eq : eqD (.tup ks) (.tup []) = M.pure (.bl ks.isEmpty) := by rw [ev_eq (h.sh hn) (by decide +kernel) (fun _ e => nomatch e), eqv_nilT]
    cases ks with
    | nil =>
      refine ⟨[.non], ?_, nonL, rfl⟩
      have eq' : eqD (.tup []) (.tup []) = M.pure (.bl true) := eq
      simp [eq', mkTup, mkLst, sizeLine_eq]
    | cons k ks =>
      obtain ⟨x, e, p, z⟩ := at_run h hL
      refine ⟨x, ?_, p, z⟩
      have eq' : eqD (.tup (k :: ks)) (.tup []) = M.pure (.bl false) := eq
      have fe : argFE 3 (F_wrong_at gR) (consA (vE 0) (consA (vE 1) (consA (vE 2) nilA))) [some (.tup (k :: ks)), some (.int 5), some (.fn 0)] = M.pure (.lst x) := by
        show M.bind (M.pure [D.tup (k :: ks), D.int 5, D.fn 0]) _ = _
        rw [ev_pure_bind, split2 h]
        exact e
      simp [eq', mkTup, fe]
  · have ht : ∃ t, tyD v = some t ∧ t.is .tup = false ∧ ∀ x : Bool, kB v = false := by
      cases h <;> first | exact absurd ⟨_, rfl⟩ q | exact ⟨_, rfl, rfl, fun _ => rfl⟩
    obtain ⟨t, e1, e2, e3⟩ := ht
    refine ⟨[.non], ?_, nonL, (e3 true).symm⟩
    have wa : F_wrong_at gR [v, .int 5] = M.pure (.lst [.non]) := by
      rw [wrong_at_eq, ev_fnM]
      simp [e1, e2, mkLst, sizeLine_eq]
    have fe : argFE 3 (F_wrong_at gR) (consA (vE 0) (consA (vE 1) (consA (vE 2) nilA))) [some v, some (.int 5), some (.fn 0)] = M.pure (.lst [.non]) := by
      show M.bind (M.pure [v, D.int 5, D.fn 0]) _ = _
      rw [ev_pure_bind, split2 h]
      exact wa
    simp [e1, e2, fe]
theorem wkinds {L n : Nat} {v : D} (h : Pl L n v) (hL : L ≤ 50) (hn : n ≤ 64) : ∃ x, F_wrong_kinds [v] = M.pure (.lst x) ∧ Pl 1 1 (.lst x) ∧ x.isEmpty = kB v := by
  obtain ⟨x, e, p, z⟩ := from_one h hL hn
  refine ⟨x, ?_, p, z⟩
  unfold F_wrong_kinds
  rw [ev_fnM]
  have c : D.nofnL [v, .int 5] = true := by
    simp only [D.nofnL, h.nofn, D.nofn, Bool.and_self]
  have body : callCE (["value", "most", "is_right"] : List Str).length (["each", "before"] : List Str).length [] F_wrong_from_one (retS (andE (argN 1 F_is_name (consA (vE 0) nilA)) (orE (bin2 eqD (vE 1) (tupE nilA)) (bin2 ltD (bin2 ixX (vE 1) (ngE (iE 1))) (vE 0))))) (consA (vE 0) (consA (iE 5) nilA)) [some v, none] = M.pure (.lst x) := by
    rw [ev_callCE]
    show M.bind (M.pure [v, D.int 5]) _ = _
    rw [ev_pure_bind, if_pos ⟨rfl, c, by simp [capE, D.nofnL]⟩]
    show M.bind (noX (F_wrong_from_one gR [v, .int 5])) _ = _
    rw [e, ev_noX_pure, ev_pure_bind, if_pos p.nofn]
  show M.bind (retS _ [some v, none]) endM = _
  rw [ev_retS, body]
  rfl
/-! ## numbers, lines -/
def numB : D → Bool
  | .int i => decide (1 ≤ i) && decide (i ≤ 9)
  | _ => false
def rowB (m : Nat) : D → Bool
  | .tup xs => decide (xs.length = m) && xs.all numB
  | _ => false
def tabB (m : Nat) : D → Bool
  | .tup rows => decide (rows.length = m) && rows.all (rowB m)
  | _ => false
def bookB : D → Bool
  | .tup [.tup ks, t] => kB (.tup ks) && tabB ks.length t
  | _ => false
def isW : D → Bool
  | .int _ => true
  | _ => false
theorem whole_all {L n : Nat} {d : D} (h : Pl L n d) : F_is_whole [d] = M.pure (.bl (isW d)) := by
  unfold F_is_whole
  rw [ev_fnM]
  cases h <;> simp [isW]
theorem number_all {L n : Nat} {d : D} (h : Pl L n d) : F_is_number [d, .int 1, .int 9] = M.pure (.bl (numB d)) := by
  have w := whole_all h
  unfold F_is_number
  rw [ev_fnM]
  cases h with
  | int i =>
    simp only [isW] at w
    by_cases h1 : i < 1
    · have h1' : ¬ 1 ≤ i := by omega
      simp [w, notND, D.isNon, h1, h1', numB]
    · have h1' : 1 ≤ i := by omega
      simp [w, notND, isND, D.isNon, h1, h1', numB]
  | _ =>
    simp only [isW] at w
    simp [w, numB]
def lenIs (m : Nat) : D → Bool
  | .tup xs => decide (xs.length = m)
  | _ => false
theorem tup_of {L n m : Nat} {d : D} (h : Pl L n d) : F_is_tuple_of [d, .int (m : Nat)] = M.pure (.bl (lenIs m d)) := by
  unfold F_is_tuple_of
  rw [ev_fnM]
  cases h with
  | tup => simp [ev_eqI, lenIs, Int.ofNat_inj]
  | _ => simp [lenIs]
theorem line_all {L n m : Nat} {d : D} (h : Pl L n d) (hL : L ≤ 50) : F_is_line [d, .int (m : Nat)] = M.pure (.bl (rowB m d)) := by
  have w := tup_of (m := m) h
  unfold F_is_line
  rw [ev_fnM]
  cases h with
  | @tup n ds h1 h2 =>
    have lc : lcE [2] (itE (vE 0)) (gNm 2) yesT (argN 3 F_is_number (consA (vE 2) (consA (iE 1) (consA (iE 9) nilA)))) [some (.tup ds), some (.int (m : Nat)), none] = M.pure (.lst ((ds.filter fun _ => true).map fun d => .bl (numB d))) :=
      lcE_pure (items := ds) (T := fun _ => true) (F := fun d => .bl (numB d)) rfl (by rw [sizeLine_eq]; omega) (fun d hd => rfl) fun d hd _ => number_all (h2 d hd)
    rw [List.filter_eq_self.mpr (fun _ _ => rfl)] at lc
    simp only [lenIs] at w
    cases q : decide (ds.length = m)
    · rw [q] at w
      simp [w, rowB, q]
    · rw [q] at w
      simp [w, rowB, q, lc, ev_all]
  | _ =>
    simp only [lenIs] at w
    simp [w, rowB]
theorem form_all {L n : Nat} {d : D} (h : Pl L n d) (hL : L ≤ 50) (hn : n ≤ 64) : F_is_book_form [d] = M.pure (.bl (bookB d)) := by
  have w := tup_of (m := 2) h
  unfold F_is_book_form
  rw [ev_fnM]
  by_cases q : ∃ k t, d = .tup [k, t]
  · obtain ⟨k, t, rfl⟩ := q
    cases h with
    | tup h1 h2 =>
      rename_i n
      have pk := h2 k (by simp)
      have pt := h2 t (by simp)
      obtain ⟨x, e, p, z⟩ := wkinds pk hL (by omega)
      have w' : F_is_tuple_of [.tup [k, t], .int 2] = M.pure (.bl true) := w
      have i0 : ixX (.tup [k, t]) (.int 0) = M.pure k := rfl
      have i1 : ixX (.tup [k, t]) (.int 1) = M.pure t := rfl
      have ne : neD (.lst x) (.lst []) = M.pure (.bl (!kB k)) := by rw [ev_ne (p.sh (by decide)) (by decide +kernel) (fun _ e => nomatch e), eqv_nilL, z]
      cases c : kB k
      · rw [c] at ne
        have b0 : bookB (.tup [k, t]) = false := by
          cases k <;> first | rfl | (show (kB _ && _) = false; rw [c]; rfl)
        rw [b0]
        simp [w', i0, e, ne, mkLst]
      · rw [c] at ne
        cases k with
        | tup ks =>
          have wt := tup_of (m := ks.length) pt
          have b1 : bookB (.tup [.tup ks, t]) = tabB ks.length t := by
            show (kB (.tup ks) && tabB ks.length t) = _
            rw [c]; rfl
          rw [b1]
          cases pt with
          | @tup n rows r1 r2 =>
            have lc : lcE [2] (itE (bin2 ixX (vE 0) (iE 1))) (gNm 2) yesT (argN 2 F_is_line (consA (vE 2) (consA (vE 1) nilA))) [some (.tup [.tup ks, .tup rows]), some (.int (ks.length : Nat)), none] = M.pure (.lst ((rows.filter fun _ => true).map fun d => .bl (rowB ks.length d))) :=
              lcE_pure (items := rows) (T := fun _ => true) (F := fun d => .bl (rowB ks.length d)) rfl (by rw [sizeLine_eq]; omega) (fun d hd => rfl) fun d hd _ => line_all (r2 d hd) hL
            rw [List.filter_eq_self.mpr (fun _ _ => rfl)] at lc
            simp only [lenIs] at wt
            cases q : decide (rows.length = ks.length)
            · rw [q] at wt
              simp [w', i0, i1, e, ne, mkLst, wt, tabB, q]
            · rw [q] at wt
              simp [w', i0, i1, e, ne, mkLst, wt, tabB, q, lc, ev_all]
          | _ =>
            simp only [lenIs] at wt
            simp [w', i0, i1, e, ne, mkLst, wt, tabB]
        | _ => exact nomatch c
  · have b0 : bookB d = false ∧ lenIs 2 d = false := by
      cases h with
      | @tup n ds h1 h2 =>
        match ds, q with
        | [], _ => exact ⟨rfl, rfl⟩
        | [a], _ => exact ⟨by unfold bookB; split <;> first | rfl | (rename_i z; cases z), rfl⟩
        | [a, b], q => exact absurd ⟨a, b, rfl⟩ q
        | a :: b :: c :: ds, _ => exact ⟨by unfold bookB; split <;> first | rfl | (rename_i z; cases z), by simp [lenIs]⟩
      | _ => exact ⟨rfl, rfl⟩
    rw [b0.2] at w
    have w' : F_is_tuple_of [d, .int 2] = M.pure (.bl false) := w
    rw [b0.1]
    simp [w']
end Fm

namespace Fm
open PySem PySem.Spec PyProof.Rows L2 Q
/-! ## draws -/
theorem dip_ok {w : Wl} {n : Int} (hw : Good w) (h0 : 0 < n) (h1 : n < 1073741824) : Run (F__law_dip [.well, .int n]) w fun d w' => ∃ r : Int, d = .int r ∧ 0 ≤ r ∧ r < n ∧ Good w' := by
  obtain ⟨a, b, c, rfl⟩ := hw
  by_cases ha : 0 < a
  · refine fnM_run ⟨.rt (.int (a % n)), [a / n, b, c], ?_, _, rfl, Int.emod_nonneg _ (by omega), Int.emod_lt_of_pos _ h0, _, _, _, rfl⟩
    simp [h0, h1, ha]
  · have e : ∃ (m : Int) (b' : Int), (seqS (ifS' (tst (bin2 gtD (bin2 ixX (vE 0) (iE 0)) (iE 0))) (seqS (asgS (argE divmodD (consA (bin2 ixX (vE 0) (iE 0)) (consA (vE 1) nilA))) (gTup 2 (gCons (gPutW 0 (iE 0)) (gCons (gNm 2) gNil)))) (retS (vE 2))) nilS)
      (seqS (putWS 0 (bin2 addD (bin2 ixX (vE 0) (iE 2)) (iE 1)) (iE 2))
      (seqS (putWS 0 (bin2 modD (argE intD (consA (bin2 addD (bin2 addD (bin2 mulD (bin2 ixX (vE 0) (iE 1)) (iE 48271)) (bin2 mulD (iE 7919) (bin2 ixX (vE 0) (iE 2)))) (iE 83)) nilA)) (iE 2147480009)) (iE 1))
      (retS (bin2 modD (argE intD (consA (bin2 divD (bin2 ixX (vE 0) (iE 1)) (iE 163)) nilA)) (vE 1)))))) (startE 3 [.well, .int n]) [a, b, c] = .ok (.rt (.int (m % n))) [a, b', c + 1] := by
      simp [h0, h1, ha]
      exact ⟨_, rfl⟩
    obtain ⟨m, b', e⟩ := e
    exact fnM_run ⟨_, _, e, _, rfl, Int.emod_nonneg _ (by omega), Int.emod_lt_of_pos _ h0, _, _, _, rfl⟩
theorem at_mem {xs : List D} {d0 : D} (hd : d0 = .lst xs ∨ d0 = .tup xs) (r : Int) (r0 : 0 ≤ r) (r1 : r < xs.length) : ∃ d, d ∈ xs ∧ ixX d0 (.int r) = M.pure d := by
  refine ⟨xs[r.toNat]'(by omega), List.getElem_mem _, ?_⟩
  rcases hd with rfl | rfl
  · exact ev_ixL r0 r1
  · exact ev_ixT r0 r1
theorem one_ok {w : Wl} {xs : List D} {d0 : D} (hd : d0 = .lst xs ∨ d0 = .tup xs) (hw : Good w) (h0 : xs ≠ []) (h1 : xs.length < 1073741824) : Run (F__law_one [.well, d0]) w fun d w' => d ∈ xs ∧ Good w' := by
  refine fnM_run ?_
  have hl : 0 < xs.length := List.length_pos_iff.mpr h0
  have en : lenD [d0] = M.pure (.int (xs.length : Nat)) := by rcases hd with rfl | rfl <;> rfl
  simp [en]
  refine Run.bind (dip_ok hw (n := (xs.length : Nat)) (by omega) (by omega)) fun a w2 ⟨r, e, r0, r1, g⟩ => ?_
  subst e
  obtain ⟨d, hd, q⟩ := at_mem hd r r0 r1
  simp only [q]
  exact ⟨_, w2, rfl, hd, g⟩
theorem one_let {w : Wl} (hw : Good w) : Run (F__law_one [.well, .str LETS]) w fun d w' => (∃ c ∈ LETS.cps.toList, d = chr1 c) ∧ Good w' := by
  refine fnM_run ?_
  have en : lenD [.str LETS] = M.pure (.int 26) := ev_lenStr (by rw [sizeLine_eq]; decide)
  conv => arg 1; simp [en]
  refine Run.bind (dip_ok hw (n := 26) (by omega) (by omega)) fun a w2 ⟨r, e, r0, r1, g⟩ => ?_
  subst e
  obtain ⟨c, hc, q⟩ := ev_ixLet r0 r1
  rw [q]
  exact ⟨_, w2, rfl, ⟨c, hc, rfl⟩, g⟩
/-! ## lists -/
theorem len_sub {α : Type} [DecidableEq α] : ∀ {xs ys : List α}, xs.Nodup → (∀ x ∈ xs, x ∈ ys) → xs.length ≤ ys.length
  | [], _, _, _ => Nat.zero_le _
  | x :: xs, ys, nd, h => by
    obtain ⟨n1, n2⟩ := List.nodup_cons.mp nd
    have hx : x ∈ ys := h x List.mem_cons_self
    have := len_sub (xs := xs) (ys := ys.erase x) n2 fun y hy => (List.mem_erase_of_ne (fun z => n1 (by rw [← z]; exact hy))).mpr (h y (List.mem_cons_of_mem _ hy))
    rw [List.length_erase_of_mem hx] at this
    have : 0 < ys.length := List.length_pos_of_mem hx
    simp only [List.length_cons]
    omega
theorem insS_len {x : Str} : ∀ {ys : List Str}, x ∉ ys → (insS x ys).length = ys.length + 1
  | [], _ => rfl
  | y :: ys, h => by
    have h1 : x ≠ y := fun z => h (by rw [z]; exact List.mem_cons_self)
    have h2 : x ∉ ys := fun z => h (List.mem_cons_of_mem _ z)
    unfold insS
    rw [if_neg h1]
    by_cases g : ltS x y = true
    · rw [if_pos g]; rfl
    · rw [if_neg g, List.length_cons, insS_len h2, List.length_cons]
theorem setSort_len : ∀ {xs : List Str}, xs.Nodup → (setSort xs).length = xs.length
  | [], _ => rfl
  | x :: xs, h => by
    obtain ⟨h1, h2⟩ := List.nodup_cons.mp h
    show (insS x (setSort xs)).length = _
    rw [insS_len (by rw [mem_setSort]; exact h1), setSort_len h2]; rfl
theorem nodup_up {xs : List Str} (h : UpS xs) : xs.Nodup := h.imp fun {a b} hab e => by
  subst e; exact absurd hab (List.lt_irrefl _)
end Fm

namespace Fm
open PySem PySem.Spec PyProof.Rows L2 Q
/-! ## drawn names -/
theorem glue_fold : ∀ (ys : List Str) (acc : Array Nat), ((ys.foldl (fun acc p => acc ++ (Str.ofString "").cps ++ p.cps) acc)).toList = acc.toList ++ (ys.map (·.cps.toList)).flatten
  | [], acc => by simp
  | y :: ys, acc => by
    rw [List.foldl_cons, glue_fold ys]
    have : (Str.ofString "").cps = #[] := rfl
    simp [this]
theorem join_sg (cs : List Nat) : (Txt.join (Str.ofString "") (cs.map fun c => (⟨#[c]⟩ : Str))).cps.toList = cs := by
  show ((((cs.map fun c => (⟨#[c]⟩ : Str)).drop 1).foldl (fun acc p => acc ++ (Str.ofString "").cps ++ p.cps) ((cs.map fun c => (⟨#[c]⟩ : Str)).headD Str.empty).cps)).toList = cs
  rw [glue_fold]
  cases cs with
  | nil => rfl
  | cons c cs =>
    show [c] ++ ((cs.map fun c => (⟨#[c]⟩ : Str)).map (·.cps.toList)).flatten = _
    rw [List.map_map]
    have : ((fun x : Str => x.cps.toList) ∘ fun c => (⟨#[c]⟩ : Str)) = fun c => [c] := rfl
    rw [this]
    induction cs with
    | nil => rfl
    | cons d ds ih => simp_all
theorem strsD_sg : ∀ cs : List Nat, strsD (cs.map chr1) = some (cs.map fun c => (⟨#[c]⟩ : Str))
  | [] => rfl
  | c :: cs => by
    show ((strsD (cs.map chr1)).map fun x => (⟨#[c]⟩ : Str) :: x) = _
    rw [strsD_sg cs]; rfl
theorem strsD_map : ∀ xs : List Str, strsD (xs.map D.str) = some xs
  | [] => rfl
  | x :: xs => by
    show ((strsD (xs.map D.str)).map fun y => x :: y) = _
    rw [strsD_map xs]; rfl
theorem len_cps (s : Str) : s.length = s.cps.toList.length := (Array.length_toList).symm
theorem sum_ones (cs : List Nat) : ((cs.map fun c => (⟨#[c]⟩ : Str)).map (·.length)).sum = cs.length := by
  induction cs with
  | nil => rfl
  | cons c cs ih =>
    simp only [List.map_cons, List.sum_cons, ih, List.length_cons]
    show 1 + cs.length = _
    omega
theorem join_ev {cs : List Nat} (h : cs.length ≤ 1000) : joinM (Str.ofString "") [.lst (cs.map chr1)] = M.pure (.str (Txt.join (Str.ofString "") (cs.map fun c => (⟨#[c]⟩ : Str)))) := by
  show (match strsD (cs.map chr1) with
    | some ys => if (ys.map fun y : Str => y.length).sum + ys.length * (Str.ofString "").length ≤ 16777216 then M.pure (D.str (Txt.join (Str.ofString "") ys)) else M.fail
    | none => M.fail) = _
  rw [strsD_sg]
  dsimp only
  rw [if_pos]
  rw [sum_ones]
  have : (Str.ofString "").length = 0 := rfl
  rw [this]; omega
theorem argRng_eq {fa : Q.Env → M D} {ρ : Q.Env} : argE rng1D (consA fa nilA) ρ = M.bind (fa ρ) fun d => rng1D [d] := by
  rw [ev_argE, ev_consA, ev_assoc]
  congr 1
def wordE : Q.Env → M D := joinE (sE "") (consA (lcE [8] (argE rng1D (consA (bin2 addD (iE 1) (argN 2 F__law_dip (consA (vE 0) (consA (argN 2 F__law_one (consA (vE 0) (consA (lstE (consA (iE 2) (consA (iE 3) (consA (iE 8) nilA)))) nilA))) nilA)))) nilA)) (gNm 8) yesT (argN 2 F__law_one (consA (vE 0) (consA (vE 4) nilA)))) nilA)
theorem wordE_ok {w : Wl} {x1 x2 x3 x5 x6 x7 x8 x9 x10 : Option D} (hw : Good w) : Run (wordE [some .well, x1, x2, x3, some (.str LETS), x5, x6, x7, x8, x9, x10]) w fun d w' => ∃ s : Str, d = .str s ∧ 1 ≤ s.length ∧ s.length ≤ 8 ∧ inLet s ∧ Good w' := by
  have e0 : ∀ ρ, wordE ρ = M.bind (M.bind (argE rng1D (consA (bin2 addD (iE 1) (argN 2 F__law_dip (consA (vE 0) (consA (argN 2 F__law_one (consA (vE 0) (consA (lstE (consA (iE 2) (consA (iE 3) (consA (iE 8) nilA)))) nilA))) nilA)))) nilA) ρ) fun items => if items.length ≤ sizeLine then M.bind (lcL (gNm 8) yesT (argN 2 F__law_one (consA (vE 0) (consA (vE 4) nilA))) (wipeE ρ [8]) items) fun ys => M.pure (.lst ys) else M.fail) fun d => joinM (Str.ofString "") [d] := fun ρ => by
    unfold wordE joinE
    simp only [ev_sE, ev_pure_bind, ev_consA, ev_nilA, ev_lcE, ev_assoc]
  rw [e0]
  have r1 : Run (argE rng1D (consA (bin2 addD (iE 1) (argN 2 F__law_dip (consA (vE 0) (consA (argN 2 F__law_one (consA (vE 0) (consA (lstE (consA (iE 2) (consA (iE 3) (consA (iE 8) nilA)))) nilA))) nilA)))) nilA) [some .well, x1, x2, x3, some (.str LETS), x5, x6, x7, x8, x9, x10]) w
      fun items w' => ∃ n : Nat, items = (List.range n).map (fun i => D.int (0 + (i : Nat))) ∧ 1 ≤ n ∧ n ≤ 8 ∧ Good w' := by
    have r0 : Run ((bin2 addD (iE 1) (argN 2 F__law_dip (consA (vE 0) (consA (argN 2 F__law_one (consA (vE 0) (consA (lstE (consA (iE 2) (consA (iE 3) (consA (iE 8) nilA)))) nilA))) nilA)))) [some .well, x1, x2, x3, some (.str LETS), x5, x6, x7, x8, x9, x10]) w
        fun d w' => ∃ n : Nat, d = .int (n : Nat) ∧ 1 ≤ n ∧ n ≤ 8 ∧ Good w' := by
      conv => arg 1; simp [ev_mkLst]
      refine Run.bind (one_ok (.inl rfl) hw (by simp) (by simp)) fun a w1 ⟨ha, g1⟩ => ?_
      have : ∃ k : Int, a = .int k ∧ 0 < k ∧ k ≤ 8 := by
        simp only [List.mem_cons, List.not_mem_nil, or_false] at ha
        rcases ha with rfl | rfl | rfl
        · exact ⟨2, rfl, by omega, by omega⟩
        · exact ⟨3, rfl, by omega, by omega⟩
        · exact ⟨8, rfl, by omega, by omega⟩
      obtain ⟨k, rfl, k0, k8⟩ := this
      conv => arg 1; simp
      refine Run.bind (dip_ok g1 k0 (by omega)) fun a w2 ⟨r, e, r0, r1, g2⟩ => ?_
      subst e
      obtain ⟨n, en, n1, n8⟩ : ∃ n : Nat, 1 + r = ((n : Nat) : Int) ∧ 1 ≤ n ∧ n ≤ 8 := ⟨(1 + r).toNat, by omega, by omega, by omega⟩
      exact ⟨_, w2, rfl, n, by rw [en], n1, n8, g2⟩
    rw [argRng_eq]
    exact Run.bind r0 fun d w1 ⟨n, e, n1, n8, g1⟩ => by
      subst e
      exact run_pure (rng1_nat n (by omega)) ⟨n, rfl, n1, n8, g1⟩
  refine Run.bind (Run.bind r1 fun items w1 ⟨n, e, n1, n8, g1⟩ => ?_) (P := fun d w' => ∃ cs : List Nat, d = .lst (cs.map chr1) ∧ 1 ≤ cs.length ∧ cs.length ≤ 8 ∧ (∀ c ∈ cs, c ∈ LETS.cps.toList) ∧ Good w') fun d w' ⟨cs, e, l1, l8, hc, g⟩ => ?_
  · subst e
    rw [if_pos (by rw [List.length_map, List.length_range, sizeLine_eq]; omega)]
    refine Run.bind (lcL_run (I := Good) (J := fun d => ∃ c, d = chr1 c ∧ c ∈ LETS.cps.toList) g1 fun d hd w hw => ?_) fun ys w2 ⟨l, js, g2⟩ => ?_
    · conv => arg 1; simp [wipeE]
      exact (one_let hw).imp fun d w' ⟨⟨c, hc, e⟩, g⟩ => ⟨⟨c, e, hc⟩, g⟩
    · obtain ⟨cs, rfl, hc⟩ := map_of js
      rw [List.length_map, List.length_map, List.length_range] at l
      exact ⟨_, w2, rfl, cs, rfl, by omega, by omega, hc, g2⟩
  · subst e
    refine run_pure (join_ev (by omega)) ⟨_, rfl, ?_, ?_, fun c h => ?_, g⟩
    · rw [len_cps, join_sg]; exact l1
    · rw [len_cps, join_sg]; exact l8
    · rw [join_sg] at h; exact hc c h
/-! the one of some that is new -/
def cand (s : Str) (z : Str) (c : Nat) : Str := cutS s none (some 6) ++ ⟨#[c]⟩ ++ z
def cands (s : Str) : List Str := s :: (LETS.cps.toList.map (cand s "q") ++ LETS.cps.toList.map (cand s "z"))
theorem cut6 (s : Str) : (cutS s none (some 6)).cps.toList = s.cps.toList.take (min 6 s.length) := by
  unfold cutS
  have e : HT.sIx s.length s.length (some (6 : Int)) = min 6 s.length := HT.sIx_nat _ _ 6
  rw [e]
  show ((s.cps.toList.drop 0).take (min 6 s.length - 0)) = _
  rw [List.drop_zero, Nat.sub_zero]
theorem cand_cps (s z : Str) (c : Nat) : (cand s z c).cps.toList = s.cps.toList.take (min 6 s.length) ++ [c] ++ z.cps.toList := by
  unfold cand
  rw [PySem.Str.cps_append, Array.toList_append, PySem.Str.cps_append, Array.toList_append, cut6]
theorem cand_ok {s z : Str} {c : Nat} (hs : inLet s) (hc : c ∈ LETS.cps.toList) (hz : z = "q" ∨ z = "z") : 1 ≤ (cand s z c).length ∧ (cand s z c).length ≤ 8 ∧ inLet (cand s z c) := by
  have zl : z.cps.toList.length = 1 ∧ ∀ d ∈ z.cps.toList, d ∈ LETS.cps.toList := by
    rcases hz with rfl | rfl
    · exact ⟨rfl, by decide +kernel⟩
    · exact ⟨rfl, by decide +kernel⟩
  refine ⟨?_, ?_, fun d hd => ?_⟩
  · rw [len_cps, cand_cps, List.length_append, List.length_append, List.length_singleton]; omega
  · rw [len_cps, cand_cps, List.length_append, List.length_append, zl.1, List.length_take, List.length_singleton]; omega
  · rw [cand_cps] at hd
    rcases List.mem_append.mp hd with h | h
    · rcases List.mem_append.mp h with h | h
      · exact hs d (List.mem_of_mem_take h)
      · rw [List.mem_singleton.mp h]; exact hc
    · exact zl.2 d h
theorem word_last : ∀ x ∈ wordsL, x.cps.toList.getLast? ≠ some 113 := by decide +kernel
theorem cand_noword {s : Str} {c : Nat} : cand s "q" c ∉ wordsL := fun h => by
  apply word_last _ h
  rw [cand_cps]
  have : (Str.ofString "q").cps.toList = [113] := rfl
  rw [this]; simp
theorem cand_inj {s : Str} {c d : Nat} (h : cand s "q" c = cand s "q" d) : c = d := by
  have := congrArg (fun x : Str => x.cps.toList) h
  simp only [cand_cps] at this
  simpa using this
theorem lets_nodup : LETS.cps.toList.Nodup := by decide +kernel
/-- one of them is new -/
theorem cand_new {s : Str} {found : List Str} (hf : found.length < 26) : ∃ x ∈ cands s, x ∉ found ++ wordsL := by
  rcases Classical.em (∃ c ∈ LETS.cps.toList, cand s "q" c ∉ found) with ⟨c, hc, h⟩ | h
  · refine ⟨cand s "q" c, List.mem_cons_of_mem _ (List.mem_append.mpr (.inl (List.mem_map_of_mem hc))), fun z => ?_⟩
    exact (List.mem_append.mp z).elim h cand_noword
  · exfalso
    have h' : ∀ x ∈ LETS.cps.toList.map (cand s "q"), x ∈ found := fun x hx => by
      obtain ⟨c, hc, rfl⟩ := List.mem_map.mp hx
      exact Classical.byContradiction fun z => h ⟨c, hc, z⟩
    have nd : (LETS.cps.toList.map (cand s "q")).Nodup := List.Pairwise.map _ (fun a b hab e => hab (cand_inj e)) lets_nodup
    have := len_sub nd h'
    rw [List.length_map] at this
    have l26 : LETS.cps.toList.length = 26 := rfl
    omega
theorem cands_ok {s : Str} (h1 : 1 ≤ s.length) (h8 : s.length ≤ 8) (hs : inLet s) : ∀ x ∈ cands s, 1 ≤ x.length ∧ x.length ≤ 8 ∧ inLet x := fun x hx => by
  rcases List.mem_cons.mp hx with rfl | hx
  · exact ⟨h1, h8, hs⟩
  · rcases List.mem_append.mp hx with hx | hx
    · obtain ⟨c, hc, rfl⟩ := List.mem_map.mp hx
      exact cand_ok hs hc (.inl rfl)
    · obtain ⟨c, hc, rfl⟩ := List.mem_map.mp hx
      exact cand_ok hs hc (.inr rfl)
end Fm

namespace Fm
open PySem PySem.Spec PyProof.Rows L2 Q
def NameOk (s : Str) : Prop := 1 ≤ s.length ∧ s.length ≤ 8 ∧ inLet s ∧ s ∉ wordsL
theorem NameOk.b {s : Str} (h : NameOk s) : nameB s = true := by
  unfold nameB letsB
  have h3 : (s.cps.toList.all letB) = true := List.all_eq_true.mpr fun c hc => decide_eq_true (h.2.2.1 c hc)
  simp [h.1, h.2.1, h.2.2.2, h3]
theorem NameOk.pl {s : Str} (h : NameOk s) {L n : Nat} : Pl L n (.str s) := .str (by have := h.2.1; omega) h.2.2.1.ok
def candE (z : Str) : Q.Env → M D := lcE [9] (itE (vE 4)) (gNm 9) yesT (bin2 addD (bin2 addD (slE (vE 6) npE (partE (iE 6))) (vE 9)) (sE z))
theorem candE_ev {s z : Str} {x1 x2 x3 x5 x7 x8 x9 x10 : Option D} (hs : s.length ≤ 8) (hz : z.length ≤ 8) : candE z [some .well, x1, x2, x3, some (.str LETS), x5, some (.str s), x7, x8, x9, x10] = M.pure (.lst ((LETS.cps.toList.map (cand s z)).map D.str)) := by
  have cl : (cutS s none (some 6)).length ≤ 8 := by rw [len_cps, cut6, List.length_take]; omega
  have ce : cutD (.str s) none (some 6) = M.pure (.str (cutS s none (some 6))) := cutS_ev (by omega)
  unfold candE
  rw [lcE_pure (items := LETS.cps.toList.map chr1) (T := fun _ => true) (F := fun d => match d with | .str ⟨⟨[c]⟩⟩ => .str (cand s z c) | _ => .non) rfl (by rw [List.length_map, sizeLine_eq]; decide) (fun d hd => rfl) fun d hd _ => ?_]
  · rw [List.filter_eq_self.mpr (fun _ _ => rfl), List.map_map, List.map_map]; rfl
  · obtain ⟨c, _, rfl⟩ := List.mem_map.mp hd
    have a1 : addD (.str (cutS s none (some 6))) (chr1 c) = M.pure (.str (cutS s none (some 6) ++ ⟨#[c]⟩)) := addS (by show (cutS s none (some 6)).length + 1 ≤ 1000; omega)
    have a2 : addD (.str (cutS s none (some 6) ++ ⟨#[c]⟩)) (.str z) = M.pure (.str (cutS s none (some 6) ++ ⟨#[c]⟩ ++ z)) := addS (by rw [PySem.Str.length_append]; show (cutS s none (some 6)).length + 1 + z.length ≤ 1000; omega)
    simp [wipeE, ce, a1, a2]
    rfl
theorem addL {xs ys : List D} (h : xs.length + ys.length ≤ 1000) : addD (.lst xs) (.lst ys) = M.pure (.lst (xs ++ ys)) := if_pos (by rw [sizeLine_eq]; omega)
def someE : Q.Env → M D := bin2 addD (bin2 addD (lstE (consA (vE 6) nilA)) (candE "q")) (candE "z")
theorem someE_ev {s : Str} {x1 x2 x3 x5 x7 x8 x9 x10 : Option D} (hs : s.length ≤ 8) : someE [some .well, x1, x2, x3, some (.str LETS), x5, some (.str s), x7, x8, x9, x10] = M.pure (.lst ((cands s).map D.str)) := by
  unfold someE
  rw [ev_bin2, ev_bin2, candE_ev hs (by decide), candE_ev hs (by decide)]
  simp only [ev_lstE, ev_consA, ev_nilA, ev_pure_bind, ev_vE', ev_getV1, ev_getV0]
  rw [ev_mkLst (by simp), ev_pure_bind, addL (by rw [List.length_map, List.length_map]; have l26 : LETS.cps.toList.length = 26 := rfl; show 1 + LETS.cps.toList.length ≤ 1000; omega), ev_pure_bind, addL (by simp only [List.length_append, List.length_map, List.length_singleton]; decide)]
  unfold cands
  simp only [List.map_cons, List.map_append, List.cons_append, List.nil_append]
def pickA : Q.Env → M (List D) := consA (bin2 ixX (lcE [10] (itE (vE 7)) (gNm 10) (tst (bin2 (inM true) (vE 10) (bin2 addD (vE 5) (vE 2)))) (vE 10)) (iE 0)) nilA
theorem pl_strs {xs : List Str} (h : ∀ x ∈ xs, x.length ≤ 100 ∧ PyData.strOk x = true) {L : Nat} (hl : xs.length ≤ L) : Pl L 1 (.lst (xs.map D.str)) := .lst (by rw [List.length_map]; exact hl) fun d hd => by
  obtain ⟨x, hx, rfl⟩ := List.mem_map.mp hd
  exact .str (h x hx).1 (h x hx).2
theorem words_ok100 : ∀ x ∈ wordsL, x.length ≤ 100 ∧ PyData.strOk x = true := by decide +kernel
theorem pickA_ev {cs found : List Str} {x1 x3 x4 x6 x8 x9 x10 : Option D} (hc : ∀ x ∈ cs, PyData.strOk x = true) (hcl : cs.length ≤ 100) (hf : ∀ x ∈ found, NameOk x) (hl : found.length ≤ 20) (hn : ∃ x ∈ cs, x ∉ found ++ wordsL) :
    ∃ x ∈ cs, x ∉ found ++ wordsL ∧ pickA [some .well, x1, some (.lst (wordsL.map D.str)), x3, x4, some (.lst (found.map D.str)), x6, some (.lst (cs.map D.str)), x8, x9, x10] = M.pure [.str x] := by
  have sh : shOk (.lst ((found ++ wordsL).map D.str)) = true := (pl_strs (L := 100) (fun x hx => (List.mem_append.mp hx).elim (fun h => ⟨by have := (hf x h).2.1; omega, (hf x h).2.2.1.ok⟩) (words_ok100 x)) (by rw [List.length_append]; have : wordsL.length = 27 := rfl; omega)).sh (by omega)
  have e1 : addD (.lst (found.map D.str)) (.lst (wordsL.map D.str)) = M.pure (.lst ((found ++ wordsL).map D.str)) := by
    rw [addL (by rw [List.length_map, List.length_map]; have : wordsL.length = 27 := rfl; omega), List.map_append]
  have el : lcE [10] (itE (vE 7)) (gNm 10) (tst (bin2 (inM true) (vE 10) (bin2 addD (vE 5) (vE 2)))) (vE 10) [some .well, x1, some (.lst (wordsL.map D.str)), x3, x4, some (.lst (found.map D.str)), x6, some (.lst (cs.map D.str)), x8, x9, x10] = M.pure (.lst ((cs.filter fun x => !decide (x ∈ found ++ wordsL)).map D.str)) := by
    rw [lcE_pure (items := cs.map D.str) (T := fun d => match d with | .str x => !decide (x ∈ found ++ wordsL) | _ => true) (F := fun d => d) rfl (by rw [List.length_map, sizeLine_eq]; omega) (fun d hd => ?_) fun d hd _ => rfl]
    · rw [List.map_id', List.filter_map]; rfl
    · obtain ⟨x, hx, rfl⟩ := List.mem_map.mp hd
      have i := in_strL (neg := true) (hc x hx) sh
      rw [if_pos rfl] at i
      show tst (bin2 (inM true) (vE 10) (bin2 addD (vE 5) (vE 2))) [some .well, x1, some (.lst (wordsL.map D.str)), x3, x4, some (.lst (found.map D.str)), x6, some (.lst (cs.map D.str)), x8, x9, some (.str x)] = _
      simp only [ev_tst, ev_bin2, ev_vE', ev_getV1, ev_getV0, ev_pure_bind, e1]
      rw [i, ev_pure_bind, ev_asB]
  obtain ⟨x0, h0, h1⟩ := hn
  have : x0 ∈ cs.filter fun x => !decide (x ∈ found ++ wordsL) := List.mem_filter.mpr ⟨h0, by rw [decide_eq_false h1]; rfl⟩
  generalize hg : (cs.filter fun x => !decide (x ∈ found ++ wordsL)) = gs at this el
  cases gs with
  | nil => cases this
  | cons x rest =>
    have hx := List.mem_filter.mp (hg ▸ List.mem_cons_self : x ∈ cs.filter fun x => !decide (x ∈ found ++ wordsL))
    refine ⟨x, hx.1, of_decide_eq_false (by simpa only [Bool.not_eq_true'] using hx.2), ?_⟩
    unfold pickA
    have q : ixX (.lst ((x :: rest).map D.str)) (.int 0) = M.pure (.str x) := ev_ixL (by omega) (by rw [List.length_map, List.length_cons]; omega)
    simp only [ev_consA, ev_bin2, el, ev_pure_bind, ev_iE, ev_nilA, q]
def wordsB : Q.Env → M Fl := seqS (setS 6 wordE) (seqS (setS 7 someE) (mutKS 5 appM pickA))
theorem mutKS_ev {i : Nat} {m : List D → List D → M (List D)} {fa : Q.Env → M (List D)} {ρ : Q.Env} : mutKS i m fa ρ = M.bind (getL ρ i) fun xs => M.bind (fa ρ) fun es => if atomL es = true then M.bind (m xs es) fun ys => M.pure (.nx (ρ.set i (some (.lst ys)))) else M.fail := rfl
theorem words_eq : F__law_words = fnM 11 (seqS (parS2 4 5 (consA (sE "abcdefghijklmnopqrstuvwxyz") (consA (lstE nilA) nilA)))
  (seqS (setS 2 (lstE (consA (sE "add") (consA (sE "ahead") (consA (sE "all") (consA (sE "at") (consA (sE "behind") (consA (sE "book") (consA (sE "by") (consA (sE "close") (consA (sE "drop") (consA (sE "end") (consA (sE "ends") (consA (sE "flight") (consA (sE "from") nilA)))))))))))))))
  (seqS (setS 2 (bin2 addD (vE 2) (lstE (consA (sE "kinds") (consA (sE "land") (consA (sE "late") (consA (sE "least") (consA (sE "move") (consA (sE "none") (consA (sE "of") (consA (sE "open") (consA (sE "row") (consA (sE "show") (consA (sE "time") (consA (sE "times") nilA)))))))))))))))
  (seqS (setS 2 (bin2 addD (vE 2) (lstE (consA (sE "to") (consA (sE "with") nilA)))))
  (seqS (forS (rngA 1) (gNm 3) wordsB)
  (retS (argE tupleD (consA (argE sortSM (consA (vE 5) nilA)) nilA)))))))) := rfl
theorem sortSM_ev {xs : List Str} (h : xs.length < 64) (nd : xs.Nodup) : sortSM [.lst (xs.map D.str)] = M.pure (.lst ((setSort xs).map D.str)) := by
  show (match strsD (xs.map D.str) with
    | some xs => if xs.length < 64 ∧ xs.Nodup then M.pure (D.lst ((setSort xs).map D.str)) else M.fail
    | none => M.fail) = _
  rw [strsD_map]
  dsimp only
  rw [if_pos ⟨h, nd⟩]
theorem words_turn {w : Wl} {found : List Str} {x1 x3 x6 x7 x8 x9 x10 : Option D} (hw : Good w) (hf : ∀ x ∈ found, NameOk x) (nd : found.Nodup) (hl : found.length < 20) :
    Run (wordsB [some .well, x1, some (.lst (wordsL.map D.str)), x3, some (.str LETS), some (.lst (found.map D.str)), x6, x7, x8, x9, x10]) w
      fun r w' => ∃ (x : Str) (y6 y7 : Option D), r = .nx [some .well, x1, some (.lst (wordsL.map D.str)), x3, some (.str LETS), some (.lst ((found ++ [x]).map D.str)), y6, y7, x8, x9, x10] ∧ NameOk x ∧ x ∉ found ∧ Good w' := by
  unfold wordsB
  rw [ev_seqS, ev_setS, ev_assoc]
  refine Run.bind (wordE_ok hw) fun d w1 ⟨s, e, s1, s8, si, g1⟩ => ?_
  subst e
  obtain ⟨x, hx, xn, ep⟩ := pickA_ev (cs := cands s) (found := found) (x1 := x1) (x3 := x3) (x4 := some (.str LETS)) (x6 := some (.str s)) (x8 := x8) (x9 := x9) (x10 := x10) (fun x hx => (cands_ok s1 s8 si x hx).2.2.ok) (by unfold cands; simp only [List.length_cons, List.length_append, List.length_map]; decide) hf (by omega) (cand_new (by omega))
  have es := someE_ev (s := s) (x1 := x1) (x2 := some (.lst (wordsL.map D.str))) (x3 := x3) (x5 := some (.lst (found.map D.str))) (x7 := x7) (x8 := x8) (x9 := x9) (x10 := x10) s8
  have ap : appM (found.map D.str) [.str x] = M.pure ((found ++ [x]).map D.str) := by
    rw [ev_app (by rw [List.length_map]; omega), List.map_append]; rfl
  refine run_pure (a := .nx [some .well, x1, some (.lst (wordsL.map D.str)), x3, some (.str LETS), some (.lst ((found ++ [x]).map D.str)), some (.str s), some (.lst ((cands s).map D.str)), x8, x9, x10]) ?_ ⟨x, _, _, rfl, ⟨(cands_ok s1 s8 si x hx).1, (cands_ok s1 s8 si x hx).2.1, (cands_ok s1 s8 si x hx).2.2, fun z => xn (List.mem_append_right _ z)⟩, fun z => xn (List.mem_append_left _ z), g1⟩
  rw [ev_pure_bind]
  show seqS (setS 7 someE) (mutKS 5 appM pickA) [some .well, x1, some (.lst (wordsL.map D.str)), x3, some (.str LETS), some (.lst (found.map D.str)), some (.str s), x7, x8, x9, x10] = _
  rw [ev_seqS, ev_setS, ev_assoc, es, ev_pure_bind, ev_pure_bind]
  show mutKS 5 appM pickA [some .well, x1, some (.lst (wordsL.map D.str)), x3, some (.str LETS), some (.lst (found.map D.str)), some (.str s), some (.lst ((cands s).map D.str)), x8, x9, x10] = _
  rw [mutKS_ev]
  simp only [ev_getL1, ev_getL0, ev_pure_bind]
  rw [ep, ev_pure_bind, if_pos (show atomL [D.str x] = true from rfl), ap, ev_pure_bind]
  rfl
theorem words_pre (F : Q.Env → M Fl) (d1 : D) : fnM 11 (seqS (parS2 4 5 (consA (sE "abcdefghijklmnopqrstuvwxyz") (consA (lstE nilA) nilA)))
  (seqS (setS 2 (lstE (consA (sE "add") (consA (sE "ahead") (consA (sE "all") (consA (sE "at") (consA (sE "behind") (consA (sE "book") (consA (sE "by") (consA (sE "close") (consA (sE "drop") (consA (sE "end") (consA (sE "ends") (consA (sE "flight") (consA (sE "from") nilA)))))))))))))))
  (seqS (setS 2 (bin2 addD (vE 2) (lstE (consA (sE "kinds") (consA (sE "land") (consA (sE "late") (consA (sE "least") (consA (sE "move") (consA (sE "none") (consA (sE "of") (consA (sE "open") (consA (sE "row") (consA (sE "show") (consA (sE "time") (consA (sE "times") nilA)))))))))))))))
  (seqS (setS 2 (bin2 addD (vE 2) (lstE (consA (sE "to") (consA (sE "with") nilA)))))
  F)))) [.well, d1] = M.bind (F [some .well, some d1, some (.lst (wordsL.map D.str)), none, some (.str LETS), some (.lst []), none, none, none, none, none]) endM := by
  have a1 : addD (.lst [.str "add", .str "ahead", .str "all", .str "at", .str "behind", .str "book", .str "by", .str "close", .str "drop", .str "end", .str "ends", .str "flight", .str "from"]) (.lst [.str "kinds", .str "land", .str "late", .str "least", .str "move", .str "none", .str "of", .str "open", .str "row", .str "show", .str "time", .str "times"]) = M.pure (.lst ((wordsL.take 25).map D.str)) := addL (by decide)
  have a2 : addD (.lst ((wordsL.take 25).map D.str)) (.lst [.str "to", .str "with"]) = M.pure (.lst (wordsL.map D.str)) := addL (by decide)
  rw [ev_fnM]
  simp [ev_mkLst, a1, a2]
  rfl
theorem words_end {xs : List Str} {x1 x2 x3 x4 x6 x7 x8 x9 x10 : Option D} (h : xs.length < 64) (nd : xs.Nodup) : retS (argE tupleD (consA (argE sortSM (consA (vE 5) nilA)) nilA)) [some .well, x1, x2, x3, x4, some (.lst (xs.map D.str)), x6, x7, x8, x9, x10] = M.pure (.rt (.tup ((setSort xs).map D.str))) := by
  have te : tupleD [.lst ((setSort xs).map D.str)] = M.pure (.tup ((setSort xs).map D.str)) := rfl
  simp [sortSM_ev h nd, te]
theorem words_ok {w : Wl} {many : Nat} (hw : Good w) (h1 : many ≤ 15) :
    Run (F__law_words [.well, .int (many : Nat)]) w fun d w' => ∃ xs : List Str, d = .tup (xs.map D.str) ∧ xs.length = many ∧ UpS xs ∧ (∀ x ∈ xs, NameOk x) ∧ Good w' := by
  generalize hz : ((many : Nat) : Int) = z
  have hr : ∀ ρ, getV ρ 1 = M.pure (.int z) → rngA 1 ρ = M.pure ((List.range many).map fun i => D.int (0 + (i : Nat))) := fun ρ h => rngA_ev (by rw [hz]; exact h) (by omega)
  rw [words_eq, words_pre, ev_seqS, ev_assoc]
  have hr1 := hr [some .well, some (.int z), some (.lst (wordsL.map D.str)), none, some (.str LETS), some (.lst []), none, none, none, none, none] rfl
  rw [ev_forS, hr1, ev_pure_bind]
  refine Run.bind (forL_runN (I := fun n ρ w => ∃ (xs : List Str) (x3 x6 x7 : Option D), ρ = [some .well, some (.int z), some (.lst (wordsL.map D.str)), x3, some (.str LETS), some (.lst (xs.map D.str)), x6, x7, none, none, none] ∧ xs.length + n = many ∧ (∀ x ∈ xs, NameOk x) ∧ xs.Nodup ∧ Good w) ?_ ?_) fun r w' ⟨ρ', e, xs, x3, x6, x7, e2, l, m, nd, g⟩ => ?_
  · exact ⟨[], none, none, none, rfl, by simp, (fun _ h => nomatch h), List.nodup_nil, hw⟩
  · rintro n d hd ρ w ⟨xs, x3, x6, x7, rfl, l, m, nd, g⟩
    refine run_pure (a := [some .well, some (.int z), some (.lst (wordsL.map D.str)), some d, some (.str LETS), some (.lst (xs.map D.str)), x6, x7, none, none, none]) rfl ?_
    refine (words_turn g m nd (by omega)).imp fun r w' ⟨x, y6, y7, e, hx, hn, g'⟩ => ?_
    subst e
    refine ⟨_, rfl, xs ++ [x], some d, y6, y7, rfl, ?_, fun y hy => ?_, ?_, g'⟩
    · rw [List.length_append, List.length_singleton]; omega
    · rcases List.mem_append.mp hy with h | h
      · exact m y h
      · rw [List.mem_singleton.mp h]; exact hx
    · exact List.nodup_append.mpr ⟨nd, by simp, fun a ha b hb e => hn (by rw [← List.mem_singleton.mp hb, ← e]; exact ha)⟩
  · subst e e2
    dsimp only
    rw [words_end (by omega) nd, ev_pure_bind, ev_endRt]
    exact ⟨_, w', rfl, setSort xs, rfl, by rw [setSort_len nd]; simpa using l, up_setSort xs, fun x hx => m x (mem_setSort.mp hx), g⟩
end Fm

namespace Fm
open PySem PySem.Spec PyProof.Rows L2 Q
/-! ## the numbers of a book -/
def key (a b : Str) : D := .tup [.str a, .str b]
theorem same_key {a b c d : Str} : sameKey (key a b) (key c d) = decide (a = c ∧ b = d) := by
  unfold key
  by_cases h1 : a = c <;> by_cases h2 : b = d <;> simp [sameKey, sameKeys, h1, h2]
theorem same_eq {x : D} {a b : Str} (h : sameKey x (key a b) = true) : x = key a b := by
  unfold key at h ⊢
  cases x with
  | tup xs =>
    match xs, h with
    | [], h => simp [sameKey, sameKeys] at h
    | [x], h => cases x <;> simp [sameKey, sameKeys] at h
    | [x, y], h =>
      cases x <;> cases y <;> simp [sameKey, sameKeys] at h
      rw [h.1, h.2]
    | x :: y :: z :: r, h => cases x <;> cases y <;> simp [sameKey, sameKeys] at h
  | _ => simp [sameKey] at h
theorem key_in {a b : Str} : keyIn true (key a b) = true := rfl
theorem lkp_map {v : D} {a b c d : Str} : ∀ acc : List (D × D), lkpD (acc.map fun kv => if sameKey kv.1 (key a b) = true then (kv.1, v) else kv) (key c d) =
    if a = c ∧ b = d then (if (acc.any fun kv => sameKey kv.1 (key a b)) = true then some v else none) else lkpD acc (key c d)
  | [] => by simp [lkpD]
  | (x, y) :: r => by
    have ih := lkp_map (v := v) (a := a) (b := b) (c := c) (d := d) r
    rw [List.map_cons]
    by_cases h : sameKey x (key a b) = true
    · have := same_eq h
      subst this
      rw [if_pos (by exact h)]
      unfold lkpD
      by_cases e : a = c ∧ b = d
      · rw [if_pos (by rw [same_key]; exact decide_eq_true e), if_pos e]
        simp [h]
      · have n : ¬ sameKey (key a b) (key c d) = true := by rw [same_key]; simpa using e
        rw [if_neg n, if_neg e, ih, if_neg e, if_neg n]
    · rw [if_neg (by exact h)]
      unfold lkpD
      by_cases e : a = c ∧ b = d
      · have h' : ¬ sameKey x (key c d) = true := by rw [← e.1, ← e.2]; exact h
        rw [if_neg h', ih, if_pos e, if_pos e]
        have : (List.any ((x, y) :: r) fun kv => sameKey kv.1 (key a b)) = r.any fun kv => sameKey kv.1 (key a b) := by
          rw [List.any_cons]
          simp [h]
        rw [this]
      · rw [if_neg e, ih, if_neg e]
theorem lkp_app {acc : List (D × D)} {a b c d : Str} {v : D} (h : ¬ (acc.any fun kv => sameKey kv.1 (key a b)) = true) : lkpD (acc ++ [(key a b, v)]) (key c d) = if a = c ∧ b = d then some v else lkpD acc (key c d) := by
  induction acc with
  | nil =>
    show (if sameKey (key a b) (key c d) = true then some v else none) = _
    rw [same_key]
    by_cases e : a = c ∧ b = d
    · rw [if_pos (decide_eq_true e), if_pos e]
    · rw [if_neg (by simpa using e), if_neg e]; rfl
  | cons kv r ih =>
    obtain ⟨x, y⟩ := kv
    rw [List.any_cons] at h
    have h1 : ¬ sameKey x (key a b) = true := fun z => h (by rw [z]; rfl)
    have h2 : ¬ (r.any fun kv => sameKey kv.1 (key a b)) = true := fun z => h (by rw [z, Bool.or_true])
    show (if sameKey x (key c d) = true then some y else lkpD (r ++ [(key a b, v)]) (key c d)) = if a = c ∧ b = d then some v else (if sameKey x (key c d) = true then some y else lkpD r (key c d))
    rw [ih h2]
    by_cases e : a = c ∧ b = d
    · have h' : ¬ sameKey x (key c d) = true := by rw [← e.1, ← e.2]; exact h1
      rw [if_neg h', if_pos e, if_pos e]
    · rw [if_neg e, if_neg e]
theorem lkp_put {acc : List (D × D)} {a b c d : Str} {v : D} : lkpD (putD acc (key a b) v) (key c d) = if a = c ∧ b = d then some v else lkpD acc (key c d) := by
  unfold putD
  by_cases h : (acc.any fun kv => sameKey kv.1 (key a b)) = true
  · rw [if_pos h, lkp_map]
    simp only [if_pos h]
  · rw [if_neg h]; exact lkp_app h
theorem len_put {acc : List (D × D)} {k v : D} : (putD acc k v).length ≤ acc.length + 1 := by
  unfold putD
  split
  · rw [List.length_map]; omega
  · rw [List.length_append, List.length_singleton]; omega
/-- pairs and their numbers, put one after another -/
abbrev KN := (Str × Str) × Int
def putL (acc : List (D × D)) (L : List KN) : List (D × D) := L.foldl (fun acc p => putD acc (key p.1.1 p.1.2) (.int p.2)) acc
theorem putL_app (acc : List (D × D)) (L M : List KN) : putL acc (L ++ M) = putL (putL acc L) M := List.foldl_append
theorem putL_len : ∀ (L : List KN) (acc : List (D × D)), (putL acc L).length ≤ acc.length + L.length
  | [], acc => by show acc.length ≤ _; omega
  | p :: L, acc => by
    have := putL_len L (putD acc (key p.1.1 p.1.2) (.int p.2))
    have := len_put (acc := acc) (k := key p.1.1 p.1.2) (v := .int p.2)
    show (putL (putD acc (key p.1.1 p.1.2) (.int p.2)) L).length ≤ _
    simp only [List.length_cons]
    omega
theorem putL_lkp {a b : Str} : ∀ (L : List KN) (acc : List (D × D)), (∀ p ∈ L, 1 ≤ p.2 ∧ p.2 ≤ 9) → ((∃ n, lkpD acc (key a b) = some (.int n) ∧ 1 ≤ n ∧ n ≤ 9) ∨ ∃ p ∈ L, p.1 = (a, b)) → ∃ n : Int, lkpD (putL acc L) (key a b) = some (.int n) ∧ 1 ≤ n ∧ n ≤ 9
  | [], acc, _, h => h.elim id fun ⟨p, hp, _⟩ => nomatch hp
  | p :: L, acc, hv, h => by
    show ∃ n : Int, lkpD (putL (putD acc (key p.1.1 p.1.2) (.int p.2)) L) (key a b) = some (.int n) ∧ 1 ≤ n ∧ n ≤ 9
    refine putL_lkp L _ (fun q hq => hv q (List.mem_cons_of_mem _ hq)) ?_
    by_cases e : p.1.1 = a ∧ p.1.2 = b
    · exact .inl ⟨p.2, by rw [lkp_put, if_pos e], hv p List.mem_cons_self⟩
    · rcases h with ⟨n, h, hn⟩ | ⟨q, hq, eq⟩
      · exact .inl ⟨n, by rw [lkp_put, if_neg e]; exact h, hn⟩
      · rcases List.mem_cons.mp hq with rfl | hq
        · exact absurd ⟨by rw [eq], by rw [eq]⟩ e
        · exact .inr ⟨q, hq, eq⟩
structure BookOk (ks : List Str) (rs : List (List Int)) : Prop where
  up : UpS ks
  nm : ∀ x ∈ ks, NameOk x
  ne : 1 ≤ ks.length
  le : ks.length ≤ 5
  len : rs.length = ks.length
  row : ∀ r ∈ rs, r.length = ks.length ∧ ∀ x ∈ r, 1 ≤ x ∧ x ≤ 9
def rowL (ks : List Str) (k : Str) (r : List Int) : List KN := (ks.zip r).map fun p => ((k, p.1), p.2)
def bookL (ks : List Str) (rs : List (List Int)) : List KN := (ks.zip rs).flatMap fun p => rowL ks p.1 p.2
def tabD (ks : List Str) (rs : List (List Int)) : D := .dct true (putL [] (bookL ks rs))
def num (ks : List Str) (rs : List (List Int)) (a b : Str) : Int := match lkpD (putL [] (bookL ks rs)) (key a b) with
  | some (.int n) => n
  | _ => 0
theorem zip_mem {α β : Type} : ∀ {xs : List α} {ys : List β} {x : α}, xs.length = ys.length → x ∈ xs → ∃ y ∈ ys, (x, y) ∈ xs.zip ys
  | [], _, _, _, h => nomatch h
  | x :: xs, [], _, e, _ => nomatch e
  | x :: xs, y :: ys, z, e, h => by
    rcases List.mem_cons.mp h with rfl | h
    · exact ⟨y, List.mem_cons_self, List.mem_cons_self⟩
    · obtain ⟨w, h1, h2⟩ := zip_mem (ys := ys) (by simpa using e) h
      exact ⟨w, List.mem_cons_of_mem _ h1, List.mem_cons_of_mem _ h2⟩
theorem zip_in {α β : Type} {xs : List α} {ys : List β} {p : α × β} (h : p ∈ xs.zip ys) : p.1 ∈ xs ∧ p.2 ∈ ys := by
  obtain ⟨x, y⟩ := p
  exact ⟨(List.of_mem_zip h).1, (List.of_mem_zip h).2⟩
theorem num_ev {ks : List Str} {rs : List (List Int)} (B : BookOk ks rs) {a b : Str} (ha : a ∈ ks) (hb : b ∈ ks) : ixX (tabD ks rs) (key a b) = M.pure (.int (num ks rs a b)) ∧ 1 ≤ num ks rs a b ∧ num ks rs a b ≤ 9 := by
  obtain ⟨r, hr, hp⟩ := zip_mem (ys := rs) B.len.symm ha
  obtain ⟨n, hn, hq⟩ := zip_mem (ys := r) (B.row r hr).1.symm hb
  obtain ⟨m, h, h1, h9⟩ := putL_lkp (a := a) (b := b) (bookL ks rs) [] (fun p hp => by
    obtain ⟨q, h1, h2⟩ := List.mem_flatMap.mp hp
    obtain ⟨u, h3, rfl⟩ := List.mem_map.mp h2
    exact (B.row q.2 (zip_in h1).2).2 u.2 (zip_in h3).2) (.inr ⟨((a, b), n), List.mem_flatMap.mpr ⟨(a, r), hp, List.mem_map.mpr ⟨(b, n), hq, rfl⟩⟩, rfl⟩)
  have e : num ks rs a b = m := by unfold num; rw [h]
  rw [e]
  refine ⟨?_, h1, h9⟩
  show (if keyIn true (key a b) = true then (match lkpD (putL [] (bookL ks rs)) (key a b) with
    | some d => M.pure d
    | none => M.fail) else M.fail) = _
  rw [if_pos key_in, h]
end Fm

namespace Fm
open PySem PySem.Spec PyProof.Rows L2 Q
/-! ## the table, and the numbers of the program -/
theorem zipL_map {α β : Type} (f : α → D) (g : β → D) : ∀ (xs : List α) (ys : List β), zipL (xs.map f) (ys.map g) = (xs.zip ys).map fun p => .tup [f p.1, g p.2]
  | [], ys => rfl
  | x :: xs, [] => rfl
  | x :: xs, y :: ys => by
    show D.tup [f x, g y] :: zipL (xs.map f) (ys.map g) = _
    rw [zipL_map]; rfl
theorem put_ev {acc : List (D × D)} {a b : Str} {v : D} (h : acc.length < 1000) : setAt (.dct true acc) (key a b) v = some (.dct true (putD acc (key a b) v)) := if_pos ⟨key_in, by rw [sizeLine_eq]; omega⟩
def tabI : Q.Env → M Fl := forS (argE zipD (consA (bin2 ixX (vE 0) (iE 0)) (consA (vE 3) nilA))) (gTup 2 (gCons (gNm 4) (gCons (gNm 5) gNil))) (putS 1 (vE 5) (tupE (consA (vE 2) (consA (vE 4) nilA))))
theorem tab_in {bk x3 : D} {k : Str} : ∀ (L : List (Str × Int)) (acc : List (D × D)) (x4 x5 : Option D), acc.length + L.length < 1000 →
    ∃ y4 y5, forL (gTup 2 (gCons (gNm 4) (gCons (gNm 5) gNil))) (putS 1 (vE 5) (tupE (consA (vE 2) (consA (vE 4) nilA)))) (L.map fun p => D.tup [.str p.1, .int p.2]) [some bk, some (.dct true acc), some (.str k), some x3, x4, x5]
      = M.pure (.nx [some bk, some (.dct true (putL acc (L.map fun p => ((k, p.1), p.2)))), some (.str k), some x3, y4, y5])
  | [], acc, x4, x5, _ => ⟨x4, x5, rfl⟩
  | p :: L, acc, x4, x5, h => by
    simp only [List.length_cons] at h
    have := len_put (acc := acc) (k := key k p.1) (v := .int p.2)
    obtain ⟨y4, y5, ih⟩ := tab_in (bk := bk) (x3 := x3) (k := k) L (putD acc (key k p.1) (.int p.2)) (some (.str p.1)) (some (.int p.2)) (by omega)
    refine ⟨y4, y5, ?_⟩
    rw [List.map_cons, ev_forCons]
    have st : putS 1 (vE 5) (tupE (consA (vE 2) (consA (vE 4) nilA))) [some bk, some (.dct true acc), some (.str k), some x3, some (.str p.1), some (.int p.2)] = M.pure (.nx [some bk, some (.dct true (putD acc (key k p.1) (.int p.2))), some (.str k), some x3, some (.str p.1), some (.int p.2)]) := by
      have e := put_ev (acc := acc) (a := k) (b := p.1) (v := .int p.2) (by omega)
      unfold key at e
      simp [ev_mkTup, e]
      rfl
    have gt : noX (gTup 2 (gCons (gNm 4) (gCons (gNm 5) gNil)) (.tup [.str p.1, .int p.2]) [some bk, some (.dct true acc), some (.str k), some x3, x4, x5]) = M.pure [some bk, some (.dct true acc), some (.str k), some x3, some (.str p.1), some (.int p.2)] := rfl
    rw [gt, ev_pure_bind, st, ev_pure_bind]
    exact ih
theorem tab_out {ks : List Str} {rs : List (List Int)} (hk : ks.length ≤ 5) : ∀ (L : List (Str × List Int)) (acc : List (D × D)) (x2 x3 x4 x5 : Option D), acc.length + L.length * 5 < 900 →
    ∃ y2 y3 y4 y5, forL (gTup 2 (gCons (gNm 2) (gCons (gNm 3) gNil))) tabI (L.map fun p => D.tup [.str p.1, rowD p.2]) [some (bookD ks rs), some (.dct true acc), x2, x3, x4, x5]
      = M.pure (.nx [some (bookD ks rs), some (.dct true (putL acc (L.flatMap fun p => rowL ks p.1 p.2))), y2, y3, y4, y5])
  | [], acc, x2, x3, x4, x5, _ => ⟨x2, x3, x4, x5, rfl⟩
  | p :: L, acc, x2, x3, x4, x5, h => by
    simp only [List.length_cons] at h
    have zl : (ks.zip p.2).length ≤ 5 := by rw [List.length_zip]; omega
    have pl := putL_len (rowL ks p.1 p.2) acc
    have rl : (rowL ks p.1 p.2).length = (ks.zip p.2).length := List.length_map _
    obtain ⟨y4, y5, e1⟩ := tab_in (bk := bookD ks rs) (x3 := rowD p.2) (k := p.1) (ks.zip p.2) acc x4 x5 (by omega)
    obtain ⟨z2, z3, z4, z5, ih⟩ := tab_out (ks := ks) (rs := rs) hk L (putL acc (rowL ks p.1 p.2)) (some (.str p.1)) (some (rowD p.2)) y4 y5 (by omega)
    refine ⟨z2, z3, z4, z5, ?_⟩
    rw [List.map_cons, ev_forCons]
    have gt : noX (gTup 2 (gCons (gNm 2) (gCons (gNm 3) gNil)) (.tup [.str p.1, rowD p.2]) [some (bookD ks rs), some (.dct true acc), x2, x3, x4, x5]) = M.pure [some (bookD ks rs), some (.dct true acc), some (.str p.1), some (rowD p.2), x4, x5] := rfl
    have st : tabI [some (bookD ks rs), some (.dct true acc), some (.str p.1), some (rowD p.2), x4, x5] = M.pure (.nx [some (bookD ks rs), some (.dct true (putL acc (rowL ks p.1 p.2))), some (.str p.1), some (rowD p.2), y4, y5]) := by
      have zz : zipD [.tup (ks.map D.str), rowD p.2] = M.pure ((ks.zip p.2).map fun q => D.tup [.str q.1, .int q.2]) := by
        show M.pure (zipL (ks.map D.str) (p.2.map D.int)) = _
        rw [zipL_map]
      have ix : ixX (bookD ks rs) (.int 0) = M.pure (.tup (ks.map D.str)) := rfl
      unfold tabI
      simp only [ev_forS, ev_argE, ev_consA, ev_bin2, ev_vE', ev_getV0, ev_getV1, ev_iE, ev_pure_bind, ev_nilA, ev_assoc]
      rw [ix, ev_pure_bind, zz, ev_pure_bind, e1]
      rfl
    rw [gt, ev_pure_bind, st, ev_pure_bind]
    rw [List.flatMap_cons, putL_app]
    exact ih
theorem table_ev {ks : List Str} {rs : List (List Int)} (B : BookOk ks rs) : F__law_table [bookD ks rs] = M.pure (tabD ks rs) := by
  have e0 : F__law_table = fnM 6 (seqS (setS 1 (fun _ => M.pure (.dct true []))) (seqS (forS (argE zipD (consA (bin2 ixX (vE 0) (iE 0)) (consA (bin2 ixX (vE 0) (iE 1)) nilA))) (gTup 2 (gCons (gNm 2) (gCons (gNm 3) gNil))) tabI) (retS (vE 1)))) := rfl
  have le := B.le
  have zl : (ks.zip rs).length ≤ 5 := by rw [List.length_zip]; omega
  obtain ⟨y2, y3, y4, y5, e⟩ := tab_out (ks := ks) (rs := rs) le (ks.zip rs) [] none none none none (by simp only [List.length_nil]; omega)
  have zz : zipD [.tup (ks.map D.str), .tup (rs.map rowD)] = M.pure ((ks.zip rs).map fun q => D.tup [.str q.1, rowD q.2]) := by
    show M.pure (zipL (ks.map D.str) (rs.map rowD)) = _
    rw [zipL_map]
  have ix0 : ixX (bookD ks rs) (.int 0) = M.pure (.tup (ks.map D.str)) := rfl
  have ix1 : ixX (bookD ks rs) (.int 1) = M.pure (.tup (rs.map rowD)) := rfl
  rw [e0, ev_fnM, ev_seqS, ev_setS, ev_pure_bind, ev_pure_bind]
  show M.bind (seqS _ _ [some (bookD ks rs), some (.dct true []), none, none, none, none]) endM = _
  rw [ev_seqS, ev_forS, ev_argE, ev_consA, ev_consA, ev_bin2, ev_bin2]
  simp only [ev_vE', ev_getV0, ev_iE, ev_nilA, ev_pure_bind, ev_assoc]
  rw [ix0, ev_pure_bind, ix1, ev_pure_bind, zz, ev_pure_bind, e, ev_pure_bind]
  rfl
/-! the program's -/
theorem enumL_enF (xs : List D) : enumL xs = enF 0 xs := enumL_eq xs
abbrev nkE : Q.Env → M D := tupE (consA (vE 2) (consA (vE 4) nilA))
abbrev nvE : Q.Env → M D := bin2 ixX (bin2 ixX (bin2 ixX (vE 0) (iE 1)) (vE 1)) (vE 3)
abbrev ngI : D → Q.Env → M Q.Env := gTup 2 (gCons (gNm 3) (gCons (gNm 4) gNil))
abbrev ngO : D → Q.Env → M Q.Env := gTup 2 (gCons (gNm 1) (gCons (gNm 2) gNil))
abbrev niE : Q.Env → M (List D) := argE enumD (consA (bin2 ixX (vE 0) (iE 0)) nilA)
theorem num_in {ks : List Str} {rs : List (List Int)} {i : Nat} {one : Str} {r : List Int} (hr : rs[i]? = some r) (hrs : rs.length ≤ 5) : ∀ (ys : List Str) (zs : List Int) (j : Nat) (acc : List (D × D)), r.drop j = zs → ys.length = zs.length → acc.length + ys.length < 1000 →
    dcI ngI yesT nkE nvE [some (bookD ks rs), some (.int (i : Nat)), some (.str one), none, none] true (enF j (ys.map D.str)) acc = M.pure (putL acc (rowL ys one zs))
  | [], zs, j, acc, _, h, _ => by
    have : zs = [] := List.eq_nil_of_length_eq_zero h.symm
    subst this; rfl
  | y :: ys, [], j, acc, _, h, _ => nomatch h
  | y :: ys, z :: zs, j, acc, hd, hl, ha => by
    simp only [List.length_cons] at ha hl
    have := len_put (acc := acc) (k := key one y) (v := .int z)
    have rj : r[j]? = some z := by
      have q : (r.drop j)[0]? = some z := by rw [hd]; rfl
      rwa [List.getElem?_drop, Nat.add_zero] at q
    have rd : r.drop (j + 1) = zs := by
      have q : (r.drop j).drop 1 = zs := by rw [hd]; rfl
      rwa [List.drop_drop] at q
    have ih := num_in (ks := ks) (one := one) hr hrs ys zs (j + 1) (putD acc (key one y) (.int z)) rd (by omega) (by omega)
    have hi : i < rs.length := (List.getElem?_eq_some_iff.mp hr).1
    have hj : j < r.length := (List.getElem?_eq_some_iff.mp rj).1
    have i1 : ixX (bookD ks rs) (.int 1) = M.pure (.tup (rs.map rowD)) := rfl
    have i2 : ixX (.tup (rs.map rowD)) (.int (i : Nat)) = M.pure (rowD r) := by
      rw [ev_ixT (by omega) (by rw [List.length_map]; omega)]
      congr 1
      have : (rs.map rowD)[((i : Nat) : Int).toNat]? = some (rowD r) := by rw [Int.toNat_natCast, List.getElem?_map, hr]; rfl
      exact (List.getElem?_eq_some_iff.mp this).2
    have i3 : ixX (rowD r) (.int (j : Nat)) = M.pure (.int z) := by
      show ixX (.tup (r.map D.int)) (.int (j : Nat)) = _
      rw [ev_ixT (by omega) (by rw [List.length_map]; omega)]
      congr 1
      have : (r.map D.int)[((j : Nat) : Int).toNat]? = some (.int z) := by rw [Int.toNat_natCast, List.getElem?_map, rj]; rfl
      exact (List.getElem?_eq_some_iff.mp this).2
    show dcI ngI yesT nkE nvE _ true (.tup [.int (j : Nat), .str y] :: enF (j + 1) (ys.map D.str)) acc = _
    unfold dcI
    have gt : noX (ngI (.tup [.int (j : Nat), .str y]) [some (bookD ks rs), some (.int (i : Nat)), some (.str one), none, none]) = M.pure [some (bookD ks rs), some (.int (i : Nat)), some (.str one), some (.int (j : Nat)), some (.str y)] := rfl
    have ek : nkE [some (bookD ks rs), some (.int (i : Nat)), some (.str one), some (.int (j : Nat)), some (.str y)] = M.pure (key one y) := by
      simp [ev_mkTup]; rfl
    have ev : nvE [some (bookD ks rs), some (.int (i : Nat)), some (.str one), some (.int (j : Nat)), some (.str y)] = M.pure (.int z) := by
      simp [i1, i2, i3]
    have pa : putA true acc (key one y) (.int z) = M.pure (putD acc (key one y) (.int z)) := if_pos ⟨key_in, by rw [sizeLine_eq]; omega⟩
    rw [gt, ev_pure_bind, ev_yesT, ev_noX_pure, ev_pure_bind, if_pos rfl, ek, ev_noX_pure, ev_pure_bind, ev, ev_noX_pure, ev_pure_bind, pa, ev_pure_bind, ih]
    rfl
theorem num_out {ks : List Str} {rs : List (List Int)} (B : BookOk ks rs) : ∀ (ys : List Str) (zs : List (List Int)) (i : Nat) (acc : List (D × D)), rs.drop i = zs → ys.length = zs.length → acc.length + ys.length * 5 < 900 →
    dcO ngO yesT niE ngI yesT nkE nvE [3, 4] [some (bookD ks rs), none, none, none, none] true (enF i (ys.map D.str)) acc = M.pure (putL acc ((ys.zip zs).flatMap fun p => rowL ks p.1 p.2))
  | [], zs, i, acc, _, h, _ => by rfl
  | y :: ys, [], i, acc, _, h, _ => nomatch h
  | y :: ys, z :: zs, i, acc, hd, hl, ha => by
    simp only [List.length_cons] at ha hl
    have rj : rs[i]? = some z := by
      have q : (rs.drop i)[0]? = some z := by rw [hd]; rfl
      rwa [List.getElem?_drop, Nat.add_zero] at q
    have rd : rs.drop (i + 1) = zs := by
      have q : (rs.drop i).drop 1 = zs := by rw [hd]; rfl
      rwa [List.drop_drop] at q
    have hz := (B.row z (List.mem_of_getElem? rj)).1
    have le := B.le
    have pl := putL_len (rowL ks y z) acc
    have rl : (rowL ks y z).length = ks.length := by unfold rowL; rw [List.length_map, List.length_zip]; omega
    have ih := num_out B ys zs (i + 1) (putL acc (rowL ks y z)) rd (by omega) (by omega)
    have ein := num_in (ks := ks) (one := y) rj (by rw [B.len]; exact le) ks z 0 acc rfl hz.symm (by omega)
    show dcO ngO yesT niE ngI yesT nkE nvE [3, 4] _ true (.tup [.int (i : Nat), .str y] :: enF (i + 1) (ys.map D.str)) acc = _
    unfold dcO
    have gt : noX (ngO (.tup [.int (i : Nat), .str y]) [some (bookD ks rs), none, none, none, none]) = M.pure [some (bookD ks rs), some (.int (i : Nat)), some (.str y), none, none] := rfl
    have en : niE [some (bookD ks rs), some (.int (i : Nat)), some (.str y), none, none] = M.pure (enF 0 (ks.map D.str)) := by
      have i0 : ixX (bookD ks rs) (.int 0) = M.pure (.tup (ks.map D.str)) := rfl
      simp [i0, enumL_enF]
    rw [gt, ev_pure_bind, ev_yesT, ev_noX_pure, ev_pure_bind, if_pos rfl, en, ev_noX_pure, ev_pure_bind]
    have wp : wipeE [some (bookD ks rs), some (.int (i : Nat)), some (.str y), none, none] [3, 4] = [some (bookD ks rs), some (.int (i : Nat)), some (.str y), none, none] := rfl
    rw [wp, ein, ev_pure_bind, ih]
    rw [List.zip_cons_cons, List.flatMap_cons, putL_app]
theorem numbers_ev {ks : List Str} {rs : List (List Int)} (B : BookOk ks rs) : F_numbers_of [bookD ks rs] = M.pure (tabD ks rs) := by
  have e0 : F_numbers_of = fnM 5 (retS (dcE2 [1, 2, 3, 4] [3, 4] true niE ngO yesT niE ngI yesT nkE nvE)) := rfl
  have en : niE [some (bookD ks rs), none, none, none, none] = M.pure (enF 0 (ks.map D.str)) := by
    have i0 : ixX (bookD ks rs) (.int 0) = M.pure (.tup (ks.map D.str)) := rfl
    simp [i0, enumL_enF]
  have le := B.le
  have eo := num_out B ks rs 0 [] rfl B.len.symm (by simp only [List.length_nil]; omega)
  rw [e0, ev_fnM, ev_retS]
  show M.bind (M.bind (M.bind (niE [some (bookD ks rs), none, none, none, none]) fun items => M.bind (dcO ngO yesT niE ngI yesT nkE nvE [3, 4] [some (bookD ks rs), none, none, none, none] true items []) fun acc => M.pure (.dct true acc)) fun d => M.pure (.rt d)) endM = _
  rw [en, ev_pure_bind, eo, ev_pure_bind]
  rfl
end Fm

namespace Fm
open PySem PySem.Spec PyProof.Rows L2 Q
/-! ## drawn orders, books, flights -/
theorem perm_erase {α : Type} : ∀ (l : List α) (i : Nat) (h : i < l.length), (l[i] :: l.eraseIdx i).Perm l
  | [], i, h => nomatch h
  | x :: l, 0, h => List.Perm.refl _
  | x :: l, i + 1, h => by
    have h' : i < l.length := by simpa using h
    have ih := perm_erase l i h'
    show (l[i] :: x :: l.eraseIdx i).Perm (x :: l)
    exact (List.Perm.swap x l[i] _).trans (ih.cons x)
theorem run_pure_bind {α β : Type} {m : M α} {a : α} {k : α → M β} {w : Wl} {P : β → Wl → Prop} (e : m = M.pure a) (h : Run (k a) w P) : Run (M.bind m k) w P := by
  rw [e, ev_pure_bind]; exact h
theorem ev_popM {xs : List D} {r : Int} (h0 : 0 ≤ r) (h1 : r < xs.length) (h2 : xs.length < 1000000) : popM xs (.int r) = M.pure (xs[r.toNat]'(by omega), xs.eraseIdx r.toNat) := by
  have e : seqIndex? r xs.length = some r.toNat := by
    unfold seqIndex?
    simp [show ¬ r < 0 by omega, h0, h1]
  show (if -(2 ^ 63) ≤ r ∧ r < 2 ^ 63 then (match seqIndex? r xs.length with
    | some m => match xs[m]? with
      | some y => M.pure (y, xs.eraseIdx m)
      | none => M.fail
    | none => M.fail) else M.fail) = _
  rw [if_pos ⟨by omega, by omega⟩, e]
  dsimp only
  rw [List.getElem?_eq_getElem (by omega)]
theorem appPop_ev {i j : Nat} {fe : Q.Env → M D} {ρ : Q.Env} : appPopS i j fe ρ = M.bind (getL ρ i) fun xs => M.bind (getL ρ j) fun ys => M.bind (fe ρ) fun d => M.bind (popM ys d) fun p => if xs.length < sizeLine then M.pure (.nx ((ρ.set j (some (.lst p.2))).set i (some (.lst (xs ++ [p.1]))))) else M.fail := rfl
theorem shuf_eq : F__law_shuffled = fnM 5 (seqS (parS2 3 4 (consA (argE listA (consA (vE 1) nilA)) (consA (lstE nilA) nilA)))
  (seqS (forS (argE rng1D (consA (argE lenD (consA (vE 3) nilA)) nilA)) (gNm 2) (appPopS 4 3 (argN 2 F__law_dip (consA (vE 0) (consA (mpE (vE 3) lenM) nilA)))))
  (retS (argE tupleD (consA (vE 4) nilA))))) := rfl
theorem shuffled_ok {w : Wl} {xs : List D} (hw : Good w) (hl : xs.length ≤ 100) : Run (F__law_shuffled [.well, .tup xs]) w fun d w' => ∃ ys : List D, d = .tup ys ∧ ys.Perm xs ∧ Good w' := by
  rw [shuf_eq]
  refine fnM_run ?_
  have eA : listA [.tup xs] = M.pure (.lst xs) := rfl
  have e1 : (parS2 3 4 (consA (argE listA (consA (vE 1) nilA)) (consA (lstE nilA) nilA))) (startE 5 [.well, .tup xs]) = M.pure (.nx [some .well, some (.tup xs), none, some (.lst xs), some (.lst [])]) := by
    simp [eA, ev_mkLst]
  rw [ev_seqS, e1, ev_pure_bind]
  dsimp only
  rw [ev_seqS, ev_forS, ev_assoc]
  have er : argE rng1D (consA (argE lenD (consA (vE 3) nilA)) nilA) [some .well, some (.tup xs), none, some (.lst xs), some (.lst [])] = M.pure ((List.range xs.length).map fun i => D.int (0 + (i : Nat))) := ev_argRng (by simp) (by omega)
  rw [er, ev_pure_bind]
  refine Run.bind (forL_runN (I := fun n ρ w => ∃ (ys zs : List D) (x2 : Option D), ρ = [some .well, some (.tup xs), x2, some (.lst zs), some (.lst ys)] ∧ zs.length = n ∧ (ys ++ zs).Perm xs ∧ Good w) ?_ ?_) fun r w' ⟨ρ', e, ys, zs, x2, e2, l, pm, g⟩ => ?_
  · exact ⟨[], xs, none, rfl, by simp, List.Perm.refl _, hw⟩
  · rintro n d hd ρ w ⟨ys, zs, x2, rfl, l, pm, g⟩
    refine run_pure (a := [some .well, some (.tup xs), some d, some (.lst zs), some (.lst ys)]) rfl ?_
    have pl := pm.length_eq
    rw [List.length_append] at pl
    rw [appPop_ev]
    simp only [ev_getL1, ev_getL0, ev_pure_bind]
    have dp : Run (argN 2 F__law_dip (consA (vE 0) (consA (mpE (vE 3) lenM) nilA)) [some .well, some (.tup xs), some d, some (.lst zs), some (.lst ys)]) w fun d w' => ∃ r : Int, d = .int r ∧ 0 ≤ r ∧ r < (zs.length : Nat) ∧ Good w' := by
      conv => arg 1; simp [lenM]
      exact dip_ok g (by omega) (by omega)
    refine Run.bind dp fun a w2 ⟨r, e, r0, r1, g2⟩ => ?_
    subst e
    rw [ev_popM r0 r1 (by omega), ev_pure_bind, if_pos (by rw [sizeLine_eq]; omega)]
    refine ⟨_, w2, rfl, _, rfl, ys ++ [zs[r.toNat]'(by omega)], zs.eraseIdx r.toNat, some d, rfl, by rw [List.length_eraseIdx_of_lt (by omega)]; omega, ?_, g2⟩
    rw [List.append_assoc]
    exact (List.Perm.append_left ys (perm_erase _ _ (by omega))).trans pm
  · subst e e2
    have hz : zs = [] := List.eq_nil_of_length_eq_zero l
    subst hz
    have te : tupleD [.lst ys] = M.pure (.tup ys) := rfl
    conv => arg 1; simp [te]
    exact ⟨_, w', rfl, ys, rfl, by simpa using pm, g⟩
theorem book_ok {w : Wl} {most : Nat} (hw : Good w) (h0 : 0 < most) (h5 : most ≤ 5) : Run (F__law_book [.well, .int (most : Nat)]) w fun d w' => ∃ ks rs, d = bookD ks rs ∧ BookOk ks rs ∧ ks.length ≤ most ∧ Good w' := by
  refine fnM_run ?_
  conv => arg 1; simp
  refine Run.bind (dip_ok hw (by omega) (by omega)) fun a w1 ⟨r, e, r0, r1, g1⟩ => ?_
  subst e
  obtain ⟨n, en, n1, n5⟩ : ∃ n : Nat, 1 + r = ((n : Nat) : Int) ∧ 1 ≤ n ∧ n ≤ most := ⟨(1 + r).toNat, by omega, by omega, by omega⟩
  rw [ev_addI, ev_pure_bind, en]
  refine Run.bind (words_ok g1 (by omega)) fun a w2 ⟨ks, e, kl, ku, kn, g2⟩ => ?_
  subst e
  conv => arg 1; simp [ev_mkLst]
  refine Run.bind (one_ok (.inl rfl) g2 (by simp) (by simp)) fun a w3 ⟨ha, g3⟩ => ?_
  have : ∃ k : Int, a = .int k ∧ 0 < k ∧ k ≤ 9 := by
    simp only [List.mem_cons, List.not_mem_nil, or_false] at ha
    rcases ha with rfl | rfl | rfl | rfl
    · exact ⟨2, rfl, by omega, by omega⟩
    · exact ⟨3, rfl, by omega, by omega⟩
    · exact ⟨4, rfl, by omega, by omega⟩
    · exact ⟨9, rfl, by omega, by omega⟩
  obtain ⟨k, rfl, k0, k9⟩ := this
  have r1 : ∀ (x4 x5 : Option D) (w : Wl), Good w → Run (lcE [5] (itE (vE 2)) (gNm 5) yesT (bin2 addD (iE 1) (argN 2 F__law_dip (consA (vE 0) (consA (vE 3) nilA)))) [some .well, some (.int (most : Nat)), some (.tup (ks.map D.str)), some (.int k), x4, x5]) w fun d w' => ∃ xs, d = .lst xs ∧ xs.length = (ks.map D.str).length ∧ (∀ x ∈ xs, ∃ i : Int, x = .int i ∧ 1 ≤ i ∧ i ≤ 9) ∧ Good w' := fun x4 x5 w hw =>
    lcE_run (items := ks.map D.str) rfl (by rw [List.length_map, sizeLine_eq]; omega) hw fun d hd w hw => by
      conv => arg 1; simp [wipeE]
      refine Run.bind (dip_ok hw k0 (by omega)) fun a w1 ⟨r, e, r0, r1, g⟩ => ?_
      subst e
      exact ⟨_, w1, rfl, ⟨1 + r, rfl, by omega, by omega⟩, g⟩
  have r2 : Run (lcE [4] (itE (vE 2)) (gNm 4) yesT (argE tupleD (consA (lcE [5] (itE (vE 2)) (gNm 5) yesT (bin2 addD (iE 1) (argN 2 F__law_dip (consA (vE 0) (consA (vE 3) nilA))))) nilA)) [some .well, some (.int (most : Nat)), some (.tup (ks.map D.str)), some (.int k), none, none]) w3 fun d w' => ∃ xs, d = .lst xs ∧ xs.length = (ks.map D.str).length ∧ (∀ x ∈ xs, ∃ r : List Int, x = rowD r ∧ r.length = ks.length ∧ ∀ x ∈ r, 1 ≤ x ∧ x ≤ 9) ∧ Good w' :=
    lcE_run (items := ks.map D.str) rfl (by rw [List.length_map, sizeLine_eq]; omega) g3 fun d hd w hw => by
      show Run (argE tupleD (consA (lcE [5] (itE (vE 2)) (gNm 5) yesT (bin2 addD (iE 1) (argN 2 F__law_dip (consA (vE 0) (consA (vE 3) nilA))))) nilA) [some .well, some (.int (most : Nat)), some (.tup (ks.map D.str)), some (.int k), some d, none]) w _
      rw [ev_argE, ev_consA, ev_assoc]
      refine Run.bind (r1 (some d) none w hw) fun a w1 ⟨xs, e, xl, xo, g⟩ => ?_
      subst e
      obtain ⟨is, rfl, io⟩ := map_of xo
      rw [List.length_map, List.length_map] at xl
      exact ⟨_, w1, rfl, ⟨is, rfl, xl, io⟩, g⟩
  conv => arg 1; simp
  refine Run.bind r2 fun a w4 ⟨xs, e, xl, xo, g4⟩ => ?_
  subst e
  obtain ⟨rs, rfl, ro⟩ := map_of xo
  rw [List.length_map, List.length_map] at xl
  have te : tupleD [.lst (rs.map rowD)] = M.pure (.tup (rs.map rowD)) := rfl
  conv => arg 1; simp [te, ev_mkTup]
  exact ⟨_, w4, rfl, ks, rs, rfl, ⟨ku, kn, by omega, by omega, xl, ro⟩, by omega, g4⟩
structure Flt where
  nm : Str
  kd : Str
  fr : Int
  to : Int
def Flt.d (f : Flt) : D := .tup [.str f.nm, .str f.kd, .int f.fr, .int f.to]
def flD (fs : List Flt) : D := .tup (fs.map Flt.d)
structure FlsOk (ks : List Str) (far : Int) (fs : List Flt) : Prop where
  nd : (fs.map (·.nm)).Nodup
  nm : ∀ f ∈ fs, NameOk f.nm
  kd : ∀ f ∈ fs, f.kd ∈ ks
  fr : ∀ f ∈ fs, 0 ≤ f.fr ∧ f.fr ≤ f.to ∧ f.to ≤ far
  ne : 1 ≤ fs.length
  le : fs.length ≤ 10
def flB : Q.Env → M Fl := seqS (setS 6 (argN 2 F__law_dip (consA (vE 0) (consA (bin2 addD (vE 3) (iE 1)) nilA))))
  (seqS (setS 7 (bin2 addD (vE 6) (argN 2 F__law_one (consA (vE 0) (consA (lstE (consA (iE 0) (consA (argN 2 F__law_dip (consA (vE 0) (consA (bin2 addD (bin2 subD (vE 3) (vE 6)) (iE 1)) nilA))) (consA (bin2 subD (vE 3) (vE 6)) (consA (bin2 subD (vE 3) (vE 6)) nilA))))) nilA)))))
  (mutS 4 appM (consA (tupE (consA (vE 5) (consA (argN 2 F__law_one (consA (vE 0) (consA (bin2 ixX (vE 1) (iE 0)) nilA))) (consA (vE 6) (consA (vE 7) nilA))))) nilA)))
theorem flights_eq : F__law_flights = fnM 8 (seqS (setS 4 (lstE nilA))
  (seqS (forS (itE (argN 2 F__law_shuffled (consA (vE 0) (consA (argN 2 F__law_words (consA (vE 0) (consA (bin2 addD (iE 1) (argN 2 F__law_dip (consA (vE 0) (consA (vE 2) nilA)))) nilA))) nilA)))) (gNm 5) flB)
  (retS (argE tupleD (consA (vE 4) nilA))))) := rfl
theorem flB_ok {w : Wl} {ks : List Str} {rs : List (List Int)} {most : D} {far : Int} {fs : List Flt} {nm : Str} {x6 x7 : Option D} (B : BookOk ks rs) (hw : Good w) (f0 : 0 ≤ far) (f9 : far ≤ 999) (hl : fs.length ≤ 100) :
    Run (flB [some .well, some (bookD ks rs), some most, some (.int far), some (.lst (fs.map Flt.d)), some (.str nm), x6, x7]) w fun r w' => ∃ (f : Flt) (y6 y7 : Option D), r = .nx [some .well, some (bookD ks rs), some most, some (.int far), some (.lst ((fs ++ [f]).map Flt.d)), some (.str nm), y6, y7] ∧ f.nm = nm ∧ f.kd ∈ ks ∧ 0 ≤ f.fr ∧ f.fr ≤ f.to ∧ f.to ≤ far ∧ Good w' := by
  unfold flB
  conv => arg 1; simp
  refine Run.bind (dip_ok hw (by omega) (by omega)) fun a w1 ⟨a1, e, p0, p1, g1⟩ => ?_
  subst e
  conv => arg 1; simp
  refine Run.bind (dip_ok g1 (by omega) (by omega)) fun a w2 ⟨a2, e, q0, q1, g2⟩ => ?_
  subst e
  conv => arg 1; simp [ev_mkLst]
  refine Run.bind (one_ok (.inl rfl) g2 (by simp) (by simp)) fun a w3 ⟨ha, g3⟩ => ?_
  have : ∃ k : Int, a = .int k ∧ 0 ≤ k ∧ k ≤ far - a1 := by
    simp only [List.mem_cons, List.not_mem_nil, or_false] at ha
    rcases ha with rfl | rfl | rfl | rfl
    · exact ⟨0, rfl, by omega, by omega⟩
    · exact ⟨a2, rfl, by omega, by omega⟩
    · exact ⟨_, rfl, by omega, by omega⟩
    · exact ⟨_, rfl, by omega, by omega⟩
  obtain ⟨k, rfl, k0, k1⟩ := this
  have ix0 : ixX (bookD ks rs) (.int 0) = M.pure (.tup (ks.map D.str)) := rfl
  conv => arg 1; simp [ix0]
  have ne := B.ne
  have le := B.le
  refine Run.bind (one_ok (.inr rfl) g3 (fun z => by have := congrArg List.length z; rw [List.length_map, List.length_nil] at this; omega) (by rw [List.length_map]; omega)) fun a w4 ⟨ha, g4⟩ => ?_
  obtain ⟨kd, hk, rfl⟩ := List.mem_map.mp ha
  have ap : appM (fs.map Flt.d) [.tup [.str nm, .str kd, .int a1, .int (a1 + k)]] = M.pure ((fs ++ [(⟨nm, kd, a1, a1 + k⟩ : Flt)]).map Flt.d) := by
    rw [ev_app (by rw [List.length_map]; omega), List.map_append]; rfl
  conv => arg 1; simp [ev_mkTup, ap]
  exact ⟨_, w4, rfl, ⟨nm, kd, a1, a1 + k⟩, some (.int a1), some (.int (a1 + k)), by simp, rfl, hk, p0, by show a1 ≤ a1 + k; omega, by show a1 + k ≤ far; omega, g4⟩
theorem flights_ok {w : Wl} {ks : List Str} {rs : List (List Int)} {most : Nat} {far : Int} (B : BookOk ks rs) (hw : Good w) (h0 : 0 < most) (h1 : most ≤ 10) (f0 : 0 ≤ far) (f9 : far ≤ 999) :
    Run (F__law_flights [.well, bookD ks rs, .int (most : Nat), .int far]) w fun d w' => ∃ fs, d = flD fs ∧ FlsOk ks far fs ∧ fs.length ≤ most ∧ Good w' := by
  rw [flights_eq]
  refine fnM_run ?_
  have e1 : (setS 4 (lstE nilA)) (startE 8 [.well, bookD ks rs, .int (most : Nat), .int far]) = M.pure (.nx [some .well, some (bookD ks rs), some (.int (most : Nat)), some (.int far), some (.lst []), none, none, none]) := by
    simp [ev_mkLst]
  rw [ev_seqS, e1, ev_pure_bind]
  dsimp only
  rw [ev_seqS, ev_forS, ev_assoc]
  have ri : Run (itE (argN 2 F__law_shuffled (consA (vE 0) (consA (argN 2 F__law_words (consA (vE 0) (consA (bin2 addD (iE 1) (argN 2 F__law_dip (consA (vE 0) (consA (vE 2) nilA)))) nilA))) nilA))) [some .well, some (bookD ks rs), some (.int (most : Nat)), some (.int far), some (.lst []), none, none, none]) w
      fun items w' => ∃ ns : List Str, items = ns.map D.str ∧ ns.Nodup ∧ (∀ n ∈ ns, NameOk n) ∧ 1 ≤ ns.length ∧ ns.length ≤ most ∧ Good w' := by
    conv => arg 1; simp
    refine Run.bind (dip_ok hw (by omega) (by omega)) fun a w1 ⟨r, e, r0, r1, g1⟩ => ?_
    subst e
    obtain ⟨n, en, n1, n5⟩ : ∃ n : Nat, 1 + r = ((n : Nat) : Int) ∧ 1 ≤ n ∧ n ≤ most := ⟨(1 + r).toNat, by omega, by omega, by omega⟩
    rw [ev_addI, ev_pure_bind, en]
    refine Run.bind (words_ok g1 (by omega)) fun a w2 ⟨xs, e, xl, xu, xn, g2⟩ => ?_
    subst e
    conv => arg 1; simp
    refine Run.bind (shuffled_ok g2 (by rw [List.length_map]; omega)) fun a w3 ⟨ys, e, pm, g3⟩ => ?_
    subst e
    obtain ⟨ns, rfl, hn⟩ := map_of (f := D.str) (P := fun s => s ∈ xs) fun y hy => by
      obtain ⟨s, hs, rfl⟩ := List.mem_map.mp (pm.mem_iff.mp hy)
      exact ⟨s, rfl, hs⟩
    have pl := pm.length_eq
    rw [List.length_map, List.length_map] at pl
    have nd : (ns.map D.str).Nodup := pm.nodup_iff.mpr (List.Pairwise.map _ (fun a b hab e => hab (D.str.inj e)) (nodup_up xu))
    refine run_pure rfl ⟨ns, rfl, ?_, fun n h => xn n (hn n h), by omega, by omega, g3⟩
    exact (List.pairwise_map.mp nd).imp fun h e => h (by rw [e])
  refine Run.bind ri fun items w1 ⟨ns, e, nd, nn, n1, nm, g1⟩ => ?_
  subst e
  have lp : ∀ (ns : List Str) (fs : List Flt) (x5 x6 x7 : Option D) (w : Wl), Good w → (fs.length + ns.length ≤ 10) → (∀ f ∈ fs, NameOk f.nm ∧ f.kd ∈ ks ∧ 0 ≤ f.fr ∧ f.fr ≤ f.to ∧ f.to ≤ far) → (∀ n ∈ ns, NameOk n) →
      Run (forL (gNm 5) flB (ns.map D.str) [some .well, some (bookD ks rs), some (.int (most : Nat)), some (.int far), some (.lst (fs.map Flt.d)), x5, x6, x7]) w fun r w' => ∃ (gs : List Flt) (y5 y6 y7 : Option D), r = .nx [some .well, some (bookD ks rs), some (.int (most : Nat)), some (.int far), some (.lst ((fs ++ gs).map Flt.d)), y5, y6, y7] ∧ gs.map (·.nm) = ns ∧ (∀ f ∈ fs ++ gs, NameOk f.nm ∧ f.kd ∈ ks ∧ 0 ≤ f.fr ∧ f.fr ≤ f.to ∧ f.to ≤ far) ∧ Good w' := by
    intro ns
    induction ns with
    | nil =>
      intro fs x5 x6 x7 w hw _ hf _
      exact ⟨_, w, rfl, [], x5, x6, x7, by rw [List.append_nil], rfl, by rw [List.append_nil]; exact hf, hw⟩
    | cons n ns ih =>
      intro fs x5 x6 x7 w hw hl hf hn
      simp only [List.length_cons] at hl
      rw [List.map_cons, ev_forCons]
      refine run_pure_bind (a := [some .well, some (bookD ks rs), some (.int (most : Nat)), some (.int far), some (.lst (fs.map Flt.d)), some (.str n), x6, x7]) rfl ?_
      refine Run.bind (flB_ok B hw f0 f9 (by omega)) fun r w1 ⟨f, y6, y7, e, f1, f2, f3, f4, f5, g⟩ => ?_
      subst e
      dsimp only
      refine (ih (fs ++ [f]) (some (.str n)) y6 y7 w1 g (by rw [List.length_append, List.length_singleton]; omega) (fun x hx => ?_) fun x hx => hn x (List.mem_cons_of_mem _ hx)).imp fun r w' ⟨gs, y5, y6, y7, e, h1, h2, h3⟩ => ⟨f :: gs, y5, y6, y7, ?_, ?_, ?_, h3⟩
      · rcases List.mem_append.mp hx with h | h
        · exact hf x h
        · rw [List.mem_singleton.mp h]
          exact ⟨by rw [f1]; exact hn n List.mem_cons_self, f2, f3, f4, f5⟩
      · rw [e, List.append_assoc]; rfl
      · rw [List.map_cons, h1, f1]
      · rw [List.append_assoc] at h2; exact h2
  refine Run.bind (lp ns [] none none none w1 g1 (by simp only [List.length_nil]; omega) (fun _ h => nomatch h) nn) fun r w2 ⟨gs, y5, y6, y7, e, h1, h2, g2⟩ => ?_
  subst e
  have te : tupleD [.lst (gs.map Flt.d)] = M.pure (.tup (gs.map Flt.d)) := rfl
  rw [List.nil_append] at h2 ⊢
  conv => arg 1; simp [te]
  have hl : gs.length = ns.length := by rw [← h1, List.length_map]
  exact ⟨_, w2, rfl, gs, rfl, ⟨by rw [h1]; exact nd, fun f hf => (h2 f hf).1, fun f hf => (h2 f hf).2.1, fun f hf => (h2 f hf).2.2, by omega, by omega⟩, by omega, g2⟩
end Fm

namespace Fm
open PySem PySem.Spec PyProof.Rows L2 Q
/-! ## drawn books and flights pass the checks -/
theorem allR_not : ∀ {ys : List D} {zs : List Str}, ys.all nameD = false → allR zs ys = false
  | [], _, h => nomatch h
  | y :: ys, zs, h => by
    rw [List.all_cons] at h
    cases y with
    | str b =>
      unfold allR
      cases q : nameB b
      · simp
      · have : nameD (.str b) = true := q
        rw [this, Bool.true_and] at h
        rw [allR_not h, Bool.and_false]
    | _ => rfl
theorem ltL_up {zs : List Str} {b : Str} (h : UpS zs) : ltL zs b = true ↔ UpS (zs ++ [b]) := by
  rcases List.eq_nil_or_concat zs with z | ⟨ys, a, z⟩
  · subst z
    simp [ltL]
  · rw [List.concat_eq_append] at z
    subst z
    have e : ltL (ys ++ [a]) b = decide (a.cps.toList < b.cps.toList) := by simp [ltL]
    rw [e, decide_eq_true_iff]
    obtain ⟨h1, h2, h3⟩ := List.pairwise_append.mp h
    constructor
    · intro q
      refine List.pairwise_append.mpr ⟨h, List.pairwise_singleton _ _, fun x hx y hy => ?_⟩
      rw [List.mem_singleton.mp hy]
      rcases List.mem_append.mp hx with r | r
      · exact List.lt_trans (h3 x r a (by simp)) q
      · rw [List.mem_singleton.mp r]; exact q
    · intro q
      exact (List.pairwise_append.mp q).2.2 a (by simp) b (by simp)
theorem allR_strs : ∀ {xs zs : List Str}, (∀ x ∈ xs, nameB x = true) → UpS zs → (allR zs (xs.map D.str) = true ↔ (xs = [] ∨ zs.length + xs.length ≤ 5) ∧ UpS (zs ++ xs))
  | [], zs, _, h => by simp [allR, h]
  | x :: xs, zs, hn, h => by
    have n1 := hn x List.mem_cons_self
    show (decide (zs.length < 5) && (nameB x && ltL zs x) && allR (zs ++ [x]) (xs.map D.str)) = true ↔ _
    rw [n1, Bool.true_and, Bool.and_eq_true, Bool.and_eq_true, decide_eq_true_iff, ltL_up h]
    have e : zs ++ x :: xs = (zs ++ [x]) ++ xs := by simp
    rw [e]
    constructor
    · rintro ⟨⟨a, b⟩, c⟩
      obtain ⟨d, e⟩ := (allR_strs (fun y hy => hn y (List.mem_cons_of_mem _ hy)) b).mp c
      refine ⟨.inr ?_, e⟩
      rw [List.length_append, List.length_singleton] at d
      rw [List.length_cons]
      rcases d with d | d
      · subst d; simp; omega
      · omega
    · rintro ⟨a, b⟩
      have a : zs.length + (xs.length + 1) ≤ 5 := by
        rcases a with a | a
        · cases a
        · rwa [List.length_cons] at a
      have u : UpS (zs ++ [x]) := (List.pairwise_append.mp b).1
      refine ⟨⟨by omega, u⟩, (allR_strs (fun y hy => hn y (List.mem_cons_of_mem _ hy)) u).mpr ⟨.inr ?_, b⟩⟩
      rw [List.length_append, List.length_singleton]; omega

theorem pl_book {ks : List Str} {rs : List (List Int)} (B : BookOk ks rs) : Pl 5 3 (bookD ks rs) := by
  have le := B.le
  refine .tup (by simp) fun d hd => ?_
  simp only [List.mem_cons, List.not_mem_nil, or_false] at hd
  rcases hd with rfl | rfl
  · refine .tup (by rw [List.length_map]; exact le) fun d hd => ?_
    obtain ⟨x, hx, rfl⟩ := List.mem_map.mp hd
    exact (B.nm x hx).pl
  · refine .tup (by rw [List.length_map, B.len]; exact le) fun d hd => ?_
    obtain ⟨r, hr, rfl⟩ := List.mem_map.mp hd
    refine .tup (by rw [List.length_map, (B.row r hr).1]; exact le) fun d hd => ?_
    obtain ⟨i, hi, rfl⟩ := List.mem_map.mp hd
    exact .int i
theorem book_good {ks : List Str} {rs : List (List Int)} (B : BookOk ks rs) : bookB (bookD ks rs) = true := by
  have le := B.le
  have ne := B.ne
  show (kB (.tup (ks.map D.str)) && tabB (ks.map D.str).length (.tup (rs.map rowD))) = true
  have a : kB (.tup (ks.map D.str)) = true := by
    show (!(ks.map D.str).isEmpty && allR [] (ks.map D.str)) = true
    rw [(allR_strs (fun x hx => (B.nm x hx).b) List.Pairwise.nil).mpr ⟨.inr (by simpa using le), by simpa using B.up⟩, Bool.and_true]
    cases ks with
    | nil => simp at ne
    | cons x xs => rfl
  rw [a, Bool.true_and]
  show (decide ((rs.map rowD).length = (ks.map D.str).length) && (rs.map rowD).all (rowB (ks.map D.str).length)) = true
  rw [decide_eq_true (by rw [List.length_map, List.length_map]; exact B.len), Bool.true_and]
  refine List.all_eq_true.mpr fun d hd => ?_
  obtain ⟨r, hr, rfl⟩ := List.mem_map.mp hd
  show (decide ((r.map D.int).length = (ks.map D.str).length) && (r.map D.int).all numB) = true
  rw [decide_eq_true (by rw [List.length_map, List.length_map]; exact (B.row r hr).1), Bool.true_and]
  refine List.all_eq_true.mpr fun d hd => ?_
  obtain ⟨i, hi, rfl⟩ := List.mem_map.mp hd
  obtain ⟨h1, h2⟩ := (B.row r hr).2 i hi
  show (decide (1 ≤ i) && decide (i ≤ 9)) = true
  rw [decide_eq_true h1, decide_eq_true h2]; rfl
theorem check_book_ev {ks : List Str} {rs : List (List Int)} (B : BookOk ks rs) : F_check_book [bookD ks rs] = M.pure .non := by
  unfold F_check_book
  rw [ev_fnM]
  have f := form_all (pl_book B) (by omega) (by omega)
  rw [book_good B] at f
  simp [f]
/-! one after another -/
theorem w_all {m : Nat} {g : List D → M D} {ks : List D} (hl : ks.length ≤ m) : ∀ (ys : List D) (i : Nat) (x3 x4 : Option D), ks.drop i = ys → (∀ j d, ks[j]? = some d → g [d, .tup (ks.take j)] = M.pure (.bl true)) →
    ∃ y3 y4, forL (gTup 2 (gCons (gNm 3) (gCons (gNm 4) gNil))) (ifS' (orT (andT (tst (bin2 notND (vE 1) noE)) (tst (bin2 geD (vE 3) (vE 1)))) (notT (truT (callPE 2 2 g (consA (vE 4) (consA (slE (vE 0) npE (partE (vE 3))) nilA)))))) (retS (lstE (consA (vE 3) nilA))) nilS) (enF i ys) [some (.tup ks), some (.int (m : Nat)), some (.fn 0), x3, x4] = M.pure (.nx [some (.tup ks), some (.int (m : Nat)), some (.fn 0), y3, y4])
  | [], i, x3, x4, _, _ => ⟨x3, x4, rfl⟩
  | y :: ys, i, x3, x4, hd, hg => by
    have rj : ks[i]? = some y := by
      have q : (ks.drop i)[0]? = some y := by rw [hd]; rfl
      rwa [List.getElem?_drop, Nat.add_zero] at q
    have rd : ks.drop (i + 1) = ys := by
      have q : (ks.drop i).drop 1 = ys := by rw [hd]; rfl
      rwa [List.drop_drop] at q
    have hi : i < ks.length := (List.getElem?_eq_some_iff.mp rj).1
    obtain ⟨y3, y4, ih⟩ := w_all hl ys (i + 1) (some (.int (i : Nat))) (some y) rd hg
    refine ⟨y3, y4, ?_⟩
    have cut : cutD (.tup ks) none (some ((i : Nat) : Int)) = M.pure (.tup (ks.take i)) := by
      show M.pure (D.tup (cutL ks none (some ((i : Nat) : Int)))) = _
      rw [cut_take _ _ (by omega)]
    have gt : noX ((gTup 2 (gCons (gNm 3) (gCons (gNm 4) gNil))) (.tup [.int (i : Nat), y]) [some (.tup ks), some (.int (m : Nat)), some (.fn 0), x3, x4]) = M.pure [some (.tup ks), some (.int (m : Nat)), some (.fn 0), some (.int (i : Nat)), some y] := rfl
    have e := hg i y rj
    unfold enF
    have lt : ¬ ((m : Nat) : Int) ≤ ((i : Nat) : Int) := by omega
    have nn : notND (.int (m : Nat)) .non = M.pure (.bl true) := rfl
    rw [ev_forCons, gt, ev_pure_bind]
    simp [lt, nn, cut, e]
    exact ih
theorem wrong_at_ev {m : Nat} {g : List D → M D} {ks : List D} (hl : ks.length ≤ m) (hg : ∀ j d, ks[j]? = some d → g [d, .tup (ks.take j)] = M.pure (.bl true)) : F_wrong_at g [.tup ks, .int (m : Nat)] = M.pure (.lst []) := by
  obtain ⟨y3, y4, e⟩ := w_all hl ks 0 none none rfl hg
  unfold F_wrong_at
  rw [ev_fnM]
  simp [ev_mkLst, enumL_enF, e]
theorem split3 {v : D} {m : Int} (h : ∃ ks, v = .tup ks) : splitFn [v, .int m, .fn 0] = some [v, .int m] := by
  obtain ⟨ks, rfl⟩ := h; rfl
theorem wrong_from_ev {m L n : Nat} {g : List D → M D} {ks : List D} (p : Pl L n (.tup ks)) (hn : n ≤ 64) (h0 : ks ≠ []) (hl : ks.length ≤ m) (hg : ∀ j d, ks[j]? = some d → g [d, .tup (ks.take j)] = M.pure (.bl true)) : F_wrong_from_one g [.tup ks, .int (m : Nat)] = M.pure (.lst []) := by
  unfold F_wrong_from_one
  rw [ev_fnM]
  have q : eqD (.tup ks) (.tup []) = M.pure (.bl false) := by
    rw [ev_eq (p.sh hn) rfl (fun _ e => nomatch e), eqv_nilT]
    cases ks with
    | nil => exact absurd rfl h0
    | cons => rfl
  have w := wrong_at_ev hl hg
  have aF : ∀ ρ : Q.Env, argFE 3 (F_wrong_at g) (consA (vE 0) (consA (vE 1) (consA (vE 2) nilA))) ρ = M.bind (consA (vE 0) (consA (vE 1) (consA (vE 2) nilA)) ρ) fun ds => M.bind (match splitFn ds with
    | some us => M.pure us
    | none => M.fail) fun us => if us.length + 1 = 3 then F_wrong_at g us else M.fail := fun ρ => rfl
  simp [ev_mkTup, q, aF, split3 ⟨ks, rfl⟩, w]
theorem whole_int {i : Int} : F_is_whole [.int i] = M.pure (.bl true) := whole_all (L := 0) (n := 0) (.int i)
theorem number_ev {i lo hi : Int} (h1 : lo ≤ i) (h2 : i ≤ hi) : F_is_number [.int i, .int lo, .int hi] = M.pure (.bl true) := by
  unfold F_is_number
  rw [ev_fnM]
  have nn : ∀ x : Int, notND (.int x) .non = M.pure (.bl true) := fun x => rfl
  have nm : ∀ x : Int, isND (.int x) .non = M.pure (.bl false) := fun x => rfl
  have l : ¬ i < lo := by omega
  simp [whole_int, nn, nm, l, h2]
end Fm

namespace Fm
open PySem PySem.Spec PyProof.Rows L2 Q
theorem pl_tup {ks : List Str} {L n : Nat} (hn : ∀ x ∈ ks, NameOk x) (hl : ks.length ≤ L) : Pl L (n + 1) (.tup (ks.map D.str)) := .tup (by rw [List.length_map]; exact hl) fun d hd => by
  obtain ⟨x, hx, rfl⟩ := List.mem_map.mp hd
  exact (hn x hx).pl
theorem pl_flt {f : Flt} {L n : Nat} (h1 : NameOk f.nm) (h2 : NameOk f.kd) (hL : 4 ≤ L) : Pl L (n + 1) f.d := .tup (by simpa using hL) fun d hd => by
  simp only [List.mem_cons, List.not_mem_nil, or_false] at hd
  rcases hd with rfl | rfl | rfl | rfl
  · exact h1.pl
  · exact h2.pl
  · exact .int _
  · exact .int _
theorem in_strT {neg : Bool} {s : Str} {zs : List Str} : inM neg (.str s) (.tup (zs.map D.str)) = M.pure (.bl (if neg = true then !decide (s ∈ zs) else decide (s ∈ zs))) := by
  have e : inP (.str s) (.tup (zs.map D.str)) = some (decide (s ∈ zs)) := by
    show (match flV (.str s), flVs (zs.map D.str) with
      | some v, some vs => some (inV v vs)
      | _, _ => none) = _
    rw [flVs_strs]
    show some (inV (V.str s) (zs.map V.str)) = _
    congr 1
    unfold inV
    rw [List.any_map]
    have : ((fun y => eqV y (V.str s)) ∘ V.str) = fun z => decide (z = s) := funext fun z => eqV_str z s
    rw [this]
    by_cases h : s ∈ zs
    · rw [decide_eq_true h]
      exact List.any_eq_true.mpr ⟨s, h, by simp⟩
    · rw [decide_eq_false h]
      exact List.any_eq_false.mpr fun z hz => by
        have : z ≠ s := fun q => h (q ▸ hz)
        simp [this]
  unfold inM
  rw [e]; rfl
theorem is_flight_ev {ks : List Str} {f : Flt} (hk : ∀ x ∈ ks, NameOk x) (hl : ks.length ≤ 5) (h1 : NameOk f.nm) (h2 : f.kd ∈ ks) (h3 : 0 ≤ f.fr ∧ f.fr ≤ f.to ∧ f.to ≤ 999) : F_is_flight [.tup (ks.map D.str), f.d] = M.pure (.bl true) := by
  have k2 := hk _ h2
  have t4 : F_is_tuple_of [f.d, .int 4] = M.pure (.bl true) := tup_of (m := 4) (pl_flt (L := 4) (n := 1) h1 k2 (by omega))
  have nm : F_is_name [.str f.nm] = M.pure (.bl true) := by rw [name_str (by rw [sizeLine_eq]; have := h1.2.1; omega), h1.b]
  have oo : F_is_one_of [.str f.kd, .tup (ks.map D.str)] = M.pure (.bl true) := by
    have i := in_strT (neg := false) (s := f.kd) (zs := ks)
    rw [if_neg (by decide), decide_eq_true h2] at i
    unfold F_is_one_of
    rw [ev_fnM]
    simp [i]
  have tm : F_is_time [.int f.fr] = M.pure (.bl true) := by
    unfold F_is_time
    rw [ev_fnM]
    have := number_ev (i := f.fr) (lo := 0) (hi := 999) h3.1 (by omega)
    simp [this]
  have nb : F_is_number [.int f.to, .int f.fr, .int 999] = M.pure (.bl true) := number_ev h3.2.1 h3.2.2
  have i0 : ixX f.d (.int 0) = M.pure (.str f.nm) := rfl
  have i1 : ixX f.d (.int 1) = M.pure (.str f.kd) := rfl
  have i2 : ixX f.d (.int 2) = M.pure (.int f.fr) := rfl
  have i3 : ixX f.d (.int 3) = M.pure (.int f.to) := rfl
  unfold F_is_flight
  rw [ev_fnM]
  simp [t4, nm, oo, tm, nb, i0, i1, i2, i3]
def frR : Q.Env → M Fl := retS (andE (argN 2 F_is_flight (consA (vE 2) (consA (vE 0) nilA))) (bin2 (inM true) (bin2 ixX (vE 0) (iE 0)) (lcE [3] (itE (vE 1)) (gNm 3) yesT (bin2 ixX (vE 3) (iE 0)))))
theorem frR_ev {ks : List Str} {f : Flt} {bs : List Flt} (hk : ∀ x ∈ ks, NameOk x) (hl : ks.length ≤ 5) (h1 : NameOk f.nm) (h2 : f.kd ∈ ks) (h3 : 0 ≤ f.fr ∧ f.fr ≤ f.to ∧ f.to ≤ 999) (hb : ∀ b ∈ bs, NameOk b.nm) (hbl : bs.length ≤ 20) (hn : f.nm ∉ bs.map (·.nm)) :
    fnC (["each", "before", "kinds", "other"] : List Str).length frR [some (.tup (ks.map D.str))] [f.d, .tup (bs.map Flt.d)] = M.pure (.bl true) := by
  rw [ev_fnC]
  have sc : startC (["each", "before", "kinds", "other"] : List Str).length [f.d, .tup (bs.map Flt.d)] [some (.tup (ks.map D.str))] = [some f.d, some (.tup (bs.map Flt.d)), some (.tup (ks.map D.str)), none] := rfl
  rw [sc]
  have lc : lcE [3] (itE (vE 1)) (gNm 3) yesT (bin2 ixX (vE 3) (iE 0)) [some f.d, some (.tup (bs.map Flt.d)), some (.tup (ks.map D.str)), none] = M.pure (.lst ((bs.map (·.nm)).map D.str)) := by
    rw [lcE_pure (items := bs.map Flt.d) (T := fun _ => true) (F := fun d => match d with | .tup (x :: _) => x | _ => .non) rfl (by rw [List.length_map, sizeLine_eq]; omega) (fun d hd => rfl) fun d hd _ => ?_]
    · rw [List.filter_eq_self.mpr (fun _ _ => rfl), List.map_map, List.map_map]; rfl
    · obtain ⟨b, _, rfl⟩ := List.mem_map.mp hd
      rfl
  have fl := is_flight_ev hk hl h1 h2 h3
  have i := in_strL (neg := true) (zs := bs.map (·.nm)) h1.2.2.1.ok ((pl_strs (L := 20) (fun x hx => by
    obtain ⟨b, hb', rfl⟩ := List.mem_map.mp hx
    exact ⟨by have := (hb b hb').2.1; omega, (hb b hb').2.2.1.ok⟩) (by rw [List.length_map]; exact hbl)).sh (by omega))
  rw [if_pos rfl, decide_eq_false hn] at i
  have i0 : ixX f.d (.int 0) = M.pure (.str f.nm) := rfl
  unfold frR
  simp only [ev_retS, ev_andE, ev_argN, ev_consA, ev_vE', ev_getV0, ev_getV1, ev_nilA, ev_pure_bind, ev_bin2, lc, ev_iE, i0, ev_assoc]
  rw [if_pos (show [D.tup (ks.map D.str), f.d].length = 2 from rfl), fl, ev_pure_bind, ev_asB, ev_pure_bind, if_pos rfl, i]
  rfl
theorem pl_fls {ks : List Str} {fs : List Flt} {far : Int} (hk : ∀ x ∈ ks, NameOk x) (F : FlsOk ks far fs) : Pl 10 2 (flD fs) := .tup (by rw [List.length_map]; exact F.le) fun d hd => by
  obtain ⟨f, hf, rfl⟩ := List.mem_map.mp hd
  exact pl_flt (F.nm f hf) (hk _ (F.kd f hf)) (by omega)
theorem wrong_fl_ev {ks : List Str} {fs : List Flt} {far : Int} (hk : ∀ x ∈ ks, NameOk x) (hl : ks.length ≤ 5) (F : FlsOk ks far fs) (hf : far ≤ 999) : F_wrong_flights [.tup (ks.map D.str), flD fs] = M.pure (.lst []) := by
  have le := F.le
  have ne := F.ne
  have p := pl_fls hk F
  have w : F_wrong_from_one (fnC (["each", "before", "kinds", "other"] : List Str).length frR [some (.tup (ks.map D.str))]) [flD fs, .int (10 : Nat)] = M.pure (.lst []) := by
    refine wrong_from_ev (L := 10) (n := 2) p (by omega) (fun z => by have := congrArg List.length z; rw [List.length_map, List.length_nil] at this; omega) (by rw [List.length_map]; exact le) fun j d hj => ?_
    rw [List.getElem?_map] at hj
    cases q : fs[j]? with
    | none => rw [q] at hj; cases hj
    | some f =>
      rw [q] at hj
      obtain rfl := Option.some.inj hj
      have hm : f ∈ fs := List.mem_of_getElem? q
      have hfr := F.fr f hm
      rw [← List.map_take]
      refine frR_ev hk hl (F.nm f hm) (F.kd f hm) ⟨hfr.1, hfr.2.1, by omega⟩ (fun b hb => F.nm b (List.mem_of_mem_take hb)) (by rw [List.length_take]; omega) fun z => ?_
      have nd := F.nd
      have hjl : j < fs.length := (List.getElem?_eq_some_iff.mp q).1
      have e : fs = fs.take j ++ f :: fs.drop (j + 1) := by
        rw [← (List.getElem?_eq_some_iff.mp q).2, List.getElem_cons_drop, List.take_append_drop]
      rw [e, List.map_append, List.map_cons] at nd
      exact (List.nodup_append.mp nd).2.2 _ z _ List.mem_cons_self rfl
  have c : D.nofnL [flD fs, .int 10] = true := by
    simp only [D.nofnL, p.nofn, D.nofn, Bool.and_self]
  have c2 : D.nofnL ([some (D.tup (ks.map D.str))].filterMap id) = true := by
    have : D.nofn (.tup (ks.map D.str)) = true := (pl_tup (L := 5) (n := 1) hk hl).nofn
    simp [D.nofnL, this]
  unfold F_wrong_flights
  rw [ev_fnM]
  show M.bind (retS _ [some (.tup (ks.map D.str)), some (flD fs), none]) endM = _
  rw [ev_retS, ev_callCE]
  show M.bind (M.bind (M.bind (M.pure [flD fs, D.int 10]) _) _) _ = _
  rw [ev_pure_bind]
  have cp : capE [0] [some (D.tup (ks.map D.str)), some (flD fs), none] = [some (D.tup (ks.map D.str))] := rfl
  rw [cp, if_pos ⟨rfl, c, c2⟩]
  show M.bind (M.bind (M.bind (noX (F_wrong_from_one (fnC (["each", "before", "kinds", "other"] : List Str).length frR [some (.tup (ks.map D.str))]) [flD fs, .int (10 : Nat)])) _) _) _ = _
  rw [w]
  rfl
theorem check_flights_ev {ks : List Str} {rs : List (List Int)} {fs : List Flt} {far : Int} (B : BookOk ks rs) (F : FlsOk ks far fs) (hf : far ≤ 999) : F_check_flights [bookD ks rs, flD fs] = M.pure .non := by
  have cb := check_book_ev B
  have wf := wrong_fl_ev B.nm B.le F hf
  have ix0 : ixX (bookD ks rs) (.int 0) = M.pure (.tup (ks.map D.str)) := rfl
  unfold F_check_flights
  rw [ev_fnM]
  simp [cb, wf, ix0]
end Fm

namespace Fm
open PySem PySem.Spec PyProof.Rows L2 Q
/-! ## earliest times, going on from those ahead -/
def low (N : Str → Str → Int) (done : List (Flt × Int)) (f : Flt) : Int := done.foldl (fun m p => max m (p.2 + N p.1.kd f.kd)) f.fr
def ebGo (N : Str → Str → Int) (G : Flt → Int → Int) : List (Flt × Int) → List Flt → List (Flt × Int)
  | done, [] => done
  | done, f :: fs => ebGo N G (done ++ [(f, G f (low N done f))]) fs
def timD (ps : List (Flt × Int)) : D := .lst (ps.map fun p => D.int p.2)
theorem max_ev (a b : Int) : maxD [.int a, .int b] = M.pure (.int (max a b)) := by
  rw [ev_maxI]
  congr 2
  rw [Int.max_def]
  by_cases h : b > a
  · rw [if_pos h, if_pos (by omega)]
  · rw [if_neg h]
    by_cases e : a ≤ b
    · rw [if_pos e]; omega
    · rw [if_neg e]
theorem min_ev (a b : Int) : minD [.int a, .int b] = M.pure (.int (min a b)) := by
  rw [ev_minI]
  congr 2
  rw [Int.min_def]
  by_cases h : b < a
  · rw [if_pos h, if_neg (by omega)]
  · rw [if_neg h, if_pos (by omega)]
abbrev ebG : D → Q.Env → M Q.Env := gTup 2 (gCons (gNm 7) (gCons (gNm 8) gNil))
abbrev ebE : Q.Env → M D := argE maxD (consA (vE 6) (consA (bin2 addD (vE 8) (bin2 ixX (vE 4) (tupE (consA (bin2 ixX (vE 7) (iE 1)) (consA (bin2 ixX (vE 3) (iE 1)) nilA))))) nilA))
theorem eb_fold {ks : List Str} {rs : List (List Int)} (B : BookOk ks rs) {x0 x1 x2 x5 : Option D} {f : Flt} (hf : f.kd ∈ ks) : ∀ (ps : List (Flt × Int)) (m : Int) (x7 x8 : Option D), (∀ p ∈ ps, p.1.kd ∈ ks) →
    ∃ y7 y8, foldL ebG ebE 6 (ps.map fun p => D.tup [p.1.d, .int p.2]) [x0, x1, x2, some f.d, some (tabD ks rs), x5, some (.int m), x7, x8] = M.pure [x0, x1, x2, some f.d, some (tabD ks rs), x5, some (.int (ps.foldl (fun m p => max m (p.2 + num ks rs p.1.kd f.kd)) m)), y7, y8]
  | [], m, x7, x8, _ => ⟨x7, x8, rfl⟩
  | p :: ps, m, x7, x8, h => by
    obtain ⟨y7, y8, ih⟩ := eb_fold B (x0 := x0) (x1 := x1) (x2 := x2) (x5 := x5) hf ps (max m (p.2 + num ks rs p.1.kd f.kd)) (some p.1.d) (some (.int p.2)) fun q hq => h q (List.mem_cons_of_mem _ hq)
    refine ⟨y7, y8, ?_⟩
    have gt : noX (ebG (.tup [p.1.d, .int p.2]) [x0, x1, x2, some f.d, some (tabD ks rs), x5, some (.int m), x7, x8]) = M.pure [x0, x1, x2, some f.d, some (tabD ks rs), x5, some (.int m), some p.1.d, some (.int p.2)] := rfl
    have i1 : ixX p.1.d (.int 1) = M.pure (.str p.1.kd) := rfl
    have i2 : ixX f.d (.int 1) = M.pure (.str f.kd) := rfl
    have nv := (num_ev B (h p List.mem_cons_self) hf).1
    unfold key at nv
    have ee : ebE [x0, x1, x2, some f.d, some (tabD ks rs), x5, some (.int m), some p.1.d, some (.int p.2)] = M.pure (.int (max m (p.2 + num ks rs p.1.kd f.kd))) := by
      simp [-ev_maxI, i1, i2, ev_mkTup, nv, max_ev]
    rw [List.map_cons]
    unfold foldL
    rw [gt, ev_pure_bind, ee, ev_pure_bind]
    exact ih
theorem foldS_ev {i : Nat} {xs : List Nat} {fi : Q.Env → M (List D)} {g : D → Q.Env → M Q.Env} {fe : Q.Env → M D} {ρ : Q.Env} : foldS i xs fi g fe ρ = M.bind (fi ρ) fun items => M.bind (foldL g fe i items ρ) fun ρ' => foldK i xs ρ ρ' := rfl
def ebB (g : List D → M D) : Q.Env → M Fl := seqS (setS 6 (bin2 ixX (vE 3) (iE 2)))
  (seqS (foldS 6 [7, 8] (argE zipD (consA (vE 1) (consA (vE 5) nilA))) ebG ebE)
  (mutS 5 appM (consA (callPE 2 2 g (consA (vE 3) (consA (vE 6) nilA))) nilA)))
theorem zip_done (done : List (Flt × Int)) (rest : List Flt) : zipD [flD (done.map (·.1) ++ rest), timD done] = M.pure (done.map fun p => D.tup [p.1.d, .int p.2]) := by
  show M.pure (zipL ((done.map (·.1) ++ rest).map Flt.d) (done.map fun p => D.int p.2)) = _
  congr 1
  induction done with
  | nil => cases rest <;> rfl
  | cons p ps ih =>
    show D.tup [p.1.d, .int p.2] :: zipL ((ps.map (·.1) ++ rest).map Flt.d) (ps.map fun p => D.int p.2) = _
    rw [ih]; rfl
theorem eb_turn {ks : List Str} {rs : List (List Int)} (B : BookOk ks rs) {g : List D → M D} {G : Flt → Int → Int} {bk : D} {f : Flt} {done : List (Flt × Int)} {rest : List Flt} {x6 x7 x8 : Option D} (hf : f.kd ∈ ks) (hd : ∀ p ∈ done, p.1.kd ∈ ks) (hl : done.length < 100) (hg : g [f.d, .int (low (num ks rs) done f)] = M.pure (.int (G f (low (num ks rs) done f)))) :
    ebB g [some bk, some (flD (done.map (·.1) ++ rest)), some (.fn 0), some f.d, some (tabD ks rs), some (timD done), x6, x7, x8] =
      M.pure (.nx [some bk, some (flD (done.map (·.1) ++ rest)), some (.fn 0), some f.d, some (tabD ks rs), some (timD (done ++ [(f, G f (low (num ks rs) done f))])), some (.int (low (num ks rs) done f)), none, none]) := by
  obtain ⟨y7, y8, e⟩ := eb_fold B (x0 := some bk) (x1 := some (flD (done.map (·.1) ++ rest))) (x2 := some (.fn 0)) (x5 := some (timD done)) hf done f.fr x7 x8 hd
  have i2 : ixX f.d (.int 2) = M.pure (.int f.fr) := rfl
  unfold ebB
  rw [ev_seqS, ev_setS]
  simp only [ev_bin2, ev_vE', ev_getV1, ev_getV0, ev_pure_bind, ev_iE, i2]
  show seqS (foldS 6 [7, 8] (argE zipD (consA (vE 1) (consA (vE 5) nilA))) ebG ebE) (mutS 5 appM (consA (callPE 2 2 g (consA (vE 3) (consA (vE 6) nilA))) nilA)) [some bk, some (flD (done.map (·.1) ++ rest)), some (.fn 0), some f.d, some (tabD ks rs), some (timD done), some (.int f.fr), x7, x8] = _
  rw [ev_seqS, foldS_ev]
  simp only [ev_argE, ev_consA, ev_vE', ev_getV1, ev_getV0, ev_pure_bind, ev_nilA, ev_assoc]
  rw [zip_done, ev_pure_bind, e, ev_pure_bind]
  show M.bind (M.pure (Fl.nx [some bk, some (flD (done.map (·.1) ++ rest)), some (.fn 0), some f.d, some (tabD ks rs), some (timD done), some (.int (low (num ks rs) done f)), none, none])) _ = _
  rw [ev_pure_bind]
  dsimp only
  have ap : appM (done.map fun p => D.int p.2) [.int (G f (low (num ks rs) done f))] = M.pure ((done ++ [(f, G f (low (num ks rs) done f))]).map fun p => D.int p.2) := by
    rw [ev_app (by rw [List.length_map]; omega), List.map_append]; rfl
  unfold timD
  simp [hg, ap]
theorem eb_loop {ks : List Str} {rs : List (List Int)} (B : BookOk ks rs) {g : List D → M D} {G : Flt → Int → Int} {bk : D} : ∀ (rest : List Flt) (done : List (Flt × Int)) (x3 x6 x7 x8 : Option D), (∀ f ∈ rest, f.kd ∈ ks) → (∀ p ∈ done, p.1.kd ∈ ks) → done.length + rest.length < 100 → (∀ f ∈ rest, ∀ t : Int, g [f.d, .int t] = M.pure (.int (G f t))) →
    ∃ y3 y6 y7 y8, forL (gNm 3) (ebB g) (rest.map Flt.d) [some bk, some (flD (done.map (·.1) ++ rest)), some (.fn 0), x3, some (tabD ks rs), some (timD done), x6, x7, x8]
      = M.pure (.nx [some bk, some (flD (done.map (·.1) ++ rest)), some (.fn 0), y3, some (tabD ks rs), some (timD (ebGo (num ks rs) G done rest)), y6, y7, y8])
  | [], done, x3, x6, x7, x8, _, _, _, _ => ⟨x3, x6, x7, x8, rfl⟩
  | f :: rest, done, x3, x6, x7, x8, hr, hd, hl, hg => by
    simp only [List.length_cons] at hl
    have e1 := eb_turn B (g := g) (G := G) (bk := bk) (f := f) (done := done) (rest := f :: rest) (x6 := x6) (x7 := x7) (x8 := x8) (hr f List.mem_cons_self) hd (by omega) (hg f List.mem_cons_self _)
    obtain ⟨y3, y6, y7, y8, ih⟩ := eb_loop B (g := g) (G := G) (bk := bk) rest (done ++ [(f, G f (low (num ks rs) done f))]) (some f.d) (some (.int (low (num ks rs) done f))) none none (fun q hq => hr q (List.mem_cons_of_mem _ hq)) (fun p hp => by
      rcases List.mem_append.mp hp with h | h
      · exact hd p h
      · rw [List.mem_singleton.mp h]; exact hr f List.mem_cons_self) (by rw [List.length_append, List.length_singleton]; omega) fun q hq => hg q (List.mem_cons_of_mem _ hq)
    refine ⟨y3, y6, y7, y8, ?_⟩
    have ea : (done ++ [(f, G f (low (num ks rs) done f))]).map (·.1) ++ rest = done.map (·.1) ++ f :: rest := by
      rw [List.map_append, List.append_assoc]; rfl
    rw [ea] at ih
    rw [List.map_cons, ev_forCons]
    show M.bind (ebB g [some bk, some (flD (done.map (·.1) ++ f :: rest)), some (.fn 0), some f.d, some (tabD ks rs), some (timD done), x6, x7, x8]) _ = _
    rw [e1, ev_pure_bind]
    exact ih
theorem earliest_by_ev {ks : List Str} {rs : List (List Int)} {fs : List Flt} (B : BookOk ks rs) {g : List D → M D} {G : Flt → Int → Int} (hk : ∀ f ∈ fs, f.kd ∈ ks) (hl : fs.length ≤ 20) (hg : ∀ f ∈ fs, ∀ t : Int, g [f.d, .int t] = M.pure (.int (G f t))) :
    F_earliest_by g [bookD ks rs, flD fs] = M.pure (timD (ebGo (num ks rs) G [] fs)) := by
  have e0 : F_earliest_by g [bookD ks rs, flD fs] = fnM 9 (seqS (parS2 4 5 (consA (argN 1 F_numbers_of (consA (vE 0) nilA)) (consA (lstE nilA) nilA))) (seqS (forS (itE (vE 1)) (gNm 3) (ebB g)) (retS (vE 5)))) [bookD ks rs, flD fs, .fn 0] := rfl
  obtain ⟨y3, y6, y7, y8, e⟩ := eb_loop B (g := g) (G := G) (bk := bookD ks rs) fs [] none none none none hk (fun _ h => nomatch h) (by simp only [List.length_nil]; omega) hg
  have nb := numbers_ev B
  have it : itemsD (flD fs) = M.pure (fs.map Flt.d) := rfl
  rw [e0, ev_fnM, ev_seqS]
  have e1 : parS2 4 5 (consA (argN 1 F_numbers_of (consA (vE 0) nilA)) (consA (lstE nilA) nilA)) (startE 9 [bookD ks rs, flD fs, .fn 0]) = M.pure (.nx [some (bookD ks rs), some (flD fs), some (.fn 0), none, some (tabD ks rs), some (.lst []), none, none, none]) := by
    simp [nb, ev_mkLst]
  rw [e1, ev_pure_bind]
  dsimp only
  rw [ev_seqS, ev_forS, ev_itE]
  simp only [ev_vE', ev_getV1, ev_getV0, ev_pure_bind, it]
  show M.bind (M.bind (forL (gNm 3) (ebB g) (fs.map Flt.d) [some (bookD ks rs), some (flD (([] : List (Flt × Int)).map (·.1) ++ fs)), some (.fn 0), none, some (tabD ks rs), some (timD []), none, none, none]) _) _ = _
  rw [e, ev_pure_bind]
  rfl
/-- in time -/
theorem in_time_ev {fs : List Flt} {ts : List Int} (hl : fs.length ≤ 100) : F_are_in_time [flD fs, .lst (ts.map D.int)] = M.pure (.bl ((fs.zip ts).all fun p => decide (p.2 ≤ p.1.to))) := by
  have z : zipD [flD fs, .lst (ts.map D.int)] = M.pure ((fs.zip ts).map fun p => D.tup [p.1.d, .int p.2]) := by
    show M.pure (zipL (fs.map Flt.d) (ts.map D.int)) = _
    rw [zipL_map]
  have lp : ∀ L : List (Flt × Int), lcL (gTup 2 (gCons (gNm 2) (gCons (gNm 3) gNil))) yesT (bin2 leD (vE 3) (bin2 ixX (vE 2) (iE 3))) [some (flD fs), some (.lst (ts.map D.int)), none, none] (L.map fun p => D.tup [p.1.d, .int p.2]) = M.pure (L.map fun p => D.bl (decide (p.2 ≤ p.1.to))) := by
    intro L
    induction L with
    | nil => rfl
    | cons p L ih =>
      rw [List.map_cons]
      unfold lcL
      have gt : noX (gTup 2 (gCons (gNm 2) (gCons (gNm 3) gNil)) (.tup [p.1.d, .int p.2]) [some (flD fs), some (.lst (ts.map D.int)), none, none]) = M.pure [some (flD fs), some (.lst (ts.map D.int)), some p.1.d, some (.int p.2)] := rfl
      have i3 : ixX p.1.d (.int 3) = M.pure (.int p.1.to) := rfl
      have ee : bin2 leD (vE 3) (bin2 ixX (vE 2) (iE 3)) [some (flD fs), some (.lst (ts.map D.int)), some p.1.d, some (.int p.2)] = M.pure (.bl (decide (p.2 ≤ p.1.to))) := by simp [i3]
      rw [gt, ev_pure_bind, ev_yesT, ev_noX_pure, ev_pure_bind, if_pos rfl, ee, ev_noX_pure, ev_pure_bind, ih]
      rfl
  have e0 : F_are_in_time = fnM 4 (retS (argE allD (consA (lcE [2, 3] (argE zipD (consA (vE 0) (consA (vE 1) nilA))) (gTup 2 (gCons (gNm 2) (gCons (gNm 3) gNil))) yesT (bin2 leD (vE 3) (bin2 ixX (vE 2) (iE 3)))) nilA))) := rfl
  have ll : ((fs.zip ts).map fun p => D.tup [p.1.d, .int p.2]).length ≤ sizeLine := by
    rw [List.length_map, List.length_zip, sizeLine_eq]; omega
  have al : allD [.lst ((fs.zip ts).map fun p => D.bl (decide (p.2 ≤ p.1.to)))] = M.pure (.bl ((fs.zip ts).all fun p => decide (p.2 ≤ p.1.to))) := by
    have : (fs.zip ts).map (fun p => D.bl (decide (p.2 ≤ p.1.to))) = ((fs.zip ts).map fun p => decide (p.2 ≤ p.1.to)).map D.bl := by rw [List.map_map]; rfl
    rw [this]
    show (match blsD (((fs.zip ts).map fun p => decide (p.2 ≤ p.1.to)).map D.bl) with
      | some ns => M.pure (D.bl (ns.all id))
      | none => M.fail) = _
    rw [blsD_map]
    show M.pure (D.bl (((fs.zip ts).map fun p => decide (p.2 ≤ p.1.to)).all id)) = _
    rw [List.all_map]; rfl
  rw [e0, ev_fnM, ev_retS, ev_argE, ev_consA, ev_lcE, ev_argE, ev_consA, ev_consA]
  show M.bind (M.bind (M.bind (M.bind (M.bind (zipD [flD fs, .lst (ts.map D.int)]) fun items => _) _) _) _) _ = _
  rw [z, ev_pure_bind, if_pos ll]
  show M.bind (M.bind (M.bind (M.bind (M.bind (lcL (gTup 2 (gCons (gNm 2) (gCons (gNm 3) gNil))) yesT (bin2 leD (vE 3) (bin2 ixX (vE 2) (iE 3))) [some (flD fs), some (.lst (ts.map D.int)), none, none] ((fs.zip ts).map fun p => D.tup [p.1.d, .int p.2])) _) _) _) _) _ = _
  rw [lp]
  simp only [ev_pure_bind, ev_nilA, al, ev_endRt]
end Fm

namespace Fm
open PySem PySem.Spec PyProof.Rows L2 Q
/-! ## held, earliest -/
theorem ebGo_fst {N : Str → Str → Int} {G : Flt → Int → Int} : ∀ (fs : List Flt) (done : List (Flt × Int)), (ebGo N G done fs).map (·.1) = done.map (·.1) ++ fs
  | [], done => by simp [ebGo]
  | f :: fs, done => by
    unfold ebGo
    rw [ebGo_fst fs, List.map_append, List.append_assoc]; rfl
def inT (e : List (Flt × Int)) : Bool := e.all fun p => decide (p.2 ≤ p.1.to)
def resL (e : List (Flt × Int)) : D := if inT e = true then timD e else .lst []
def resD (e : List (Flt × Int)) : D := if inT e = true then .tup (e.map fun p => D.int p.2) else .non
theorem zip_self (e : List (Flt × Int)) : (e.map (·.1)).zip (e.map (·.2)) = e := by
  induction e with
  | nil => rfl
  | cons p e ih => exact congrArg (p :: ·) ih
theorem in_time_e {e : List (Flt × Int)} (hl : e.length ≤ 100) : F_are_in_time [flD (e.map (·.1)), timD e] = M.pure (.bl (inT e)) := by
  have h := in_time_ev (fs := e.map (·.1)) (ts := e.map (·.2)) (by rw [List.length_map]; exact hl)
  rw [zip_self] at h
  have : timD e = .lst ((e.map (·.2)).map D.int) := by unfold timD; rw [List.map_map]; rfl
  rw [this]; exact h
theorem pl_tim (e : List (Flt × Int)) {L n : Nat} (hl : e.length ≤ L) : Pl L (n + 1) (timD e) := .lst (by rw [List.length_map]; exact hl) fun d hd => by
  obtain ⟨p, _, rfl⟩ := List.mem_map.mp hd
  exact .int _
theorem tim_ne {e : List (Flt × Int)} (h : e ≠ []) (hl : e.length ≤ 100) : neD (timD e) (.lst []) = M.pure (.bl true) := by
  rw [ev_ne ((pl_tim e (L := 100) (n := 0) hl).sh (by omega)) rfl (fun _ e => nomatch e)]
  unfold timD
  rw [eqv_nilL]
  cases e with
  | nil => exact absurd rfl h
  | cons => rfl
theorem nil_ne : neD (.lst []) (.lst []) = M.pure (.bl false) := rfl
theorem res_ne {e : List (Flt × Int)} (h : e ≠ []) (hl : e.length ≤ 100) : neD (resL e) (.lst []) = M.pure (.bl (inT e)) := by
  unfold resL
  cases q : inT e
  · rw [if_neg (by decide)]; exact nil_ne
  · rw [if_pos rfl]; exact tim_ne h hl
def hG (h : Int) (f : Flt) (t : Int) : Int := t + (f.fr - t) % h
def hdE : Q.Env → M Fl := retS (bin2 addD (vE 1) (bin2 modD (bin2 subD (bin2 ixX (vE 0) (iE 2)) (vE 1)) (vE 2)))
theorem hd_ev {h : Int} (h0 : 0 < h) (f : Flt) (t : Int) : fnC (["flight", "time", "hold"] : List Str).length hdE [some (.int h)] [f.d, .int t] = M.pure (.int (hG h f t)) := by
  rw [ev_fnC]
  have sc : startC (["flight", "time", "hold"] : List Str).length [f.d, .int t] [some (.int h)] = [some f.d, some (.int t), some (.int h)] := rfl
  have i2 : ixX f.d (.int 2) = M.pure (.int f.fr) := rfl
  rw [sc]
  unfold hdE
  simp [i2, h0]
  rfl
structure FOk (ks : List Str) (rs : List (List Int)) (fs : List Flt) : Prop where
  B : BookOk ks rs
  F : FlsOk ks 999 fs
theorem FOk.of {ks : List Str} {rs : List (List Int)} {fs : List Flt} {far : Int} (B : BookOk ks rs) (F : FlsOk ks far fs) (h : far ≤ 999) : FOk ks rs fs := ⟨B, ⟨F.nd, F.nm, F.kd, fun f hf => ⟨(F.fr f hf).1, (F.fr f hf).2.1, by have := (F.fr f hf).2.2; omega⟩, F.ne, F.le⟩⟩
section
variable {ks : List Str} {rs : List (List Int)} {fs : List Flt}
theorem FOk.check (A : FOk ks rs fs) : F_check_flights [bookD ks rs, flD fs] = M.pure .non := check_flights_ev A.B A.F (by omega)
theorem FOk.nofn (A : FOk ks rs fs) : D.nofnL [bookD ks rs, flD fs] = true := by
  simp only [D.nofnL, (pl_book A.B).nofn, (pl_fls A.B.nm A.F).nofn, Bool.and_self]
theorem FOk.ebl (A : FOk ks rs fs) {N : Str → Str → Int} {G : Flt → Int → Int} : (ebGo N G [] fs).length = fs.length := by
  have := congrArg List.length (ebGo_fst (N := N) (G := G) fs [])
  simpa using this
theorem FOk.ebn (A : FOk ks rs fs) {N : Str → Str → Int} {G : Flt → Int → Int} : ebGo N G [] fs ≠ [] := fun z => by
  have l := A.ebl (N := N) (G := G)
  have := A.F.ne
  rw [z, List.length_nil] at l
  omega
theorem FOk.tms (A : FOk ks rs fs) {N : Str → Str → Int} {G : Flt → Int → Int} : F_are_in_time [flD fs, timD (ebGo N G [] fs)] = M.pure (.bl (inT (ebGo N G [] fs))) := by
  have h := in_time_e (e := ebGo N G [] fs) (by rw [A.ebl]; have := A.F.le; omega)
  rw [ebGo_fst] at h
  exact h
theorem tim_nofn (e : List (Flt × Int)) : (timD e).nofn = true := (pl_tim e (n := 0) (Nat.le_refl _)).nofn
theorem held_times_ev (A : FOk ks rs fs) {h : Int} (h0 : 0 < h) : F_held_times [bookD ks rs, flD fs, .int h] = M.pure (resL (ebGo (num ks rs) (hG h) [] fs)) := by
  have le := A.F.le
  have eb := earliest_by_ev (fs := fs) A.B (g := fnC (["flight", "time", "hold"] : List Str).length hdE [some (.int h)]) (G := hG h) A.F.kd (by omega) fun f _ t => hd_ev h0 f t
  have e0 : F_held_times = fnM 5 (fun ρ => seqS (setS 4 (callCE (["book", "flights", "next_open"] : List Str).length (["flight", "time", "hold"] : List Str).length [2] F_earliest_by hdE (consA (vE 0) (consA (vE 1) nilA)))) (retS (ifE (truT (argN 2 F_are_in_time (consA (vE 1) (consA (vE 4) nilA)))) (vE 4) (lstE nilA))) (ρ.set 3 none)) := rfl
  rw [e0, ev_fnM]
  show M.bind (seqS _ _ [some (bookD ks rs), some (flD fs), some (.int h), none, none]) endM = _
  rw [ev_seqS, ev_setS, ev_callCE]
  show M.bind (M.bind (M.bind (M.bind (M.pure [bookD ks rs, flD fs]) _) _) _) _ = _
  have cp : capE [2] [some (bookD ks rs), some (flD fs), some (.int h), none, none] = [some (.int h)] := rfl
  rw [ev_pure_bind, cp, if_pos ⟨rfl, A.nofn, rfl⟩, eb, ev_noX_pure, ev_pure_bind, if_pos (tim_nofn _), ev_pure_bind, ev_pure_bind]
  dsimp only
  show M.bind (retS (ifE (truT (argN 2 F_are_in_time (consA (vE 1) (consA (vE 4) nilA)))) (vE 4) (lstE nilA)) [some (bookD ks rs), some (flD fs), some (.int h), none, some (timD (ebGo (num ks rs) (hG h) [] fs))]) endM = _
  have tm := A.tms (N := num ks rs) (G := hG h)
  unfold resL
  cases q : inT (ebGo (num ks rs) (hG h) [] fs)
  · rw [q] at tm
    simp [tm, ev_mkLst]
  · rw [q] at tm
    simp [tm]
theorem tup_of_tim (e : List (Flt × Int)) : tupleD [timD e] = M.pure (.tup (e.map fun p => D.int p.2)) := rfl
theorem held_ev (A : FOk ks rs fs) {h : Int} (h0 : 1 ≤ h) (h30 : h ≤ 30) : F_held [bookD ks rs, flD fs, .int h] = M.pure (resD (ebGo (num ks rs) (hG h) [] fs)) := by
  have ck := A.check
  have cn : F_check_number [.int h, .int 1, .int 30] = M.pure .non := by
    unfold F_check_number
    rw [ev_fnM]
    have := number_ev (i := h) (lo := 1) (hi := 30) h0 h30
    simp [this]
  have ht := held_times_ev A (h := h) (by omega)
  have ne := res_ne (A.ebn (N := num ks rs) (G := hG h)) (by rw [A.ebl]; have := A.F.le; omega)
  unfold F_held
  rw [ev_fnM]
  unfold resD
  cases q : inT (ebGo (num ks rs) (hG h) [] fs)
  · rw [q] at ne
    simp [ck, cn, ht, ne, ev_mkLst]
  · rw [q] at ne
    have rl : resL (ebGo (num ks rs) (hG h) [] fs) = timD (ebGo (num ks rs) (hG h) [] fs) := by unfold resL; rw [if_pos q]
    rw [rl] at ht ne
    simp [ck, cn, ht, ne, ev_mkLst, tup_of_tim]
theorem as_it_is_ev (A : FOk ks rs fs) {f : Flt} (hf : f ∈ fs) (t : Int) : F_as_it_is [f.d, .int t] = M.pure (.int t) := by
  have p := pl_flt (L := 4) (n := 1) (A.F.nm f hf) (A.B.nm _ (A.F.kd f hf)) (by omega)
  have q : neD f.d (.tup []) = M.pure (.bl true) := by
    rw [ev_ne (p.sh (by omega)) rfl (fun _ e => nomatch e)]; rfl
  unfold F_as_it_is
  rw [ev_fnM]
  simp [q, ev_mkTup]
def idG (f : Flt) (t : Int) : Int := t
theorem ev_callGE {n : Nat} {dF : (List D → M D) → List D → M D} {g : List D → M D} {fr : Q.Env → M (List D)} {ρ : Q.Env} : callGE n dF g fr ρ = M.bind (fr ρ) fun ds => if ds.length + 1 = n ∧ D.nofnL ds = true then M.bind (noX (dF g ds)) fun d => if d.nofn = true then M.pure d else M.fail else M.fail := rfl
theorem earliest_of_ev (A : FOk ks rs fs) : F_earliest_of [bookD ks rs, flD fs] = M.pure (resL (ebGo (num ks rs) idG [] fs)) := by
  have le := A.F.le
  have eb := earliest_by_ev (fs := fs) A.B (g := F_as_it_is) (G := idG) A.F.kd (by omega) fun f hf t => as_it_is_ev A hf t
  unfold F_earliest_of
  rw [ev_fnM, ev_seqS, ev_setS, ev_callGE]
  show M.bind (M.bind (M.bind (M.bind (M.pure [bookD ks rs, flD fs]) _) _) _) _ = _
  rw [ev_pure_bind, if_pos ⟨rfl, A.nofn⟩, eb, ev_noX_pure, ev_pure_bind, if_pos (tim_nofn _), ev_pure_bind, ev_pure_bind]
  dsimp only
  show M.bind (retS (ifE (truT (argN 2 F_are_in_time (consA (vE 1) (consA (vE 2) nilA)))) (vE 2) (lstE nilA)) [some (bookD ks rs), some (flD fs), some (timD (ebGo (num ks rs) idG [] fs))]) endM = _
  have tm := A.tms (N := num ks rs) (G := idG)
  unfold resL
  cases q : inT (ebGo (num ks rs) idG [] fs)
  · rw [q] at tm
    simp [tm, ev_mkLst]
  · rw [q] at tm
    simp [tm]
theorem earliest_ev (A : FOk ks rs fs) : F_earliest [bookD ks rs, flD fs] = M.pure (resD (ebGo (num ks rs) idG [] fs)) := by
  have ck := A.check
  have ht := earliest_of_ev A
  have ne := res_ne (A.ebn (N := num ks rs) (G := idG)) (by rw [A.ebl]; have := A.F.le; omega)
  unfold F_earliest
  rw [ev_fnM]
  unfold resD
  cases q : inT (ebGo (num ks rs) idG [] fs)
  · rw [q] at ne
    simp [ck, ht, ne, ev_mkLst]
  · rw [q] at ne
    have rl : resL (ebGo (num ks rs) idG [] fs) = timD (ebGo (num ks rs) idG [] fs) := by unfold resL; rw [if_pos q]
    rw [rl] at ht ne
    simp [ck, ht, ne, ev_mkLst, tup_of_tim]
end
end Fm

namespace Fm
open PySem PySem.Spec PyProof.Rows L2 Q
/-! ## the law's frame -/
def lawT (right : List D → M D) : List D → M D := fnM 2 (retS (argE allD (consA (lcE [1] (itE (argN 1 F__law_turns (consA (vE 0) nilA))) (gNm 1) yesT (mpE (argN 2 F__law_well (consA (vE 0) (consA (vE 1) nilA))) (wellM right))) nilA)))
abbrev welB : Q.Env → M Fl := setKS 3 (bin2 modD (argE intD (consA (bin2 addD (bin2 addD (bin2 mulD (vE 3) (iE 40009)) (bin2 modD (argE intD (consA (vE 4) nilA)) (iE 2147480009))) (iE 73)) nilA)) (iE 2147480009))
theorem wel_loop (s : D) (l o : Int) (w : Wl) : ∀ (ns : List Int) (m : Int) (x : Option D), ∃ (m' : Int) (x' : Option D), forL (gNm 4) welB (ns.map D.int) [some s, some (.int l), some (.int o), some (.int m), x] w = .ok (.nx [some s, some (.int l), some (.int o), some (.int m'), x']) w
  | [], m, x => ⟨m, x, rfl⟩
  | n :: ns, m, x => by
    obtain ⟨m', x', e⟩ := wel_loop s l o w ns ((m * 40009 + n % 2147480009 + 73) % 2147480009) (some (.int n))
    refine ⟨m', x', ?_⟩
    rw [← e]
    simp
theorem well_ok (ns : List Int) (hl : ns.length ≤ 63) (lap : Int) (h0 : 0 ≤ lap) (h1 : lap < 1000) (w : Wl) : ∃ a b c : Int, F__law_well [.scr (ns.map D.int), .int lap] w = .ok (.lst [.int a, .int b, .int c]) w := by
  have own : ∃ o : Int, ifE (tst (bin2 ltD (vE 1) (argE lenD (consA (vE 0) nilA)))) (argE intD (consA (bin2 ixX (vE 0) (vE 1)) nilA)) (bin2 addD (bin2 mulD (iE 8311) (vE 1)) (iE 1301)) [some (.scr (ns.map D.int)), some (.int lap), none, none, none] = M.pure (.int o) := by
    by_cases h : lap < ns.length
    · refine ⟨ns[lap.toNat]'(by omega), ?_⟩
      have q : ixX (.scr (ns.map D.int)) (.int lap) = M.pure (.int (ns[lap.toNat]'(by omega))) := by
        show (match L2.atI (ns.map D.int) lap with | some d => M.pure d | none => M.fail) = _
        rw [atI_map, atI_nat h0 h]; rfl
      simp [h, q]
    · exact ⟨8311 * lap + 1301, by simp [h]⟩
  obtain ⟨o, eo⟩ := own
  obtain ⟨m, x, e⟩ := wel_loop (.scr (ns.map D.int)) lap o w (cutL ns none (some 7) ++ [o]) (30011 + 2903 * lap) none
  have e1 : Q.cutD (.scr (ns.map D.int)) none (some 7) = M.pure (.lst ((cutL ns none (some 7)).map D.int)) := by rw [← cutL_map]; rfl
  have cl : (cutL ns none (some 7)).length ≤ 63 := by
    unfold cutL
    rw [List.length_take, List.length_drop]
    omega
  have e2 : addD (.lst ((cutL ns none (some 7)).map D.int)) (.lst [.int o]) = M.pure (.lst ((cutL ns none (some 7) ++ [o]).map D.int)) := by
    rw [addL (by rw [List.length_map, List.length_singleton]; omega), List.map_append]; rfl
  have go : ∃ a b c : Int, (seqN (setS 2 (ifE (tst (bin2 ltD (vE 1) (argE lenD (consA (vE 0) nilA)))) (argE intD (consA (bin2 ixX (vE 0) (vE 1)) nilA)) (bin2 addD (bin2 mulD (iE 8311) (vE 1)) (iE 1301))))
    (seqN (setKS 3 (bin2 addD (iE 30011) (bin2 mulD (iE 2903) (vE 1))))
    (seqN (forS (itE (bin2 addD (slE (vE 0) npE (partE (iE 7))) (lstE (consA (vE 2) nilA)))) (gNm 4) welB)
    (retS (lstE (consA (ifE (orT (tst (bin2 ltD (vE 2) (iE 0))) (tst (bin2 geD (vE 2) (bin2 powD (iE 10) (iE 15))))) (argE absD (consA (vE 2) nilA)) (iE 0)) (consA (vE 3) (consA (iE 0) nilA))))))))
      [some (.scr (ns.map D.int)), some (.int lap), none, none, none] w = .ok (.rt (.lst [.int a, .int b, .int c])) w := by
    have st : ∀ {α : Type} (h : Fl → M α), M.bind (forL (gNm 4) welB ((cutL ns none (some 7) ++ [o]).map D.int) [some (.scr (ns.map D.int)), some (.int lap), some (.int o), some (.int (30011 + 2903 * lap)), none]) h w = h (.nx [some (.scr (ns.map D.int)), some (.int lap), some (.int o), some (.int m), x]) w := fun h => by
      simp only [M.bind, e]
    have ab : ∃ z : Int, ifE (orT (tst (bin2 ltD (vE 2) (iE 0))) (tst (bin2 geD (vE 2) (bin2 powD (iE 10) (iE 15))))) (argE absD (consA (vE 2) nilA)) (iE 0) [some (.scr (ns.map D.int)), some (.int lap), some (.int o), some (.int m), x] = M.pure (.int z) := by
      by_cases h1 : o < 0
      · exact ⟨_, by simp [h1]; rfl⟩
      · by_cases h2 : 1000000000000000 ≤ o
        · exact ⟨_, by simp [h1, h2]; rfl⟩
        · exact ⟨_, by simp [h1, h2]; rfl⟩
    obtain ⟨z, ez⟩ := ab
    refine ⟨z, m, 0, ?_⟩
    simp [-ev_ifE, -List.map_append, e1, e2, st, eo, ez, mkLst, itemsD, sizeLine_eq]
  obtain ⟨a, b, c, e⟩ := go
  exact ⟨a, b, c, by show endN _ = _; rw [show startE 5 [D.scr (ns.map D.int), D.int lap] = [some (.scr (ns.map D.int)), some (.int lap), none, none, none] from rfl, e]; rfl⟩
theorem turns_ok (ns : List Int) (hl : ns.length ≤ 63) : ∃ n : Nat, n ≤ 3 ∧ F__law_turns [.scr (ns.map D.int)] = M.pure (.lst ((List.range n).map fun i => D.int (0 + (i : Nat)))) := by
  obtain ⟨n, e, hn⟩ : ∃ n : Nat, (if (if (3 : Int) < ns.length then 3 else (ns.length : Int)) > 2 then (if (3 : Int) < ns.length then 3 else (ns.length : Int)) else 2) = (n : Int) ∧ n ≤ 3 := by
    by_cases h1 : (3 : Int) < ns.length
    · exact ⟨3, by rw [if_pos h1]; rfl, by omega⟩
    · rw [if_neg h1]
      by_cases h2 : (ns.length : Int) > 2
      · exact ⟨ns.length, by rw [if_pos h2], by omega⟩
      · exact ⟨2, by rw [if_neg h2]; rfl, by omega⟩
  refine ⟨n, hn, ?_⟩
  have ea : (argE maxD (consA (iE 2) (consA (argE minD (consA (argE lenD (consA (vE 0) nilA)) (consA (iE 3) nilA))) nilA))) [some (D.scr (ns.map D.int))] = M.pure (.int (n : Nat)) := by
    rw [← e]
    simp only [ev_argE, ev_consA, ev_iE, ev_vE', ev_getV0, ev_nilA, ev_pure_bind, ev_lenS, ev_minI, ev_maxI, List.length_map]
  have er : rg1M .lst (.int (n : Nat)) = M.pure (.lst ((List.range n).map fun i => D.int (0 + (i : Nat)))) := by
    show (if RgOk 0 ((n : Nat) : Int) then M.pure (D.lst (rngL 0 ((n : Nat) : Int))) else M.fail) = _
    rw [if_pos (RgOk.of_le (by omega) (by omega) (by omega) (by omega))]
    unfold rngL
    rw [show (((n : Nat) : Int) - 0).toNat = n by omega]
  unfold F__law_turns
  rw [ev_fnM, ev_retS, ev_mpE]
  show M.bind (M.bind (M.bind (argE maxD _ [some (D.scr (ns.map D.int))]) _) _) _ = _
  rw [ea, ev_pure_bind, er]
  rfl
theorem fam_law {right : List D → M D} (hr : ∀ w, Good w → ∃ w', right [.well] w = .ok (.bl true) w') (ns : List Int) (hl : ns.length ≤ 63) : ∃ w', lawT right [.scr (ns.map D.int)] [] = .ok (.bl true) w' := by
  have turn : ∀ (x : Option D) (items : List Nat), (∀ i ∈ items, i < 1000) → lcL (gNm 1) yesT (mpE (argN 2 F__law_well (consA (vE 0) (consA (vE 1) nilA))) (wellM right)) [some (D.scr (ns.map D.int)), x] (items.map fun i => D.int (0 + (i : Nat))) [] = .ok (items.map fun _ => D.bl true) [] := fun x items hi => by
    induction items with
    | nil => rfl
    | cons i items ih =>
      obtain ⟨a, b, c, e⟩ := well_ok ns hl (0 + (i : Nat)) (by omega) (by have := hi i List.mem_cons_self; omega) []
      obtain ⟨w', e2⟩ := hr [a, b, c] ⟨a, b, c, rfl⟩
      have one : (mpE (argN 2 F__law_well (consA (vE 0) (consA (vE 1) nilA))) (wellM right)) [some (D.scr (ns.map D.int)), some (D.int (0 + (i : Nat)))] [] = .ok (.bl true) [] := by
        have e3 : (argN 2 F__law_well (consA (vE 0) (consA (vE 1) nilA))) [some (D.scr (ns.map D.int)), some (D.int (0 + (i : Nat)))] = F__law_well [.scr (ns.map D.int), .int (0 + (i : Nat))] := by simp
        show M.bind _ _ [] = _
        rw [e3]
        simp only [M.bind, e, wellM, intsD, Option.map_some, e2]
      have ih := ih fun j hj => hi j (List.mem_cons_of_mem _ hj)
      rw [List.map_cons]
      unfold lcL
      rw [ev_gNm, ev_noX_pure, ev_pure_bind, ev_yesT, ev_noX_pure, ev_pure_bind, if_pos rfl]
      show M.bind (noX (mpE (argN 2 F__law_well (consA (vE 0) (consA (vE 1) nilA))) (wellM right) [some (D.scr (ns.map D.int)), some (D.int (0 + (i : Nat)))])) _ [] = _
      simp only [M.bind, noX, one, ih, M.pure, List.map_cons]
  obtain ⟨n, hn, et⟩ := turns_ok ns hl
  have lc : lcE [1] (itE (argN 1 F__law_turns (consA (vE 0) nilA))) (gNm 1) yesT (mpE (argN 2 F__law_well (consA (vE 0) (consA (vE 1) nilA))) (wellM right)) [some (D.scr (ns.map D.int)), none] [] = .ok (.lst ((List.range n).map fun _ => D.bl true)) [] := by
    have ei : itE (argN 1 F__law_turns (consA (vE 0) nilA)) [some (D.scr (ns.map D.int)), none] = M.pure ((List.range n).map fun i => D.int (0 + (i : Nat))) := by
      show M.bind (F__law_turns [.scr (ns.map D.int)]) itemsD = _
      rw [et]; rfl
    rw [ev_lcE, ei, ev_pure_bind, if_pos (by rw [List.length_map, List.length_range, sizeLine_eq]; omega)]
    show M.bind (lcL _ _ _ [some (D.scr (ns.map D.int)), none] _) _ [] = _
    simp only [M.bind, turn none (List.range n) (fun i hi => by have := List.mem_range.mp hi; omega), M.pure]
  have al : allD [.lst ((List.range n).map fun _ => D.bl true)] = M.pure (.bl true) := by
    have : (List.range n).map (fun _ => D.bl true) = ((List.range n).map fun _ => true).map D.bl := by rw [List.map_map]; rfl
    rw [this]
    show (match blsD (((List.range n).map fun _ => true).map D.bl) with
      | some ns => M.pure (D.bl (ns.all id))
      | none => M.fail) = _
    rw [blsD_map]
    show M.pure (D.bl (((List.range n).map fun _ => true).all id)) = _
    have : (List.map (fun _ => true) (List.range n)).all id = true := by simp
    rw [this]
  refine ⟨[], ?_⟩
  unfold lawT
  rw [ev_fnM, ev_retS, ev_argE, ev_consA]
  show M.bind (M.bind (M.bind (M.bind (lcE [1] _ _ _ _ [some (D.scr (ns.map D.int)), none]) _) _) _) _ [] = _
  simp only [M.bind, lc, ev_nilA, M.pure]
  show M.bind (M.bind (allD [.lst ((List.range n).map fun _ => D.bl true)]) _) _ [] = _
  rw [al]; rfl
end Fm

namespace Fm
open PySem PySem.Spec PyProof.Rows L2 Q
/-! ## values whose texts are short -/
inductive Sh (L : Nat) : Nat → D → Prop
  | non {n : Nat} : Sh L n .non
  | bl {n : Nat} (b : Bool) : Sh L n (.bl b)
  | int {n : Nat} {i : Int} : i.natAbs < 10 ^ 12 → Sh L n (.int i)
  | str {n : Nat} {s : Str} : s.length ≤ 100 → PyData.strOk s = true → Sh L n (.str s)
  | tup {n : Nat} {ds : List D} : ds.length ≤ L → (∀ d ∈ ds, Sh L n d) → Sh L (n + 1) (.tup ds)
  | lst {n : Nat} {ds : List D} : ds.length ≤ L → (∀ d ∈ ds, Sh L n d) → Sh L (n + 1) (.lst ds)
theorem Sh.pl {L n : Nat} {d : D} (h : Sh L n d) : Pl L n d := by
  induction h with
  | non => exact .non
  | bl b => exact .bl b
  | int _ => exact .int _
  | str h k => exact .str h k
  | tup h _ ih => exact .tup h ih
  | lst h _ ih => exact .lst h ih
def wtB (L : Nat) : Nat → Nat
  | 0 => 100
  | n + 1 => L * (wtB L n + 1) + 100
theorem wtB_ge (L : Nat) : ∀ n, 100 ≤ wtB L n
  | 0 => Nat.le_refl _
  | n + 1 => by unfold wtB; omega
theorem weightL {n c : Nat} : ∀ {ds : List D}, (∀ d ∈ ds, d.py.weight ≤ c) → PyData.weightAll (D.pyL ds) ≤ ds.length * (c + 1)
  | [], _ => by simp [D.pyL, PyData.weightAll]
  | d :: ds, h => by
    have h1 := h d List.mem_cons_self
    have h2 := weightL (n := n) (ds := ds) fun x hx => h x (List.mem_cons_of_mem _ hx)
    simp only [D.pyL, PyData.weightAll, List.length_cons]
    rw [Nat.succ_mul]
    omega
theorem Sh.weight {L n : Nat} {d : D} (h : Sh L n d) : d.py.weight ≤ wtB L n := by
  induction h with
  | @int n i h =>
    refine Nat.le_trans ?_ (wtB_ge L n)
    simp only [D.py, PyData.weight]
    split
    · omega
    · have : i.natAbs.log2 < 41 := by
        rcases Nat.eq_zero_or_pos i.natAbs with z | z
        · rw [z]; decide
        · exact (Nat.log2_lt (by omega)).mpr (by omega)
      omega
  | @str n s h k =>
    refine Nat.le_trans ?_ (wtB_ge L n)
    simp only [D.py, PyData.weight]
    exact h
  | @tup n ds h _ ih =>
    have := weightL (n := n) ih
    simp only [D.py, PyData.weight]
    have m : ds.length * (wtB L n + 1) ≤ L * (wtB L n + 1) := Nat.mul_le_mul_right _ h
    unfold wtB
    omega
  | @lst n ds h _ ih =>
    have := weightL (n := n) ih
    simp only [D.py, PyData.weight]
    have m : ds.length * (wtB L n + 1) ≤ L * (wtB L n + 1) := Nat.mul_le_mul_right _ h
    unfold wtB
    omega
  | _ => simp only [D.py, PyData.weight]; exact Nat.zero_le _
theorem shortL : ∀ {ds : List D}, (∀ d ∈ ds, d.py.intsShort 13 = true) → PyData.intsShortAll 13 (D.pyL ds) = true
  | [], _ => by simp [D.pyL, PyData.intsShortAll]
  | d :: ds, h => by simp only [D.pyL, PyData.intsShortAll, h d List.mem_cons_self, shortL fun x hx => h x (List.mem_cons_of_mem _ hx), Bool.and_self]
theorem Sh.short {L n : Nat} {d : D} (h : Sh L n d) : d.py.intsShort 13 = true := by
  induction h with
  | int h => simp only [D.py, PyData.intsShort]; exact decide_eq_true (PyData.shown_int_le h)
  | tup _ _ ih => simp only [D.py, PyData.intsShort]; exact shortL ih
  | lst _ _ ih => simp only [D.py, PyData.intsShort]; exact shortL ih
  | _ => simp only [D.py, PyData.intsShort]
theorem showL : ∀ {ds : List D}, (∀ d ∈ ds, d.py.showable = true) → PyData.showableAll (D.pyL ds) = true
  | [], _ => by simp [D.pyL, PyData.showableAll]
  | d :: ds, h => by simp only [D.pyL, PyData.showableAll, h d List.mem_cons_self, showL fun x hx => h x (List.mem_cons_of_mem _ hx), Bool.and_self]
theorem Sh.show {L n : Nat} {d : D} (h : Sh L n d) : d.py.showable = true := by
  induction h with
  | @int n i h =>
    simp only [D.py, PyData.showable]
    refine decide_eq_true ?_
    rcases Nat.eq_zero_or_pos i.natAbs with z | z
    · rw [z]; decide
    · have : i.natAbs.log2 < 41 := (Nat.log2_lt (by omega)).mpr (by omega)
      omega
  | tup _ _ ih => simp only [D.py, PyData.showable]; exact showL ih
  | lst _ _ ih => simp only [D.py, PyData.showable]; exact showL ih
  | _ => simp only [D.py, PyData.showable]
theorem Sh.rep {L n : Nat} {d : D} (h : Sh L n d) (hd : ∃ xs, d = .tup xs ∨ d = .lst xs) (hn : n ≤ 60) (hw : wtB L n ≤ 2 ^ 20) : repOk d = true := by
  have h1 := h.pl.pyOk
  have h2 := h.show
  have h3 := PyData.hasDict_of_canLay d.py h.pl.lay
  have h4 : d.py.depth ≤ 60 := Nat.le_trans h.pl.dep hn
  have lay : PyData.layable0 d.py = true := by
    show (PyData.canLay0 d.py && decide (PyData.depth d.py ≤ 64) && decide (PyData.weight d.py ≤ 2 ^ 20)) = true
    rw [h.pl.lay, decide_eq_true (by omega), decide_eq_true (Nat.le_trans h.weight hw)]; rfl
  have h5 := PyData.shown_fits_of_layable0 (B := 13) (by decide) (by decide) lay h.short
  obtain ⟨xs, rfl | rfl⟩ := hd
  · show ((D.tup xs).pyOk && ((D.tup xs).py.showable && (decide ((D.tup xs).py.hasDict = false) && (decide ((D.tup xs).py.depth ≤ 60) && decide ((D.tup xs).py.shown.length ≤ sizeLine))))) = true
    rw [h1, h2, decide_eq_true h3, decide_eq_true h4, decide_eq_true h5]; rfl
  · show ((D.lst xs).pyOk && ((D.lst xs).py.showable && (decide ((D.lst xs).py.hasDict = false) && (decide ((D.lst xs).py.depth ≤ 60) && decide ((D.lst xs).py.shown.length ≤ sizeLine))))) = true
    rw [h1, h2, decide_eq_true h3, decide_eq_true h4, decide_eq_true h5]; rfl
/-- told twice, and due twice -/
theorem rep_two {L n : Nat} {x : D} (h : Sh L n x) (hL : 2 ≤ L) (hn : n < 60) (hw : wtB L (n + 1) ≤ 2 ^ 20) : reprD [.lst [x, x]] = M.pure (.str (D.lst [x, x]).py.shown) :=
  ev_repr (Sh.rep (.lst (by simpa using hL) fun d hd => by
    simp only [List.mem_cons, List.not_mem_nil, or_false, or_self] at hd
    rw [hd]; exact h) ⟨_, .inr rfl⟩ (by omega) hw)
end Fm

namespace Q
open PySem PySem.Spec PyProof.Rows L2
/-- owned names given up ahead of a statement -/
theorem ds_pre {X : Cx} {T : Tb} {L O O1 O' : List Nat} {Wx : WX} {st : Stmt} {f : Env → M Fl} (h : DS X T L O1 O' Wx st f) (hs : SubL O1 O := by decide) : DS X T L O O' Wx st f :=
  ps_imp h fun D σ H ⟨Γ, ρ, G, w, R, P⟩ => by
    obtain ⟨G1, x1, R1⟩ := R.thaw hs
    exact ⟨Γ, ρ, G1, w, R1, PostS.widen P x1⟩
end Q

namespace Fm
open PySem PySem.Spec PyProof.Rows L2 Q
/-! ## latest times -/
abbrev rvE (i : Nat) : Q.Env → M D := fun ρ => M.bind ((vE i) ρ) fun d => M.bind (M.pure none) fun l => revA d l
def F_end_as_it_is : List D → M D := fnM 1 (retS (vE 0))
def F_latest_by (g : List D → M D) : List D → M D := fun ds => fnM 9 (seqS (parS2 4 5 (consA (argN 1 F_numbers_of (consA (vE 0) nilA)) (consA (lstE nilA) nilA)))
  (seqS (forS (itE (rvE 1)) (gNm 3) (seqS (setS 6 (bin2 ixX (vE 3) (iE 3)))
  (seqS (foldS 6 [7, 8] (argE zipD (consA (rvE 1) (consA (vE 5) nilA))) (gTup 2 (gCons (gNm 7) (gCons (gNm 8) gNil))) (argE minD (consA (vE 6) (consA (bin2 subD (vE 8) (bin2 ixX (vE 4) (tupE (consA (bin2 ixX (vE 3) (iE 1)) (consA (bin2 ixX (vE 7) (iE 1)) nilA))))) nilA))))
  (mutS 5 appM (consA (callPE 2 1 g (consA (vE 6) nilA)) nilA)))))
  (retS (rvE 5)))) (ds ++ [.fn 0])
def F_latest_of : List D → M D := fnM 2 (retS (callGE 3 F_latest_by F_end_as_it_is (consA (vE 0) (consA (vE 1) nilA))))
def F_latest : List D → M D := fnM 2 (seqS (dropS (argN 2 F_check_flights (consA (vE 0) (consA (vE 1) nilA))))
  (retS (ifE (tst (bin2 neD (argN 2 F_earliest_of (consA (vE 0) (consA (vE 1) nilA))) (lstE nilA))) (argE tupleD (consA (argN 2 F_latest_of (consA (vE 0) (consA (vE 1) nilA))) nilA)) noE)))
def F_check_time : List D → M D := fnM 1 (ifS' (notT (truT (argN 1 F_is_time (consA (vE 0) nilA)))) deadS nilS)
def high (N : Str → Str → Int) (done : List (Flt × Int)) (f : Flt) : Int := done.foldl (fun m p => min m (p.2 - N f.kd p.1.kd)) f.to
def lbGo (N : Str → Str → Int) (G : Int → Int) : List (Flt × Int) → List Flt → List (Flt × Int)
  | done, [] => done
  | done, f :: fs => lbGo N G (done ++ [(f, G (high N done f))]) fs
theorem pick_rev {α : Type} (xs : List α) : pickL xs none none (some (-1)) = xs.reverse := by
  unfold pickL
  rw [PySem.W.krv_bounds]
  show (sliceRange ((xs.length : Int) - 1) (-1) (-1)).filterMap (xs[·]?) = _
  rw [PySem.W.krv_sliceRange, PySem.W.krv_range, List.filterMap_reverse]
  congr 1
  have := PySem.W.krv_all xs.toArray
  simpa using this
theorem rev_tup {xs : List D} : M.bind (M.pure none) (fun l => revA (.tup xs) l) = M.pure (.tup xs.reverse) := rfl
abbrev lbE : Q.Env → M D := argE minD (consA (vE 6) (consA (bin2 subD (vE 8) (bin2 ixX (vE 4) (tupE (consA (bin2 ixX (vE 3) (iE 1)) (consA (bin2 ixX (vE 7) (iE 1)) nilA))))) nilA))
theorem lb_fold {ks : List Str} {rs : List (List Int)} (B : BookOk ks rs) {x0 x1 x2 x5 : Option D} {f : Flt} (hf : f.kd ∈ ks) : ∀ (ps : List (Flt × Int)) (m : Int) (x7 x8 : Option D), (∀ p ∈ ps, p.1.kd ∈ ks) →
    ∃ y7 y8, foldL ebG lbE 6 (ps.map fun p => D.tup [p.1.d, .int p.2]) [x0, x1, x2, some f.d, some (tabD ks rs), x5, some (.int m), x7, x8] = M.pure [x0, x1, x2, some f.d, some (tabD ks rs), x5, some (.int (ps.foldl (fun m p => min m (p.2 - num ks rs f.kd p.1.kd)) m)), y7, y8]
  | [], m, x7, x8, _ => ⟨x7, x8, rfl⟩
  | p :: ps, m, x7, x8, h => by
    obtain ⟨y7, y8, ih⟩ := lb_fold B (x0 := x0) (x1 := x1) (x2 := x2) (x5 := x5) hf ps (min m (p.2 - num ks rs f.kd p.1.kd)) (some p.1.d) (some (.int p.2)) fun q hq => h q (List.mem_cons_of_mem _ hq)
    refine ⟨y7, y8, ?_⟩
    have gt : noX (ebG (.tup [p.1.d, .int p.2]) [x0, x1, x2, some f.d, some (tabD ks rs), x5, some (.int m), x7, x8]) = M.pure [x0, x1, x2, some f.d, some (tabD ks rs), x5, some (.int m), some p.1.d, some (.int p.2)] := rfl
    have i1 : ixX p.1.d (.int 1) = M.pure (.str p.1.kd) := rfl
    have i2 : ixX f.d (.int 1) = M.pure (.str f.kd) := rfl
    have nv := (num_ev B hf (h p List.mem_cons_self)).1
    unfold key at nv
    have ee : lbE [x0, x1, x2, some f.d, some (tabD ks rs), x5, some (.int m), some p.1.d, some (.int p.2)] = M.pure (.int (min m (p.2 - num ks rs f.kd p.1.kd))) := by
      simp [-ev_minI, i1, i2, ev_mkTup, nv, min_ev]
    rw [List.map_cons]
    unfold foldL
    rw [gt, ev_pure_bind, ee, ev_pure_bind]
    exact ih
def lbB (g : List D → M D) : Q.Env → M Fl := seqS (setS 6 (bin2 ixX (vE 3) (iE 3)))
  (seqS (foldS 6 [7, 8] (argE zipD (consA (rvE 1) (consA (vE 5) nilA))) ebG lbE)
  (mutS 5 appM (consA (callPE 2 1 g (consA (vE 6) nilA)) nilA)))
theorem lb_turn {ks : List Str} {rs : List (List Int)} (B : BookOk ks rs) {g : List D → M D} {G : Int → Int} {bk : D} {f : Flt} {fs : List Flt} {done : List (Flt × Int)} {rest : List Flt} {x6 x7 x8 : Option D} (hrv : fs.reverse = done.map (·.1) ++ rest) (hf : f.kd ∈ ks) (hd : ∀ p ∈ done, p.1.kd ∈ ks) (hl : done.length < 100) (hg : ∀ t : Int, g [.int t] = M.pure (.int (G t))) :
    lbB g [some bk, some (flD fs), some (.fn 0), some f.d, some (tabD ks rs), some (timD done), x6, x7, x8] =
      M.pure (.nx [some bk, some (flD fs), some (.fn 0), some f.d, some (tabD ks rs), some (timD (done ++ [(f, G (high (num ks rs) done f))])), some (.int (high (num ks rs) done f)), none, none]) := by
  obtain ⟨y7, y8, e⟩ := lb_fold B (x0 := some bk) (x1 := some (flD fs)) (x2 := some (.fn 0)) (x5 := some (timD done)) hf done f.to x7 x8 hd
  have i2 : ixX f.d (.int 3) = M.pure (.int f.to) := rfl
  have rv : ∀ ρ : Q.Env, getV ρ 1 = M.pure (flD fs) → rvE 1 ρ = M.pure (flD (done.map (·.1) ++ rest)) := fun ρ h => by
    show M.bind (getV ρ 1) _ = _
    rw [h, ev_pure_bind]
    show M.pure (D.tup (fs.map Flt.d).reverse) = _
    rw [← List.map_reverse, hrv]; rfl
  unfold lbB
  rw [ev_seqS, ev_setS]
  simp only [ev_bin2, ev_vE', ev_getV1, ev_getV0, ev_pure_bind, ev_iE, i2]
  show seqS (foldS 6 [7, 8] (argE zipD (consA (rvE 1) (consA (vE 5) nilA))) ebG lbE) (mutS 5 appM (consA (callPE 2 1 g (consA (vE 6) nilA)) nilA)) [some bk, some (flD fs), some (.fn 0), some f.d, some (tabD ks rs), some (timD done), some (.int f.to), x7, x8] = _
  rw [ev_seqS, foldS_ev, ev_argE, ev_consA, rv _ rfl]
  simp only [ev_consA, ev_vE', ev_getV1, ev_getV0, ev_pure_bind, ev_nilA, ev_assoc]
  rw [zip_done, ev_pure_bind, e, ev_pure_bind]
  show M.bind (M.pure (Fl.nx [some bk, some (flD fs), some (.fn 0), some f.d, some (tabD ks rs), some (timD done), some (.int (high (num ks rs) done f)), none, none])) _ = _
  rw [ev_pure_bind]
  dsimp only
  have ap : appM (done.map fun p => D.int p.2) [.int (G (high (num ks rs) done f))] = M.pure ((done ++ [(f, G (high (num ks rs) done f))]).map fun p => D.int p.2) := by
    rw [ev_app (by rw [List.length_map]; omega), List.map_append]; rfl
  unfold timD
  simp [hg, ap]
theorem lb_loop {ks : List Str} {rs : List (List Int)} (B : BookOk ks rs) {g : List D → M D} {G : Int → Int} {bk : D} {fs : List Flt} (hg : ∀ t : Int, g [.int t] = M.pure (.int (G t))) : ∀ (rest : List Flt) (done : List (Flt × Int)) (x3 x6 x7 x8 : Option D), fs.reverse = done.map (·.1) ++ rest → (∀ f ∈ rest, f.kd ∈ ks) → (∀ p ∈ done, p.1.kd ∈ ks) → done.length + rest.length < 100 →
    ∃ y3 y6 y7 y8, forL (gNm 3) (lbB g) (rest.map Flt.d) [some bk, some (flD fs), some (.fn 0), x3, some (tabD ks rs), some (timD done), x6, x7, x8]
      = M.pure (.nx [some bk, some (flD fs), some (.fn 0), y3, some (tabD ks rs), some (timD (lbGo (num ks rs) G done rest)), y6, y7, y8])
  | [], done, x3, x6, x7, x8, _, _, _, _ => ⟨x3, x6, x7, x8, rfl⟩
  | f :: rest, done, x3, x6, x7, x8, hrv, hr, hd, hl => by
    simp only [List.length_cons] at hl
    have e1 := lb_turn B (g := g) (G := G) (bk := bk) (f := f) (fs := fs) (done := done) (rest := f :: rest) (x6 := x6) (x7 := x7) (x8 := x8) hrv (hr f List.mem_cons_self) hd (by omega) hg
    obtain ⟨y3, y6, y7, y8, ih⟩ := lb_loop B (g := g) (G := G) (bk := bk) (fs := fs) hg rest (done ++ [(f, G (high (num ks rs) done f))]) (some f.d) (some (.int (high (num ks rs) done f))) none none (by rw [hrv, List.map_append, List.append_assoc]; rfl) (fun q hq => hr q (List.mem_cons_of_mem _ hq)) (fun p hp => by
      rcases List.mem_append.mp hp with h | h
      · exact hd p h
      · rw [List.mem_singleton.mp h]; exact hr f List.mem_cons_self) (by rw [List.length_append, List.length_singleton]; omega)
    refine ⟨y3, y6, y7, y8, ?_⟩
    rw [List.map_cons, ev_forCons]
    show M.bind (lbB g [some bk, some (flD fs), some (.fn 0), some f.d, some (tabD ks rs), some (timD done), x6, x7, x8]) _ = _
    rw [e1, ev_pure_bind]
    exact ih
theorem latest_by_ev {ks : List Str} {rs : List (List Int)} {fs : List Flt} (B : BookOk ks rs) {g : List D → M D} {G : Int → Int} (hk : ∀ f ∈ fs, f.kd ∈ ks) (hl : fs.length ≤ 20) (hg : ∀ t : Int, g [.int t] = M.pure (.int (G t))) :
    F_latest_by g [bookD ks rs, flD fs] = M.pure (timD (lbGo (num ks rs) G [] fs.reverse).reverse) := by
  have e0 : F_latest_by g [bookD ks rs, flD fs] = fnM 9 (seqS (parS2 4 5 (consA (argN 1 F_numbers_of (consA (vE 0) nilA)) (consA (lstE nilA) nilA))) (seqS (forS (itE (rvE 1)) (gNm 3) (lbB g)) (retS (rvE 5)))) [bookD ks rs, flD fs, .fn 0] := rfl
  obtain ⟨y3, y6, y7, y8, e⟩ := lb_loop B (g := g) (G := G) (bk := bookD ks rs) (fs := fs) hg fs.reverse [] none none none none rfl (fun f h => hk f (List.mem_reverse.mp h)) (fun _ h => nomatch h) (by rw [List.length_reverse]; simp only [List.length_nil]; omega)
  have nb := numbers_ev B
  rw [e0, ev_fnM, ev_seqS]
  have e1 : parS2 4 5 (consA (argN 1 F_numbers_of (consA (vE 0) nilA)) (consA (lstE nilA) nilA)) (startE 9 [bookD ks rs, flD fs, .fn 0]) = M.pure (.nx [some (bookD ks rs), some (flD fs), some (.fn 0), none, some (tabD ks rs), some (.lst []), none, none, none]) := by
    simp [nb, ev_mkLst]
  rw [e1, ev_pure_bind]
  dsimp only
  have it : itE (rvE 1) [some (bookD ks rs), some (flD fs), some (.fn 0), none, some (tabD ks rs), some (.lst []), none, none, none] = M.pure (fs.reverse.map Flt.d) := by
    show M.pure (fs.map Flt.d).reverse = _
    rw [List.map_reverse]
  rw [ev_seqS, ev_forS, it, ev_pure_bind]
  show M.bind (M.bind (forL (gNm 3) (lbB g) (fs.reverse.map Flt.d) [some (bookD ks rs), some (flD fs), some (.fn 0), none, some (tabD ks rs), some (timD []), none, none, none]) _) _ = _
  rw [e, ev_pure_bind]
  show M.bind (M.bind (M.bind (M.pure (timD (lbGo (num ks rs) G [] fs.reverse))) fun d => M.bind (M.pure none) fun l => revA d l) _) _ = _
  rw [ev_pure_bind, ev_pure_bind]
  have rl : revA (timD (lbGo (num ks rs) G [] fs.reverse)) none = M.pure (timD (lbGo (num ks rs) G [] fs.reverse).reverse) := by
    unfold timD
    rw [List.map_reverse]
    show M.pure (D.lst (pickL _ none none (some (-1)))) = _
    rw [pick_rev]
  rw [rl]
  rfl
theorem lbGo_fst {N : Str → Str → Int} {G : Int → Int} : ∀ (fs : List Flt) (done : List (Flt × Int)), (lbGo N G done fs).map (·.1) = done.map (·.1) ++ fs
  | [], done => by simp [lbGo]
  | f :: fs, done => by
    unfold lbGo
    rw [lbGo_fst fs, List.map_append, List.append_assoc]; rfl
def ltT (N : Str → Str → Int) (G : Int → Int) (fs : List Flt) : List (Flt × Int) := (lbGo N G [] fs.reverse).reverse
theorem ltT_fst {N : Str → Str → Int} {G : Int → Int} {fs : List Flt} : (ltT N G fs).map (·.1) = fs := by
  unfold ltT
  rw [List.map_reverse, lbGo_fst]; simp
def idH (t : Int) : Int := t
section
variable {ks : List Str} {rs : List (List Int)} {fs : List Flt}
theorem end_is_ev (t : Int) : F_end_as_it_is [.int t] = M.pure (.int (idH t)) := rfl
theorem latest_of_ev (A : FOk ks rs fs) : F_latest_of [bookD ks rs, flD fs] = M.pure (timD (ltT (num ks rs) idH fs)) := by
  have le := A.F.le
  have eb := latest_by_ev (fs := fs) A.B (g := F_end_as_it_is) (G := idH) A.F.kd (by omega) end_is_ev
  unfold F_latest_of
  rw [ev_fnM, ev_retS, ev_callGE]
  show M.bind (M.bind (M.bind (M.pure [bookD ks rs, flD fs]) _) _) _ = _
  rw [ev_pure_bind, if_pos ⟨rfl, A.nofn⟩, eb, ev_noX_pure, ev_pure_bind, if_pos (tim_nofn _)]
  rfl
def latD (N : Str → Str → Int) (G0 : Flt → Int → Int) (G : Int → Int) (fs : List Flt) : D := if inT (ebGo N G0 [] fs) = true then .tup ((ltT N G fs).map fun p => D.int p.2) else .non
theorem latest_ev (A : FOk ks rs fs) : F_latest [bookD ks rs, flD fs] = M.pure (latD (num ks rs) idG idH fs) := by
  have ck := A.check
  have ht := earliest_of_ev A
  have lt := latest_of_ev A
  have ne := res_ne (A.ebn (N := num ks rs) (G := idG)) (by rw [A.ebl]; have := A.F.le; omega)
  unfold F_latest
  rw [ev_fnM]
  unfold latD
  cases q : inT (ebGo (num ks rs) idG [] fs)
  · rw [q] at ne
    simp [ck, ht, ne, ev_mkLst]
  · rw [q] at ne
    simp [ck, ht, ne, ev_mkLst, lt, tup_of_tim]
theorem check_time_ev {t : Int} (h0 : 0 ≤ t) (h1 : t ≤ 999) : F_check_time [.int t] = M.pure .non := by
  have tm : F_is_time [.int t] = M.pure (.bl true) := by
    unfold F_is_time
    rw [ev_fnM]
    have := number_ev (i := t) (lo := 0) (hi := 999) h0 h1
    simp [this]
  unfold F_check_time
  rw [ev_fnM]
  simp [tm]
/-! the law's own going never comes earlier -/
end
inductive All2 {α β : Type} (R : α → β → Prop) : List α → List β → Prop
  | nil : All2 R [] []
  | cons {x : α} {y : β} {xs : List α} {ys : List β} : R x y → All2 R xs ys → All2 R (x :: xs) (y :: ys)
section
theorem low_mono {N : Str → Str → Int} {f : Flt} : ∀ {d1 d2 : List (Flt × Int)} {m1 m2 : Int}, m1 ≤ m2 → All2 (fun p q => p.1 = q.1 ∧ p.2 ≤ q.2) d1 d2 → d1.foldl (fun m p => max m (p.2 + N p.1.kd f.kd)) m1 ≤ d2.foldl (fun m p => max m (p.2 + N p.1.kd f.kd)) m2 := by
  intro d1 d2 m1 m2 h F
  induction F generalizing m1 m2 with
  | nil => exact h
  | cons pq _ ih =>
    refine ih ?_
    dsimp only
    rw [pq.1]
    have := pq.2
    omega
theorem high_mono {N : Str → Str → Int} {f : Flt} : ∀ {d1 d2 : List (Flt × Int)} {m1 m2 : Int}, m1 ≤ m2 → All2 (fun p q => p.1 = q.1 ∧ p.2 ≤ q.2) d1 d2 → d1.foldl (fun m p => min m (p.2 - N f.kd p.1.kd)) m1 ≤ d2.foldl (fun m p => min m (p.2 - N f.kd p.1.kd)) m2 := by
  intro d1 d2 m1 m2 h F
  induction F generalizing m1 m2 with
  | nil => exact h
  | cons pq _ ih =>
    refine ih ?_
    dsimp only
    rw [pq.1]
    have := pq.2
    omega
theorem all2_snoc {α β : Type} {R : α → β → Prop} {xs : List α} {ys : List β} {x : α} {y : β} (h : All2 R xs ys) (r : R x y) : All2 R (xs ++ [x]) (ys ++ [y]) := by
  induction h with
  | nil => exact .cons r .nil
  | cons a _ ih => exact .cons a ih
theorem ebGo_le {N : Str → Str → Int} {G : Flt → Int → Int} (hG : ∀ f t, t ≤ G f t) : ∀ (fs : List Flt) (d1 d2 : List (Flt × Int)), All2 (fun p q => p.1 = q.1 ∧ p.2 ≤ q.2) d1 d2 → All2 (fun p q => p.1 = q.1 ∧ p.2 ≤ q.2) (ebGo N idG d1 fs) (ebGo N G d2 fs)
  | [], d1, d2, h => h
  | f :: fs, d1, d2, h => by
    unfold ebGo
    exact ebGo_le hG fs _ _ (all2_snoc h ⟨rfl, Int.le_trans (low_mono (Int.le_refl _) h) (hG _ _)⟩)
theorem lbGo_le {N : Str → Str → Int} {G : Int → Int} (hG : ∀ t, G t ≤ t) : ∀ (fs : List Flt) (d1 d2 : List (Flt × Int)), All2 (fun p q => p.1 = q.1 ∧ p.2 ≤ q.2) d1 d2 → All2 (fun p q => p.1 = q.1 ∧ p.2 ≤ q.2) (lbGo N G d1 fs) (lbGo N idH d2 fs)
  | [], d1, d2, h => h
  | f :: fs, d1, d2, h => by
    unfold lbGo
    exact lbGo_le hG fs _ _ (all2_snoc h ⟨rfl, Int.le_trans (hG _) (high_mono (Int.le_refl _) h)⟩)
theorem all2_rev {α β : Type} {R : α → β → Prop} {xs : List α} {ys : List β} (h : All2 R xs ys) : All2 R xs.reverse ys.reverse := by
  induction h with
  | nil => exact .nil
  | cons a _ ih => rw [List.reverse_cons, List.reverse_cons]; exact all2_snoc ih a
theorem inT_le {d1 d2 : List (Flt × Int)} (h : All2 (fun p q => p.1 = q.1 ∧ p.2 ≤ q.2) d1 d2) (h2 : inT d2 = true) : inT d1 = true := by
  unfold inT at h2 ⊢
  induction h with
  | nil => rfl
  | cons pq _ ih =>
    rw [List.all_cons, Bool.and_eq_true] at h2 ⊢
    refine ⟨?_, ih h2.2⟩
    have := of_decide_eq_true h2.1
    rw [pq.1]
    exact decide_eq_true (Int.le_trans pq.2 this)
end
end Fm

namespace Fm
open PySem PySem.Spec PyProof.Rows L2 Q
/-! ## what the laws' own goings share -/
theorem maxI_fold : ∀ (a : Int) (xs : List Int), maxI (a :: xs) = xs.foldl max a
  | a, [] => rfl
  | a, b :: r => by
    show max a (maxI (b :: r)) = r.foldl max (max a b)
    rw [maxI_fold b r]
    have : ∀ (r : List Int) (a b : Int), max a (r.foldl max b) = r.foldl max (max a b) := by
      intro r
      induction r with
      | nil => intro a b; rfl
      | cons c r ih => intro a b; rw [List.foldl_cons, List.foldl_cons, ih, Int.max_assoc]
    exact this r a b
theorem max_list {a : Int} {xs : List Int} : maxD [.lst ((a :: xs).map D.int)] = M.pure (.int (xs.foldl max a)) := by
  show (match intsD ((a :: xs).map D.int) with
    | some ns => if ns ≠ [] then M.pure (D.int (maxI ns)) else M.fail
    | none => M.fail) = _
  rw [intsD_map]
  dsimp only
  rw [if_pos (List.cons_ne_nil _ _), maxI_fold]
def atF {α : Type} (l : List α) (g : α → D) : D → D
  | .int j => (match l[j.toNat]? with
    | some p => g p
    | none => .non)
  | _ => .non
theorem atF_nat {α : Type} {l : List α} {g : α → D} {i : Nat} (h : i < l.length) : atF l g (.int (0 + (i : Nat))) = g l[i] := by
  show (match l[(0 + ((i : Nat) : Int)).toNat]? with | some p => g p | none => D.non) = g l[i]
  rw [show (0 + ((i : Nat) : Int)).toNat = i by omega, List.getElem?_eq_getElem h]
theorem map_range_get {α : Type} (l : List α) (g : α → D) : ((List.range l.length).map fun i => D.int (0 + (i : Nat))).map (atF l g) = l.map g := by
  rw [List.map_map]
  apply List.ext_getElem?
  intro i
  rw [List.getElem?_map, List.getElem?_map]
  by_cases h : i < l.length
  · rw [List.getElem?_range h, List.getElem?_eq_getElem h]
    show some (match l[(0 + ((i : Nat) : Int)).toNat]? with | some p => g p | none => D.non) = some (g l[i])
    rw [show (0 + ((i : Nat) : Int)).toNat = i by omega, List.getElem?_eq_getElem h]
  · rw [List.getElem?_eq_none_iff.mpr (by rw [List.length_range]; omega), List.getElem?_eq_none_iff.mpr (by omega)]; rfl
theorem ixL_nat {α : Type} {l : List α} {g : α → D} {i : Nat} (h : i < l.length) : ixX (.lst (l.map g)) (.int (0 + (i : Nat))) = M.pure (g l[i]) := by
  rw [ev_ixL (by omega) (by rw [List.length_map]; omega)]
  congr 1
  have : (l.map g)[(0 + ((i : Nat) : Int)).toNat]? = some (g l[i]) := by
    rw [show (0 + ((i : Nat) : Int)).toNat = i by omega, List.getElem?_map, List.getElem?_eq_getElem h]; rfl
  exact (List.getElem?_eq_some_iff.mp this).2
theorem ixT_nat {α : Type} {l : List α} {g : α → D} {i : Nat} (h : i < l.length) : ixX (.tup (l.map g)) (.int (0 + (i : Nat))) = M.pure (g l[i]) := by
  rw [ev_ixT (by omega) (by rw [List.length_map]; omega)]
  congr 1
  have : (l.map g)[(0 + ((i : Nat) : Int)).toNat]? = some (g l[i]) := by
    rw [show (0 + ((i : Nat) : Int)).toNat = i by omega, List.getElem?_map, List.getElem?_eq_getElem h]; rfl
  exact (List.getElem?_eq_some_iff.mp this).2
theorem getV_w {ρ : Q.Env} {i j : Nat} {x : Option D} (h : i ≠ j) : getV ((wipeE ρ [j]).set j x) i = getV ρ i := by
  unfold getV
  rw [List.getElem?_set_ne (fun e => h e.symm)]
  have : (wipeE ρ [j])[i]? = ρ[i]? := List.getElem?_set_ne (fun e => h e.symm)
  rw [this]
theorem getV_j {ρ : Q.Env} {j : Nat} {x : D} (h : j < ρ.length) : getV ((wipeE ρ [j]).set j (some x)) j = M.pure x := by
  unfold getV
  rw [List.getElem?_set_self (by rw [wipeE_length]; exact h)]
theorem tupOf {ρ : Q.Env} {fa fb : Q.Env → M D} {x y : D} (ha : fa ρ = M.pure x) (hb : fb ρ = M.pure y) : tupE (consA fa (consA fb nilA)) ρ = M.pure (.tup [x, y]) := by
  rw [ev_tupE, ev_consA, ha, ev_pure_bind, ev_consA, hb, ev_pure_bind, ev_nilA, ev_pure_bind, ev_pure_bind, ev_pure_bind, ev_mkTup (by simp)]
/-- the least time behind all ahead, as the laws write it -/
theorem low_gen {ks : List Str} {rs : List (List Int)} (B : BookOk ks rs) {ρ : Q.Env} {a b c k fr n j : Nat} {d : List (Flt × Int)} {f : Flt} {rest : List Flt} {fd : D}
    (hj : j < ρ.length) (na : a ≠ j) (nb : b ≠ j) (nc : c ≠ j) (nk : k ≠ j) (hfd : fd = timD d ∨ fd = .tup (d.map fun p => D.int p.2))
    (ga : getV ρ a = M.pure fd) (gb : getV ρ b = M.pure (flD (d.map (·.1) ++ rest))) (gc : getV ρ c = M.pure (tabD ks rs)) (gk : getV ρ k = M.pure (.str f.kd)) (gf : getV ρ fr = M.pure (.int f.fr)) (gn : getV ρ n = M.pure (.int (d.length : Nat)))
    (hd : ∀ p ∈ d, p.1.kd ∈ ks) (hf : f.kd ∈ ks) (hl : d.length ≤ 100) :
    argE maxD (consA (bin2 addD (lstE (consA (vE fr) nilA)) (lcE [j] (argE rng1D (consA (vE n) nilA)) (gNm j) yesT (bin2 addD (bin2 ixX (vE a) (vE j)) (bin2 ixX (vE c) (tupE (consA (bin2 ixX (bin2 ixX (vE b) (vE j)) (iE 1)) (consA (vE k) nilA))))))) nilA) ρ = M.pure (.int (low (num ks rs) d f)) := by
  have lc : lcE [j] (argE rng1D (consA (vE n) nilA)) (gNm j) yesT (bin2 addD (bin2 ixX (vE a) (vE j)) (bin2 ixX (vE c) (tupE (consA (bin2 ixX (bin2 ixX (vE b) (vE j)) (iE 1)) (consA (vE k) nilA))))) ρ = M.pure (.lst (d.map fun p => D.int (p.2 + num ks rs p.1.kd f.kd))) := by
    rw [lcE_pure (items := (List.range d.length).map fun i => D.int (0 + (i : Nat))) (T := fun _ => true) (F := atF d fun p => D.int (p.2 + num ks rs p.1.kd f.kd)) (ev_argRng gn (by omega)) (by rw [List.length_map, List.length_range, sizeLine_eq]; omega) (fun _ _ => rfl) fun x hx _ => ?_]
    · rw [List.filter_eq_self.mpr (fun _ _ => rfl), map_range_get d fun p => D.int (p.2 + num ks rs p.1.kd f.kd)]
    · obtain ⟨i, hi, rfl⟩ := List.mem_map.mp hx
      have hi' := List.mem_range.mp hi
      have e6 : ixX fd (.int (0 + (i : Nat))) = M.pure (.int d[i].2) := by
        rcases hfd with rfl | rfl
        · exact ixL_nat (g := fun p : Flt × Int => D.int p.2) hi'
        · exact ixT_nat (g := fun p : Flt × Int => D.int p.2) hi'
      have e1 : ixX (flD (d.map (·.1) ++ rest)) (.int (0 + (i : Nat))) = M.pure d[i].1.d := by
        have := ixT_nat (l := d.map (·.1) ++ rest) (g := Flt.d) (i := i) (by rw [List.length_append, List.length_map]; omega)
        rw [List.getElem_append_left (by rw [List.length_map]; exact hi'), List.getElem_map] at this
        exact this
      have e11 : ixX d[i].1.d (.int 1) = M.pure (.str d[i].1.kd) := rfl
      have nv := (num_ev B (hd d[i] (List.getElem_mem _)) hf).1
      unfold key at nv
      rw [atF_nat hi', ev_bin2, ev_bin2, ev_bin2]
      simp only [ev_vE', getV_w na, getV_w nc, getV_j hj, ga, gc, ev_pure_bind, e6]
      rw [tupOf (x := .str d[i].1.kd) (y := .str f.kd) (by
        rw [ev_bin2, ev_bin2]
        simp only [ev_vE', getV_w nb, getV_j hj, gb, ev_pure_bind, e1, ev_iE, e11]) (by rw [ev_vE', getV_w nk, gk]), ev_pure_bind, nv, ev_pure_bind, ev_addI]
  have ad : addD (.lst [.int f.fr]) (.lst (d.map fun p => D.int (p.2 + num ks rs p.1.kd f.kd))) = M.pure (.lst ((f.fr :: d.map fun p => p.2 + num ks rs p.1.kd f.kd).map D.int)) := by
    rw [addL (by rw [List.length_map]; show 1 + d.length ≤ 1000; omega), List.map_cons, List.map_map]; rfl
  have e0 : lstE (consA (vE fr) nilA) ρ = M.pure (.lst [.int f.fr]) := by
    rw [ev_lstE, ev_consA, ev_vE', gf, ev_pure_bind, ev_nilA, ev_pure_bind, ev_pure_bind, ev_mkLst (by simp)]
  rw [ev_argE, ev_consA, ev_bin2, lc, e0, ev_pure_bind, ev_pure_bind, ad, ev_pure_bind, ev_nilA, ev_pure_bind, ev_pure_bind, max_list]
  congr 2
  unfold low
  rw [List.foldl_map]
theorem last_tup {xs : List D} (a : D) : ixX (.tup (xs ++ [a])) (.int (-1)) = M.pure a := by
  show (match L2.atI (xs ++ [a]) (-1) with | some d => M.pure d | none => M.fail) = _
  have : L2.atI (xs ++ [a]) (-1) = some a := by
    unfold L2.atI ixN
    rw [List.length_append, List.length_singleton, if_neg (by omega), if_pos (by omega)]
    have e : (-1 + ((xs.length + 1 : Nat) : Int)).toNat = xs.length := by omega
    simp only [Option.bind_some]
    rw [e, List.getElem?_append_right (by simp)]
    simp
  rw [this]
/-! one after another, as many as there are -/
theorem w_none {g : List D → M D} {ks : List D} : ∀ (ys : List D) (i : Nat) (x3 x4 : Option D), ks.drop i = ys → (∀ j d, ks[j]? = some d → g [d, .tup (ks.take j)] = M.pure (.bl true)) →
    ∃ y3 y4, forL (gTup 2 (gCons (gNm 3) (gCons (gNm 4) gNil))) (ifS' (orT (andT (tst (bin2 notND (vE 1) noE)) (tst (bin2 geD (vE 3) (vE 1)))) (notT (truT (callPE 2 2 g (consA (vE 4) (consA (slE (vE 0) npE (partE (vE 3))) nilA)))))) (retS (lstE (consA (vE 3) nilA))) nilS) (enF i ys) [some (.tup ks), some .non, some (.fn 0), x3, x4] = M.pure (.nx [some (.tup ks), some .non, some (.fn 0), y3, y4])
  | [], i, x3, x4, _, _ => ⟨x3, x4, rfl⟩
  | y :: ys, i, x3, x4, hd, hg => by
    have rj : ks[i]? = some y := by
      have q : (ks.drop i)[0]? = some y := by rw [hd]; rfl
      rwa [List.getElem?_drop, Nat.add_zero] at q
    have rd : ks.drop (i + 1) = ys := by
      have q : (ks.drop i).drop 1 = ys := by rw [hd]; rfl
      rwa [List.drop_drop] at q
    have hi : i < ks.length := (List.getElem?_eq_some_iff.mp rj).1
    obtain ⟨y3, y4, ih⟩ := w_none ys (i + 1) (some (.int (i : Nat))) (some y) rd hg
    refine ⟨y3, y4, ?_⟩
    have cut : cutD (.tup ks) none (some ((i : Nat) : Int)) = M.pure (.tup (ks.take i)) := by
      show M.pure (D.tup (cutL ks none (some ((i : Nat) : Int)))) = _
      rw [cut_take _ _ (by omega)]
    have gt : noX ((gTup 2 (gCons (gNm 3) (gCons (gNm 4) gNil))) (.tup [.int (i : Nat), y]) [some (.tup ks), some .non, some (.fn 0), x3, x4]) = M.pure [some (.tup ks), some .non, some (.fn 0), some (.int (i : Nat)), some y] := rfl
    have e := hg i y rj
    unfold enF
    have nn : notND .non .non = M.pure (.bl false) := rfl
    rw [ev_forCons, gt, ev_pure_bind]
    simp [nn, cut, e]
    exact ih
theorem wrong_none_ev {g : List D → M D} {ks : List D} (hg : ∀ j d, ks[j]? = some d → g [d, .tup (ks.take j)] = M.pure (.bl true)) : F_wrong_at g [.tup ks, .non] = M.pure (.lst []) := by
  obtain ⟨y3, y4, e⟩ := w_none ks 0 none none rfl hg
  unfold F_wrong_at
  rw [ev_fnM]
  simp [ev_mkLst, enumL_enF, e]
/-! dicts of numbers -/
def hasK (acc : List (D × D)) (t : Int) : Bool := acc.any fun kv => sameKey kv.1 (.int t)
theorem lkp_has {t : Int} : ∀ acc : List (D × D), (lkpD acc (.int t)).isSome = hasK acc t
  | [] => rfl
  | (a, b) :: r => by
    unfold lkpD hasK
    rw [List.any_cons]
    by_cases h : sameKey a (.int t) = true
    · rw [if_pos h]
      show true = _
      rw [show sameKey ((a, b) : D × D).1 (.int t) = true from h]; rfl
    · rw [if_neg h, lkp_has r]
      have : sameKey ((a, b) : D × D).1 (.int t) = false := by simpa using h
      rw [this, Bool.false_or]; rfl
theorem has_put {a t : Int} {v : D} {acc : List (D × D)} : hasK (putD acc (.int a) v) t = (decide (a = t) || hasK acc t) := by
  unfold putD
  by_cases h : (acc.any fun kv => sameKey kv.1 (.int a)) = true
  · rw [if_pos h]
    have e : hasK (acc.map fun kv => if sameKey kv.1 (.int a) = true then (kv.1, v) else kv) t = hasK acc t := by
      unfold hasK
      rw [List.any_map]
      congr 1
      funext kv
      show sameKey (if sameKey kv.1 (.int a) = true then (kv.1, v) else kv).1 (.int t) = _
      split <;> rfl
    rw [e]
    by_cases q : a = t
    · subst q
      have : hasK acc a = true := h
      rw [this, Bool.or_true]
    · rw [decide_eq_false q, Bool.false_or]
  · rw [if_neg h]
    unfold hasK
    rw [List.any_append]
    have : sameKey (.int a) (.int t) = decide (a = t) := by simp [sameKey]
    simp [this, Bool.or_comm]
theorem in_dct {t : Int} {acc : List (D × D)} : inM false (.int t) (.dct false acc) = M.pure (.bl (hasK acc t)) := by
  have e : inP (.int t) (.dct false acc) = some (hasK acc t) := by
    show (if keyIn false (.int t) = true then some (lkpD acc (.int t)).isSome else none) = _
    rw [if_pos (show keyIn false (.int t) = true from rfl), lkp_has]
  unfold inM
  rw [e]; rfl
theorem put_int {acc : List (D × D)} {a : Int} {v : D} (h : acc.length < 10000) : setAt (.dct false acc) (.int a) v = some (.dct false (putD acc (.int a) v)) := if_pos ⟨rfl, by rw [sizeLine_eq]; omega⟩
/-! the same thing twice -/
theorem eqvL_refl : ∀ {ds : List D}, (∀ d ∈ ds, eqvD d d = true) → PyData.eqvAll (D.pyL ds) (D.pyL ds) = true
  | [], _ => rfl
  | d :: ds, h => by
    show (PyData.eqv d.py d.py && PyData.eqvAll (D.pyL ds) (D.pyL ds)) = true
    rw [eqvL_refl fun x hx => h x (List.mem_cons_of_mem _ hx), Bool.and_true]
    exact h d List.mem_cons_self
theorem eqv_refl {L n : Nat} {d : D} (h : Pl L n d) : eqvD d d = true := by
  induction h with
  | non => rfl
  | bl b => cases b <;> rfl
  | int i => show (PyData.eqv (.int i) (.int i)) = true; simp [PyData.eqv]
  | str h k => rename_i n s; show (PyData.eqv (.str s) (.str s)) = true; simp [PyData.eqv]
  | tup _ _ ih => exact eqvL_refl ih
  | lst _ _ ih => exact eqvL_refl ih
theorem ne_same {L n : Nat} {d : D} (h : Pl L n d) (hn : n ≤ 64) (hs : ∀ a, d ≠ .str a) : neD d d = M.pure (.bl false) := by
  rw [ev_ne (h.sh hn) (h.sh hn) hs, eqv_refl h]; rfl
theorem ne_str {s : Str} : neD (.str s) (.str s) = M.pure (.bl false) := by
  show M.pure (D.bl (!decide (s = s))) = _
  simp
theorem fold_ge {N : Str → Str → Int} {k : Str} : ∀ (a : List (Flt × Int)) (m : Int), m ≤ a.foldl (fun m p => max m (p.2 + N p.1.kd k)) m
  | [], m => Int.le_refl _
  | p :: a, m => by
    rw [List.foldl_cons]
    exact Int.le_trans (Int.le_max_left _ _) (fold_ge a _)
theorem eb_ge {N : Str → Str → Int} {G : Flt → Int → Int} (hG : ∀ f t, t ≤ G f t) : ∀ (fs : List Flt) (e : List (Flt × Int)), (∀ p ∈ e, p.1.fr ≤ p.2) → ∀ p ∈ ebGo N G e fs, p.1.fr ≤ p.2
  | [], e, h => h
  | f :: fs, e, h => eb_ge hG fs _ fun p hp => by
    rcases List.mem_append.mp hp with q | q
    · exact h p q
    · rw [List.mem_singleton.mp q]
      exact Int.le_trans (fold_ge e f.fr) (hG f _)
theorem res_sh {ks : List Str} {rs : List (List Int)} {fs : List Flt} (A : FOk ks rs fs) {N : Str → Str → Int} {G : Flt → Int → Int} (hG : ∀ f t, t ≤ G f t) : Sh 12 1 (resD (ebGo N G [] fs)) := by
  unfold resD
  by_cases q : inT (ebGo N G [] fs) = true
  · rw [if_pos q]
    refine .tup (by rw [List.length_map, A.ebl]; have := A.F.le; omega) fun d hd => ?_
    obtain ⟨p, hp, rfl⟩ := List.mem_map.mp hd
    have h1 := eb_ge hG fs [] (fun _ h => nomatch h) p hp
    have h2 : p.2 ≤ p.1.to := of_decide_eq_true (List.all_eq_true.mp q p hp)
    have hm : p.1 ∈ fs := by
      have := List.mem_map_of_mem (f := (·.1)) hp
      rw [ebGo_fst] at this
      exact this
    have h3 := A.F.fr p.1 hm
    exact .int (by omega)
  · rw [if_neg q]; exact .non
theorem res_nostr (e : List (Flt × Int)) : ∀ a, resD e ≠ .str a := fun a z => by
  unfold resD at z
  split at z <;> cases z
theorem rep_one {L n : Nat} {x : D} (h : Sh L n x) (hs : ∀ a, x ≠ .str a) (hn : n ≤ 60) (hw : wtB L n ≤ 2 ^ 20) : reprD [x] = M.pure (.str x.py.shown) := by
  refine ev_repr ?_
  cases h with
  | non => rfl
  | bl b => rfl
  | @int n i h =>
    refine decide_eq_true ?_
    rcases Nat.eq_zero_or_pos i.natAbs with z | z
    · rw [z]; decide
    · have : i.natAbs.log2 < 41 := (Nat.log2_lt (by omega)).mpr (by omega)
      omega
  | str => exact absurd rfl (hs _)
  | tup h1 h2 => exact Sh.rep (.tup h1 h2) ⟨_, .inl rfl⟩ hn hw
  | lst h1 h2 => exact Sh.rep (.lst h1 h2) ⟨_, .inr rfl⟩ hn hw
theorem eb_pre {N : Str → Str → Int} {G : Flt → Int → Int} : ∀ (fs : List Flt) (d : List (Flt × Int)), ∃ t, ebGo N G d fs = d ++ t
  | [], d => ⟨[], by simp [ebGo]⟩
  | f :: fs, d => by
    obtain ⟨t, e⟩ := eb_pre (N := N) (G := G) fs (d ++ [(f, G f (low N d f))])
    refine ⟨(f, G f (low N d f)) :: t, ?_⟩
    show ebGo N G (d ++ [(f, G f (low N d f))]) fs = _
    rw [e, List.append_assoc]; rfl
theorem inT_app {a b : List (Flt × Int)} : inT (a ++ b) = (inT a && inT b) := by
  unfold inT
  rw [List.all_append]
theorem all2_zip {α β : Type} {R : α → β → Prop} {xs : List α} {ys : List β} (h : All2 R xs ys) : ∀ p ∈ xs.zip ys, R p.1 p.2 := by
  induction h with
  | nil => exact fun _ h => nomatch h
  | cons r _ ih =>
    intro p hp
    rcases List.mem_cons.mp hp with rfl | q
    · exact r
    · exact ih p q
end Fm

namespace K56
open PySem PySem.Spec PyProof.Rows L2 Q
abbrev L := PySem.Challenge.rw_runwayrows_k56_whole_open_times
def top (i : Nat) : Stmt := L.prog.main.body.getD i (.Pass ⟨0, 0, 0, 0⟩)
def z_WORDS : List Str := ["add", "ahead", "all", "at", "behind", "book", "by", "close", "drop", "end", "ends", "flight", "from", "kinds", "land", "late", "least", "move", "none", "of", "open", "row", "show", "time", "times", "to", "with"]
def d_is_whole : List D → M D := fnM 1 (retS (andE (isiE .int (vE 0)) (notE (isiE .bl (vE 0)))))
def d_is_word : List D → M D := fnM 2 (retS (andE (isiE .str (vE 0)) (andE (bin2 neD (vE 0) (sE "")) (argE allD (consA (lcE [1] (itE (vE 0)) (gNm 1) yesT (bin2 (inM false) (vE 1) (sE "abcdefghijklmnopqrstuvwxyz"))) nilA)))))
def d_is_tuple_of : List D → M D := fnM 2 (retS (andE (isiE .tup (vE 0)) (bin2 eqD (argE lenD (consA (vE 0) nilA)) (vE 1))))
def d_is_one_of : List D → M D := fnM 2 (retS (andE (isiE .str (vE 0)) (bin2 (inM false) (vE 0) (vE 1))))
def d_wrong_at (g : List D → M D) : List D → M D := fun ds => fnM 5 (seqS (ifS' (notT (truT (isiE .tup (vE 0)))) (retS (lstE (consA noE nilA))) nilS)
  (seqS (forS (argE enumD (consA (vE 0) nilA)) (gTup 2 (gCons (gNm 3) (gCons (gNm 4) gNil))) (ifS' (orT (andT (tst (bin2 notND (vE 1) noE)) (tst (bin2 geD (vE 3) (vE 1)))) (notT (truT (callPE 2 2 g (consA (vE 4) (consA (slE (vE 0) npE (partE (vE 3))) nilA)))))) (retS (lstE (consA (vE 3) nilA))) nilS))
  (retS (lstE nilA)))) (ds ++ [.fn 0])
def d_numbers_of : List D → M D := fnM 5 (retS (dcE2 [1, 2, 3, 4] [3, 4] true (argE enumD (consA (bin2 ixX (vE 0) (iE 0)) nilA)) (gTup 2 (gCons (gNm 1) (gCons (gNm 2) gNil))) yesT (argE enumD (consA (bin2 ixX (vE 0) (iE 0)) nilA)) (gTup 2 (gCons (gNm 3) (gCons (gNm 4) gNil))) yesT (tupE (consA (vE 2) (consA (vE 4) nilA))) (bin2 ixX (bin2 ixX (bin2 ixX (vE 0) (iE 1)) (vE 1)) (vE 3))))
def d_as_it_is : List D → M D := fnM 2 (retS (ifE (tst (bin2 neD (vE 0) (tupE nilA))) (vE 1) (iE 0)))
def d_end_as_it_is : List D → M D := fnM 1 (retS (vE 0))
def d_are_in_time : List D → M D := fnM 4 (retS (argE allD (consA (lcE [2, 3] (argE zipD (consA (vE 0) (consA (vE 1) nilA))) (gTup 2 (gCons (gNm 2) (gCons (gNm 3) gNil))) yesT (bin2 leD (vE 3) (bin2 ixX (vE 2) (iE 3)))) nilA)))
def d_open_from : List D → M D := fnM 4 (seqS (forS (itE (vE 0)) (gTup 2 (gCons (gNm 2) (gCons (gNm 3) gNil))) (ifS' (tst (chainE leD leD (vE 2) (vE 1) (vE 3))) (retS (bin2 addD (vE 3) (iE 1))) nilS))
  (retS (vE 1)))
def d_open_until : List D → M D := fnM 4 (seqS (forS (itE (vE 0)) (gTup 2 (gCons (gNm 2) (gCons (gNm 3) gNil))) (ifS' (tst (chainE leD leD (vE 2) (vE 1) (vE 3))) (retS (bin2 subD (vE 2) (iE 1))) nilS))
  (retS (vE 1)))
def d__law_well : List D → M D := fnN 5 (seqN (setS 2 (ifE (tst (bin2 ltD (vE 1) (argE lenD (consA (vE 0) nilA)))) (argE intD (consA (bin2 ixX (vE 0) (vE 1)) nilA)) (bin2 addD (bin2 mulD (iE 8311) (vE 1)) (iE 1301))))
  (seqN (setKS 3 (bin2 addD (iE 30011) (bin2 mulD (iE 2903) (vE 1))))
  (seqN (forS (itE (bin2 addD (slE (vE 0) npE (partE (iE 7))) (lstE (consA (vE 2) nilA)))) (gNm 4) (setKS 3 (bin2 modD (argE intD (consA (bin2 addD (bin2 addD (bin2 mulD (vE 3) (iE 40009)) (bin2 modD (argE intD (consA (vE 4) nilA)) (iE 2147480009))) (iE 73)) nilA)) (iE 2147480009))))
  (retS (lstE (consA (ifE (orT (tst (bin2 ltD (vE 2) (iE 0))) (tst (bin2 geD (vE 2) (bin2 powD (iE 10) (iE 15))))) (argE absD (consA (vE 2) nilA)) (iE 0)) (consA (vE 3) (consA (iE 0) nilA))))))))
def d__law_dip : List D → M D := fnM 3 (seqS (ifS' (tst (bin2 gtD (bin2 ixX (vE 0) (iE 0)) (iE 0))) (seqS (asgS (argE divmodD (consA (bin2 ixX (vE 0) (iE 0)) (consA (vE 1) nilA))) (gTup 2 (gCons (gPutW 0 (iE 0)) (gCons (gNm 2) gNil))))
  (retS (vE 2))) nilS)
  (seqS (putWS 0 (bin2 addD (bin2 ixX (vE 0) (iE 2)) (iE 1)) (iE 2))
  (seqS (putWS 0 (bin2 modD (argE intD (consA (bin2 addD (bin2 addD (bin2 mulD (bin2 ixX (vE 0) (iE 1)) (iE 48271)) (bin2 mulD (iE 7919) (bin2 ixX (vE 0) (iE 2)))) (iE 83)) nilA)) (iE 2147480009)) (iE 1))
  (retS (bin2 modD (argE intD (consA (bin2 divD (bin2 ixX (vE 0) (iE 1)) (iE 163)) nilA)) (vE 1))))))
def d__law_turns : List D → M D := fnM 1 (retS (mpE (argE maxD (consA (iE 2) (consA (argE minD (consA (argE lenD (consA (vE 0) nilA)) (consA (iE 3) nilA))) nilA))) (rg1M .lst)))
def d__law_table : List D → M D := fnM 6 (seqS (setS 1 (fun _ => M.pure (.dct true [])))
  (seqS (forS (argE zipD (consA (bin2 ixX (vE 0) (iE 0)) (consA (bin2 ixX (vE 0) (iE 1)) nilA))) (gTup 2 (gCons (gNm 2) (gCons (gNm 3) gNil))) (forS (argE zipD (consA (bin2 ixX (vE 0) (iE 0)) (consA (vE 3) nilA))) (gTup 2 (gCons (gNm 4) (gCons (gNm 5) gNil))) (putS 1 (vE 5) (tupE (consA (vE 2) (consA (vE 4) nilA))))))
  (retS (vE 1))))
def d__law_free : List D → M D := fnM 3 (seqS (setS 2 (vE 1))
  (seqS (whileL (tst (bin2 (inM false) (vE 2) (vE 0))) (setKS 2 (bin2 addD (vE 2) (iE 1))) 2000)
  (retS (vE 2))))
def d_is_number : List D → M D := fnM 3 (seqS (ifS' (orT (notT (truT (argN 1 d_is_whole (consA (vE 0) nilA)))) (andT (tst (bin2 notND (vE 1) noE)) (tst (bin2 ltD (vE 0) (vE 1))))) (retS (bE false)) nilS)
  (retS (orE (bin2 isND (vE 2) noE) (bin2 leD (vE 0) (vE 2)))))
def d_is_name : List D → M D := fnM 1 (retS (andE (argN 1 d_is_word (consA (vE 0) nilA)) (andE (bin2 leD (argE lenD (consA (vE 0) nilA)) (iE 8)) (bin2 (inM true) (vE 0) (fun _ => M.pure (.ktp (z_WORDS.map D.str)))))))
def d_wrong_from_one (g : List D → M D) : List D → M D := fun ds => fnM 3 (retS (ifE (andT (truT (isiE .tup (vE 0))) (tst (bin2 eqD (vE 0) (tupE nilA)))) (lstE (consA noE nilA)) (argFE 3 (d_wrong_at g) (consA (vE 0) (consA (vE 1) (consA (vE 2) nilA)))))) (ds ++ [.fn 0])
def d_earliest_by (g : List D → M D) : List D → M D := fun ds => fnM 9 (seqS (parS2 4 5 (consA (argN 1 d_numbers_of (consA (vE 0) nilA)) (consA (lstE nilA) nilA)))
  (seqS (forS (itE (vE 1)) (gNm 3) (seqS (setS 6 (bin2 ixX (vE 3) (iE 2)))
  (seqS (foldS 6 [7, 8] (argE zipD (consA (vE 1) (consA (vE 5) nilA))) (gTup 2 (gCons (gNm 7) (gCons (gNm 8) gNil))) (argE maxD (consA (vE 6) (consA (bin2 addD (vE 8) (bin2 ixX (vE 4) (tupE (consA (bin2 ixX (vE 7) (iE 1)) (consA (bin2 ixX (vE 3) (iE 1)) nilA))))) nilA))))
  (mutS 5 appM (consA (callPE 2 2 g (consA (vE 3) (consA (vE 6) nilA))) nilA)))))
  (retS (vE 5)))) (ds ++ [.fn 0])
def d_latest_by (g : List D → M D) : List D → M D := fun ds => fnM 9 (seqS (parS2 4 5 (consA (argN 1 d_numbers_of (consA (vE 0) nilA)) (consA (lstE nilA) nilA)))
  (seqS (forS (itE (fun ρ => M.bind ((vE 1) ρ) fun d => M.bind (M.pure none) fun l => revA d l)) (gNm 3) (seqS (setS 6 (bin2 ixX (vE 3) (iE 3)))
  (seqS (foldS 6 [7, 8] (argE zipD (consA (fun ρ => M.bind ((vE 1) ρ) fun d => M.bind (M.pure none) fun l => revA d l) (consA (vE 5) nilA))) (gTup 2 (gCons (gNm 7) (gCons (gNm 8) gNil))) (argE minD (consA (vE 6) (consA (bin2 subD (vE 8) (bin2 ixX (vE 4) (tupE (consA (bin2 ixX (vE 3) (iE 1)) (consA (bin2 ixX (vE 7) (iE 1)) nilA))))) nilA))))
  (mutS 5 appM (consA (callPE 2 1 g (consA (vE 6) nilA)) nilA)))))
  (retS (fun ρ => M.bind ((vE 5) ρ) fun d => M.bind (M.pure none) fun l => revA d l)))) (ds ++ [.fn 0])
def d__law_one : List D → M D := fnM 2 (retS (bin2 ixX (vE 1) (argN 2 d__law_dip (consA (vE 0) (consA (argE lenD (consA (vE 1) nilA)) nilA)))))
def d__law_shuffled : List D → M D := fnM 5 (seqS (parS2 3 4 (consA (argE listA (consA (vE 1) nilA)) (consA (lstE nilA) nilA)))
  (seqS (forS (argE rng1D (consA (argE lenD (consA (vE 3) nilA)) nilA)) (gNm 2) (appPopS 4 3 (argN 2 d__law_dip (consA (vE 0) (consA (mpE (vE 3) lenM) nilA)))))
  (retS (argE tupleD (consA (vE 4) nilA)))))
def d_is_line : List D → M D := fnM 3 (retS (andE (argN 2 d_is_tuple_of (consA (vE 0) (consA (vE 1) nilA))) (argE allD (consA (lcE [2] (itE (vE 0)) (gNm 2) yesT (argN 3 d_is_number (consA (vE 2) (consA (iE 1) (consA (iE 9) nilA))))) nilA))))
def d_is_time : List D → M D := fnM 1 (retS (argN 3 d_is_number (consA (vE 0) (consA (iE 0) (consA (iE 999) nilA)))))
def d__law_words : List D → M D := fnM 11 (seqS (parS2 4 5 (consA (sE "abcdefghijklmnopqrstuvwxyz") (consA (lstE nilA) nilA)))
  (seqS (setS 2 (lstE (consA (sE "add") (consA (sE "ahead") (consA (sE "all") (consA (sE "at") (consA (sE "behind") (consA (sE "book") (consA (sE "by") (consA (sE "close") (consA (sE "drop") (consA (sE "end") (consA (sE "ends") (consA (sE "flight") (consA (sE "from") nilA)))))))))))))))
  (seqS (setS 2 (bin2 addD (vE 2) (lstE (consA (sE "kinds") (consA (sE "land") (consA (sE "late") (consA (sE "least") (consA (sE "move") (consA (sE "none") (consA (sE "of") (consA (sE "open") (consA (sE "row") (consA (sE "show") (consA (sE "time") (consA (sE "times") nilA)))))))))))))))
  (seqS (setS 2 (bin2 addD (vE 2) (lstE (consA (sE "to") (consA (sE "with") nilA)))))
  (seqS (forS (argE rng1D (consA (vE 1) nilA)) (gNm 3) (seqS (setS 6 (joinE (sE "") (consA (lcE [8] (argE rng1D (consA (bin2 addD (iE 1) (argN 2 d__law_dip (consA (vE 0) (consA (argN 2 d__law_one (consA (vE 0) (consA (lstE (consA (iE 2) (consA (iE 3) (consA (iE 8) nilA)))) nilA))) nilA)))) nilA)) (gNm 8) yesT (argN 2 d__law_one (consA (vE 0) (consA (vE 4) nilA)))) nilA)))
  (seqS (setS 7 (bin2 addD (bin2 addD (lstE (consA (vE 6) nilA)) (lcE [9] (itE (vE 4)) (gNm 9) yesT (bin2 addD (bin2 addD (slE (vE 6) npE (partE (iE 6))) (vE 9)) (sE "q")))) (lcE [9] (itE (vE 4)) (gNm 9) yesT (bin2 addD (bin2 addD (slE (vE 6) npE (partE (iE 6))) (vE 9)) (sE "z")))))
  (mutKS 5 appM (consA (bin2 ixX (lcE [10] (itE (vE 7)) (gNm 10) (tst (bin2 (inM true) (vE 10) (bin2 addD (vE 5) (vE 2)))) (vE 10)) (iE 0)) nilA)))))
  (retS (argE tupleD (consA (argE sortSM (consA (vE 5) nilA)) nilA))))))))
def d__law_closings : List D → M D := fnM 6 (seqS (parS2 3 4 (consA (lstE nilA) (consA (argN 2 d__law_dip (consA (vE 0) (consA (bin2 addD (vE 1) (iE 1)) nilA))) nilA)))
  (seqS (forS (argE rng1D (consA (argN 2 d__law_dip (consA (vE 0) (consA (iE 4) nilA))) nilA)) (gNm 2) (seqS (setS 5 (bin2 addD (vE 4) (argN 2 d__law_dip (consA (vE 0) (consA (argN 2 d__law_one (consA (vE 0) (consA (lstE (consA (iE 1) (consA (iE 3) (consA (bin2 addD (bin2 divD (vE 1) (iE 2)) (iE 1)) nilA)))) nilA))) nilA)))))
  (ifS' (tst (bin2 leD (vE 5) (vE 1))) (seqS (mutS 3 appM (consA (tupE (consA (vE 4) (consA (vE 5) nilA))) nilA))
  (setKS 4 (bin2 addD (bin2 addD (vE 5) (iE 2)) (argN 2 d__law_dip (consA (vE 0) (consA (iE 4) nilA)))))) nilS)))
  (retS (argE tupleD (consA (vE 3) nilA)))))
def d_is_flight : List D → M D := fnM 2 (seqS (ifS' (orT (notT (truT (argN 2 d_is_tuple_of (consA (vE 1) (consA (iE 4) nilA))))) (orT (notT (truT (argN 1 d_is_name (consA (bin2 ixX (vE 1) (iE 0)) nilA)))) (notT (truT (argN 2 d_is_one_of (consA (bin2 ixX (vE 1) (iE 1)) (consA (vE 0) nilA))))))) (retS (bE false)) nilS)
  (retS (andE (argN 1 d_is_time (consA (bin2 ixX (vE 1) (iE 2)) nilA)) (argN 3 d_is_number (consA (bin2 ixX (vE 1) (iE 3)) (consA (bin2 ixX (vE 1) (iE 2)) (consA (iE 999) nilA)))))))
def d_earliest_of : List D → M D := fnM 3 (seqS (setS 2 (callGE 3 d_earliest_by d_as_it_is (consA (vE 0) (consA (vE 1) nilA))))
  (retS (ifE (truT (argN 2 d_are_in_time (consA (vE 1) (consA (vE 2) nilA)))) (vE 2) (lstE nilA))))
def d_latest_of : List D → M D := fnM 2 (retS (callGE 3 d_latest_by d_end_as_it_is (consA (vE 0) (consA (vE 1) nilA))))
def d_check_time : List D → M D := fnM 1 (ifS' (notT (truT (argN 1 d_is_time (consA (vE 0) nilA)))) deadS nilS)
def d_is_closing : List D → M D := fnM 3 (seqS (ifS' (orT (notT (truT (argN 2 d_is_tuple_of (consA (vE 0) (consA (iE 2) nilA))))) (orT (notT (truT (argE allD (consA (lcE [2] (itE (vE 0)) (gNm 2) yesT (argN 1 d_is_time (consA (vE 2) nilA))) nilA)))) (tst (bin2 ltD (bin2 ixX (vE 0) (iE 1)) (bin2 ixX (vE 0) (iE 0)))))) (retS (bE false)) nilS)
  (retS (orE (bin2 eqD (vE 1) (tupE nilA)) (bin2 ltD (bin2 addD (bin2 ixX (bin2 ixX (vE 1) (ngE (iE 1))) (iE 1)) (iE 1)) (bin2 ixX (vE 0) (iE 0))))))
def d__law_book : List D → M D := fnM 6 (seqS (setS 2 (argN 2 d__law_words (consA (vE 0) (consA (bin2 addD (iE 1) (argN 2 d__law_dip (consA (vE 0) (consA (vE 1) nilA)))) nilA))))
  (seqS (setS 3 (argN 2 d__law_one (consA (vE 0) (consA (lstE (consA (iE 2) (consA (iE 3) (consA (iE 4) (consA (iE 9) nilA))))) nilA))))
  (retS (tupE (consA (vE 2) (consA (argE tupleD (consA (lcE [4] (itE (vE 2)) (gNm 4) yesT (argE tupleD (consA (lcE [5] (itE (vE 2)) (gNm 5) yesT (bin2 addD (iE 1) (argN 2 d__law_dip (consA (vE 0) (consA (vE 3) nilA))))) nilA))) nilA)) nilA))))))
def d__law_flights : List D → M D := fnM 8 (seqS (setS 4 (lstE nilA))
  (seqS (forS (itE (argN 2 d__law_shuffled (consA (vE 0) (consA (argN 2 d__law_words (consA (vE 0) (consA (bin2 addD (iE 1) (argN 2 d__law_dip (consA (vE 0) (consA (vE 2) nilA)))) nilA))) nilA)))) (gNm 5) (seqS (setS 6 (argN 2 d__law_dip (consA (vE 0) (consA (bin2 addD (vE 3) (iE 1)) nilA))))
  (seqS (setS 7 (bin2 addD (vE 6) (argN 2 d__law_one (consA (vE 0) (consA (lstE (consA (iE 0) (consA (argN 2 d__law_dip (consA (vE 0) (consA (bin2 addD (bin2 subD (vE 3) (vE 6)) (iE 1)) nilA))) (consA (bin2 subD (vE 3) (vE 6)) (consA (bin2 subD (vE 3) (vE 6)) nilA))))) nilA)))))
  (mutS 4 appM (consA (tupE (consA (vE 5) (consA (argN 2 d__law_one (consA (vE 0) (consA (bin2 ixX (vE 1) (iE 0)) nilA))) (consA (vE 6) (consA (vE 7) nilA))))) nilA)))))
  (retS (argE tupleD (consA (vE 4) nilA)))))
def d_earliest_beside : List D → M D := fnM 4 (seqS (setS 3 (callLE (["book", "flights", "next_open"] : List Str).length (["flight", "time", "closings"] : List Str).length [2] d_earliest_by (argN 2 d_open_from (consA (vE 2) (consA (vE 1) nilA))) (consA (vE 0) (consA (vE 1) nilA))))
  (retS (ifE (truT (argN 2 d_are_in_time (consA (vE 1) (consA (vE 3) nilA)))) (vE 3) (lstE nilA))))
def d_latest_beside : List D → M D := fnM 3 (retS (callLE (["book", "flights", "last_open"] : List Str).length (["time", "closings"] : List Str).length [2] d_latest_by (argN 2 d_open_until (consA (vE 1) (consA (vE 0) nilA))) (consA (vE 0) (consA (vE 1) nilA))))
def d_wrong_kinds : List D → M D := fnM 2 (fun ρ => retS (callCE (["value", "most", "is_right"] : List Str).length (["each", "before"] : List Str).length [] d_wrong_from_one (retS (andE (argN 1 d_is_name (consA (vE 0) nilA)) (orE (bin2 eqD (vE 1) (tupE nilA)) (bin2 ltD (bin2 ixX (vE 1) (ngE (iE 1))) (vE 0))))) (consA (vE 0) (consA (iE 5) nilA))) (ρ.set 1 none))
def d_wrong_closings : List D → M D := fnM 1 (retS (callGE 3 d_wrong_at d_is_closing (consA (vE 0) (consA noE nilA))))
def d_is_book_form : List D → M D := fnM 3 (seqS (ifS' (orT (notT (truT (argN 2 d_is_tuple_of (consA (vE 0) (consA (iE 2) nilA))))) (tst (bin2 neD (argN 1 d_wrong_kinds (consA (bin2 ixX (vE 0) (iE 0)) nilA)) (lstE nilA)))) (retS (bE false)) nilS)
  (seqS (setKS 1 (argE lenD (consA (bin2 ixX (vE 0) (iE 0)) nilA)))
  (retS (andE (argN 2 d_is_tuple_of (consA (bin2 ixX (vE 0) (iE 1)) (consA (vE 1) nilA))) (argE allD (consA (lcE [2] (itE (bin2 ixX (vE 0) (iE 1))) (gNm 2) yesT (argN 2 d_is_line (consA (vE 2) (consA (vE 1) nilA)))) nilA))))))
def d_check_closings : List D → M D := fnM 2 (forS (itE (argN 1 d_wrong_closings (consA (vE 0) nilA))) (gNm 1) deadS)
def d_wrong_flights : List D → M D := fnM 3 (fun ρ => retS (callCE (["value", "most", "is_right"] : List Str).length (["each", "before", "kinds", "other"] : List Str).length [0] d_wrong_from_one (retS (andE (argN 2 d_is_flight (consA (vE 2) (consA (vE 0) nilA))) (bin2 (inM true) (bin2 ixX (vE 0) (iE 0)) (lcE [3] (itE (vE 1)) (gNm 3) yesT (bin2 ixX (vE 3) (iE 0)))))) (consA (vE 1) (consA (iE 10) nilA))) (ρ.set 2 none))
def d_check_book : List D → M D := fnM 1 (ifS' (notT (truT (argN 1 d_is_book_form (consA (vE 0) nilA)))) deadS nilS)
def d_least_open : List D → M D := fnM 2 (seqS (dropS (argN 1 d_check_closings (consA (vE 0) nilA)))
  (seqS (dropS (argN 1 d_check_time (consA (vE 1) nilA)))
  (retS (argE minD (consA (iE 1000) (consA (argN 2 d_open_from (consA (vE 0) (consA (vE 1) nilA))) nilA))))))
def d_check_flights : List D → M D := fnM 3 (seqS (dropS (argN 1 d_check_book (consA (vE 0) nilA)))
  (forS (itE (argN 2 d_wrong_flights (consA (bin2 ixX (vE 0) (iE 0)) (consA (vE 1) nilA)))) (gNm 2) deadS))
def d_check_closed_out : List D → M D := fnM 3 (seqS (dropS (argN 2 d_check_flights (consA (vE 0) (consA (vE 1) nilA))))
  (dropS (argN 1 d_check_closings (consA (vE 2) nilA))))
def d_earliest : List D → M D := fnM 3 (seqS (dropS (argN 2 d_check_flights (consA (vE 0) (consA (vE 1) nilA))))
  (seqS (setS 2 (argN 2 d_earliest_of (consA (vE 0) (consA (vE 1) nilA))))
  (retS (ifE (tst (bin2 neD (vE 2) (lstE nilA))) (argE tupleD (consA (vE 2) nilA)) noE))))
def d_latest : List D → M D := fnM 2 (seqS (dropS (argN 2 d_check_flights (consA (vE 0) (consA (vE 1) nilA))))
  (retS (ifE (tst (bin2 neD (argN 2 d_earliest_of (consA (vE 0) (consA (vE 1) nilA))) (lstE nilA))) (argE tupleD (consA (argN 2 d_latest_of (consA (vE 0) (consA (vE 1) nilA))) nilA)) noE)))
def d_earliest_open : List D → M D := fnM 4 (seqS (dropS (argN 3 d_check_closed_out (consA (vE 0) (consA (vE 1) (consA (vE 2) nilA)))))
  (seqS (setS 3 (argN 3 d_earliest_beside (consA (vE 0) (consA (vE 1) (consA (vE 2) nilA)))))
  (retS (ifE (tst (bin2 neD (vE 3) (lstE nilA))) (argE tupleD (consA (vE 3) nilA)) noE))))
def d_latest_open : List D → M D := fnM 3 (seqS (dropS (argN 3 d_check_closed_out (consA (vE 0) (consA (vE 1) (consA (vE 2) nilA)))))
  (seqS (ifS' (tst (bin2 eqD (argN 3 d_earliest_beside (consA (vE 0) (consA (vE 1) (consA (vE 2) nilA)))) (lstE nilA))) (retS noE) nilS)
  (retS (argE tupleD (consA (argN 3 d_latest_beside (consA (vE 0) (consA (vE 1) (consA (vE 2) nilA)))) nilA)))))
def d__law_right : List D → M D := fnM 20 (seqS (forS (argE rng1D (consA (iE 4) nilA)) (gNm 1) (seqS (setS 2 (argN 2 d__law_closings (consA (vE 0) (consA (argN 2 d__law_one (consA (vE 0) (consA (lstE (consA (iE 12) (consA (iE 100) (consA (iE 999) nilA)))) nilA))) nilA))))
  (seqS (setS 3 (fun _ => M.pure (.dct false [])))
  (seqS (forS (itE (vE 2)) (gTup 2 (gCons (gNm 9) (gCons (gNm 10) gNil))) (forS (argE rng2D (consA (vE 9) (consA (bin2 addD (vE 10) (iE 1)) nilA))) (gNm 11) (putS 3 (bE true) (vE 11))))
  (seqS (forS (argE rng1D (consA (iE 4) nilA)) (gNm 4) (seqS (setS 11 (argN 2 d__law_one (consA (vE 0) (consA (lstE (consA (iE 0) (consA (iE 999) (consA (argN 2 d__law_dip (consA (vE 0) (consA (iE 1000) nilA))) (consA (ifE (tst (bin2 neD (vE 2) (tupE nilA))) (bin2 ixX (bin2 ixX (vE 2) (iE 0)) (iE 0)) (iE 5)) nilA))))) nilA))))
  (seqS (setS 7 (argN 2 d__law_free (consA (vE 3) (consA (vE 11) nilA))))
  (ifS' (tst (bin2 neD (argE reprD (consA (lstE (consA (argN 2 d_least_open (consA (vE 2) (consA (vE 11) nilA))) (consA (argK 0 2 [1, 0] d_least_open nilA (consA (vE 11) (consA (vE 2) nilA))) nilA))) nilA)) (argE reprD (consA (lstE (consA (vE 7) (consA (vE 7) nilA))) nilA)))) (retS (bE false)) nilS))))
  (seqS (setS 5 (argN 2 d__law_book (consA (vE 0) (consA (iE 3) nilA))))
  (seqS (parS2 12 13 (consA (argN 4 d__law_flights (consA (vE 0) (consA (vE 5) (consA (iE 8) (consA (argN 2 d__law_one (consA (vE 0) (consA (lstE (consA (iE 40) (consA (iE 300) nilA))) nilA))) nilA))))) (consA (argN 1 d__law_table (consA (vE 5) nilA)) nilA)))
  (seqS (ifS' (tst (bin2 neD (argN 3 d_earliest_open (consA (vE 5) (consA (vE 12) (consA (tupE nilA) nilA)))) (argN 2 d_earliest (consA (vE 5) (consA (vE 12) nilA))))) (retS (bE false)) nilS)
  (seqS (ifS' (tst (bin2 neD (argN 3 d_latest_open (consA (vE 5) (consA (vE 12) (consA (tupE nilA) nilA)))) (argN 2 d_latest (consA (vE 5) (consA (vE 12) nilA))))) (retS (bE false)) nilS)
  (seqS (setS 6 (lstE nilA))
  (seqS (forS (argE enumD (consA (vE 12) nilA)) (gTup 2 (gCons (gNm 14) (gCons (gTup 4 (gCons (gNm 15) (gCons (gNm 16) (gCons (gNm 9) (gCons (gNm 10) gNil))))) gNil))) (ifS' (tst (bin2 notND (vE 6) noE)) (seqS (setKS 11 (argE maxD (consA (bin2 addD (lstE (consA (vE 9) nilA)) (lcE [19] (argE rng1D (consA (vE 14) nilA)) (gNm 19) yesT (bin2 addD (bin2 ixX (vE 6) (vE 19)) (bin2 ixX (vE 13) (tupE (consA (bin2 ixX (bin2 ixX (vE 12) (vE 19)) (iE 1)) (consA (vE 16) nilA))))))) nilA)))
  (seqS (setS 11 (argN 2 d__law_free (consA (vE 3) (consA (vE 11) nilA))))
  (setS 6 (ifE (tst (bin2 leD (vE 11) (vE 10))) (bin2 addD (vE 6) (lstE (consA (vE 11) nilA))) noE)))) nilS))
  (seqS (setS 7 (ifE (tst (bin2 isND (vE 6) noE)) noE (argE tupleD (consA (vE 6) nilA))))
  (seqS (ifS' (tst (bin2 neD (argE reprD (consA (argN 3 d_earliest_open (consA (vE 5) (consA (vE 12) (consA (vE 2) nilA)))) nilA)) (argE reprD (consA (vE 7) nilA)))) (retS (bE false)) nilS)
  (seqS (setS 8 (argN 3 d_latest_open (consA (vE 5) (consA (vE 12) (consA (vE 2) nilA)))))
  (seqS (ifS' (tst (bin2 neD (bin2 isND (vE 8) noE) (bin2 isND (vE 7) noE))) (retS (bE false)) nilS)
  (ifS' (tst (bin2 notND (vE 7) noE)) (seqS (ifS' (tst (bin2 neD (lcE [17, 18] (argE zipD (consA (argN 2 d_earliest (consA (vE 5) (consA (vE 12) nilA))) (consA (vE 7) nilA))) (gTup 2 (gCons (gNm 17) (gCons (gNm 18) gNil))) (tst (bin2 ltD (vE 18) (vE 17))) (iE 1)) (lstE nilA))) (retS (bE false)) nilS)
  (ifS' (tst (bin2 neD (lcE [17, 18] (argE zipD (consA (argN 2 d_latest (consA (vE 5) (consA (vE 12) nilA))) (consA (vE 8) nilA))) (gTup 2 (gCons (gNm 17) (gCons (gNm 18) gNil))) (tst (bin2 gtD (vE 18) (vE 17))) (iE 1)) (lstE nilA))) (retS (bE false)) nilS)) nilS))))))))))))))))
  (retS (bE true)))
def d_law : List D → M D := fnM 2 (retS (argE allD (consA (lcE [1] (itE (argN 1 d__law_turns (consA (vE 0) nilA))) (gNm 1) yesT (mpE (argN 2 d__law_well (consA (vE 0) (consA (vE 1) nilA))) (wellM d__law_right))) nilA)))
structure Wd (K : PySem.W.Frag) (mg : Str → Option Value) where
  f_is_whole : Addr
  q_is_whole : FuncData
  F_is_whole : FunD K "is_whole" "is_whole" (defArgs (top 4)) (defBody (top 4)) (defScope (top 4)) [] [] f_is_whole q_is_whole
  g_is_whole : mg "is_whole" = some (.ref f_is_whole)
  f_is_number : Addr
  q_is_number : FuncData
  F_is_number : FunD K "is_number" "is_number" (defArgs (top 5)) (defBody (top 5)) (defScope (top 5)) [] [] f_is_number q_is_number
  g_is_number : mg "is_number" = some (.ref f_is_number)
  f_is_word : Addr
  q_is_word : FuncData
  F_is_word : FunD K "is_word" "is_word" (defArgs (top 6)) (defBody (top 6)) (defScope (top 6)) [] [] f_is_word q_is_word
  g_is_word : mg "is_word" = some (.ref f_is_word)
  f_is_name : Addr
  q_is_name : FuncData
  F_is_name : FunD K "is_name" "is_name" (defArgs (top 7)) (defBody (top 7)) (defScope (top 7)) [] [] f_is_name q_is_name
  g_is_name : mg "is_name" = some (.ref f_is_name)
  f_is_tuple_of : Addr
  q_is_tuple_of : FuncData
  F_is_tuple_of : FunD K "is_tuple_of" "is_tuple_of" (defArgs (top 8)) (defBody (top 8)) (defScope (top 8)) [] [] f_is_tuple_of q_is_tuple_of
  g_is_tuple_of : mg "is_tuple_of" = some (.ref f_is_tuple_of)
  f_is_one_of : Addr
  q_is_one_of : FuncData
  F_is_one_of : FunD K "is_one_of" "is_one_of" (defArgs (top 9)) (defBody (top 9)) (defScope (top 9)) [] [] f_is_one_of q_is_one_of
  g_is_one_of : mg "is_one_of" = some (.ref f_is_one_of)
  f_wrong_at : Addr
  q_wrong_at : FuncData
  F_wrong_at : FunD K "wrong_at" "wrong_at" (defArgs (top 10)) (defBody (top 10)) (defScope (top 10)) [] [] f_wrong_at q_wrong_at
  g_wrong_at : mg "wrong_at" = some (.ref f_wrong_at)
  f_wrong_from_one : Addr
  q_wrong_from_one : FuncData
  F_wrong_from_one : FunD K "wrong_from_one" "wrong_from_one" (defArgs (top 11)) (defBody (top 11)) (defScope (top 11)) [] [] f_wrong_from_one q_wrong_from_one
  g_wrong_from_one : mg "wrong_from_one" = some (.ref f_wrong_from_one)
  f_wrong_kinds : Addr
  q_wrong_kinds : FuncData
  F_wrong_kinds : FunD K "wrong_kinds" "wrong_kinds" (defArgs (top 15)) (defBody (top 15)) (defScope (top 15)) [] [] f_wrong_kinds q_wrong_kinds
  g_wrong_kinds : mg "wrong_kinds" = some (.ref f_wrong_kinds)
  k_wrong_kinds : f_wrong_kinds = He.fAd K ("wrong_kinds", none)
  f_is_line : Addr
  q_is_line : FuncData
  F_is_line : FunD K "is_line" "is_line" (defArgs (top 16)) (defBody (top 16)) (defScope (top 16)) [] [] f_is_line q_is_line
  g_is_line : mg "is_line" = some (.ref f_is_line)
  f_is_book_form : Addr
  q_is_book_form : FuncData
  F_is_book_form : FunD K "is_book_form" "is_book_form" (defArgs (top 17)) (defBody (top 17)) (defScope (top 17)) [] [] f_is_book_form q_is_book_form
  g_is_book_form : mg "is_book_form" = some (.ref f_is_book_form)
  f_numbers_of : Addr
  q_numbers_of : FuncData
  F_numbers_of : FunD K "numbers_of" "numbers_of" (defArgs (top 18)) (defBody (top 18)) (defScope (top 18)) [] [] f_numbers_of q_numbers_of
  g_numbers_of : mg "numbers_of" = some (.ref f_numbers_of)
  f_is_time : Addr
  q_is_time : FuncData
  F_is_time : FunD K "is_time" "is_time" (defArgs (top 28)) (defBody (top 28)) (defScope (top 28)) [] [] f_is_time q_is_time
  g_is_time : mg "is_time" = some (.ref f_is_time)
  f_is_flight : Addr
  q_is_flight : FuncData
  F_is_flight : FunD K "is_flight" "is_flight" (defArgs (top 29)) (defBody (top 29)) (defScope (top 29)) [] [] f_is_flight q_is_flight
  g_is_flight : mg "is_flight" = some (.ref f_is_flight)
  f_wrong_flights : Addr
  q_wrong_flights : FuncData
  F_wrong_flights : FunD K "wrong_flights" "wrong_flights" (defArgs (top 30)) (defBody (top 30)) (defScope (top 30)) [] [] f_wrong_flights q_wrong_flights
  g_wrong_flights : mg "wrong_flights" = some (.ref f_wrong_flights)
  k_wrong_flights : f_wrong_flights = He.fAd K ("wrong_flights", none)
  f_earliest_by : Addr
  q_earliest_by : FuncData
  F_earliest_by : FunD K "earliest_by" "earliest_by" (defArgs (top 31)) (defBody (top 31)) (defScope (top 31)) [] [] f_earliest_by q_earliest_by
  g_earliest_by : mg "earliest_by" = some (.ref f_earliest_by)
  f_latest_by : Addr
  q_latest_by : FuncData
  F_latest_by : FunD K "latest_by" "latest_by" (defArgs (top 32)) (defBody (top 32)) (defScope (top 32)) [] [] f_latest_by q_latest_by
  g_latest_by : mg "latest_by" = some (.ref f_latest_by)
  f_as_it_is : Addr
  q_as_it_is : FuncData
  F_as_it_is : FunD K "as_it_is" "as_it_is" (defArgs (top 33)) (defBody (top 33)) (defScope (top 33)) [] [] f_as_it_is q_as_it_is
  g_as_it_is : mg "as_it_is" = some (.ref f_as_it_is)
  f_end_as_it_is : Addr
  q_end_as_it_is : FuncData
  F_end_as_it_is : FunD K "end_as_it_is" "end_as_it_is" (defArgs (top 34)) (defBody (top 34)) (defScope (top 34)) [] [] f_end_as_it_is q_end_as_it_is
  g_end_as_it_is : mg "end_as_it_is" = some (.ref f_end_as_it_is)
  f_earliest_of : Addr
  q_earliest_of : FuncData
  F_earliest_of : FunD K "earliest_of" "earliest_of" (defArgs (top 35)) (defBody (top 35)) (defScope (top 35)) [] [] f_earliest_of q_earliest_of
  g_earliest_of : mg "earliest_of" = some (.ref f_earliest_of)
  f_latest_of : Addr
  q_latest_of : FuncData
  F_latest_of : FunD K "latest_of" "latest_of" (defArgs (top 36)) (defBody (top 36)) (defScope (top 36)) [] [] f_latest_of q_latest_of
  g_latest_of : mg "latest_of" = some (.ref f_latest_of)
  f_are_in_time : Addr
  q_are_in_time : FuncData
  F_are_in_time : FunD K "are_in_time" "are_in_time" (defArgs (top 37)) (defBody (top 37)) (defScope (top 37)) [] [] f_are_in_time q_are_in_time
  g_are_in_time : mg "are_in_time" = some (.ref f_are_in_time)
  f_check_book : Addr
  q_check_book : FuncData
  F_check_book : FunD K "check_book" "check_book" (defArgs (top 39)) (defBody (top 39)) (defScope (top 39)) [] [] f_check_book q_check_book
  g_check_book : mg "check_book" = some (.ref f_check_book)
  f_check_time : Addr
  q_check_time : FuncData
  F_check_time : FunD K "check_time" "check_time" (defArgs (top 40)) (defBody (top 40)) (defScope (top 40)) [] [] f_check_time q_check_time
  g_check_time : mg "check_time" = some (.ref f_check_time)
  f_check_flights : Addr
  q_check_flights : FuncData
  F_check_flights : FunD K "check_flights" "check_flights" (defArgs (top 41)) (defBody (top 41)) (defScope (top 41)) [] [] f_check_flights q_check_flights
  g_check_flights : mg "check_flights" = some (.ref f_check_flights)
  f_is_closing : Addr
  q_is_closing : FuncData
  F_is_closing : FunD K "is_closing" "is_closing" (defArgs (top 42)) (defBody (top 42)) (defScope (top 42)) [] [] f_is_closing q_is_closing
  g_is_closing : mg "is_closing" = some (.ref f_is_closing)
  f_wrong_closings : Addr
  q_wrong_closings : FuncData
  F_wrong_closings : FunD K "wrong_closings" "wrong_closings" (defArgs (top 43)) (defBody (top 43)) (defScope (top 43)) [] [] f_wrong_closings q_wrong_closings
  g_wrong_closings : mg "wrong_closings" = some (.ref f_wrong_closings)
  f_check_closings : Addr
  q_check_closings : FuncData
  F_check_closings : FunD K "check_closings" "check_closings" (defArgs (top 44)) (defBody (top 44)) (defScope (top 44)) [] [] f_check_closings q_check_closings
  g_check_closings : mg "check_closings" = some (.ref f_check_closings)
  f_open_from : Addr
  q_open_from : FuncData
  F_open_from : FunD K "open_from" "open_from" (defArgs (top 47)) (defBody (top 47)) (defScope (top 47)) [] [] f_open_from q_open_from
  g_open_from : mg "open_from" = some (.ref f_open_from)
  f_open_until : Addr
  q_open_until : FuncData
  F_open_until : FunD K "open_until" "open_until" (defArgs (top 48)) (defBody (top 48)) (defScope (top 48)) [] [] f_open_until q_open_until
  g_open_until : mg "open_until" = some (.ref f_open_until)
  f_earliest_beside : Addr
  q_earliest_beside : FuncData
  F_earliest_beside : FunD K "earliest_beside" "earliest_beside" (defArgs (top 49)) (defBody (top 49)) (defScope (top 49)) [] [] f_earliest_beside q_earliest_beside
  g_earliest_beside : mg "earliest_beside" = some (.ref f_earliest_beside)
  k_earliest_beside : f_earliest_beside = He.fAd K ("earliest_beside", none)
  f_latest_beside : Addr
  q_latest_beside : FuncData
  F_latest_beside : FunD K "latest_beside" "latest_beside" (defArgs (top 50)) (defBody (top 50)) (defScope (top 50)) [] [] f_latest_beside q_latest_beside
  g_latest_beside : mg "latest_beside" = some (.ref f_latest_beside)
  k_latest_beside : f_latest_beside = He.fAd K ("latest_beside", none)
  f_check_closed_out : Addr
  q_check_closed_out : FuncData
  F_check_closed_out : FunD K "check_closed_out" "check_closed_out" (defArgs (top 52)) (defBody (top 52)) (defScope (top 52)) [] [] f_check_closed_out q_check_closed_out
  g_check_closed_out : mg "check_closed_out" = some (.ref f_check_closed_out)
  f_earliest_open : Addr
  q_earliest_open : FuncData
  F_earliest_open : FunD K "earliest_open" "earliest_open" (defArgs (top 53)) (defBody (top 53)) (defScope (top 53)) [] [] f_earliest_open q_earliest_open
  g_earliest_open : mg "earliest_open" = some (.ref f_earliest_open)
  f_latest_open : Addr
  q_latest_open : FuncData
  F_latest_open : FunD K "latest_open" "latest_open" (defArgs (top 54)) (defBody (top 54)) (defScope (top 54)) [] [] f_latest_open q_latest_open
  g_latest_open : mg "latest_open" = some (.ref f_latest_open)
  f_least_open : Addr
  q_least_open : FuncData
  F_least_open : FunD K "least_open" "least_open" (defArgs (top 55)) (defBody (top 55)) (defScope (top 55)) [] [] f_least_open q_least_open
  g_least_open : mg "least_open" = some (.ref f_least_open)
  f_earliest : Addr
  q_earliest : FuncData
  F_earliest : FunD K "earliest" "earliest" (defArgs (top 57)) (defBody (top 57)) (defScope (top 57)) [] [] f_earliest q_earliest
  g_earliest : mg "earliest" = some (.ref f_earliest)
  f_latest : Addr
  q_latest : FuncData
  F_latest : FunD K "latest" "latest" (defArgs (top 58)) (defBody (top 58)) (defScope (top 58)) [] [] f_latest q_latest
  g_latest : mg "latest" = some (.ref f_latest)
  f__law_well : Addr
  q__law_well : FuncData
  F__law_well : FunD K "_law_well" "_law_well" (defArgs (top 60)) (defBody (top 60)) (defScope (top 60)) [] [] f__law_well q__law_well
  g__law_well : mg "_law_well" = some (.ref f__law_well)
  f__law_dip : Addr
  q__law_dip : FuncData
  F__law_dip : FunD K "_law_dip" "_law_dip" (defArgs (top 61)) (defBody (top 61)) (defScope (top 61)) [] [] f__law_dip q__law_dip
  g__law_dip : mg "_law_dip" = some (.ref f__law_dip)
  f__law_one : Addr
  q__law_one : FuncData
  F__law_one : FunD K "_law_one" "_law_one" (defArgs (top 62)) (defBody (top 62)) (defScope (top 62)) [] [] f__law_one q__law_one
  g__law_one : mg "_law_one" = some (.ref f__law_one)
  f__law_turns : Addr
  q__law_turns : FuncData
  F__law_turns : FunD K "_law_turns" "_law_turns" (defArgs (top 63)) (defBody (top 63)) (defScope (top 63)) [] [] f__law_turns q__law_turns
  g__law_turns : mg "_law_turns" = some (.ref f__law_turns)
  f__law_words : Addr
  q__law_words : FuncData
  F__law_words : FunD K "_law_words" "_law_words" (defArgs (top 64)) (defBody (top 64)) (defScope (top 64)) [] [] f__law_words q__law_words
  g__law_words : mg "_law_words" = some (.ref f__law_words)
  f__law_book : Addr
  q__law_book : FuncData
  F__law_book : FunD K "_law_book" "_law_book" (defArgs (top 65)) (defBody (top 65)) (defScope (top 65)) [] [] f__law_book q__law_book
  g__law_book : mg "_law_book" = some (.ref f__law_book)
  f__law_table : Addr
  q__law_table : FuncData
  F__law_table : FunD K "_law_table" "_law_table" (defArgs (top 66)) (defBody (top 66)) (defScope (top 66)) [] [] f__law_table q__law_table
  g__law_table : mg "_law_table" = some (.ref f__law_table)
  f__law_flights : Addr
  q__law_flights : FuncData
  F__law_flights : FunD K "_law_flights" "_law_flights" (defArgs (top 67)) (defBody (top 67)) (defScope (top 67)) [] [] f__law_flights q__law_flights
  g__law_flights : mg "_law_flights" = some (.ref f__law_flights)
  f__law_shuffled : Addr
  q__law_shuffled : FuncData
  F__law_shuffled : FunD K "_law_shuffled" "_law_shuffled" (defArgs (top 68)) (defBody (top 68)) (defScope (top 68)) [] [] f__law_shuffled q__law_shuffled
  g__law_shuffled : mg "_law_shuffled" = some (.ref f__law_shuffled)
  f__law_closings : Addr
  q__law_closings : FuncData
  F__law_closings : FunD K "_law_closings" "_law_closings" (defArgs (top 69)) (defBody (top 69)) (defScope (top 69)) [] [] f__law_closings q__law_closings
  g__law_closings : mg "_law_closings" = some (.ref f__law_closings)
  f__law_free : Addr
  q__law_free : FuncData
  F__law_free : FunD K "_law_free" "_law_free" (defArgs (top 70)) (defBody (top 70)) (defScope (top 70)) [] [] f__law_free q__law_free
  g__law_free : mg "_law_free" = some (.ref f__law_free)
  f__law_right : Addr
  q__law_right : FuncData
  F__law_right : FunD K "_law_right" "_law_right" (defArgs (top 71)) (defBody (top 71)) (defScope (top 71)) [] [] f__law_right q__law_right
  g__law_right : mg "_law_right" = some (.ref f__law_right)
  f_law : Addr
  q_law : FuncData
  F_law : FunD K "law" "law" (defArgs (top 72)) (defBody (top 72)) (defScope (top 72)) [] [] f_law q_law
  g_law : mg "law" = some (.ref f_law)
  n_abs : mg "abs" = none
  n_all : mg "all" = none
  n_bool : mg "bool" = none
  n_divmod : mg "divmod" = none
  n_enumerate : mg "enumerate" = none
  n_int : mg "int" = none
  n_isinstance : mg "isinstance" = none
  n_len : mg "len" = none
  n_list : mg "list" = none
  n_max : mg "max" = none
  n_min : mg "min" = none
  n_range : mg "range" = none
  n_repr : mg "repr" = none
  n_sorted : mg "sorted" = none
  n_str : mg "str" = none
  n_tuple : mg "tuple" = none
  n_zip : mg "zip" = none
  c_LETTERS : ∃ t, mg "LETTERS" = some (.str "abcdefghijklmnopqrstuvwxyz" t)
  c_MOST_FLIGHTS : ∃ t, mg "MOST_FLIGHTS" = some (.int 10 t)
  c_MOST_KINDS : ∃ t, mg "MOST_KINDS" = some (.int 5 t)
  c_MOST_LETTERS : ∃ t, mg "MOST_LETTERS" = some (.int 8 t)
  c_MOST_NUMBER : ∃ t, mg "MOST_NUMBER" = some (.int 9 t)
  c_MOST_TIME : ∃ t, mg "MOST_TIME" = some (.int 999 t)
  c_NEVER : ∃ t, mg "NEVER" = some (.int 1000 t)
  c_WORDS : ∃ a, mg "WORDS" = some (.ref a) ∧ ∀ H, SqT K H a (z_WORDS.map V.str)
def TF : List He.Defn := [("wrong_kinds", none), ("wrong_flights", none), ("earliest_beside", none), ("latest_beside", none)]
def nm_wrong_kinds : Nat → Nat → Str := fun l c => "wrong_kinds.<locals>.is_right"
def nm_wrong_flights : Nat → Nat → Str := fun l c => "wrong_flights.<locals>.is_right"
def nm_earliest_beside : Nat → Nat → Str := fun l c => "earliest_beside.<locals>.<lambda>"
def nm_latest_beside : Nat → Nat → Str := fun l c => "latest_beside.<locals>.<lambda>"
def tt (K : PySem.W.Frag) : List NdefX.NTab := [((He.cT K ("wrong_kinds", none)).2, nm_wrong_kinds), ((He.cT K ("wrong_flights", none)).2, nm_wrong_flights), ((He.cT K ("earliest_beside", none)).2, nm_earliest_beside), ((He.cT K ("latest_beside", none)).2, nm_latest_beside)]
structure TZ (K : PySem.W.Frag) (mg : Str → Option Value) (base : Heap) : Prop where
  nd : ((tt K).map (·.1)).Nodup
  t_wrong_kinds : LamX.TabB base mg (He.codeOf K ("wrong_kinds", none)) (He.cT K ("wrong_kinds", none)).2
  t_wrong_flights : LamX.TabB base mg (He.codeOf K ("wrong_flights", none)) (He.cT K ("wrong_flights", none)).2
  t_earliest_beside : LamX.TabB base mg (He.codeOf K ("earliest_beside", none)) (He.cT K ("earliest_beside", none)).2
  t_latest_beside : LamX.TabB base mg (He.codeOf K ("latest_beside", none)) (He.cT K ("latest_beside", none)).2
theorem TZ.up {K : PySem.W.Frag} {mg : Str → Option Value} {base base' : Heap} (Z : TZ K mg base) (k : ∀ b o, base.get? b = some o → base'.get? b = some o) : TZ K mg base' := ⟨Z.nd, tabB_up Z.t_wrong_kinds k, tabB_up Z.t_wrong_flights k, tabB_up Z.t_earliest_beside k, tabB_up Z.t_latest_beside k⟩
theorem TZ.m_wrong_kinds {K : PySem.W.Frag} {mg : Str → Option Value} {base : Heap} (Z : TZ K mg base) : ((He.cT K ("wrong_kinds", none)).2, nm_wrong_kinds) ∈ tt K := by simp [tt]
theorem TZ.m_wrong_flights {K : PySem.W.Frag} {mg : Str → Option Value} {base : Heap} (Z : TZ K mg base) : ((He.cT K ("wrong_flights", none)).2, nm_wrong_flights) ∈ tt K := by simp [tt]
theorem TZ.m_earliest_beside {K : PySem.W.Frag} {mg : Str → Option Value} {base : Heap} (Z : TZ K mg base) : ((He.cT K ("earliest_beside", none)).2, nm_earliest_beside) ∈ tt K := by simp [tt]
theorem TZ.m_latest_beside {K : PySem.W.Frag} {mg : Str → Option Value} {base : Heap} (Z : TZ K mg base) : ((He.cT K ("latest_beside", none)).2, nm_latest_beside) ∈ tt K := by simp [tt]
section
variable {P : Program} {w : World} {K : PySem.W.Frag} {mg : Str → Option Value} {base : Heap}
theorem b_is_whole (W : Wd K mg) : Binds K W.q_is_whole ["value"] [] := W.F_is_whole.bindsN fun _ _ _ _ _ _ us hl => match us, hl with | [_], _ => rfl
theorem b_is_number (W : Wd K mg) : Binds K W.q_is_number ["value", "low", "high"] [] := W.F_is_number.bindsN fun _ _ _ _ _ _ us hl => match us, hl with | [_, _, _], _ => rfl
theorem b_is_word (W : Wd K mg) : Binds K W.q_is_word ["value"] [] := W.F_is_word.bindsN fun _ _ _ _ _ _ us hl => match us, hl with | [_], _ => rfl
theorem b_is_name (W : Wd K mg) : Binds K W.q_is_name ["value"] [] := W.F_is_name.bindsN fun _ _ _ _ _ _ us hl => match us, hl with | [_], _ => rfl
theorem b_is_tuple_of (W : Wd K mg) : Binds K W.q_is_tuple_of ["value", "length"] [] := W.F_is_tuple_of.bindsN fun _ _ _ _ _ _ us hl => match us, hl with | [_, _], _ => rfl
theorem b_is_one_of (W : Wd K mg) : Binds K W.q_is_one_of ["value", "some"] [] := W.F_is_one_of.bindsN fun _ _ _ _ _ _ us hl => match us, hl with | [_, _], _ => rfl
theorem b_wrong_at (W : Wd K mg) : Binds K W.q_wrong_at ["value", "most", "is_right"] [] := W.F_wrong_at.bindsN fun _ _ _ _ _ _ us hl => match us, hl with | [_, _, _], _ => rfl
theorem b_wrong_from_one (W : Wd K mg) : Binds K W.q_wrong_from_one ["value", "most", "is_right"] [] := W.F_wrong_from_one.bindsN fun _ _ _ _ _ _ us hl => match us, hl with | [_, _, _], _ => rfl
theorem b_wrong_kinds (W : Wd K mg) : Binds K W.q_wrong_kinds ["value"] [] := W.F_wrong_kinds.bindsN fun _ _ _ _ _ _ us hl => match us, hl with | [_], _ => rfl
theorem b_is_line (W : Wd K mg) : Binds K W.q_is_line ["value", "many"] [] := W.F_is_line.bindsN fun _ _ _ _ _ _ us hl => match us, hl with | [_, _], _ => rfl
theorem b_is_book_form (W : Wd K mg) : Binds K W.q_is_book_form ["value"] [] := W.F_is_book_form.bindsN fun _ _ _ _ _ _ us hl => match us, hl with | [_], _ => rfl
theorem b_numbers_of (W : Wd K mg) : Binds K W.q_numbers_of ["book"] [] := W.F_numbers_of.bindsN fun _ _ _ _ _ _ us hl => match us, hl with | [_], _ => rfl
theorem b_is_time (W : Wd K mg) : Binds K W.q_is_time ["value"] [] := W.F_is_time.bindsN fun _ _ _ _ _ _ us hl => match us, hl with | [_], _ => rfl
theorem b_is_flight (W : Wd K mg) : Binds K W.q_is_flight ["kinds", "value"] [] := W.F_is_flight.bindsN fun _ _ _ _ _ _ us hl => match us, hl with | [_, _], _ => rfl
theorem b_wrong_flights (W : Wd K mg) : Binds K W.q_wrong_flights ["kinds", "value"] [] := W.F_wrong_flights.bindsN fun _ _ _ _ _ _ us hl => match us, hl with | [_, _], _ => rfl
theorem b_earliest_by (W : Wd K mg) : Binds K W.q_earliest_by ["book", "flights", "next_open"] [] := W.F_earliest_by.bindsN fun _ _ _ _ _ _ us hl => match us, hl with | [_, _, _], _ => rfl
theorem b_latest_by (W : Wd K mg) : Binds K W.q_latest_by ["book", "flights", "last_open"] [] := W.F_latest_by.bindsN fun _ _ _ _ _ _ us hl => match us, hl with | [_, _, _], _ => rfl
theorem b_as_it_is (W : Wd K mg) : Binds K W.q_as_it_is ["flight", "time"] [] := W.F_as_it_is.bindsN fun _ _ _ _ _ _ us hl => match us, hl with | [_, _], _ => rfl
theorem b_end_as_it_is (W : Wd K mg) : Binds K W.q_end_as_it_is ["time"] [] := W.F_end_as_it_is.bindsN fun _ _ _ _ _ _ us hl => match us, hl with | [_], _ => rfl
theorem b_earliest_of (W : Wd K mg) : Binds K W.q_earliest_of ["book", "flights"] [] := W.F_earliest_of.bindsN fun _ _ _ _ _ _ us hl => match us, hl with | [_, _], _ => rfl
theorem b_latest_of (W : Wd K mg) : Binds K W.q_latest_of ["book", "flights"] [] := W.F_latest_of.bindsN fun _ _ _ _ _ _ us hl => match us, hl with | [_, _], _ => rfl
theorem b_are_in_time (W : Wd K mg) : Binds K W.q_are_in_time ["flights", "times"] [] := W.F_are_in_time.bindsN fun _ _ _ _ _ _ us hl => match us, hl with | [_, _], _ => rfl
theorem b_check_book (W : Wd K mg) : Binds K W.q_check_book ["value"] [] := W.F_check_book.bindsN fun _ _ _ _ _ _ us hl => match us, hl with | [_], _ => rfl
theorem b_check_time (W : Wd K mg) : Binds K W.q_check_time ["value"] [] := W.F_check_time.bindsN fun _ _ _ _ _ _ us hl => match us, hl with | [_], _ => rfl
theorem b_check_flights (W : Wd K mg) : Binds K W.q_check_flights ["book", "value"] [] := W.F_check_flights.bindsN fun _ _ _ _ _ _ us hl => match us, hl with | [_, _], _ => rfl
theorem b_is_closing (W : Wd K mg) : Binds K W.q_is_closing ["value", "before"] [] := W.F_is_closing.bindsN fun _ _ _ _ _ _ us hl => match us, hl with | [_, _], _ => rfl
theorem b_wrong_closings (W : Wd K mg) : Binds K W.q_wrong_closings ["value"] [] := W.F_wrong_closings.bindsN fun _ _ _ _ _ _ us hl => match us, hl with | [_], _ => rfl
theorem b_check_closings (W : Wd K mg) : Binds K W.q_check_closings ["value"] [] := W.F_check_closings.bindsN fun _ _ _ _ _ _ us hl => match us, hl with | [_], _ => rfl
theorem b_open_from (W : Wd K mg) : Binds K W.q_open_from ["closings", "time"] [] := W.F_open_from.bindsN fun _ _ _ _ _ _ us hl => match us, hl with | [_, _], _ => rfl
theorem b_open_until (W : Wd K mg) : Binds K W.q_open_until ["closings", "time"] [] := W.F_open_until.bindsN fun _ _ _ _ _ _ us hl => match us, hl with | [_, _], _ => rfl
theorem b_earliest_beside (W : Wd K mg) : Binds K W.q_earliest_beside ["book", "flights", "closings"] [] := W.F_earliest_beside.bindsN fun _ _ _ _ _ _ us hl => match us, hl with | [_, _, _], _ => rfl
theorem b_latest_beside (W : Wd K mg) : Binds K W.q_latest_beside ["book", "flights", "closings"] [] := W.F_latest_beside.bindsN fun _ _ _ _ _ _ us hl => match us, hl with | [_, _, _], _ => rfl
theorem b_check_closed_out (W : Wd K mg) : Binds K W.q_check_closed_out ["book", "flights", "closings"] [] := W.F_check_closed_out.bindsN fun _ _ _ _ _ _ us hl => match us, hl with | [_, _, _], _ => rfl
theorem b_earliest_open (W : Wd K mg) : Binds K W.q_earliest_open ["book", "flights", "closings"] [] := W.F_earliest_open.bindsN fun _ _ _ _ _ _ us hl => match us, hl with | [_, _, _], _ => rfl
theorem b_latest_open (W : Wd K mg) : Binds K W.q_latest_open ["book", "flights", "closings"] [] := W.F_latest_open.bindsN fun _ _ _ _ _ _ us hl => match us, hl with | [_, _, _], _ => rfl
theorem b_least_open (W : Wd K mg) : Binds K W.q_least_open ["closings", "time"] [] := W.F_least_open.bindsN fun _ _ _ _ _ _ us hl => match us, hl with | [_, _], _ => rfl
theorem b_earliest (W : Wd K mg) : Binds K W.q_earliest ["book", "flights"] [] := W.F_earliest.bindsN fun _ _ _ _ _ _ us hl => match us, hl with | [_, _], _ => rfl
theorem b_latest (W : Wd K mg) : Binds K W.q_latest ["book", "flights"] [] := W.F_latest.bindsN fun _ _ _ _ _ _ us hl => match us, hl with | [_, _], _ => rfl
theorem b__law_well (W : Wd K mg) : Binds K W.q__law_well ["script", "k"] [] := W.F__law_well.bindsN fun _ _ _ _ _ _ us hl => match us, hl with | [_, _], _ => rfl
theorem b__law_dip (W : Wd K mg) : Binds K W.q__law_dip ["well", "many"] [] := W.F__law_dip.bindsN fun _ _ _ _ _ _ us hl => match us, hl with | [_, _], _ => rfl
theorem b__law_one (W : Wd K mg) : Binds K W.q__law_one ["well", "some"] [] := W.F__law_one.bindsN fun _ _ _ _ _ _ us hl => match us, hl with | [_, _], _ => rfl
theorem b__law_turns (W : Wd K mg) : Binds K W.q__law_turns ["script"] [] := W.F__law_turns.bindsN fun _ _ _ _ _ _ us hl => match us, hl with | [_], _ => rfl
theorem b__law_words (W : Wd K mg) : Binds K W.q__law_words ["well", "many"] [] := W.F__law_words.bindsN fun _ _ _ _ _ _ us hl => match us, hl with | [_, _], _ => rfl
theorem b__law_book (W : Wd K mg) : Binds K W.q__law_book ["well", "most"] [] := W.F__law_book.bindsN fun _ _ _ _ _ _ us hl => match us, hl with | [_, _], _ => rfl
theorem b__law_table (W : Wd K mg) : Binds K W.q__law_table ["book"] [] := W.F__law_table.bindsN fun _ _ _ _ _ _ us hl => match us, hl with | [_], _ => rfl
theorem b__law_flights (W : Wd K mg) : Binds K W.q__law_flights ["well", "book", "most", "far"] [] := W.F__law_flights.bindsN fun _ _ _ _ _ _ us hl => match us, hl with | [_, _, _, _], _ => rfl
theorem b__law_shuffled (W : Wd K mg) : Binds K W.q__law_shuffled ["well", "some"] [] := W.F__law_shuffled.bindsN fun _ _ _ _ _ _ us hl => match us, hl with | [_, _], _ => rfl
theorem b__law_closings (W : Wd K mg) : Binds K W.q__law_closings ["well", "far"] [] := W.F__law_closings.bindsN fun _ _ _ _ _ _ us hl => match us, hl with | [_, _], _ => rfl
theorem b__law_free (W : Wd K mg) : Binds K W.q__law_free ["shut", "time"] [] := W.F__law_free.bindsN fun _ _ _ _ _ _ us hl => match us, hl with | [_, _], _ => rfl
theorem b__law_right (W : Wd K mg) : Binds K W.q__law_right ["well"] [] := W.F__law_right.bindsN fun _ _ _ _ _ _ us hl => match us, hl with | [_], _ => rfl
theorem b_law (W : Wd K mg) : Binds K W.q_law ["script"] [] := W.F_law.bindsN fun _ _ _ _ _ _ us hl => match us, hl with | [_], _ => rfl
theorem kb_least_open_0 (W : Wd K mg) : KwB K W.q_least_open ["closings", "time"] ["time", "closings"] 0 [1, 0] := kwB_of W.F_least_open fun _ _ _ _ _ _ us ws h1 h2 => match us, ws, h1, h2 with | [], [_, _], _, _ => rfl
theorem s_is_whole : FnScope ["value"] ["value"] (defScope (top 4)) := ⟨rfl, rfl, rfl, by decide +kernel, rfl, by decide +kernel, by decide +kernel⟩
theorem w_is_whole (W : Wd K mg) (Z : TZ K mg base) : FnG P w K mg base 1 W.f_is_whole W.q_is_whole ["value"] (spD K (tt K) 1 d_is_whole) := by
  have nd := s_is_whole.nd
  exact fnG_data (O := []) W.F_is_whole s_is_whole fun cdv A outer s H E ok => (dss_one (ds_ret (O1 := []) (de_and (de_isi .int W.n_isinstance W.n_int boot_int' (de_var 0)) (de_one (de_not (de_isi .bl W.n_isinstance W.n_bool boot_bool' (de_var 0)))))))
theorem s_is_word : FnScope ["value", "letter"] ["value"] (defScope (top 6)) := ⟨rfl, rfl, rfl, by decide +kernel, rfl, by decide +kernel, by decide +kernel⟩
theorem w_is_word (W : Wd K mg) (Z : TZ K mg base) : FnG P w K mg base 1 W.f_is_word W.q_is_word ["value"] (spD K (tt K) 1 d_is_word) := by
  have nd := s_is_word.nd
  exact fnG_data (O := []) W.F_is_word s_is_word fun cdv A outer s H E ok => (dss_one (ds_ret (O1 := []) (de_and (de_isi .str W.n_isinstance W.n_str boot_str' (de_var 0)) (de_and (de_cmp (ok_ne ok.u64) (de_var 0) de_str) (de_one (de_callB (ok_all rfl) W.n_all boot_all' (da_cons (de_new (df_lc (own := [("letter", 1)]) rfl nd (di_seq (de_var 0)) (blkOk_by (by rfl)) (fun _ _ _ _ _ => (dg_name 1 nd)) (fun _ _ _ _ _ => dts_nil) (fun _ _ _ _ _ => (de_cmp (ok_in ok.blk.u64 ok.blk.u65) (de_var 1) (de_globS (W.c_LETTERS)))))) da_nil)))))))
theorem s_is_tuple_of : FnScope ["value", "length"] ["value", "length"] (defScope (top 8)) := ⟨rfl, rfl, rfl, by decide +kernel, rfl, by decide +kernel, by decide +kernel⟩
theorem w_is_tuple_of (W : Wd K mg) (Z : TZ K mg base) : FnG P w K mg base 1 W.f_is_tuple_of W.q_is_tuple_of ["value", "length"] (spD K (tt K) 2 d_is_tuple_of) := by
  have nd := s_is_tuple_of.nd
  exact fnG_data (O := []) W.F_is_tuple_of s_is_tuple_of fun cdv A outer s H E ok => (dss_one (ds_ret (O1 := []) (de_and (de_isi .tup W.n_isinstance W.n_tuple boot_tuple' (de_var 0)) (de_one (de_cmp (ok_eq ok.u64) (de_callB ok_len W.n_len boot_len' (da_cons (de_var 0) da_nil)) (de_var 1))))))
theorem s_is_one_of : FnScope ["value", "some"] ["value", "some"] (defScope (top 9)) := ⟨rfl, rfl, rfl, by decide +kernel, rfl, by decide +kernel, by decide +kernel⟩
theorem w_is_one_of (W : Wd K mg) (Z : TZ K mg base) : FnG P w K mg base 1 W.f_is_one_of W.q_is_one_of ["value", "some"] (spD K (tt K) 2 d_is_one_of) := by
  have nd := s_is_one_of.nd
  exact fnG_data (O := []) W.F_is_one_of s_is_one_of fun cdv A outer s H E ok => (dss_one (ds_ret (O1 := []) (de_and (de_isi .str W.n_isinstance W.n_str boot_str' (de_var 0)) (de_one (de_cmp (ok_in ok.u64 ok.u65) (de_var 0) (de_var 1))))))
theorem s_wrong_at : FnScope ["value", "most", "is_right", "at", "each"] ["value", "most", "is_right"] (defScope (top 10)) := ⟨rfl, rfl, rfl, by decide +kernel, rfl, by decide +kernel, by decide +kernel⟩
theorem w_wrong_at (W : Wd K mg) (Z : TZ K mg base) {kF : Nat} {fa : Addr} {g0 : Hp} {wo : Option Addr} {g : List D → M D} (B : Beh P w K mg base kF (tt K) g0 wo fa 2 g) : FnG P w K mg base (kF + 1) W.f_wrong_at W.q_wrong_at ["value", "most", "is_right"] (spF K (tt K) g0 wo fa 3 (d_wrong_at g)) := by
  have nd := s_wrong_at.nd
  exact fnF_data (O := []) W.F_wrong_at s_wrong_at fun cdv A outer s H E ok => (dss_cons (O1 := []) (ds_if (O1 := []) (O' := []) (dt_not (dt_tru (de_isi .tup W.n_isinstance W.n_tuple boot_tuple' (de_var 0)))) (dss_one (ds_ret (O1 := []) (de_new (df_lst (da_cons de_non da_nil))))) dss_nil)
      (dss_cons (O1 := []) (ds_for (O := []) (O2 := []) (xs := [3, 4]) psB rfl (di_enum W.n_enumerate (da_cons (de_var 0) da_nil)) (dg_tup rfl (dgs_cons (dg_name 3 nd) (dgs_cons (dg_name 4 nd) dgs_nil))) (dss_one (ds_if (O1 := []) (O' := []) (dt_w (dw_or (dt_w (dw_and (dt_cmp ok_isnot (de_var 1) de_non) (dw_and1 (dt_cmp ok_ge (de_var 3) (de_var 1))))) (dw_or1 (dt_not (dt_tru (de_callP 2 B ok (by omega) tkB (da_cons (de_var 4) (da_cons (de_sl (de_var 0) do_none (do_some (de_var 3))) da_nil)))))))) (dss_one (ds_ret (O1 := []) (de_new (df_lst (da_cons (de_var 3) da_nil))))) dss_nil)))
      (dss_one (ds_ret (O1 := []) (de_new (df_lst da_nil))))))
theorem s_numbers_of : FnScope ["book", "at", "one", "to", "two"] ["book"] (defScope (top 18)) := ⟨rfl, rfl, rfl, by decide +kernel, rfl, by decide +kernel, by decide +kernel⟩
theorem w_numbers_of (W : Wd K mg) (Z : TZ K mg base) : FnG P w K mg base 1 W.f_numbers_of W.q_numbers_of ["book"] (spD K (tt K) 1 d_numbers_of) := by
  have nd := s_numbers_of.nd
  exact fnG_data (O := []) W.F_numbers_of s_numbers_of fun cdv A outer s H E ok => (dss_one (ds_ret (O1 := []) (de_new (df_dc2 (own := [("at", 1), ("one", 2), ("to", 3), ("two", 4)]) (vb := [3, 4]) (b := true) ok.u64 rfl nd (di_enum W.n_enumerate (da_cons (de_at ok.u64 (de_var 0) de_int) da_nil)) (blkOk_by (by rfl)) (by decide) (fun _ _ _ _ _ => (dg_tup rfl (dgs_cons (dg_name 1 nd) (dgs_cons (dg_name 2 nd) dgs_nil)))) (fun _ _ _ _ _ => dts_nil) (fun _ _ _ _ _ => (di_enum W.n_enumerate (da_cons (de_at ok.blk.u64 (de_var 0) de_int) da_nil))) (fun _ _ _ _ _ => (dg_tup rfl (dgs_cons (dg_name 3 nd) (dgs_cons (dg_name 4 nd) dgs_nil)))) (fun _ _ _ _ _ => dts_nil) (fun _ _ _ _ _ => (de_tup (da_cons (de_var 2) (da_cons (de_var 4) da_nil)))) (fun _ _ _ _ _ => (de_at ok.blk.u64 (de_at ok.blk.u64 (de_at ok.blk.u64 (de_var 0) de_int) (de_var 1)) (de_var 3)))))))
theorem s_as_it_is : FnScope ["flight", "time"] ["flight", "time"] (defScope (top 33)) := ⟨rfl, rfl, rfl, by decide +kernel, rfl, by decide +kernel, by decide +kernel⟩
theorem w_as_it_is (W : Wd K mg) (Z : TZ K mg base) : FnG P w K mg base 1 W.f_as_it_is W.q_as_it_is ["flight", "time"] (spD K (tt K) 2 d_as_it_is) := by
  have nd := s_as_it_is.nd
  exact fnG_data (O := []) W.F_as_it_is s_as_it_is fun cdv A outer s H E ok => (dss_one (ds_ret (O1 := []) (de_if (dt_cmp (ok_ne ok.u64) (de_var 0) (de_tup da_nil)) (de_var 1) de_int)))
theorem s_end_as_it_is : FnScope ["time"] ["time"] (defScope (top 34)) := ⟨rfl, rfl, rfl, by decide +kernel, rfl, by decide +kernel, by decide +kernel⟩
theorem w_end_as_it_is (W : Wd K mg) (Z : TZ K mg base) : FnG P w K mg base 1 W.f_end_as_it_is W.q_end_as_it_is ["time"] (spD K (tt K) 1 d_end_as_it_is) := by
  have nd := s_end_as_it_is.nd
  exact fnG_data (O := []) W.F_end_as_it_is s_end_as_it_is fun cdv A outer s H E ok => (dss_one (ds_ret (O1 := []) (de_var 0)))
theorem s_are_in_time : FnScope ["flights", "times", "flight", "time"] ["flights", "times"] (defScope (top 37)) := ⟨rfl, rfl, rfl, by decide +kernel, rfl, by decide +kernel, by decide +kernel⟩
theorem w_are_in_time (W : Wd K mg) (Z : TZ K mg base) : FnG P w K mg base 1 W.f_are_in_time W.q_are_in_time ["flights", "times"] (spD K (tt K) 2 d_are_in_time) := by
  have nd := s_are_in_time.nd
  exact fnG_data (O := []) W.F_are_in_time s_are_in_time fun cdv A outer s H E ok => (dss_one (ds_ret (O1 := []) (de_callB (ok_all rfl) W.n_all boot_all' (da_cons (de_new (df_lc (own := [("flight", 2), ("time", 3)]) rfl nd (di_zip W.n_zip (da_cons (de_var 0) (da_cons (de_var 1) da_nil))) (blkOk_by (by rfl)) (fun _ _ _ _ _ => (dg_tup rfl (dgs_cons (dg_name 2 nd) (dgs_cons (dg_name 3 nd) dgs_nil)))) (fun _ _ _ _ _ => dts_nil) (fun _ _ _ _ _ => (de_cmp ok_le (de_var 3) (de_at ok.blk.u64 (de_var 2) de_int))))) da_nil))))
theorem s_open_from : FnScope ["closings", "time", "first", "last"] ["closings", "time"] (defScope (top 47)) := ⟨rfl, rfl, rfl, by decide +kernel, rfl, by decide +kernel, by decide +kernel⟩
theorem w_open_from (W : Wd K mg) (Z : TZ K mg base) : FnG P w K mg base 1 W.f_open_from W.q_open_from ["closings", "time"] (spD K (tt K) 2 d_open_from) := by
  have nd := s_open_from.nd
  exact fnG_data (O := []) W.F_open_from s_open_from fun cdv A outer s H E ok => (dss_cons (O1 := []) (ds_for (O := []) (O2 := []) (xs := [2, 3]) psB rfl (di_seq (de_var 0)) (dg_tup rfl (dgs_cons (dg_name 2 nd) (dgs_cons (dg_name 3 nd) dgs_nil))) (dss_one (ds_if (O1 := []) (O' := []) (dt_chain ok_le ok_le (de_var 2) (de_var 1) (de_var 3)) (dss_one (ds_ret (O1 := []) (de_op ok_add (de_var 3) de_int))) dss_nil)))
      (dss_one (ds_ret (O1 := []) (de_var 1))))
theorem s_open_until : FnScope ["closings", "time", "first", "last"] ["closings", "time"] (defScope (top 48)) := ⟨rfl, rfl, rfl, by decide +kernel, rfl, by decide +kernel, by decide +kernel⟩
theorem w_open_until (W : Wd K mg) (Z : TZ K mg base) : FnG P w K mg base 1 W.f_open_until W.q_open_until ["closings", "time"] (spD K (tt K) 2 d_open_until) := by
  have nd := s_open_until.nd
  exact fnG_data (O := []) W.F_open_until s_open_until fun cdv A outer s H E ok => (dss_cons (O1 := []) (ds_for (O := []) (O2 := []) (xs := [2, 3]) psB rfl (di_seq (de_var 0)) (dg_tup rfl (dgs_cons (dg_name 2 nd) (dgs_cons (dg_name 3 nd) dgs_nil))) (dss_one (ds_if (O1 := []) (O' := []) (dt_chain ok_le ok_le (de_var 2) (de_var 1) (de_var 3)) (dss_one (ds_ret (O1 := []) (de_op ok_sub (de_var 2) de_int))) dss_nil)))
      (dss_one (ds_ret (O1 := []) (de_var 1))))
theorem s__law_well : FnScope ["script", "k", "spot", "mixed", "each"] ["script", "k"] (defScope (top 60)) := ⟨rfl, rfl, rfl, by decide +kernel, rfl, by decide +kernel, by decide +kernel⟩
theorem w__law_well (W : Wd K mg) (Z : TZ K mg base) : FnG P w K mg base 1 W.f__law_well W.q__law_well ["script", "k"] (spN K (tt K) 2 d__law_well) := by
  have nd := s__law_well.nd
  exact fnN_data W.F__law_well s__law_well fun cdv A outer s H E ok => (dns_cons (L := []) (O1 := []) (ds_set (O1 := []) (O' := []) 2 nd (de_if (dt_cmp ok_lt (de_var 1) (de_callB ok_len W.n_len boot_len' (da_cons (de_var 0) da_nil))) (de_callTy ok_int W.n_int boot_int' (da_cons (de_at ok.u64 (de_var 0) (de_var 1)) da_nil)) (de_op ok_add (de_op ok_mul de_int (de_var 1)) de_int)))
      (dns_cons (L := []) (O1 := []) (ds_setK (O1 := []) (O' := []) 3 nd (de_op ok_add de_int (de_op ok_mul de_int (de_var 1))))
      (dns_cons (L := []) (O1 := []) (ds_for (O := []) (O2 := []) (xs := [4]) psB rfl (di_seq (de_op ok_add (de_sl (de_var 0) do_none (do_some de_int)) (de_new (df_lst (da_cons (de_var 2) da_nil))))) (dg_name 4 nd) (dss_one (ds_setK (O1 := []) (O' := []) 3 nd (de_op ok_mod (de_callTy ok_int W.n_int boot_int' (da_cons (de_op ok_add (de_op ok_add (de_op ok_mul (de_var 3) de_int) (de_op ok_mod (de_callTy ok_int W.n_int boot_int' (da_cons (de_var 4) da_nil)) de_int)) de_int) da_nil)) de_int))))
      (dns_ret (O1 := []) (df_lst (da_cons (de_if (dt_w (dw_or (dt_cmp ok_lt (de_var 2) de_int) (dw_or1 (dt_cmp ok_ge (de_var 2) (de_op ok_pow de_int de_int))))) (de_callB ok_abs W.n_abs boot_abs' (da_cons (de_var 2) da_nil)) de_int) (da_cons (de_var 3) (da_cons de_int da_nil))))))))
theorem s__law_dip : FnScope ["well", "many", "digit"] ["well", "many"] (defScope (top 61)) := ⟨rfl, rfl, rfl, by decide +kernel, rfl, by decide +kernel, by decide +kernel⟩
theorem w__law_dip (W : Wd K mg) (Z : TZ K mg base) : FnG P w K mg base 1 W.f__law_dip W.q__law_dip ["well", "many"] (spD K (tt K) 2 d__law_dip) := by
  have nd := s__law_dip.nd
  exact fnG_data (O := []) W.F__law_dip s__law_dip fun cdv A outer s H E ok => (dss_cons (O1 := []) (ds_if (O1 := []) (O' := []) (dt_cmp ok_gt (de_at ok.u64 (de_var 0) de_int) de_int) (dss_cons (O1 := []) (ds_asg (O1 := []) (O' := []) (xs := [2]) (de_callB ok_divmod W.n_divmod boot_divmod' (da_cons (de_at ok.u64 (de_var 0) de_int) (da_cons (de_var 1) da_nil))) (dg_tup rfl (dgs_cons (dg_putW 0 de_int (fun h => h)) (dgs_cons (dg_name 2 nd) dgs_nil))))
      (dss_one (ds_ret (O1 := []) (de_var 2)))) dss_nil)
      (dss_cons (O1 := []) (ds_putW (O1 := []) 0 (de_op ok_add (de_at ok.u64 (de_var 0) de_int) de_int) de_int)
      (dss_cons (O1 := []) (ds_putW (O1 := []) 0 (de_op ok_mod (de_callTy ok_int W.n_int boot_int' (da_cons (de_op ok_add (de_op ok_add (de_op ok_mul (de_at ok.u64 (de_var 0) de_int) de_int) (de_op ok_mul de_int (de_at ok.u64 (de_var 0) de_int))) de_int) da_nil)) de_int) de_int)
      (dss_one (ds_ret (O1 := []) (de_op ok_mod (de_callTy ok_int W.n_int boot_int' (da_cons (de_op ok_div (de_at ok.u64 (de_var 0) de_int) de_int) da_nil)) (de_var 1)))))))
theorem s__law_turns : FnScope ["script"] ["script"] (defScope (top 63)) := ⟨rfl, rfl, rfl, by decide +kernel, rfl, by decide +kernel, by decide +kernel⟩
theorem w__law_turns (W : Wd K mg) (Z : TZ K mg base) : FnG P w K mg base 1 W.f__law_turns W.q__law_turns ["script"] (spD K (tt K) 1 d__law_turns) := by
  have nd := s__law_turns.nd
  exact fnG_data (O := []) W.F__law_turns s__law_turns fun cdv A outer s H E ok => (dss_one (ds_ret (O1 := []) (de_new (df_lstRg rfl W.n_list W.n_range (de_callB (ok_max rfl) W.n_max boot_max' (da_cons de_int (da_cons (de_callB (ok_min rfl) W.n_min boot_min' (da_cons (de_callB ok_len W.n_len boot_len' (da_cons (de_var 0) da_nil)) (da_cons de_int da_nil))) da_nil)))))))
theorem s__law_table : FnScope ["book", "found", "kind", "row", "other", "number"] ["book"] (defScope (top 66)) := ⟨rfl, rfl, rfl, by decide +kernel, rfl, by decide +kernel, by decide +kernel⟩
theorem w__law_table (W : Wd K mg) (Z : TZ K mg base) : FnG P w K mg base 1 W.f__law_table W.q__law_table ["book"] (spD K (tt K) 1 d__law_table) := by
  have nd := s__law_table.nd
  exact fnG_data (O := []) W.F__law_table s__law_table fun cdv A outer s H E ok => (dss_cons (O1 := [1]) (ds_setF (O1 := []) (O' := [1]) 1 nd df_dnewT)
      (dss_cons (O1 := [1]) (ds_for (O := [1]) (O2 := [1]) (xs := [2, 3]) psB rfl (di_zip W.n_zip (da_cons (de_at ok.u64 (de_var 0) de_int) (da_cons (de_at ok.u64 (de_var 0) de_int) da_nil))) (dg_tup rfl (dgs_cons (dg_name 2 nd) (dgs_cons (dg_name 3 nd) dgs_nil))) (dss_one (ds_for (O := [1]) (O2 := [1]) (xs := [4, 5]) psB rfl (di_zip W.n_zip (da_cons (de_at ok.u64 (de_var 0) de_int) (da_cons (de_var 3) da_nil))) (dg_tup rfl (dgs_cons (dg_name 4 nd) (dgs_cons (dg_name 5 nd) dgs_nil))) (dss_one (ds_put (O1 := [1]) 1 ok.u64 (de_var 5) (de_tup (da_cons (de_var 2) (da_cons (de_var 4) da_nil))))))))
      (dss_one (ds_ret (O1 := []) (de_var 1)))))
theorem s__law_free : FnScope ["shut", "time", "found"] ["shut", "time"] (defScope (top 70)) := ⟨rfl, rfl, rfl, by decide +kernel, rfl, by decide +kernel, by decide +kernel⟩
theorem w__law_free (W : Wd K mg) (Z : TZ K mg base) : FnG P w K mg base 1 W.f__law_free W.q__law_free ["shut", "time"] (spD K (tt K) 2 d__law_free) := by
  have nd := s__law_free.nd
  exact fnG_data (O := []) W.F__law_free s__law_free fun cdv A outer s H E ok => (dss_cons (O1 := []) (ds_set (O1 := []) (O' := []) 2 nd (de_var 1))
      (dss_cons (O1 := []) (ds_while (O1 := []) 2000 psB (dt_cmp (ok_in ok.u64 ok.u65) (de_var 2) (de_var 0)) (dss_one (ds_setK (O1 := []) (O' := []) 2 nd (de_op ok_add (de_var 2) de_int))))
      (dss_one (ds_ret (O1 := []) (de_var 2)))))
theorem s_is_number : FnScope ["value", "low", "high"] ["value", "low", "high"] (defScope (top 5)) := ⟨rfl, rfl, rfl, by decide +kernel, rfl, by decide +kernel, by decide +kernel⟩
theorem w_is_number (W : Wd K mg) (Z : TZ K mg base) : FnG P w K mg base 2 W.f_is_number W.q_is_number ["value", "low", "high"] (spD K (tt K) 3 d_is_number) := by
  have nd := s_is_number.nd
  exact fnG_data (O := []) W.F_is_number s_is_number fun cdv A outer s H E ok => (dss_cons (O1 := []) (ds_if (O1 := []) (O' := []) (dt_w (dw_or (dt_not (dt_tru (de_call (w_is_whole W Z) ok (by decide) tkB W.g_is_whole W.F_is_whole.kp (b_is_whole W) (da_cons (de_var 0) da_nil)))) (dw_or1 (dt_w (dw_and (dt_cmp ok_isnot (de_var 1) de_non) (dw_and1 (dt_cmp ok_lt (de_var 0) (de_var 1)))))))) (dss_one (ds_ret (O1 := []) de_bl)) dss_nil)
      (dss_one (ds_ret (O1 := []) (de_or (de_cmp ok_is (de_var 2) de_non) (de_one (de_cmp ok_le (de_var 0) (de_var 2)))))))
theorem s_is_name : FnScope ["value"] ["value"] (defScope (top 7)) := ⟨rfl, rfl, rfl, by decide +kernel, rfl, by decide +kernel, by decide +kernel⟩
theorem w_is_name (W : Wd K mg) (Z : TZ K mg base) : FnG P w K mg base 2 W.f_is_name W.q_is_name ["value"] (spD K (tt K) 1 d_is_name) := by
  have nd := s_is_name.nd
  exact fnG_data (O := []) W.F_is_name s_is_name fun cdv A outer s H E ok => (dss_one (ds_ret (O1 := []) (de_and (de_call (w_is_word W Z) ok (by decide) tkB W.g_is_word W.F_is_word.kp (b_is_word W) (da_cons (de_var 0) da_nil)) (de_and (de_cmp ok_le (de_callB ok_len W.n_len boot_len' (da_cons (de_var 0) da_nil)) (de_globI (W.c_MOST_LETTERS))) (de_one (de_cmp (ok_notin ok.u64 ok.u65) (de_var 0) (de_globT (zs := z_WORDS) (W.c_WORDS))))))))
theorem s_wrong_from_one : FnScope ["value", "most", "is_right"] ["value", "most", "is_right"] (defScope (top 11)) := ⟨rfl, rfl, rfl, by decide +kernel, rfl, by decide +kernel, by decide +kernel⟩
theorem w_wrong_from_one (W : Wd K mg) (Z : TZ K mg base) {kF : Nat} {fa : Addr} {g0 : Hp} {wo : Option Addr} {g : List D → M D} (B : Beh P w K mg base kF (tt K) g0 wo fa 2 g) : FnG P w K mg base (kF + 2) W.f_wrong_from_one W.q_wrong_from_one ["value", "most", "is_right"] (spF K (tt K) g0 wo fa 3 (d_wrong_from_one g)) := by
  have nd := s_wrong_from_one.nd
  exact fnF_data (O := []) W.F_wrong_from_one s_wrong_from_one fun cdv A outer s H E ok => (dss_one (ds_ret (O1 := []) (de_if (dt_w (dw_and (dt_tru (de_isi .tup W.n_isinstance W.n_tuple boot_tuple' (de_var 0))) (dw_and1 (dt_cmp (ok_eq ok.u64) (de_var 0) (de_tup da_nil))))) (de_new (df_lst (da_cons de_non da_nil))) (de_callFP rfl (w_wrong_at W Z B) ok (by omega) tkB W.g_wrong_at W.F_wrong_at.kp (b_wrong_at W) (da_cons (de_var 0) (da_cons (de_var 1) (da_cons (de_var 2) da_nil)))))))
theorem s_earliest_by : FnScope ["book", "flights", "next_open", "flight", "numbers", "found", "least", "other", "time"] ["book", "flights", "next_open"] (defScope (top 31)) := ⟨rfl, rfl, rfl, by decide +kernel, rfl, by decide +kernel, by decide +kernel⟩
theorem w_earliest_by (W : Wd K mg) (Z : TZ K mg base) {kF : Nat} {fa : Addr} {g0 : Hp} {wo : Option Addr} {g : List D → M D} (B : Beh P w K mg base kF (tt K) g0 wo fa 2 g) : FnG P w K mg base (kF + 2) W.f_earliest_by W.q_earliest_by ["book", "flights", "next_open"] (spF K (tt K) g0 wo fa 3 (d_earliest_by g)) := by
  have nd := s_earliest_by.nd
  exact fnF_data (O := []) W.F_earliest_by s_earliest_by fun cdv A outer s H E ok => (dss_cons (O1 := [5]) (ds_par (O1 := []) (O' := [5]) 4 5 rfl nd (dm_val (de_call (w_numbers_of W Z) ok (by omega) tkB W.g_numbers_of W.F_numbers_of.kp (b_numbers_of W) (da_cons (de_var 0) da_nil)) (dm_new (df_lst da_nil) dm_nil)))
      (dss_cons (O1 := [5]) (ds_for (O := [5]) (O2 := [5]) (xs := [3]) psB rfl (di_seq (de_var 1)) (dg_name 3 nd) (dss_cons (O1 := [5]) (ds_set (O1 := [5]) (O' := [5]) 6 nd (de_at ok.u64 (de_var 3) de_int))
      (dss_cons (O1 := [5]) (ds_fold (O := [5]) (xs := [7, 8]) 6 nd psB rfl (di_zip W.n_zip (da_cons (de_var 1) (da_cons (de_var 5) da_nil))) (dg_tup rfl (dgs_cons (dg_name 7 nd) (dgs_cons (dg_name 8 nd) dgs_nil))) (de_callB (ok_max rfl) W.n_max boot_max' (da_cons (de_var 6) (da_cons (de_op ok_add (de_var 8) (de_at ok.u64 (de_var 4) (de_tup (da_cons (de_at ok.u64 (de_var 7) de_int) (da_cons (de_at ok.u64 (de_var 3) de_int) da_nil))))) da_nil))))
      (dss_one (ds_mut (O1 := [5]) 5 PySem.F.slot_list_append PySem.F.type_list_append mt_append mu_append (da_cons (de_callP 2 B ok (by omega) tkB (da_cons (de_var 3) (da_cons (de_var 6) da_nil))) da_nil))))))
      (dss_one (ds_ret (O1 := []) (de_var 5)))))
theorem s_latest_by : FnScope ["book", "flights", "last_open", "flight", "numbers", "found", "most", "other", "time"] ["book", "flights", "last_open"] (defScope (top 32)) := ⟨rfl, rfl, rfl, by decide +kernel, rfl, by decide +kernel, by decide +kernel⟩
theorem w_latest_by (W : Wd K mg) (Z : TZ K mg base) {kF : Nat} {fa : Addr} {g0 : Hp} {wo : Option Addr} {g : List D → M D} (B : Beh P w K mg base kF (tt K) g0 wo fa 1 g) : FnG P w K mg base (kF + 2) W.f_latest_by W.q_latest_by ["book", "flights", "last_open"] (spF K (tt K) g0 wo fa 3 (d_latest_by g)) := by
  have nd := s_latest_by.nd
  exact fnF_data (O := []) W.F_latest_by s_latest_by fun cdv A outer s H E ok => (dss_cons (O1 := [5]) (ds_par (O1 := []) (O' := [5]) 4 5 rfl nd (dm_val (de_call (w_numbers_of W Z) ok (by omega) tkB W.g_numbers_of W.F_numbers_of.kp (b_numbers_of W) (da_cons (de_var 0) da_nil)) (dm_new (df_lst da_nil) dm_nil)))
      (dss_cons (O1 := [5]) (ds_for (O := [5]) (O2 := [5]) (xs := [3]) psB rfl (di_seq (de_revA (de_var 1))) (dg_name 3 nd) (dss_cons (O1 := [5]) (ds_set (O1 := [5]) (O' := [5]) 6 nd (de_at ok.u64 (de_var 3) de_int))
      (dss_cons (O1 := [5]) (ds_fold (O := [5]) (xs := [7, 8]) 6 nd psB rfl (di_zip W.n_zip (da_cons (de_revA (de_var 1)) (da_cons (de_var 5) da_nil))) (dg_tup rfl (dgs_cons (dg_name 7 nd) (dgs_cons (dg_name 8 nd) dgs_nil))) (de_callB (ok_min rfl) W.n_min boot_min' (da_cons (de_var 6) (da_cons (de_op ok_sub (de_var 8) (de_at ok.u64 (de_var 4) (de_tup (da_cons (de_at ok.u64 (de_var 3) de_int) (da_cons (de_at ok.u64 (de_var 7) de_int) da_nil))))) da_nil))))
      (dss_one (ds_mut (O1 := [5]) 5 PySem.F.slot_list_append PySem.F.type_list_append mt_append mu_append (da_cons (de_callP 2 B ok (by omega) tkB (da_cons (de_var 6) da_nil)) da_nil))))))
      (dss_one (ds_ret (O1 := []) (de_revA (de_var 5))))))
theorem s__law_one : FnScope ["well", "some"] ["well", "some"] (defScope (top 62)) := ⟨rfl, rfl, rfl, by decide +kernel, rfl, by decide +kernel, by decide +kernel⟩
theorem w__law_one (W : Wd K mg) (Z : TZ K mg base) : FnG P w K mg base 2 W.f__law_one W.q__law_one ["well", "some"] (spD K (tt K) 2 d__law_one) := by
  have nd := s__law_one.nd
  exact fnG_data (O := []) W.F__law_one s__law_one fun cdv A outer s H E ok => (dss_one (ds_ret (O1 := []) (de_at ok.u64 (de_var 1) (de_call (w__law_dip W Z) ok (by decide) tkB W.g__law_dip W.F__law_dip.kp (b__law_dip W) (da_cons (de_var 0) (da_cons (de_callB ok_len W.n_len boot_len' (da_cons (de_var 1) da_nil)) da_nil))))))
theorem s__law_shuffled : FnScope ["well", "some", "turn", "left", "found"] ["well", "some"] (defScope (top 68)) := ⟨rfl, rfl, rfl, by decide +kernel, rfl, by decide +kernel, by decide +kernel⟩
theorem w__law_shuffled (W : Wd K mg) (Z : TZ K mg base) : FnG P w K mg base 2 W.f__law_shuffled W.q__law_shuffled ["well", "some"] (spD K (tt K) 2 d__law_shuffled) := by
  have nd := s__law_shuffled.nd
  exact fnG_data (O := []) W.F__law_shuffled s__law_shuffled fun cdv A outer s H E ok => (dss_cons (O1 := [4, 3]) (ds_par (O1 := []) (O' := [4, 3]) 3 4 rfl nd (dm_new (df_listA rfl W.n_list (da_cons (de_var 1) da_nil)) (dm_new (df_lst da_nil) dm_nil)))
      (dss_cons (O1 := [4, 3]) (ds_forK (O1 := []) (O := [4, 3]) (O2 := [4, 3]) (xs := [2]) psB rfl (dik_rng1 W.n_range (da_cons (de_callB ok_len W.n_len boot_len' (da_cons (de_var 3) da_nil)) da_nil)) (dg_name 2 nd) (dss_one (ds_appPop (O1 := [4, 3]) 4 3 (by decide) (de_call (w__law_dip W Z) ok (by decide) tkB W.g__law_dip W.F__law_dip.kp (b__law_dip W) (da_cons (de_var 0) (da_cons (de_lenO 3 W.n_len) da_nil))))))
      (dss_one (ds_ret (O1 := []) (de_callTy ok_tuple W.n_tuple boot_tuple' (da_cons (de_var 4) da_nil))))))
theorem s_is_line : FnScope ["value", "many", "each"] ["value", "many"] (defScope (top 16)) := ⟨rfl, rfl, rfl, by decide +kernel, rfl, by decide +kernel, by decide +kernel⟩
theorem w_is_line (W : Wd K mg) (Z : TZ K mg base) : FnG P w K mg base 3 W.f_is_line W.q_is_line ["value", "many"] (spD K (tt K) 2 d_is_line) := by
  have nd := s_is_line.nd
  exact fnG_data (O := []) W.F_is_line s_is_line fun cdv A outer s H E ok => (dss_one (ds_ret (O1 := []) (de_and (de_call (w_is_tuple_of W Z) ok (by decide) tkB W.g_is_tuple_of W.F_is_tuple_of.kp (b_is_tuple_of W) (da_cons (de_var 0) (da_cons (de_var 1) da_nil))) (de_one (de_callB (ok_all rfl) W.n_all boot_all' (da_cons (de_new (df_lc (own := [("each", 2)]) rfl nd (di_seq (de_var 0)) (blkOk_by (by rfl)) (fun _ _ _ _ _ => (dg_name 2 nd)) (fun _ _ _ _ _ => dts_nil) (fun _ _ _ _ _ => (de_call (w_is_number W Z) ok.blk (by decide) L2.takes0 W.g_is_number W.F_is_number.kp (b_is_number W) (da_cons (de_var 2) (da_cons de_int (da_cons (de_globI (W.c_MOST_NUMBER)) da_nil))))))) da_nil))))))
theorem s_is_time : FnScope ["value"] ["value"] (defScope (top 28)) := ⟨rfl, rfl, rfl, by decide +kernel, rfl, by decide +kernel, by decide +kernel⟩
theorem w_is_time (W : Wd K mg) (Z : TZ K mg base) : FnG P w K mg base 3 W.f_is_time W.q_is_time ["value"] (spD K (tt K) 1 d_is_time) := by
  have nd := s_is_time.nd
  exact fnG_data (O := []) W.F_is_time s_is_time fun cdv A outer s H E ok => (dss_one (ds_ret (O1 := []) (de_call (w_is_number W Z) ok (by decide) tkB W.g_is_number W.F_is_number.kp (b_is_number W) (da_cons (de_var 0) (da_cons de_int (da_cons (de_globI (W.c_MOST_TIME)) da_nil))))))
theorem s__law_words : FnScope ["well", "many", "taken", "k", "letters", "found", "word", "some", "turn", "sign", "each"] ["well", "many"] (defScope (top 64)) := ⟨rfl, rfl, rfl, by decide +kernel, rfl, by decide +kernel, by decide +kernel⟩
theorem w__law_words (W : Wd K mg) (Z : TZ K mg base) : FnG P w K mg base 3 W.f__law_words W.q__law_words ["well", "many"] (spD K (tt K) 2 d__law_words) := by
  have nd := s__law_words.nd
  exact fnG_data (O := []) W.F__law_words s__law_words fun cdv A outer s H E ok => (dss_cons (O1 := [5]) (ds_parC (O1 := []) (O' := [5]) 4 5 rfl nd (dm_val de_str (dm_new (df_lst da_nil) dm_nil)))
      (dss_cons (O1 := [5]) (ds_set (O1 := [5]) (O' := [5]) 2 nd (de_new (df_lst (da_cons de_str (da_cons de_str (da_cons de_str (da_cons de_str (da_cons de_str (da_cons de_str (da_cons de_str (da_cons de_str (da_cons de_str (da_cons de_str (da_cons de_str (da_cons de_str (da_cons de_str da_nil))))))))))))))))
      (dss_cons (O1 := [5]) (ds_set (O1 := [5]) (O' := [5]) 2 nd (de_op ok_add (de_var 2) (de_new (df_lst (da_cons de_str (da_cons de_str (da_cons de_str (da_cons de_str (da_cons de_str (da_cons de_str (da_cons de_str (da_cons de_str (da_cons de_str (da_cons de_str (da_cons de_str (da_cons de_str da_nil))))))))))))))))
      (dss_cons (O1 := [5]) (ds_set (O1 := [5]) (O' := [5]) 2 nd (de_op ok_add (de_var 2) (de_new (df_lst (da_cons de_str (da_cons de_str da_nil))))))
      (dss_cons (O1 := [5]) (ds_forK (O1 := []) (O := [5]) (O2 := [5]) (xs := [3]) psB rfl (dik_rng1 W.n_range (da_cons (de_var 1) da_nil)) (dg_name 3 nd) (dss_cons (O1 := [5]) (ds_set (O1 := [5]) (O' := [5]) 6 nd (de_join de_str (da_cons (de_new (df_lc (own := [("turn", 8)]) rfl nd (di_rng1 W.n_range (da_cons (de_op ok_add de_int (de_call (w__law_dip W Z) ok (by decide) tkB W.g__law_dip W.F__law_dip.kp (b__law_dip W) (da_cons (de_var 0) (da_cons (de_call (w__law_one W Z) ok (by decide) tkB W.g__law_one W.F__law_one.kp (b__law_one W) (da_cons (de_var 0) (da_cons (de_new (df_lst (da_cons de_int (da_cons de_int (da_cons de_int da_nil))))) da_nil))) da_nil)))) da_nil)) (blkOk_by (by rfl)) (fun _ _ _ _ _ => (dg_name 8 nd)) (fun _ _ _ _ _ => dts_nil) (fun _ _ _ _ _ => (de_call (w__law_one W Z) ok.blk (by decide) L2.takes0 W.g__law_one W.F__law_one.kp (b__law_one W) (da_cons (de_var 0) (da_cons (de_var 4) da_nil)))))) da_nil)))
      (dss_cons (O1 := [5]) (ds_set (O1 := [5]) (O' := [5]) 7 nd (de_op ok_add (de_op ok_add (de_new (df_lst (da_cons (de_var 6) da_nil))) (de_new (df_lc (own := [("sign", 9)]) rfl nd (di_seq (de_var 4)) (blkOk_by (by rfl)) (fun _ _ _ _ _ => (dg_name 9 nd)) (fun _ _ _ _ _ => dts_nil) (fun _ _ _ _ _ => (de_op ok_add (de_op ok_add (de_sl (de_var 6) do_none (do_some de_int)) (de_var 9)) de_str))))) (de_new (df_lc (own := [("sign", 9)]) rfl nd (di_seq (de_var 4)) (blkOk_by (by rfl)) (fun _ _ _ _ _ => (dg_name 9 nd)) (fun _ _ _ _ _ => dts_nil) (fun _ _ _ _ _ => (de_op ok_add (de_op ok_add (de_sl (de_var 6) do_none (do_some de_int)) (de_var 9)) de_str))))))
      (dss_one (ds_mutK (O := [5]) 5 PySem.F.slot_list_append PySem.F.type_list_append mt_append mu_append (da_cons (de_at ok.u64 (de_new (df_lc (own := [("each", 10)]) rfl nd (di_seq (de_var 7)) (blkOk_by (by rfl)) (fun _ _ _ _ _ => (dg_name 10 nd)) (fun _ _ _ _ _ => (dts_one (dt_cmp (ok_notin ok.blk.u64 ok.blk.u65) (de_var 10) (de_op ok_add (de_var 5) (de_var 2))))) (fun _ _ _ _ _ => (de_var 10)))) de_int) da_nil))))))
      (dss_one (ds_ret (O1 := []) (de_callTy ok_tuple W.n_tuple boot_tuple' (da_cons (de_new (df_sortS W.n_sorted (da_cons (de_var 5) da_nil))) da_nil)))))))))
theorem s__law_closings : FnScope ["well", "far", "turn", "found", "now", "last"] ["well", "far"] (defScope (top 69)) := ⟨rfl, rfl, rfl, by decide +kernel, rfl, by decide +kernel, by decide +kernel⟩
theorem w__law_closings (W : Wd K mg) (Z : TZ K mg base) : FnG P w K mg base 3 W.f__law_closings W.q__law_closings ["well", "far"] (spD K (tt K) 2 d__law_closings) := by
  have nd := s__law_closings.nd
  exact fnG_data (O := []) W.F__law_closings s__law_closings fun cdv A outer s H E ok => (dss_cons (O1 := [3]) (ds_par (O1 := []) (O' := [3]) 3 4 rfl nd (dm_new (df_lst da_nil) (dm_val (de_call (w__law_dip W Z) ok (by decide) tkB W.g__law_dip W.F__law_dip.kp (b__law_dip W) (da_cons (de_var 0) (da_cons (de_op ok_add (de_var 1) de_int) da_nil))) dm_nil)))
      (dss_cons (O1 := [3]) (ds_forK (O1 := []) (O := [3]) (O2 := [3]) (xs := [2]) psB rfl (dik_rng1 W.n_range (da_cons (de_call (w__law_dip W Z) ok (by decide) tkB W.g__law_dip W.F__law_dip.kp (b__law_dip W) (da_cons (de_var 0) (da_cons de_int da_nil))) da_nil)) (dg_name 2 nd) (dss_cons (O1 := [3]) (ds_set (O1 := [3]) (O' := [3]) 5 nd (de_op ok_add (de_var 4) (de_call (w__law_dip W Z) ok (by decide) tkB W.g__law_dip W.F__law_dip.kp (b__law_dip W) (da_cons (de_var 0) (da_cons (de_call (w__law_one W Z) ok (by decide) tkB W.g__law_one W.F__law_one.kp (b__law_one W) (da_cons (de_var 0) (da_cons (de_new (df_lst (da_cons de_int (da_cons de_int (da_cons (de_op ok_add (de_op ok_div (de_var 1) de_int) de_int) da_nil))))) da_nil))) da_nil)))))
      (dss_one (ds_if (O1 := []) (O' := [3]) (dt_cmp ok_le (de_var 5) (de_var 1)) (dss_cons (O1 := [3]) (ds_mut (O1 := [3]) 3 PySem.F.slot_list_append PySem.F.type_list_append mt_append mu_append (da_cons (de_tup (da_cons (de_var 4) (da_cons (de_var 5) da_nil))) da_nil))
      (dss_one (ds_setK (O1 := []) (O' := [3]) 4 nd (de_op ok_add (de_op ok_add (de_var 5) de_int) (de_call (w__law_dip W Z) ok (by decide) tkB W.g__law_dip W.F__law_dip.kp (b__law_dip W) (da_cons (de_var 0) (da_cons de_int da_nil))))))) dss_nil))))
      (dss_one (ds_ret (O1 := []) (de_callTy ok_tuple W.n_tuple boot_tuple' (da_cons (de_var 3) da_nil))))))
theorem s_is_flight : FnScope ["kinds", "value"] ["kinds", "value"] (defScope (top 29)) := ⟨rfl, rfl, rfl, by decide +kernel, rfl, by decide +kernel, by decide +kernel⟩
theorem w_is_flight (W : Wd K mg) (Z : TZ K mg base) : FnG P w K mg base 4 W.f_is_flight W.q_is_flight ["kinds", "value"] (spD K (tt K) 2 d_is_flight) := by
  have nd := s_is_flight.nd
  exact fnG_data (O := []) W.F_is_flight s_is_flight fun cdv A outer s H E ok => (dss_cons (O1 := []) (ds_if (O1 := []) (O' := []) (dt_w (dw_or (dt_not (dt_tru (de_call (w_is_tuple_of W Z) ok (by decide) tkB W.g_is_tuple_of W.F_is_tuple_of.kp (b_is_tuple_of W) (da_cons (de_var 1) (da_cons de_int da_nil))))) (dw_or (dt_not (dt_tru (de_call (w_is_name W Z) ok (by decide) tkB W.g_is_name W.F_is_name.kp (b_is_name W) (da_cons (de_at ok.u64 (de_var 1) de_int) da_nil)))) (dw_or1 (dt_not (dt_tru (de_call (w_is_one_of W Z) ok (by decide) tkB W.g_is_one_of W.F_is_one_of.kp (b_is_one_of W) (da_cons (de_at ok.u64 (de_var 1) de_int) (da_cons (de_var 0) da_nil))))))))) (dss_one (ds_ret (O1 := []) de_bl)) dss_nil)
      (dss_one (ds_ret (O1 := []) (de_and (de_call (w_is_time W Z) ok (by decide) tkB W.g_is_time W.F_is_time.kp (b_is_time W) (da_cons (de_at ok.u64 (de_var 1) de_int) da_nil)) (de_one (de_call (w_is_number W Z) ok (by decide) tkB W.g_is_number W.F_is_number.kp (b_is_number W) (da_cons (de_at ok.u64 (de_var 1) de_int) (da_cons (de_at ok.u64 (de_var 1) de_int) (da_cons (de_globI (W.c_MOST_TIME)) da_nil)))))))))
theorem s_earliest_of : FnScope ["book", "flights", "found"] ["book", "flights"] (defScope (top 35)) := ⟨rfl, rfl, rfl, by decide +kernel, rfl, by decide +kernel, by decide +kernel⟩
theorem w_earliest_of (W : Wd K mg) (Z : TZ K mg base) : FnG P w K mg base 4 W.f_earliest_of W.q_earliest_of ["book", "flights"] (spD K (tt K) 2 d_earliest_of) := by
  have nd := s_earliest_of.nd
  exact fnG_data (O := []) W.F_earliest_of s_earliest_of fun cdv A outer s H E ok => (dss_cons (O1 := []) (ds_set (O1 := []) (O' := []) 2 nd (de_callG (fun g0 wo => beh_glob (w_as_it_is W Z) W.F_as_it_is (b_as_it_is W) rfl g0 wo) (fun g0 wo B => w_earliest_by W Z B) ok (by decide) tkB W.g_earliest_by W.F_earliest_by.kp (b_earliest_by W) (dag_cons (de_var 0) (dag_cons (de_var 1) (dag_last W.g_as_it_is)))))
      (dss_one (ds_ret (O1 := []) (de_if (dt_tru (de_call (w_are_in_time W Z) ok (by decide) tkB W.g_are_in_time W.F_are_in_time.kp (b_are_in_time W) (da_cons (de_var 1) (da_cons (de_var 2) da_nil)))) (de_var 2) (de_new (df_lst da_nil))))))
theorem s_latest_of : FnScope ["book", "flights"] ["book", "flights"] (defScope (top 36)) := ⟨rfl, rfl, rfl, by decide +kernel, rfl, by decide +kernel, by decide +kernel⟩
theorem w_latest_of (W : Wd K mg) (Z : TZ K mg base) : FnG P w K mg base 4 W.f_latest_of W.q_latest_of ["book", "flights"] (spD K (tt K) 2 d_latest_of) := by
  have nd := s_latest_of.nd
  exact fnG_data (O := []) W.F_latest_of s_latest_of fun cdv A outer s H E ok => (dss_one (ds_ret (O1 := []) (de_callG (fun g0 wo => beh_glob (w_end_as_it_is W Z) W.F_end_as_it_is (b_end_as_it_is W) rfl g0 wo) (fun g0 wo B => w_latest_by W Z B) ok (by decide) tkB W.g_latest_by W.F_latest_by.kp (b_latest_by W) (dag_cons (de_var 0) (dag_cons (de_var 1) (dag_last W.g_end_as_it_is))))))
theorem s_check_time : FnScope ["value"] ["value"] (defScope (top 40)) := ⟨rfl, rfl, rfl, by decide +kernel, rfl, by decide +kernel, by decide +kernel⟩
theorem w_check_time (W : Wd K mg) (Z : TZ K mg base) : FnG P w K mg base 4 W.f_check_time W.q_check_time ["value"] (spD K (tt K) 1 d_check_time) := by
  have nd := s_check_time.nd
  exact fnG_data (O := []) W.F_check_time s_check_time fun cdv A outer s H E ok => (dss_one (ds_if (O1 := []) (O' := []) (dt_not (dt_tru (de_call (w_is_time W Z) ok (by decide) tkB W.g_is_time W.F_is_time.kp (b_is_time W) (da_cons (de_var 0) da_nil)))) (dss_one ds_dead) dss_nil))
theorem s_is_closing : FnScope ["value", "before", "each"] ["value", "before"] (defScope (top 42)) := ⟨rfl, rfl, rfl, by decide +kernel, rfl, by decide +kernel, by decide +kernel⟩
theorem w_is_closing (W : Wd K mg) (Z : TZ K mg base) : FnG P w K mg base 4 W.f_is_closing W.q_is_closing ["value", "before"] (spD K (tt K) 2 d_is_closing) := by
  have nd := s_is_closing.nd
  exact fnG_data (O := []) W.F_is_closing s_is_closing fun cdv A outer s H E ok => (dss_cons (O1 := []) (ds_if (O1 := []) (O' := []) (dt_w (dw_or (dt_not (dt_tru (de_call (w_is_tuple_of W Z) ok (by decide) tkB W.g_is_tuple_of W.F_is_tuple_of.kp (b_is_tuple_of W) (da_cons (de_var 0) (da_cons de_int da_nil))))) (dw_or (dt_not (dt_tru (de_callB (ok_all rfl) W.n_all boot_all' (da_cons (de_new (df_lc (own := [("each", 2)]) rfl nd (di_seq (de_var 0)) (blkOk_by (by rfl)) (fun _ _ _ _ _ => (dg_name 2 nd)) (fun _ _ _ _ _ => dts_nil) (fun _ _ _ _ _ => (de_call (w_is_time W Z) ok.blk (by decide) L2.takes0 W.g_is_time W.F_is_time.kp (b_is_time W) (da_cons (de_var 2) da_nil))))) da_nil)))) (dw_or1 (dt_cmp ok_lt (de_at ok.u64 (de_var 0) de_int) (de_at ok.u64 (de_var 0) de_int)))))) (dss_one (ds_ret (O1 := []) de_bl)) dss_nil)
      (dss_one (ds_ret (O1 := []) (de_or (de_cmp (ok_eq ok.u64) (de_var 1) (de_tup da_nil)) (de_one (de_cmp ok_lt (de_op ok_add (de_at ok.u64 (de_at ok.u64 (de_var 1) (de_neg de_int)) de_int) de_int) (de_at ok.u64 (de_var 0) de_int)))))))
theorem s__law_book : FnScope ["well", "most", "kinds", "high", "kind", "other"] ["well", "most"] (defScope (top 65)) := ⟨rfl, rfl, rfl, by decide +kernel, rfl, by decide +kernel, by decide +kernel⟩
theorem w__law_book (W : Wd K mg) (Z : TZ K mg base) : FnG P w K mg base 4 W.f__law_book W.q__law_book ["well", "most"] (spD K (tt K) 2 d__law_book) := by
  have nd := s__law_book.nd
  exact fnG_data (O := []) W.F__law_book s__law_book fun cdv A outer s H E ok => (dss_cons (O1 := []) (ds_set (O1 := []) (O' := []) 2 nd (de_call (w__law_words W Z) ok (by decide) tkB W.g__law_words W.F__law_words.kp (b__law_words W) (da_cons (de_var 0) (da_cons (de_op ok_add de_int (de_call (w__law_dip W Z) ok (by decide) tkB W.g__law_dip W.F__law_dip.kp (b__law_dip W) (da_cons (de_var 0) (da_cons (de_var 1) da_nil)))) da_nil))))
      (dss_cons (O1 := []) (ds_set (O1 := []) (O' := []) 3 nd (de_call (w__law_one W Z) ok (by decide) tkB W.g__law_one W.F__law_one.kp (b__law_one W) (da_cons (de_var 0) (da_cons (de_new (df_lst (da_cons de_int (da_cons de_int (da_cons de_int (da_cons de_int da_nil)))))) da_nil))))
      (dss_one (ds_ret (O1 := []) (de_tup (da_cons (de_var 2) (da_cons (de_callTy ok_tuple W.n_tuple boot_tuple' (da_cons (de_new (df_lc (own := [("kind", 4)]) rfl nd (di_seq (de_var 2)) (blkOk_by (by rfl)) (fun _ _ _ _ _ => (dg_name 4 nd)) (fun _ _ _ _ _ => dts_nil) (fun _ _ _ _ _ => (de_callTy ok_tuple W.n_tuple boot_tuple' (da_cons (de_new (df_lc (own := [("other", 5)]) rfl nd (di_seq (de_var 2)) (blkOk_by (by rfl)) (fun _ _ _ _ _ => (dg_name 5 nd)) (fun _ _ _ _ _ => dts_nil) (fun _ _ _ _ _ => (de_op ok_add de_int (de_call (w__law_dip W Z) ok.blk.blk (by decide) L2.takes0 W.g__law_dip W.F__law_dip.kp (b__law_dip W) (da_cons (de_var 0) (da_cons (de_var 3) da_nil))))))) da_nil))))) da_nil)) da_nil)))))))
theorem s__law_flights : FnScope ["well", "book", "most", "far", "found", "name", "first", "last"] ["well", "book", "most", "far"] (defScope (top 67)) := ⟨rfl, rfl, rfl, by decide +kernel, rfl, by decide +kernel, by decide +kernel⟩
theorem w__law_flights (W : Wd K mg) (Z : TZ K mg base) : FnG P w K mg base 4 W.f__law_flights W.q__law_flights ["well", "book", "most", "far"] (spD K (tt K) 4 d__law_flights) := by
  have nd := s__law_flights.nd
  exact fnG_data (O := []) W.F__law_flights s__law_flights fun cdv A outer s H E ok => (dss_cons (O1 := [4]) (ds_setF (O1 := []) (O' := [4]) 4 nd (df_lst da_nil))
      (dss_cons (O1 := [4]) (ds_for (O := [4]) (O2 := [4]) (xs := [5]) psB rfl (di_seq (de_call (w__law_shuffled W Z) ok (by decide) tkB W.g__law_shuffled W.F__law_shuffled.kp (b__law_shuffled W) (da_cons (de_var 0) (da_cons (de_call (w__law_words W Z) ok (by decide) tkB W.g__law_words W.F__law_words.kp (b__law_words W) (da_cons (de_var 0) (da_cons (de_op ok_add de_int (de_call (w__law_dip W Z) ok (by decide) tkB W.g__law_dip W.F__law_dip.kp (b__law_dip W) (da_cons (de_var 0) (da_cons (de_var 2) da_nil)))) da_nil))) da_nil)))) (dg_name 5 nd) (dss_cons (O1 := [4]) (ds_set (O1 := [4]) (O' := [4]) 6 nd (de_call (w__law_dip W Z) ok (by decide) tkB W.g__law_dip W.F__law_dip.kp (b__law_dip W) (da_cons (de_var 0) (da_cons (de_op ok_add (de_var 3) de_int) da_nil))))
      (dss_cons (O1 := [4]) (ds_set (O1 := [4]) (O' := [4]) 7 nd (de_op ok_add (de_var 6) (de_call (w__law_one W Z) ok (by decide) tkB W.g__law_one W.F__law_one.kp (b__law_one W) (da_cons (de_var 0) (da_cons (de_new (df_lst (da_cons de_int (da_cons (de_call (w__law_dip W Z) ok (by decide) tkB W.g__law_dip W.F__law_dip.kp (b__law_dip W) (da_cons (de_var 0) (da_cons (de_op ok_add (de_op ok_sub (de_var 3) (de_var 6)) de_int) da_nil))) (da_cons (de_op ok_sub (de_var 3) (de_var 6)) (da_cons (de_op ok_sub (de_var 3) (de_var 6)) da_nil)))))) da_nil)))))
      (dss_one (ds_mut (O1 := [4]) 4 PySem.F.slot_list_append PySem.F.type_list_append mt_append mu_append (da_cons (de_tup (da_cons (de_var 5) (da_cons (de_call (w__law_one W Z) ok (by decide) tkB W.g__law_one W.F__law_one.kp (b__law_one W) (da_cons (de_var 0) (da_cons (de_at ok.u64 (de_var 1) de_int) da_nil))) (da_cons (de_var 6) (da_cons (de_var 7) da_nil))))) da_nil))))))
      (dss_one (ds_ret (O1 := []) (de_callTy ok_tuple W.n_tuple boot_tuple' (da_cons (de_var 4) da_nil))))))
theorem s_earliest_beside : FnScope ["book", "flights", "closings", "found"] ["book", "flights", "closings"] (defScope (top 49)) := ⟨rfl, rfl, rfl, by decide +kernel, rfl, by decide +kernel, by decide +kernel⟩
theorem w_earliest_beside (W : Wd K mg) (Z : TZ K mg base) : FnG P w K mg base 5 W.f_earliest_beside W.q_earliest_beside ["book", "flights", "closings"] (spD K (tt K) 3 d_earliest_beside) := by
  have nd := s_earliest_beside.nd
  exact fnG_dataC (O := []) W.F_earliest_beside s_earliest_beside W.k_earliest_beside fun A outer s H E ok => (dss_cons (O1 := []) (ds_set (O1 := []) (O' := []) 3 nd (de_callL (N' := ["flight", "time", "closings"]) (ps' := ["flight", "time"]) (fr' := ["closings"]) (js := [2]) (kc := 1) (fun _ => rfl) (NdefX.nscope_by (by decide +kernel)) (fun _ _ _ _ _ us h => match us, h with | [_, _], _ => rfl) (free_by (by rfl)) (by decide +kernel) rfl (by decide)
      (fun base' hb _ _ A outer s H E ok => have nd : (["flight", "time", "closings"] : List Str).Nodup := (by decide +kernel); (de_call (w_open_from W (Z.up hb)) ok (by decide) tkN W.g_open_from W.F_open_from.kp (b_open_from W) (da_cons (de_var 2) (da_cons (de_var 1) da_nil))))
      (fun base' hb fa g0 wo g B => w_earliest_by W (Z.up hb) B) ok (by omega) tkB W.g_earliest_by W.F_earliest_by.kp (b_earliest_by W) (dal_cons (de_var 0) (dal_cons (de_var 1) (dal_last Z.t_earliest_beside rfl Z.m_earliest_beside rfl (uni_of Z.nd Z.m_earliest_beside) rfl (free_by (by rfl)))))))
      (dss_one (ds_ret (O1 := []) (de_if (dt_tru (de_call (w_are_in_time W Z) ok (by decide) tkB W.g_are_in_time W.F_are_in_time.kp (b_are_in_time W) (da_cons (de_var 1) (da_cons (de_var 3) da_nil)))) (de_var 3) (de_new (df_lst da_nil))))))
theorem s_latest_beside : FnScope ["book", "flights", "closings"] ["book", "flights", "closings"] (defScope (top 50)) := ⟨rfl, rfl, rfl, by decide +kernel, rfl, by decide +kernel, by decide +kernel⟩
theorem w_latest_beside (W : Wd K mg) (Z : TZ K mg base) : FnG P w K mg base 5 W.f_latest_beside W.q_latest_beside ["book", "flights", "closings"] (spD K (tt K) 3 d_latest_beside) := by
  have nd := s_latest_beside.nd
  exact fnG_dataC (O := []) W.F_latest_beside s_latest_beside W.k_latest_beside fun A outer s H E ok => (dss_one (ds_ret (O1 := []) (de_callL (N' := ["time", "closings"]) (ps' := ["time"]) (fr' := ["closings"]) (js := [2]) (kc := 1) (fun _ => rfl) (NdefX.nscope_by (by decide +kernel)) (fun _ _ _ _ _ us h => match us, h with | [_], _ => rfl) (free_by (by rfl)) (by decide +kernel) rfl (by decide)
      (fun base' hb _ _ A outer s H E ok => have nd : (["time", "closings"] : List Str).Nodup := (by decide +kernel); (de_call (w_open_until W (Z.up hb)) ok (by decide) tkN W.g_open_until W.F_open_until.kp (b_open_until W) (da_cons (de_var 1) (da_cons (de_var 0) da_nil))))
      (fun base' hb fa g0 wo g B => w_latest_by W (Z.up hb) B) ok (by omega) tkB W.g_latest_by W.F_latest_by.kp (b_latest_by W) (dal_cons (de_var 0) (dal_cons (de_var 1) (dal_last Z.t_latest_beside rfl Z.m_latest_beside rfl (uni_of Z.nd Z.m_latest_beside) rfl (free_by (by rfl))))))))
theorem s_wrong_kinds : FnScope ["value", "is_right"] ["value"] (defScope (top 15)) := ⟨rfl, rfl, rfl, by decide +kernel, rfl, by decide +kernel, by decide +kernel⟩
theorem w_wrong_kinds (W : Wd K mg) (Z : TZ K mg base) : FnG P w K mg base 6 W.f_wrong_kinds W.q_wrong_kinds ["value"] (spD K (tt K) 1 d_wrong_kinds) := by
  have nd := s_wrong_kinds.nd
  exact fnG_dataC (O := []) W.F_wrong_kinds s_wrong_kinds W.k_wrong_kinds fun A outer s H E ok => (dss_fnRet (T := tb0 (tt K)) (N' := ["each", "before"]) (ps' := ["each", "before"]) (fr' := []) (js := []) (kc := 2) (OC := []) 1 (st := ((defBody (top 15)).getD 0 (.Pass ⟨0, 0, 0, 0⟩))) rfl Z.t_wrong_kinds rfl Z.m_wrong_kinds rfl (uni_of Z.nd Z.m_wrong_kinds) (show ∀ y ∈ (C8.fnScope ((defBody (top 15)).getD 0 (.Pass ⟨0, 0, 0, 0⟩))).names, y.2 = .free → (defScope (top 15)).names.lookup y.1 = some .cell ∨ (defScope (top 15)).names.lookup y.1 = some .free from by decide +kernel) rfl rfl rfl nd rfl (by first | exact Or.inl rfl | exact Or.inr (Or.inl rfl) | exact rfl) (Or.inl rfl) (fun _ => rfl) (NdefX.nscope_by (by decide +kernel)) (fun _ _ _ _ us h => match us, h with | [_, _], _ => rfl) (by decide +kernel) rfl
      (fun base' hb _ _ A outer s H E ok => have nd : (["each", "before"] : List Str).Nodup := (by decide +kernel); (dss_one (ds_ret (O1 := []) (de_and (de_call (w_is_name W (Z.up hb)) ok (by decide) tkN W.g_is_name W.F_is_name.kp (b_is_name W) (da_cons (de_var 0) da_nil)) (de_one (de_or (de_cmp (ok_eq ok.u64) (de_var 1) (de_tup da_nil)) (de_one (de_cmp ok_lt (de_at ok.u64 (de_var 1) (de_neg de_int)) (de_var 0)))))))))
      (fun base' hb fa g0 wo g B => w_wrong_from_one W (Z.up hb) B) ok (by omega) tkB W.g_wrong_from_one W.F_wrong_from_one.kp (b_wrong_from_one W) (daf_cons (de_var 0) (daf_cons (de_globI (W.c_MOST_KINDS)) (daf_last 1))))
theorem s_wrong_closings : FnScope ["value"] ["value"] (defScope (top 43)) := ⟨rfl, rfl, rfl, by decide +kernel, rfl, by decide +kernel, by decide +kernel⟩
theorem w_wrong_closings (W : Wd K mg) (Z : TZ K mg base) : FnG P w K mg base 6 W.f_wrong_closings W.q_wrong_closings ["value"] (spD K (tt K) 1 d_wrong_closings) := by
  have nd := s_wrong_closings.nd
  exact fnG_data (O := []) W.F_wrong_closings s_wrong_closings fun cdv A outer s H E ok => (dss_one (ds_ret (O1 := []) (de_callG (fun g0 wo => beh_glob (w_is_closing W Z) W.F_is_closing (b_is_closing W) rfl g0 wo) (fun g0 wo B => w_wrong_at W Z B) ok (by decide) tkB W.g_wrong_at W.F_wrong_at.kp (b_wrong_at W) (dag_cons (de_var 0) (dag_cons de_non (dag_last W.g_is_closing))))))
theorem s_is_book_form : FnScope ["value", "many", "each"] ["value"] (defScope (top 17)) := ⟨rfl, rfl, rfl, by decide +kernel, rfl, by decide +kernel, by decide +kernel⟩
theorem w_is_book_form (W : Wd K mg) (Z : TZ K mg base) : FnG P w K mg base 7 W.f_is_book_form W.q_is_book_form ["value"] (spD K (tt K) 1 d_is_book_form) := by
  have nd := s_is_book_form.nd
  exact fnG_data (O := []) W.F_is_book_form s_is_book_form fun cdv A outer s H E ok => (dss_cons (O1 := []) (ds_if (O1 := []) (O' := []) (dt_w (dw_or (dt_not (dt_tru (de_call (w_is_tuple_of W Z) ok (by decide) tkB W.g_is_tuple_of W.F_is_tuple_of.kp (b_is_tuple_of W) (da_cons (de_var 0) (da_cons de_int da_nil))))) (dw_or1 (dt_cmp (ok_ne ok.u64) (de_call (w_wrong_kinds W Z) ok (by decide) tkB W.g_wrong_kinds W.F_wrong_kinds.kp (b_wrong_kinds W) (da_cons (de_at ok.u64 (de_var 0) de_int) da_nil)) (de_new (df_lst da_nil)))))) (dss_one (ds_ret (O1 := []) de_bl)) dss_nil)
      (dss_cons (O1 := []) (ds_setK (O1 := []) (O' := []) 1 nd (de_callB ok_len W.n_len boot_len' (da_cons (de_at ok.u64 (de_var 0) de_int) da_nil)))
      (dss_one (ds_ret (O1 := []) (de_and (de_call (w_is_tuple_of W Z) ok (by decide) tkB W.g_is_tuple_of W.F_is_tuple_of.kp (b_is_tuple_of W) (da_cons (de_at ok.u64 (de_var 0) de_int) (da_cons (de_var 1) da_nil))) (de_one (de_callB (ok_all rfl) W.n_all boot_all' (da_cons (de_new (df_lc (own := [("each", 2)]) rfl nd (di_seq (de_at ok.u64 (de_var 0) de_int)) (blkOk_by (by rfl)) (fun _ _ _ _ _ => (dg_name 2 nd)) (fun _ _ _ _ _ => dts_nil) (fun _ _ _ _ _ => (de_call (w_is_line W Z) ok.blk (by decide) L2.takes0 W.g_is_line W.F_is_line.kp (b_is_line W) (da_cons (de_var 2) (da_cons (de_var 1) da_nil)))))) da_nil))))))))
theorem s_check_closings : FnScope ["value", "at"] ["value"] (defScope (top 44)) := ⟨rfl, rfl, rfl, by decide +kernel, rfl, by decide +kernel, by decide +kernel⟩
theorem w_check_closings (W : Wd K mg) (Z : TZ K mg base) : FnG P w K mg base 7 W.f_check_closings W.q_check_closings ["value"] (spD K (tt K) 1 d_check_closings) := by
  have nd := s_check_closings.nd
  exact fnG_data (O := []) W.F_check_closings s_check_closings fun cdv A outer s H E ok => (dss_one (ds_for (O := []) (O2 := []) (xs := [1]) psB rfl (di_seq (de_call (w_wrong_closings W Z) ok (by decide) tkB W.g_wrong_closings W.F_wrong_closings.kp (b_wrong_closings W) (da_cons (de_var 0) da_nil))) (dg_name 1 nd) (dss_one ds_dead)))
theorem s_wrong_flights : FnScope ["kinds", "value", "is_right"] ["kinds", "value"] (defScope (top 30)) := ⟨rfl, rfl, rfl, by decide +kernel, rfl, by decide +kernel, by decide +kernel⟩
theorem w_wrong_flights (W : Wd K mg) (Z : TZ K mg base) : FnG P w K mg base 8 W.f_wrong_flights W.q_wrong_flights ["kinds", "value"] (spD K (tt K) 2 d_wrong_flights) := by
  have nd := s_wrong_flights.nd
  exact fnG_dataC (O := []) W.F_wrong_flights s_wrong_flights W.k_wrong_flights fun A outer s H E ok => (dss_fnRet (T := tb0 (tt K)) (N' := ["each", "before", "kinds", "other"]) (ps' := ["each", "before"]) (fr' := ["kinds"]) (js := [0]) (kc := 4) (OC := []) 2 (st := ((defBody (top 30)).getD 0 (.Pass ⟨0, 0, 0, 0⟩))) rfl Z.t_wrong_flights rfl Z.m_wrong_flights rfl (uni_of Z.nd Z.m_wrong_flights) (show ∀ y ∈ (C8.fnScope ((defBody (top 30)).getD 0 (.Pass ⟨0, 0, 0, 0⟩))).names, y.2 = .free → (defScope (top 30)).names.lookup y.1 = some .cell ∨ (defScope (top 30)).names.lookup y.1 = some .free from by decide +kernel) rfl rfl rfl nd rfl (by first | exact Or.inl rfl | exact Or.inr (Or.inl rfl) | exact rfl) (Or.inl rfl) (fun _ => rfl) (NdefX.nscope_by (by decide +kernel)) (fun _ _ _ _ us h => match us, h with | [_, _], _ => rfl) (by decide +kernel) rfl
      (fun base' hb _ _ A outer s H E ok => have nd : (["each", "before", "kinds", "other"] : List Str).Nodup := (by decide +kernel); (dss_one (ds_ret (O1 := []) (de_and (de_call (w_is_flight W (Z.up hb)) ok (by decide) tkN W.g_is_flight W.F_is_flight.kp (b_is_flight W) (da_cons (de_var 2) (da_cons (de_var 0) da_nil))) (de_one (de_cmp (ok_notin ok.u64 ok.u65) (de_at ok.u64 (de_var 0) de_int) (de_new (df_lc (own := [("other", 3)]) rfl nd (di_seq (de_var 1)) (blkOk_by (by rfl)) (fun _ _ _ _ _ => (dg_name 3 nd)) (fun _ _ _ _ _ => dts_nil) (fun _ _ _ _ _ => (de_at ok.blk.u64 (de_var 3) de_int))))))))))
      (fun base' hb fa g0 wo g B => w_wrong_from_one W (Z.up hb) B) ok (by omega) tkB W.g_wrong_from_one W.F_wrong_from_one.kp (b_wrong_from_one W) (daf_cons (de_var 1) (daf_cons (de_globI (W.c_MOST_FLIGHTS)) (daf_last 2))))
theorem s_check_book : FnScope ["value"] ["value"] (defScope (top 39)) := ⟨rfl, rfl, rfl, by decide +kernel, rfl, by decide +kernel, by decide +kernel⟩
theorem w_check_book (W : Wd K mg) (Z : TZ K mg base) : FnG P w K mg base 8 W.f_check_book W.q_check_book ["value"] (spD K (tt K) 1 d_check_book) := by
  have nd := s_check_book.nd
  exact fnG_data (O := []) W.F_check_book s_check_book fun cdv A outer s H E ok => (dss_one (ds_if (O1 := []) (O' := []) (dt_not (dt_tru (de_call (w_is_book_form W Z) ok (by decide) tkB W.g_is_book_form W.F_is_book_form.kp (b_is_book_form W) (da_cons (de_var 0) da_nil)))) (dss_one ds_dead) dss_nil))
theorem s_least_open : FnScope ["closings", "time"] ["closings", "time"] (defScope (top 55)) := ⟨rfl, rfl, rfl, by decide +kernel, rfl, by decide +kernel, by decide +kernel⟩
theorem w_least_open (W : Wd K mg) (Z : TZ K mg base) : FnG P w K mg base 8 W.f_least_open W.q_least_open ["closings", "time"] (spD K (tt K) 2 d_least_open) := by
  have nd := s_least_open.nd
  exact fnG_data (O := []) W.F_least_open s_least_open fun cdv A outer s H E ok => (dss_cons (O1 := []) (ds_expr (O1 := []) (de_call (w_check_closings W Z) ok (by decide) tkB W.g_check_closings W.F_check_closings.kp (b_check_closings W) (da_cons (de_var 0) da_nil)))
      (dss_cons (O1 := []) (ds_expr (O1 := []) (de_call (w_check_time W Z) ok (by decide) tkB W.g_check_time W.F_check_time.kp (b_check_time W) (da_cons (de_var 1) da_nil)))
      (dss_one (ds_ret (O1 := []) (de_callB (ok_min rfl) W.n_min boot_min' (da_cons (de_globI (W.c_NEVER)) (da_cons (de_call (w_open_from W Z) ok (by decide) tkB W.g_open_from W.F_open_from.kp (b_open_from W) (da_cons (de_var 0) (da_cons (de_var 1) da_nil))) da_nil)))))))
theorem s_check_flights : FnScope ["book", "value", "at"] ["book", "value"] (defScope (top 41)) := ⟨rfl, rfl, rfl, by decide +kernel, rfl, by decide +kernel, by decide +kernel⟩
theorem w_check_flights (W : Wd K mg) (Z : TZ K mg base) : FnG P w K mg base 9 W.f_check_flights W.q_check_flights ["book", "value"] (spD K (tt K) 2 d_check_flights) := by
  have nd := s_check_flights.nd
  exact fnG_data (O := []) W.F_check_flights s_check_flights fun cdv A outer s H E ok => (dss_cons (O1 := []) (ds_expr (O1 := []) (de_call (w_check_book W Z) ok (by decide) tkB W.g_check_book W.F_check_book.kp (b_check_book W) (da_cons (de_var 0) da_nil)))
      (dss_one (ds_for (O := []) (O2 := []) (xs := [2]) psB rfl (di_seq (de_call (w_wrong_flights W Z) ok (by decide) tkB W.g_wrong_flights W.F_wrong_flights.kp (b_wrong_flights W) (da_cons (de_at ok.u64 (de_var 0) de_int) (da_cons (de_var 1) da_nil)))) (dg_name 2 nd) (dss_one ds_dead))))
theorem s_check_closed_out : FnScope ["book", "flights", "closings"] ["book", "flights", "closings"] (defScope (top 52)) := ⟨rfl, rfl, rfl, by decide +kernel, rfl, by decide +kernel, by decide +kernel⟩
theorem w_check_closed_out (W : Wd K mg) (Z : TZ K mg base) : FnG P w K mg base 10 W.f_check_closed_out W.q_check_closed_out ["book", "flights", "closings"] (spD K (tt K) 3 d_check_closed_out) := by
  have nd := s_check_closed_out.nd
  exact fnG_data (O := []) W.F_check_closed_out s_check_closed_out fun cdv A outer s H E ok => (dss_cons (O1 := []) (ds_expr (O1 := []) (de_call (w_check_flights W Z) ok (by decide) tkB W.g_check_flights W.F_check_flights.kp (b_check_flights W) (da_cons (de_var 0) (da_cons (de_var 1) da_nil))))
      (dss_one (ds_expr (O1 := []) (de_call (w_check_closings W Z) ok (by decide) tkB W.g_check_closings W.F_check_closings.kp (b_check_closings W) (da_cons (de_var 2) da_nil)))))
theorem s_earliest : FnScope ["book", "flights", "found"] ["book", "flights"] (defScope (top 57)) := ⟨rfl, rfl, rfl, by decide +kernel, rfl, by decide +kernel, by decide +kernel⟩
theorem w_earliest (W : Wd K mg) (Z : TZ K mg base) : FnG P w K mg base 10 W.f_earliest W.q_earliest ["book", "flights"] (spD K (tt K) 2 d_earliest) := by
  have nd := s_earliest.nd
  exact fnG_data (O := []) W.F_earliest s_earliest fun cdv A outer s H E ok => (dss_cons (O1 := []) (ds_expr (O1 := []) (de_call (w_check_flights W Z) ok (by decide) tkB W.g_check_flights W.F_check_flights.kp (b_check_flights W) (da_cons (de_var 0) (da_cons (de_var 1) da_nil))))
      (dss_cons (O1 := []) (ds_set (O1 := []) (O' := []) 2 nd (de_call (w_earliest_of W Z) ok (by decide) tkB W.g_earliest_of W.F_earliest_of.kp (b_earliest_of W) (da_cons (de_var 0) (da_cons (de_var 1) da_nil))))
      (dss_one (ds_ret (O1 := []) (de_if (dt_cmp (ok_ne ok.u64) (de_var 2) (de_new (df_lst da_nil))) (de_callTy ok_tuple W.n_tuple boot_tuple' (da_cons (de_var 2) da_nil)) de_non)))))
theorem s_latest : FnScope ["book", "flights"] ["book", "flights"] (defScope (top 58)) := ⟨rfl, rfl, rfl, by decide +kernel, rfl, by decide +kernel, by decide +kernel⟩
theorem w_latest (W : Wd K mg) (Z : TZ K mg base) : FnG P w K mg base 10 W.f_latest W.q_latest ["book", "flights"] (spD K (tt K) 2 d_latest) := by
  have nd := s_latest.nd
  exact fnG_data (O := []) W.F_latest s_latest fun cdv A outer s H E ok => (dss_cons (O1 := []) (ds_expr (O1 := []) (de_call (w_check_flights W Z) ok (by decide) tkB W.g_check_flights W.F_check_flights.kp (b_check_flights W) (da_cons (de_var 0) (da_cons (de_var 1) da_nil))))
      (dss_one (ds_ret (O1 := []) (de_if (dt_cmp (ok_ne ok.u64) (de_call (w_earliest_of W Z) ok (by decide) tkB W.g_earliest_of W.F_earliest_of.kp (b_earliest_of W) (da_cons (de_var 0) (da_cons (de_var 1) da_nil))) (de_new (df_lst da_nil))) (de_callTy ok_tuple W.n_tuple boot_tuple' (da_cons (de_call (w_latest_of W Z) ok (by decide) tkB W.g_latest_of W.F_latest_of.kp (b_latest_of W) (da_cons (de_var 0) (da_cons (de_var 1) da_nil))) da_nil)) de_non))))
theorem s_earliest_open : FnScope ["book", "flights", "closings", "found"] ["book", "flights", "closings"] (defScope (top 53)) := ⟨rfl, rfl, rfl, by decide +kernel, rfl, by decide +kernel, by decide +kernel⟩
theorem w_earliest_open (W : Wd K mg) (Z : TZ K mg base) : FnG P w K mg base 11 W.f_earliest_open W.q_earliest_open ["book", "flights", "closings"] (spD K (tt K) 3 d_earliest_open) := by
  have nd := s_earliest_open.nd
  exact fnG_data (O := []) W.F_earliest_open s_earliest_open fun cdv A outer s H E ok => (dss_cons (O1 := []) (ds_expr (O1 := []) (de_call (w_check_closed_out W Z) ok (by decide) tkB W.g_check_closed_out W.F_check_closed_out.kp (b_check_closed_out W) (da_cons (de_var 0) (da_cons (de_var 1) (da_cons (de_var 2) da_nil)))))
      (dss_cons (O1 := []) (ds_set (O1 := []) (O' := []) 3 nd (de_call (w_earliest_beside W Z) ok (by decide) tkB W.g_earliest_beside W.F_earliest_beside.kp (b_earliest_beside W) (da_cons (de_var 0) (da_cons (de_var 1) (da_cons (de_var 2) da_nil)))))
      (dss_one (ds_ret (O1 := []) (de_if (dt_cmp (ok_ne ok.u64) (de_var 3) (de_new (df_lst da_nil))) (de_callTy ok_tuple W.n_tuple boot_tuple' (da_cons (de_var 3) da_nil)) de_non)))))
theorem s_latest_open : FnScope ["book", "flights", "closings"] ["book", "flights", "closings"] (defScope (top 54)) := ⟨rfl, rfl, rfl, by decide +kernel, rfl, by decide +kernel, by decide +kernel⟩
theorem w_latest_open (W : Wd K mg) (Z : TZ K mg base) : FnG P w K mg base 11 W.f_latest_open W.q_latest_open ["book", "flights", "closings"] (spD K (tt K) 3 d_latest_open) := by
  have nd := s_latest_open.nd
  exact fnG_data (O := []) W.F_latest_open s_latest_open fun cdv A outer s H E ok => (dss_cons (O1 := []) (ds_expr (O1 := []) (de_call (w_check_closed_out W Z) ok (by decide) tkB W.g_check_closed_out W.F_check_closed_out.kp (b_check_closed_out W) (da_cons (de_var 0) (da_cons (de_var 1) (da_cons (de_var 2) da_nil)))))
      (dss_cons (O1 := []) (ds_if (O1 := []) (O' := []) (dt_cmp (ok_eq ok.u64) (de_call (w_earliest_beside W Z) ok (by decide) tkB W.g_earliest_beside W.F_earliest_beside.kp (b_earliest_beside W) (da_cons (de_var 0) (da_cons (de_var 1) (da_cons (de_var 2) da_nil)))) (de_new (df_lst da_nil))) (dss_one (ds_ret (O1 := []) de_non)) dss_nil)
      (dss_one (ds_ret (O1 := []) (de_callTy ok_tuple W.n_tuple boot_tuple' (da_cons (de_call (w_latest_beside W Z) ok (by decide) tkB W.g_latest_beside W.F_latest_beside.kp (b_latest_beside W) (da_cons (de_var 0) (da_cons (de_var 1) (da_cons (de_var 2) da_nil)))) da_nil))))))
theorem s__law_right : FnScope ["well", "turn", "closings", "shut", "again", "book", "found", "due", "later", "first", "last", "time", "flights", "table", "k", "name", "kind", "one", "two", "j"] ["well"] (defScope (top 71)) := ⟨rfl, rfl, rfl, by decide +kernel, rfl, by decide +kernel, by decide +kernel⟩
theorem w__law_right (W : Wd K mg) (Z : TZ K mg base) : FnG P w K mg base 12 W.f__law_right W.q__law_right ["well"] (spD K (tt K) 1 d__law_right) := by
  have nd := s__law_right.nd
  exact fnG_data (O := []) W.F__law_right s__law_right fun cdv A outer s H E ok => (dss_cons (O1 := []) (ds_forK (O1 := []) (O := []) (O2 := []) (xs := [1]) psB rfl (dik_rng1 W.n_range (da_cons de_int da_nil)) (dg_name 1 nd) (dss_cons (O1 := []) (ds_set (O1 := []) (O' := []) 2 nd (de_call (w__law_closings W Z) ok (by decide) tkB W.g__law_closings W.F__law_closings.kp (b__law_closings W) (da_cons (de_var 0) (da_cons (de_call (w__law_one W Z) ok (by decide) tkB W.g__law_one W.F__law_one.kp (b__law_one W) (da_cons (de_var 0) (da_cons (de_new (df_lst (da_cons de_int (da_cons de_int (da_cons de_int da_nil))))) da_nil))) da_nil))))
      (dss_cons (O1 := [3]) (ds_setF (O1 := []) (O' := [3]) 3 nd df_dnewK)
      (dss_cons (O1 := [3]) (ds_for (O := [3]) (O2 := [3]) (xs := [9, 10]) psB rfl (di_seq (de_var 2)) (dg_tup rfl (dgs_cons (dg_name 9 nd) (dgs_cons (dg_name 10 nd) dgs_nil))) (dss_one (ds_forK (O1 := []) (O := [3]) (O2 := [3]) (xs := [11]) psB rfl (dik_rng2 W.n_range (da_cons (de_var 9) (da_cons (de_op ok_add (de_var 10) de_int) da_nil))) (dg_name 11 nd) (dss_one (ds_put (O1 := [3]) 3 ok.u64 de_bl (de_var 11))))))
      (dss_cons (O1 := []) (ds_pre (O1 := []) (ds_forK (O1 := []) (O := []) (O2 := []) (xs := [4]) psB rfl (dik_rng1 W.n_range (da_cons de_int da_nil)) (dg_name 4 nd) (dss_cons (O1 := []) (ds_set (O1 := []) (O' := []) 11 nd (de_call (w__law_one W Z) ok (by decide) tkB W.g__law_one W.F__law_one.kp (b__law_one W) (da_cons (de_var 0) (da_cons (de_new (df_lst (da_cons de_int (da_cons de_int (da_cons (de_call (w__law_dip W Z) ok (by decide) tkB W.g__law_dip W.F__law_dip.kp (b__law_dip W) (da_cons (de_var 0) (da_cons de_int da_nil))) (da_cons (de_if (dt_cmp (ok_ne ok.u64) (de_var 2) (de_tup da_nil)) (de_at ok.u64 (de_at ok.u64 (de_var 2) de_int) de_int) de_int) da_nil)))))) da_nil))))
      (dss_cons (O1 := []) (ds_set (O1 := []) (O' := []) 7 nd (de_call (w__law_free W Z) ok (by decide) tkB W.g__law_free W.F__law_free.kp (b__law_free W) (da_cons (de_var 3) (da_cons (de_var 11) da_nil))))
      (dss_one (ds_if (O1 := []) (O' := []) (dt_cmp (ok_ne ok.u64) (de_callB (ok_repr ok) W.n_repr boot_repr' (da_cons (de_new (df_lst (da_cons (de_call (w_least_open W Z) ok (by decide) tkB W.g_least_open W.F_least_open.kp (b_least_open W) (da_cons (de_var 2) (da_cons (de_var 11) da_nil))) (da_cons (de_callK0 ["time", "closings"] [1, 0] (w_least_open W Z) ok (by decide) tkB W.g_least_open W.F_least_open.kp (kb_least_open_0 W) rfl (dk_cons (de_var 11) (dk_cons (de_var 2) dk_nil))) da_nil)))) da_nil)) (de_callB (ok_repr ok) W.n_repr boot_repr' (da_cons (de_new (df_lst (da_cons (de_var 7) (da_cons (de_var 7) da_nil)))) da_nil))) (dss_one (ds_ret (O1 := []) de_bl)) dss_nil))))))
      (dss_cons (O1 := []) (ds_set (O1 := []) (O' := []) 5 nd (de_call (w__law_book W Z) ok (by decide) tkB W.g__law_book W.F__law_book.kp (b__law_book W) (da_cons (de_var 0) (da_cons de_int da_nil))))
      (dss_cons (O1 := []) (ds_parC (O1 := []) (O' := []) 12 13 rfl nd (dm_val (de_call (w__law_flights W Z) ok (by decide) tkB W.g__law_flights W.F__law_flights.kp (b__law_flights W) (da_cons (de_var 0) (da_cons (de_var 5) (da_cons de_int (da_cons (de_call (w__law_one W Z) ok (by decide) tkB W.g__law_one W.F__law_one.kp (b__law_one W) (da_cons (de_var 0) (da_cons (de_new (df_lst (da_cons de_int (da_cons de_int da_nil)))) da_nil))) da_nil))))) (dm_val (de_call (w__law_table W Z) ok (by decide) tkB W.g__law_table W.F__law_table.kp (b__law_table W) (da_cons (de_var 5) da_nil)) dm_nil)))
      (dss_cons (O1 := []) (ds_if (O1 := []) (O' := []) (dt_cmp (ok_ne ok.u64) (de_call (w_earliest_open W Z) ok (by decide) tkB W.g_earliest_open W.F_earliest_open.kp (b_earliest_open W) (da_cons (de_var 5) (da_cons (de_var 12) (da_cons (de_tup da_nil) da_nil)))) (de_call (w_earliest W Z) ok (by decide) tkB W.g_earliest W.F_earliest.kp (b_earliest W) (da_cons (de_var 5) (da_cons (de_var 12) da_nil)))) (dss_one (ds_ret (O1 := []) de_bl)) dss_nil)
      (dss_cons (O1 := []) (ds_if (O1 := []) (O' := []) (dt_cmp (ok_ne ok.u64) (de_call (w_latest_open W Z) ok (by decide) tkB W.g_latest_open W.F_latest_open.kp (b_latest_open W) (da_cons (de_var 5) (da_cons (de_var 12) (da_cons (de_tup da_nil) da_nil)))) (de_call (w_latest W Z) ok (by decide) tkB W.g_latest W.F_latest.kp (b_latest W) (da_cons (de_var 5) (da_cons (de_var 12) da_nil)))) (dss_one (ds_ret (O1 := []) de_bl)) dss_nil)
      (dss_cons (O1 := []) (ds_set (O1 := []) (O' := []) 6 nd (de_new (df_lst da_nil)))
      (dss_cons (O1 := []) (ds_for (O := []) (O2 := []) (xs := [14, 15, 16, 9, 10]) psB rfl (di_enum W.n_enumerate (da_cons (de_var 12) da_nil)) (dg_tup rfl (dgs_cons (dg_name 14 nd) (dgs_cons (dg_tup rfl (dgs_cons (dg_name 15 nd) (dgs_cons (dg_name 16 nd) (dgs_cons (dg_name 9 nd) (dgs_cons (dg_name 10 nd) dgs_nil))))) dgs_nil))) (dss_one (ds_if (O1 := []) (O' := []) (dt_cmp ok_isnot (de_var 6) de_non) (dss_cons (O1 := []) (ds_setK (O1 := []) (O' := []) 11 nd (de_callB (ok_max rfl) W.n_max boot_max' (da_cons (de_op ok_add (de_new (df_lst (da_cons (de_var 9) da_nil))) (de_new (df_lc (own := [("j", 19)]) rfl nd (di_rng1 W.n_range (da_cons (de_var 14) da_nil)) (blkOk_by (by rfl)) (fun _ _ _ _ _ => (dg_name 19 nd)) (fun _ _ _ _ _ => dts_nil) (fun _ _ _ _ _ => (de_op ok_add (de_at ok.blk.u64 (de_var 6) (de_var 19)) (de_at ok.blk.u64 (de_var 13) (de_tup (da_cons (de_at ok.blk.u64 (de_at ok.blk.u64 (de_var 12) (de_var 19)) de_int) (da_cons (de_var 16) da_nil))))))))) da_nil)))
      (dss_cons (O1 := []) (ds_set (O1 := []) (O' := []) 11 nd (de_call (w__law_free W Z) ok (by decide) tkB W.g__law_free W.F__law_free.kp (b__law_free W) (da_cons (de_var 3) (da_cons (de_var 11) da_nil))))
      (dss_one (ds_set (O1 := []) (O' := []) 6 nd (de_if (dt_cmp ok_le (de_var 11) (de_var 10)) (de_op ok_add (de_var 6) (de_new (df_lst (da_cons (de_var 11) da_nil)))) de_non))))) dss_nil)))
      (dss_cons (O1 := []) (ds_set (O1 := []) (O' := []) 7 nd (de_if (dt_cmp ok_is (de_var 6) de_non) de_non (de_callTy ok_tuple W.n_tuple boot_tuple' (da_cons (de_var 6) da_nil))))
      (dss_cons (O1 := []) (ds_if (O1 := []) (O' := []) (dt_cmp (ok_ne ok.u64) (de_callB (ok_repr ok) W.n_repr boot_repr' (da_cons (de_call (w_earliest_open W Z) ok (by decide) tkB W.g_earliest_open W.F_earliest_open.kp (b_earliest_open W) (da_cons (de_var 5) (da_cons (de_var 12) (da_cons (de_var 2) da_nil)))) da_nil)) (de_callB (ok_repr ok) W.n_repr boot_repr' (da_cons (de_var 7) da_nil))) (dss_one (ds_ret (O1 := []) de_bl)) dss_nil)
      (dss_cons (O1 := []) (ds_set (O1 := []) (O' := []) 8 nd (de_call (w_latest_open W Z) ok (by decide) tkB W.g_latest_open W.F_latest_open.kp (b_latest_open W) (da_cons (de_var 5) (da_cons (de_var 12) (da_cons (de_var 2) da_nil)))))
      (dss_cons (O1 := []) (ds_if (O1 := []) (O' := []) (dt_cmp (ok_ne ok.u64) (de_cmp ok_is (de_var 8) de_non) (de_cmp ok_is (de_var 7) de_non)) (dss_one (ds_ret (O1 := []) de_bl)) dss_nil)
      (dss_one (ds_if (O1 := []) (O' := []) (dt_cmp ok_isnot (de_var 7) de_non) (dss_cons (O1 := []) (ds_if (O1 := []) (O' := []) (dt_cmp (ok_ne ok.u64) (de_new (df_lc (own := [("one", 17), ("two", 18)]) rfl nd (di_zip W.n_zip (da_cons (de_call (w_earliest W Z) ok (by decide) tkB W.g_earliest W.F_earliest.kp (b_earliest W) (da_cons (de_var 5) (da_cons (de_var 12) da_nil))) (da_cons (de_var 7) da_nil))) (blkOk_by (by rfl)) (fun _ _ _ _ _ => (dg_tup rfl (dgs_cons (dg_name 17 nd) (dgs_cons (dg_name 18 nd) dgs_nil)))) (fun _ _ _ _ _ => (dts_one (dt_cmp ok_lt (de_var 18) (de_var 17)))) (fun _ _ _ _ _ => de_int))) (de_new (df_lst da_nil))) (dss_one (ds_ret (O1 := []) de_bl)) dss_nil)
      (dss_one (ds_if (O1 := []) (O' := []) (dt_cmp (ok_ne ok.u64) (de_new (df_lc (own := [("one", 17), ("two", 18)]) rfl nd (di_zip W.n_zip (da_cons (de_call (w_latest W Z) ok (by decide) tkB W.g_latest W.F_latest.kp (b_latest W) (da_cons (de_var 5) (da_cons (de_var 12) da_nil))) (da_cons (de_var 8) da_nil))) (blkOk_by (by rfl)) (fun _ _ _ _ _ => (dg_tup rfl (dgs_cons (dg_name 17 nd) (dgs_cons (dg_name 18 nd) dgs_nil)))) (fun _ _ _ _ _ => (dts_one (dt_cmp ok_gt (de_var 18) (de_var 17)))) (fun _ _ _ _ _ => de_int))) (de_new (df_lst da_nil))) (dss_one (ds_ret (O1 := []) de_bl)) dss_nil))) dss_nil)))))))))))))))))
      (dss_one (ds_ret (O1 := []) de_bl)))
theorem s_law : FnScope ["script", "k"] ["script"] (defScope (top 72)) := ⟨rfl, rfl, rfl, by decide +kernel, rfl, by decide +kernel, by decide +kernel⟩
theorem w_law (W : Wd K mg) (Z : TZ K mg base) : FnG P w K mg base 13 W.f_law W.q_law ["script"] (spD K (tt K) 1 d_law) := by
  have nd := s_law.nd
  exact fnG_data (O := []) W.F_law s_law fun cdv A outer s H E ok => (dss_one (ds_ret (O1 := []) (de_callB (ok_all rfl) W.n_all boot_all' (da_cons (de_new (df_lc (own := [("k", 1)]) rfl nd (di_seq (de_call (w__law_turns W Z) ok (by decide) tkB W.g__law_turns W.F__law_turns.kp (b__law_turns W) (da_cons (de_var 0) da_nil))) (blkOk_by (by rfl)) (fun _ _ _ _ _ => (dg_name 1 nd)) (fun _ _ _ _ _ => dts_nil) (fun _ _ _ _ _ => (de_well (w__law_right W Z) ok.blk (by decide) L2.takes0 W.g__law_right W.F__law_right.kp (b__law_right W) (df_call (w__law_well W Z) ok.blk (by decide) L2.takes0 W.g__law_well W.F__law_well.kp (b__law_well W) (da_cons (de_var 0) (da_cons (de_var 1) da_nil))))))) da_nil))))
end
def dD (i : Nat) (n : Str) : He.DefD := ⟨(n, none), n, n, defArgs (top i), defBody (top i), defScope (top i), [], []⟩
def fn : List He.DefD := [dD 4 "is_whole", dD 5 "is_number", dD 6 "is_word", dD 7 "is_name", dD 8 "is_tuple_of", dD 9 "is_one_of", dD 10 "wrong_at", dD 11 "wrong_from_one", dD 15 "wrong_kinds", dD 16 "is_line", dD 17 "is_book_form", dD 18 "numbers_of", dD 28 "is_time", dD 29 "is_flight", dD 30 "wrong_flights", dD 31 "earliest_by", dD 32 "latest_by", dD 33 "as_it_is", dD 34 "end_as_it_is", dD 35 "earliest_of", dD 36 "latest_of", dD 37 "are_in_time", dD 39 "check_book", dD 40 "check_time", dD 41 "check_flights", dD 42 "is_closing", dD 43 "wrong_closings", dD 44 "check_closings", dD 47 "open_from", dD 48 "open_until", dD 49 "earliest_beside", dD 50 "latest_beside", dD 52 "check_closed_out", dD 53 "earliest_open", dD 54 "latest_open", dD 55 "least_open", dD 57 "earliest", dD 58 "latest", dD 60 "_law_well", dD 61 "_law_dip", dD 62 "_law_one", dD 63 "_law_turns", dD 64 "_law_words", dD 65 "_law_book", dD 66 "_law_table", dD 67 "_law_flights", dD 68 "_law_shuffled", dD 69 "_law_closings", dD 70 "_law_free", dD 71 "_law_right", dD 72 "law"]
def fa : List He.Fa := [.glo "is_whole", .glo "is_number", .glo "is_word", .glo "is_name", .glo "is_tuple_of", .glo "is_one_of", .glo "wrong_at", .glo "wrong_from_one", .glo "wrong_kinds", .glo "is_line", .glo "is_book_form", .glo "numbers_of", .glo "is_time", .glo "is_flight", .glo "wrong_flights", .glo "earliest_by", .glo "latest_by", .glo "as_it_is", .glo "end_as_it_is", .glo "earliest_of", .glo "latest_of", .glo "are_in_time", .glo "check_book", .glo "check_time", .glo "check_flights", .glo "is_closing", .glo "wrong_closings", .glo "check_closings", .glo "open_from", .glo "open_until", .glo "earliest_beside", .glo "latest_beside", .glo "check_closed_out", .glo "earliest_open", .glo "latest_open", .glo "least_open", .glo "earliest", .glo "latest", .glo "_law_well", .glo "_law_dip", .glo "_law_one", .glo "_law_turns", .glo "_law_words", .glo "_law_book", .glo "_law_table", .glo "_law_flights", .glo "_law_shuffled", .glo "_law_closings", .glo "_law_free", .glo "_law_right", .glo "law", .free "abs", .free "all", .free "bool", .free "divmod", .free "enumerate", .free "int", .free "isinstance", .free "len", .free "list", .free "max", .free "min", .free "range", .free "repr", .free "sorted", .free "str", .free "tuple", .free "zip", .str "LETTERS" "abcdefghijklmnopqrstuvwxyz", .int "MOST_FLIGHTS" 10, .int "MOST_KINDS" 5, .int "MOST_LETTERS" 8, .int "MOST_NUMBER" 9, .int "MOST_TIME" 999, .int "NEVER" 1000]
def loose : List Str := (["LETTERS", "MOST_LETTERS", "WORDS", "is_whole", "is_number", "is_word", "is_name", "is_tuple_of", "is_one_of", "wrong_at", "wrong_from_one", "MOST_KINDS", "MOST_NUMBER", "wrong_kinds", "is_line", "is_book_form"] : List Str) ++ (["numbers_of", "RunwayError", "InvalidBook", "InvalidTime", "InvalidFlights", "InvalidClosings", "MOST_FLIGHTS", "MOST_TIME", "is_time", "is_flight", "wrong_flights", "earliest_by", "latest_by", "as_it_is", "end_as_it_is", "earliest_of"] : List Str) ++ (["latest_of", "are_in_time", "check_book", "check_time", "check_flights", "is_closing", "wrong_closings", "check_closings", "NEVER", "open_from", "open_until", "earliest_beside", "latest_beside", "check_closed_out", "earliest_open", "latest_open"] : List Str) ++ (["least_open", "earliest", "latest", "_law_well", "_law_dip", "_law_one", "_law_turns", "_law_words", "_law_book", "_law_table", "_law_flights", "_law_shuffled", "_law_closings", "_law_free", "_law_right"] : List Str)
abbrev R : PySem.W.OpenRow := PySem.W.OpenLaw.row L
def ex (K : PySem.W.Frag) : Bool := tupOk K "WORDS" z_WORDS && decide ((tt K).map (·.1)).Nodup
abbrev hk : PySem.W.Hook := He.hookX 4 fa fn [] TF ex
def ob (s : PySem.W.SharedT) : He.AlX := He.obsX 4 fa fn [] TF ex (HandSHeadRun.getT s)
theorem ob_eq (s : PySem.W.SharedT) : ob s = hk.obs s.abs := He.obsX_eq (HandSHeadRun.getT_eq s)
theorem run (w : World) : HandSHeadRun.RunEq R (PySem.W.view R.prog [72]) hk ob 3000 loose w := by
  intro os
  kernel_rfl
theorem facts {K : PySem.W.Frag} {h : Heap} {mg : Str → Option Value} (X : K.In h) (G : h.Ns mainGlobals mg) (c : He.SaysD fa fn K) (e : ex K = true) : Nonempty (PLift (((tt K).map (·.1)).Nodup) × Wd K mg) := by
  obtain ⟨t0, e⟩ := Bool.and_eq_true_iff.mp e
  obtain ⟨q0, F0⟩ := c.def_ 0 (d := dD 4 "is_whole") rfl
  obtain ⟨q1, F1⟩ := c.def_ 1 (d := dD 5 "is_number") rfl
  obtain ⟨q2, F2⟩ := c.def_ 2 (d := dD 6 "is_word") rfl
  obtain ⟨q3, F3⟩ := c.def_ 3 (d := dD 7 "is_name") rfl
  obtain ⟨q4, F4⟩ := c.def_ 4 (d := dD 8 "is_tuple_of") rfl
  obtain ⟨q5, F5⟩ := c.def_ 5 (d := dD 9 "is_one_of") rfl
  obtain ⟨q6, F6⟩ := c.def_ 6 (d := dD 10 "wrong_at") rfl
  obtain ⟨q7, F7⟩ := c.def_ 7 (d := dD 11 "wrong_from_one") rfl
  obtain ⟨q8, F8⟩ := c.def_ 8 (d := dD 15 "wrong_kinds") rfl
  obtain ⟨q9, F9⟩ := c.def_ 9 (d := dD 16 "is_line") rfl
  obtain ⟨q10, F10⟩ := c.def_ 10 (d := dD 17 "is_book_form") rfl
  obtain ⟨q11, F11⟩ := c.def_ 11 (d := dD 18 "numbers_of") rfl
  obtain ⟨q12, F12⟩ := c.def_ 12 (d := dD 28 "is_time") rfl
  obtain ⟨q13, F13⟩ := c.def_ 13 (d := dD 29 "is_flight") rfl
  obtain ⟨q14, F14⟩ := c.def_ 14 (d := dD 30 "wrong_flights") rfl
  obtain ⟨q15, F15⟩ := c.def_ 15 (d := dD 31 "earliest_by") rfl
  obtain ⟨q16, F16⟩ := c.def_ 16 (d := dD 32 "latest_by") rfl
  obtain ⟨q17, F17⟩ := c.def_ 17 (d := dD 33 "as_it_is") rfl
  obtain ⟨q18, F18⟩ := c.def_ 18 (d := dD 34 "end_as_it_is") rfl
  obtain ⟨q19, F19⟩ := c.def_ 19 (d := dD 35 "earliest_of") rfl
  obtain ⟨q20, F20⟩ := c.def_ 20 (d := dD 36 "latest_of") rfl
  obtain ⟨q21, F21⟩ := c.def_ 21 (d := dD 37 "are_in_time") rfl
  obtain ⟨q22, F22⟩ := c.def_ 22 (d := dD 39 "check_book") rfl
  obtain ⟨q23, F23⟩ := c.def_ 23 (d := dD 40 "check_time") rfl
  obtain ⟨q24, F24⟩ := c.def_ 24 (d := dD 41 "check_flights") rfl
  obtain ⟨q25, F25⟩ := c.def_ 25 (d := dD 42 "is_closing") rfl
  obtain ⟨q26, F26⟩ := c.def_ 26 (d := dD 43 "wrong_closings") rfl
  obtain ⟨q27, F27⟩ := c.def_ 27 (d := dD 44 "check_closings") rfl
  obtain ⟨q28, F28⟩ := c.def_ 28 (d := dD 47 "open_from") rfl
  obtain ⟨q29, F29⟩ := c.def_ 29 (d := dD 48 "open_until") rfl
  obtain ⟨q30, F30⟩ := c.def_ 30 (d := dD 49 "earliest_beside") rfl
  obtain ⟨q31, F31⟩ := c.def_ 31 (d := dD 50 "latest_beside") rfl
  obtain ⟨q32, F32⟩ := c.def_ 32 (d := dD 52 "check_closed_out") rfl
  obtain ⟨q33, F33⟩ := c.def_ 33 (d := dD 53 "earliest_open") rfl
  obtain ⟨q34, F34⟩ := c.def_ 34 (d := dD 54 "latest_open") rfl
  obtain ⟨q35, F35⟩ := c.def_ 35 (d := dD 55 "least_open") rfl
  obtain ⟨q36, F36⟩ := c.def_ 36 (d := dD 57 "earliest") rfl
  obtain ⟨q37, F37⟩ := c.def_ 37 (d := dD 58 "latest") rfl
  obtain ⟨q38, F38⟩ := c.def_ 38 (d := dD 60 "_law_well") rfl
  obtain ⟨q39, F39⟩ := c.def_ 39 (d := dD 61 "_law_dip") rfl
  obtain ⟨q40, F40⟩ := c.def_ 40 (d := dD 62 "_law_one") rfl
  obtain ⟨q41, F41⟩ := c.def_ 41 (d := dD 63 "_law_turns") rfl
  obtain ⟨q42, F42⟩ := c.def_ 42 (d := dD 64 "_law_words") rfl
  obtain ⟨q43, F43⟩ := c.def_ 43 (d := dD 65 "_law_book") rfl
  obtain ⟨q44, F44⟩ := c.def_ 44 (d := dD 66 "_law_table") rfl
  obtain ⟨q45, F45⟩ := c.def_ 45 (d := dD 67 "_law_flights") rfl
  obtain ⟨q46, F46⟩ := c.def_ 46 (d := dD 68 "_law_shuffled") rfl
  obtain ⟨q47, F47⟩ := c.def_ 47 (d := dD 69 "_law_closings") rfl
  obtain ⟨q48, F48⟩ := c.def_ 48 (d := dD 70 "_law_free") rfl
  obtain ⟨q49, F49⟩ := c.def_ 49 (d := dD 71 "_law_right") rfl
  obtain ⟨q50, F50⟩ := c.def_ 50 (d := dD 72 "law") rfl
  exact ⟨⟨of_decide_eq_true e⟩, {
    f_is_whole := He.fAd K ("is_whole", none), q_is_whole := q0, F_is_whole := F0, g_is_whole := He.glo_ok X G (c.fact 0 (f := .glo "is_whole") rfl)
    f_is_number := He.fAd K ("is_number", none), q_is_number := q1, F_is_number := F1, g_is_number := He.glo_ok X G (c.fact 1 (f := .glo "is_number") rfl)
    f_is_word := He.fAd K ("is_word", none), q_is_word := q2, F_is_word := F2, g_is_word := He.glo_ok X G (c.fact 2 (f := .glo "is_word") rfl)
    f_is_name := He.fAd K ("is_name", none), q_is_name := q3, F_is_name := F3, g_is_name := He.glo_ok X G (c.fact 3 (f := .glo "is_name") rfl)
    f_is_tuple_of := He.fAd K ("is_tuple_of", none), q_is_tuple_of := q4, F_is_tuple_of := F4, g_is_tuple_of := He.glo_ok X G (c.fact 4 (f := .glo "is_tuple_of") rfl)
    f_is_one_of := He.fAd K ("is_one_of", none), q_is_one_of := q5, F_is_one_of := F5, g_is_one_of := He.glo_ok X G (c.fact 5 (f := .glo "is_one_of") rfl)
    f_wrong_at := He.fAd K ("wrong_at", none), q_wrong_at := q6, F_wrong_at := F6, g_wrong_at := He.glo_ok X G (c.fact 6 (f := .glo "wrong_at") rfl)
    f_wrong_from_one := He.fAd K ("wrong_from_one", none), q_wrong_from_one := q7, F_wrong_from_one := F7, g_wrong_from_one := He.glo_ok X G (c.fact 7 (f := .glo "wrong_from_one") rfl)
    f_wrong_kinds := He.fAd K ("wrong_kinds", none), q_wrong_kinds := q8, F_wrong_kinds := F8, g_wrong_kinds := He.glo_ok X G (c.fact 8 (f := .glo "wrong_kinds") rfl), k_wrong_kinds := rfl
    f_is_line := He.fAd K ("is_line", none), q_is_line := q9, F_is_line := F9, g_is_line := He.glo_ok X G (c.fact 9 (f := .glo "is_line") rfl)
    f_is_book_form := He.fAd K ("is_book_form", none), q_is_book_form := q10, F_is_book_form := F10, g_is_book_form := He.glo_ok X G (c.fact 10 (f := .glo "is_book_form") rfl)
    f_numbers_of := He.fAd K ("numbers_of", none), q_numbers_of := q11, F_numbers_of := F11, g_numbers_of := He.glo_ok X G (c.fact 11 (f := .glo "numbers_of") rfl)
    f_is_time := He.fAd K ("is_time", none), q_is_time := q12, F_is_time := F12, g_is_time := He.glo_ok X G (c.fact 12 (f := .glo "is_time") rfl)
    f_is_flight := He.fAd K ("is_flight", none), q_is_flight := q13, F_is_flight := F13, g_is_flight := He.glo_ok X G (c.fact 13 (f := .glo "is_flight") rfl)
    f_wrong_flights := He.fAd K ("wrong_flights", none), q_wrong_flights := q14, F_wrong_flights := F14, g_wrong_flights := He.glo_ok X G (c.fact 14 (f := .glo "wrong_flights") rfl), k_wrong_flights := rfl
    f_earliest_by := He.fAd K ("earliest_by", none), q_earliest_by := q15, F_earliest_by := F15, g_earliest_by := He.glo_ok X G (c.fact 15 (f := .glo "earliest_by") rfl)
    f_latest_by := He.fAd K ("latest_by", none), q_latest_by := q16, F_latest_by := F16, g_latest_by := He.glo_ok X G (c.fact 16 (f := .glo "latest_by") rfl)
    f_as_it_is := He.fAd K ("as_it_is", none), q_as_it_is := q17, F_as_it_is := F17, g_as_it_is := He.glo_ok X G (c.fact 17 (f := .glo "as_it_is") rfl)
    f_end_as_it_is := He.fAd K ("end_as_it_is", none), q_end_as_it_is := q18, F_end_as_it_is := F18, g_end_as_it_is := He.glo_ok X G (c.fact 18 (f := .glo "end_as_it_is") rfl)
    f_earliest_of := He.fAd K ("earliest_of", none), q_earliest_of := q19, F_earliest_of := F19, g_earliest_of := He.glo_ok X G (c.fact 19 (f := .glo "earliest_of") rfl)
    f_latest_of := He.fAd K ("latest_of", none), q_latest_of := q20, F_latest_of := F20, g_latest_of := He.glo_ok X G (c.fact 20 (f := .glo "latest_of") rfl)
    f_are_in_time := He.fAd K ("are_in_time", none), q_are_in_time := q21, F_are_in_time := F21, g_are_in_time := He.glo_ok X G (c.fact 21 (f := .glo "are_in_time") rfl)
    f_check_book := He.fAd K ("check_book", none), q_check_book := q22, F_check_book := F22, g_check_book := He.glo_ok X G (c.fact 22 (f := .glo "check_book") rfl)
    f_check_time := He.fAd K ("check_time", none), q_check_time := q23, F_check_time := F23, g_check_time := He.glo_ok X G (c.fact 23 (f := .glo "check_time") rfl)
    f_check_flights := He.fAd K ("check_flights", none), q_check_flights := q24, F_check_flights := F24, g_check_flights := He.glo_ok X G (c.fact 24 (f := .glo "check_flights") rfl)
    f_is_closing := He.fAd K ("is_closing", none), q_is_closing := q25, F_is_closing := F25, g_is_closing := He.glo_ok X G (c.fact 25 (f := .glo "is_closing") rfl)
    f_wrong_closings := He.fAd K ("wrong_closings", none), q_wrong_closings := q26, F_wrong_closings := F26, g_wrong_closings := He.glo_ok X G (c.fact 26 (f := .glo "wrong_closings") rfl)
    f_check_closings := He.fAd K ("check_closings", none), q_check_closings := q27, F_check_closings := F27, g_check_closings := He.glo_ok X G (c.fact 27 (f := .glo "check_closings") rfl)
    f_open_from := He.fAd K ("open_from", none), q_open_from := q28, F_open_from := F28, g_open_from := He.glo_ok X G (c.fact 28 (f := .glo "open_from") rfl)
    f_open_until := He.fAd K ("open_until", none), q_open_until := q29, F_open_until := F29, g_open_until := He.glo_ok X G (c.fact 29 (f := .glo "open_until") rfl)
    f_earliest_beside := He.fAd K ("earliest_beside", none), q_earliest_beside := q30, F_earliest_beside := F30, g_earliest_beside := He.glo_ok X G (c.fact 30 (f := .glo "earliest_beside") rfl), k_earliest_beside := rfl
    f_latest_beside := He.fAd K ("latest_beside", none), q_latest_beside := q31, F_latest_beside := F31, g_latest_beside := He.glo_ok X G (c.fact 31 (f := .glo "latest_beside") rfl), k_latest_beside := rfl
    f_check_closed_out := He.fAd K ("check_closed_out", none), q_check_closed_out := q32, F_check_closed_out := F32, g_check_closed_out := He.glo_ok X G (c.fact 32 (f := .glo "check_closed_out") rfl)
    f_earliest_open := He.fAd K ("earliest_open", none), q_earliest_open := q33, F_earliest_open := F33, g_earliest_open := He.glo_ok X G (c.fact 33 (f := .glo "earliest_open") rfl)
    f_latest_open := He.fAd K ("latest_open", none), q_latest_open := q34, F_latest_open := F34, g_latest_open := He.glo_ok X G (c.fact 34 (f := .glo "latest_open") rfl)
    f_least_open := He.fAd K ("least_open", none), q_least_open := q35, F_least_open := F35, g_least_open := He.glo_ok X G (c.fact 35 (f := .glo "least_open") rfl)
    f_earliest := He.fAd K ("earliest", none), q_earliest := q36, F_earliest := F36, g_earliest := He.glo_ok X G (c.fact 36 (f := .glo "earliest") rfl)
    f_latest := He.fAd K ("latest", none), q_latest := q37, F_latest := F37, g_latest := He.glo_ok X G (c.fact 37 (f := .glo "latest") rfl)
    f__law_well := He.fAd K ("_law_well", none), q__law_well := q38, F__law_well := F38, g__law_well := He.glo_ok X G (c.fact 38 (f := .glo "_law_well") rfl)
    f__law_dip := He.fAd K ("_law_dip", none), q__law_dip := q39, F__law_dip := F39, g__law_dip := He.glo_ok X G (c.fact 39 (f := .glo "_law_dip") rfl)
    f__law_one := He.fAd K ("_law_one", none), q__law_one := q40, F__law_one := F40, g__law_one := He.glo_ok X G (c.fact 40 (f := .glo "_law_one") rfl)
    f__law_turns := He.fAd K ("_law_turns", none), q__law_turns := q41, F__law_turns := F41, g__law_turns := He.glo_ok X G (c.fact 41 (f := .glo "_law_turns") rfl)
    f__law_words := He.fAd K ("_law_words", none), q__law_words := q42, F__law_words := F42, g__law_words := He.glo_ok X G (c.fact 42 (f := .glo "_law_words") rfl)
    f__law_book := He.fAd K ("_law_book", none), q__law_book := q43, F__law_book := F43, g__law_book := He.glo_ok X G (c.fact 43 (f := .glo "_law_book") rfl)
    f__law_table := He.fAd K ("_law_table", none), q__law_table := q44, F__law_table := F44, g__law_table := He.glo_ok X G (c.fact 44 (f := .glo "_law_table") rfl)
    f__law_flights := He.fAd K ("_law_flights", none), q__law_flights := q45, F__law_flights := F45, g__law_flights := He.glo_ok X G (c.fact 45 (f := .glo "_law_flights") rfl)
    f__law_shuffled := He.fAd K ("_law_shuffled", none), q__law_shuffled := q46, F__law_shuffled := F46, g__law_shuffled := He.glo_ok X G (c.fact 46 (f := .glo "_law_shuffled") rfl)
    f__law_closings := He.fAd K ("_law_closings", none), q__law_closings := q47, F__law_closings := F47, g__law_closings := He.glo_ok X G (c.fact 47 (f := .glo "_law_closings") rfl)
    f__law_free := He.fAd K ("_law_free", none), q__law_free := q48, F__law_free := F48, g__law_free := He.glo_ok X G (c.fact 48 (f := .glo "_law_free") rfl)
    f__law_right := He.fAd K ("_law_right", none), q__law_right := q49, F__law_right := F49, g__law_right := He.glo_ok X G (c.fact 49 (f := .glo "_law_right") rfl)
    f_law := He.fAd K ("law", none), q_law := q50, F_law := F50, g_law := He.glo_ok X G (c.fact 50 (f := .glo "law") rfl)
    n_abs := He.free_ok X G (c.fact 51 (f := .free "abs") rfl)
    n_all := He.free_ok X G (c.fact 52 (f := .free "all") rfl)
    n_bool := He.free_ok X G (c.fact 53 (f := .free "bool") rfl)
    n_divmod := He.free_ok X G (c.fact 54 (f := .free "divmod") rfl)
    n_enumerate := He.free_ok X G (c.fact 55 (f := .free "enumerate") rfl)
    n_int := He.free_ok X G (c.fact 56 (f := .free "int") rfl)
    n_isinstance := He.free_ok X G (c.fact 57 (f := .free "isinstance") rfl)
    n_len := He.free_ok X G (c.fact 58 (f := .free "len") rfl)
    n_list := He.free_ok X G (c.fact 59 (f := .free "list") rfl)
    n_max := He.free_ok X G (c.fact 60 (f := .free "max") rfl)
    n_min := He.free_ok X G (c.fact 61 (f := .free "min") rfl)
    n_range := He.free_ok X G (c.fact 62 (f := .free "range") rfl)
    n_repr := He.free_ok X G (c.fact 63 (f := .free "repr") rfl)
    n_sorted := He.free_ok X G (c.fact 64 (f := .free "sorted") rfl)
    n_str := He.free_ok X G (c.fact 65 (f := .free "str") rfl)
    n_tuple := He.free_ok X G (c.fact 66 (f := .free "tuple") rfl)
    n_zip := He.free_ok X G (c.fact 67 (f := .free "zip") rfl)
    c_LETTERS := He.str_ok X G (c.fact 68 (f := .str "LETTERS" "abcdefghijklmnopqrstuvwxyz") rfl)
    c_MOST_FLIGHTS := He.int_ok X G (c.fact 69 (f := .int "MOST_FLIGHTS" 10) rfl)
    c_MOST_KINDS := He.int_ok X G (c.fact 70 (f := .int "MOST_KINDS" 5) rfl)
    c_MOST_LETTERS := He.int_ok X G (c.fact 71 (f := .int "MOST_LETTERS" 8) rfl)
    c_MOST_NUMBER := He.int_ok X G (c.fact 72 (f := .int "MOST_NUMBER" 9) rfl)
    c_MOST_TIME := He.int_ok X G (c.fact 73 (f := .int "MOST_TIME" 999) rfl)
    c_NEVER := He.int_ok X G (c.fact 74 (f := .int "NEVER" 1000) rfl)
    c_WORDS := tup_ok X G t0
  }⟩
end K56

namespace K56
open PySem PySem.Spec PyProof.Rows L2 Q Fm
/-! ## closings -/
abbrev Cl := List (Int × Int)
def pD (p : Int × Int) : D := .tup [.int p.1, .int p.2]
def clD (C : Cl) : D := .tup (C.map pD)
def hit (t : Int) (p : Int × Int) : Bool := decide (p.1 ≤ t) && decide (t ≤ p.2)
def inC (C : Cl) (t : Int) : Bool := C.any (hit t)
structure ClOk (far : Int) (C : Cl) : Prop where
  at_ : ∀ p ∈ C, 0 ≤ p.1 ∧ p.1 ≤ p.2 ∧ p.2 ≤ far
  gap : C.Pairwise fun p q => p.2 + 1 < q.1
def opF (C : Cl) (t : Int) : Int := match C.find? (hit t) with
  | some p => p.2 + 1
  | none => t
def opU (C : Cl) (t : Int) : Int := match C.find? (hit t) with
  | some p => p.1 - 1
  | none => t
theorem hit_iff {t : Int} {p : Int × Int} : hit t p = true ↔ p.1 ≤ t ∧ t ≤ p.2 := by
  unfold hit
  rw [Bool.and_eq_true, decide_eq_true_iff, decide_eq_true_iff]
theorem opF_ge {C : Cl} {t : Int} : t ≤ opF C t := by
  unfold opF
  cases e : C.find? (hit t) with
  | none => exact Int.le_refl _
  | some p =>
    have := hit_iff.mp (List.find?_some e)
    show t ≤ p.2 + 1
    omega
theorem opU_le {C : Cl} {t : Int} : opU C t ≤ t := by
  unfold opU
  cases e : C.find? (hit t) with
  | none => exact Int.le_refl _
  | some p =>
    have := hit_iff.mp (List.find?_some e)
    show p.1 - 1 ≤ t
    omega
theorem opF_le {far : Int} {C : Cl} (O : ClOk far C) (hf : far ≤ 999) {t : Int} (h : t ≤ 999) : opF C t ≤ 1000 := by
  unfold opF
  cases e : C.find? (hit t) with
  | none => show t ≤ 1000; omega
  | some p =>
    have := O.at_ p (List.mem_of_find?_eq_some e)
    show p.2 + 1 ≤ 1000
    omega
abbrev clG : D → Q.Env → M Q.Env := gTup 2 (gCons (gNm 2) (gCons (gNm 3) gNil))
theorem chain_ev {x y z : Int} {i j k : Nat} {ρ : Q.Env} (hi : getV ρ i = M.pure (.int x)) (hj : getV ρ j = M.pure (.int y)) (hk : getV ρ k = M.pure (.int z)) : chainE leD leD (vE i) (vE j) (vE k) ρ = M.pure (.bl (decide (x ≤ y) && decide (y ≤ z))) := by
  by_cases h : x ≤ y <;> by_cases h2 : y ≤ z <;> simp [hi, hj, hk, h, h2]
theorem of_loop {c : D} {t : Int} {b : Q.Env → M D} {k : Int × Int → Int} (hb : ∀ p : Int × Int, b [some c, some (.int t), some (.int p.1), some (.int p.2)] = M.pure (.int (k p))) : ∀ (L : Cl) (x2 x3 : Option D), ∃ r, forL clG (ifS' (tst (chainE leD leD (vE 2) (vE 1) (vE 3))) (retS b) nilS) (L.map pD) [some c, some (.int t), x2, x3] = M.pure r ∧
    match L.find? (hit t) with
    | some p => r = .rt (.int (k p))
    | none => ∃ y2 y3, r = .nx [some c, some (.int t), y2, y3]
  | [], x2, x3 => ⟨_, rfl, x2, x3, rfl⟩
  | p :: L, x2, x3 => by
    obtain ⟨r, e, q⟩ := of_loop hb L (some (.int p.1)) (some (.int p.2))
    have gt : noX (clG (pD p) [some c, some (.int t), x2, x3]) = M.pure [some c, some (.int t), some (.int p.1), some (.int p.2)] := rfl
    have ch : chainE leD leD (vE 2) (vE 1) (vE 3) [some c, some (.int t), some (.int p.1), some (.int p.2)] = M.pure (.bl (hit t p)) := chain_ev rfl rfl rfl
    rw [List.map_cons, ev_forCons, gt, ev_pure_bind]
    by_cases h : hit t p = true
    · rw [h] at ch
      refine ⟨.rt (.int (k p)), ?_, ?_⟩
      · show M.bind (ifS' _ _ _ _) _ = _
        rw [ev_ifS, ev_tst, ch]
        simp [hb]
      · rw [List.find?_cons_of_pos h]
    · have h' : hit t p = false := by simpa using h
      rw [h'] at ch
      refine ⟨r, ?_, ?_⟩
      · show M.bind (ifS' _ _ _ _) _ = _
        rw [ev_ifS, ev_tst, ch]
        simpa using e
      · rw [List.find?_cons_of_neg h]
        exact q
theorem open_from_ev {C : Cl} {t : Int} : d_open_from [clD C, .int t] = M.pure (.int (opF C t)) := by
  obtain ⟨r, e, q⟩ := of_loop (c := clD C) (t := t) (b := bin2 addD (vE 3) (iE 1)) (k := fun p => p.2 + 1) (fun p => by simp) C none none
  have it : itE (vE 0) [some (clD C), some (.int t), none, none] = M.pure (C.map pD) := rfl
  unfold d_open_from
  rw [ev_fnM, ev_seqS, ev_forS]
  show M.bind (M.bind (M.bind (itE (vE 0) [some (clD C), some (.int t), none, none]) fun items => forL _ _ items [some (clD C), some (.int t), none, none]) _) _ = _
  rw [it, ev_pure_bind, e, ev_pure_bind]
  unfold opF
  cases h : C.find? (hit t) with
  | none =>
    rw [h] at q
    obtain ⟨y2, y3, rfl⟩ := q
    simp
  | some p =>
    rw [h] at q
    rw [q]
    rfl
theorem open_until_ev {C : Cl} {t : Int} : d_open_until [clD C, .int t] = M.pure (.int (opU C t)) := by
  obtain ⟨r, e, q⟩ := of_loop (c := clD C) (t := t) (b := bin2 subD (vE 2) (iE 1)) (k := fun p => p.1 - 1) (fun p => by simp) C none none
  have it : itE (vE 0) [some (clD C), some (.int t), none, none] = M.pure (C.map pD) := rfl
  unfold d_open_until
  rw [ev_fnM, ev_seqS, ev_forS]
  show M.bind (M.bind (M.bind (itE (vE 0) [some (clD C), some (.int t), none, none]) fun items => forL _ _ items [some (clD C), some (.int t), none, none]) _) _ = _
  rw [it, ev_pure_bind, e, ev_pure_bind]
  unfold opU
  cases h : C.find? (hit t) with
  | none =>
    rw [h] at q
    obtain ⟨y2, y3, rfl⟩ := q
    simp
  | some p =>
    rw [h] at q
    rw [q]
    rfl
/-! the law's own look -/
theorem inC_none {C : Cl} {t : Int} : inC C t = (C.find? (hit t)).isSome := by
  unfold inC
  rw [Bool.eq_iff_iff, List.any_eq_true, List.find?_isSome]
theorem gap_or : ∀ {C : Cl}, C.Pairwise (fun p q => p.2 + 1 < q.1) → ∀ p ∈ C, ∀ q ∈ C, p = q ∨ p.2 + 1 < q.1 ∨ q.2 + 1 < p.1
  | [], _, p, hp, _, _ => nomatch hp
  | x :: C, h, p, hp, q, hq => by
    obtain ⟨h1, h2⟩ := List.pairwise_cons.mp h
    rcases List.mem_cons.mp hp with e1 | hp1
    · rcases List.mem_cons.mp hq with e2 | hq1
      · exact .inl (e1.trans e2.symm)
      · rw [e1]; exact .inr (.inl (h1 q hq1))
    · rcases List.mem_cons.mp hq with e2 | hq1
      · rw [e2]; exact .inr (.inr (h1 p hp1))
      · exact gap_or h2 p hp1 q hq1
theorem past {far : Int} {C : Cl} (O : ClOk far C) {p : Int × Int} (hp : p ∈ C) : inC C (p.2 + 1) = false := by
  unfold inC
  rw [List.any_eq_false]
  intro q hq h
  have a := hit_iff.mp h
  have b := O.at_ p hp
  have c := O.at_ q hq
  rcases gap_or O.gap p hp q hq with rfl | d | d <;> omega
theorem free_loop {far : Int} {C : Cl} (O : ClOk far C) {acc : List (D × D)} (ha : ∀ t, hasK acc t = inC C t) {x1 : Option D} {p : Int × Int} (hp : p ∈ C) : ∀ (n : Nat) (t : Int) (fuel : Nat), p.1 ≤ t → t ≤ p.2 + 1 → (p.2 + 1 - t).toNat = n → n < fuel →
    whileL (tst (bin2 (inM false) (vE 2) (vE 0))) (setKS 2 (bin2 addD (vE 2) (iE 1))) fuel [some (.dct false acc), x1, some (.int t)] = M.pure (.nx [some (.dct false acc), x1, some (.int (p.2 + 1))])
  | n, t, 0, _, _, _, h => absurd h (by omega)
  | n, t, fuel + 1, h1, h2, e, hf => by
    have ic : inM false (.int t) (.dct false acc) = M.pure (.bl (inC C t)) := by rw [in_dct, ha]
    unfold whileL
    have tt : tst (bin2 (inM false) (vE 2) (vE 0)) [some (.dct false acc), x1, some (.int t)] = M.pure (inC C t) := by
      rw [ev_tst, ev_bin2]
      simp only [ev_vE', ev_getV1, ev_getV0, ev_pure_bind, ic, ev_asB]
    rw [tt, ev_pure_bind]
    by_cases h : t = p.2 + 1
    · rw [h, past O hp, if_neg (by decide)]
    · have hh : inC C t = true := List.any_eq_true.mpr ⟨p, hp, hit_iff.mpr ⟨h1, by omega⟩⟩
      rw [hh, if_pos rfl]
      have st : setKS 2 (bin2 addD (vE 2) (iE 1)) [some (.dct false acc), x1, some (.int t)] = M.pure (.nx [some (.dct false acc), x1, some (.int (t + 1))]) := by simp
      rw [st, ev_pure_bind]
      exact free_loop O ha hp (n - 1) (t + 1) fuel (by omega) (by omega) (by omega) (by omega)
theorem free_ev {far : Int} {C : Cl} (O : ClOk far C) (hfar : far ≤ 999) {acc : List (D × D)} (ha : ∀ t, hasK acc t = inC C t) {t : Int} : d__law_free [.dct false acc, .int t] = M.pure (.int (opF C t)) := by
  unfold d__law_free
  rw [ev_fnM]
  have st : setS 2 (vE 1) (startE 3 [D.dct false acc, .int t]) = M.pure (.nx [some (.dct false acc), some (.int t), some (.int t)]) := rfl
  rw [ev_seqS, st, ev_pure_bind]
  dsimp only
  have lp : whileL (tst (bin2 (inM false) (vE 2) (vE 0))) (setKS 2 (bin2 addD (vE 2) (iE 1))) 2000 [some (.dct false acc), some (.int t), some (.int t)] = M.pure (.nx [some (.dct false acc), some (.int t), some (.int (opF C t))]) := by
    unfold opF
    cases h : C.find? (hit t) with
    | some p =>
      have hp := List.mem_of_find?_eq_some h
      have hh := hit_iff.mp (List.find?_some h)
      have := O.at_ p hp
      exact free_loop O ha hp _ t 2000 hh.1 (by omega) rfl (by omega)
    | none =>
      have hn : inC C t = false := by rw [inC_none, h]; rfl
      have ic : inM false (.int t) (.dct false acc) = M.pure (.bl false) := by rw [in_dct, ha, hn]
      show whileL _ _ (1999 + 1) _ = _
      unfold whileL
      have tt : tst (bin2 (inM false) (vE 2) (vE 0)) [some (.dct false acc), some (.int t), some (.int t)] = M.pure false := by
        rw [ev_tst, ev_bin2]
        simp only [ev_vE', ev_getV1, ev_getV0, ev_pure_bind, ic, ev_asB]
      rw [tt, ev_pure_bind, if_neg (by decide)]
  rw [ev_seqS, lp, ev_pure_bind]
  rfl
/-! they pass the checks -/
theorem pl_p {L n : Nat} (p : Int × Int) (h : 2 ≤ L) : Pl L (n + 1) (pD p) := .tup (by simpa using h) fun d hd => by
  simp only [List.mem_cons, List.not_mem_nil, or_false] at hd
  rcases hd with rfl | rfl <;> exact .int _
theorem pl_cl {L n : Nat} (C : Cl) (h2 : 2 ≤ L) (h : C.length ≤ L) : Pl L (n + 2) (clD C) := .tup (by rw [List.length_map]; exact h) fun d hd => by
  obtain ⟨p, _, rfl⟩ := List.mem_map.mp hd
  exact pl_p p h2
theorem time_ev {t : Int} (h0 : 0 ≤ t) (h1 : t ≤ 999) : d_is_time [.int t] = M.pure (.bl true) := by
  show F_is_time [.int t] = _
  unfold F_is_time
  rw [ev_fnM]
  have := number_ev (i := t) (lo := 0) (hi := 999) h0 h1
  simp [this]
theorem is_closing_ev {far : Int} {C : Cl} (O : ClOk far C) (hf : far ≤ 999) (hl : C.length ≤ 50) {i : Nat} {p : Int × Int} (hi : C[i]? = some p) : d_is_closing [pD p, .tup ((C.take i).map pD)] = M.pure (.bl true) := by
  have hp : p ∈ C := List.mem_of_getElem? hi
  have at_ := O.at_ p hp
  have t2 : d_is_tuple_of [pD p, .int 2] = M.pure (.bl true) := tup_of (m := 2) (pl_p (L := 2) (n := 0) p (by omega))
  have lc : lcE [2] (itE (vE 0)) (gNm 2) yesT (argN 1 d_is_time (consA (vE 2) nilA)) [some (pD p), some (.tup ((C.take i).map pD)), none] = M.pure (.lst [.bl true, .bl true]) := by
    rw [lcE_pure (items := [.int p.1, .int p.2]) (T := fun _ => true) (F := fun _ => .bl true) rfl (by rw [sizeLine_eq]; show 2 ≤ _; decide) (fun d hd => rfl) fun d hd _ => ?_]
    · rfl
    · have : ∃ t : Int, d = .int t ∧ 0 ≤ t ∧ t ≤ 999 := by
        simp only [List.mem_cons, List.not_mem_nil, or_false] at hd
        rcases hd with rfl | rfl
        · exact ⟨_, rfl, by omega, by omega⟩
        · exact ⟨_, rfl, by omega, by omega⟩
      obtain ⟨t, rfl, h0, h1⟩ := this
      have te := time_ev h0 h1
      show argN 1 d_is_time (consA (vE 2) nilA) [some (pD p), some (.tup ((C.take i).map pD)), some (.int t)] = _
      simp [te]
  have i0 : ixX (pD p) (.int 0) = M.pure (.int p.1) := rfl
  have i1 : ixX (pD p) (.int 1) = M.pure (.int p.2) := rfl
  have al : allD [.lst [.bl true, .bl true]] = M.pure (.bl true) := rfl
  have n1 : ¬ p.2 < p.1 := by omega
  have sh : eqD (.tup ((C.take i).map pD)) (.tup []) = M.pure (.bl (C.take i).isEmpty) := by
    have s0 : shOk (.tup ((C.take i).map pD)) = true := (pl_cl (L := 50) (n := 0) (C.take i) (by omega) (by rw [List.length_take]; omega)).sh (by omega)
    rw [ev_eq s0 rfl (fun _ e => nomatch e), eqv_nilT, List.isEmpty_map]
  unfold d_is_closing
  rw [ev_fnM]
  rcases List.eq_nil_or_concat (C.take i) with z | ⟨ys, q, z⟩
  · rw [z] at sh lc ⊢
    simp only [List.map_nil, List.isEmpty_nil] at sh lc
    simp [t2, lc, al, i0, i1, n1, sh, ev_mkTup]
  · rw [List.concat_eq_append] at z
    have gap : q.2 + 1 < p.1 := by
      have e : C = C.take i ++ p :: C.drop (i + 1) := by
        rw [← (List.getElem?_eq_some_iff.mp hi).2, List.getElem_cons_drop, List.take_append_drop]
      have g := O.gap
      rw [e] at g
      exact (List.pairwise_append.mp g).2.2 q (by rw [z]; simp) p List.mem_cons_self
    rw [z] at sh lc ⊢
    have em : (ys ++ [q]).isEmpty = false := by simp
    rw [em] at sh
    have la : ixX (.tup ((ys ++ [q]).map pD)) (.int (-1)) = M.pure (pD q) := by rw [List.map_append]; exact last_tup _
    have q1 : ixX (pD q) (.int 1) = M.pure (.int q.2) := rfl
    generalize D.tup ((ys ++ [q]).map pD) = v at sh lc la ⊢
    simp [t2, lc, al, i0, i1, n1, sh, ev_mkTup, la, q1, gap]
theorem check_closings_ev {far : Int} {C : Cl} (O : ClOk far C) (hf : far ≤ 999) (hl : C.length ≤ 50) : d_check_closings [clD C] = M.pure .non := by
  have wn : F_wrong_at d_is_closing [clD C, .non] = M.pure (.lst []) := wrong_none_ev fun j d hj => by
    rw [List.getElem?_map] at hj
    cases q : C[j]? with
    | none => rw [q] at hj; cases hj
    | some p =>
      rw [q] at hj
      obtain rfl := Option.some.inj hj
      rw [← List.map_take]
      exact is_closing_ev O hf hl q
  have nf : D.nofnL [clD C, .non] = true := by
    simp only [D.nofnL, (pl_cl (L := 50) (n := 0) C (by omega) hl).nofn, D.nofn, Bool.and_self]
  have w : d_wrong_closings [clD C] = M.pure (.lst []) := by
    unfold d_wrong_closings
    rw [ev_fnM, ev_retS, ev_callGE]
    show M.bind (M.bind (M.bind (M.pure [clD C, .non]) _) _) _ = _
    rw [ev_pure_bind, if_pos ⟨rfl, nf⟩]
    show M.bind (M.bind (M.bind (noX (F_wrong_at d_is_closing [clD C, .non])) _) _) _ = _
    rw [wn]; rfl
  unfold d_check_closings
  rw [ev_fnM, ev_forS, ev_itE]
  simp [w]
theorem least_open_ev {far : Int} {C : Cl} (O : ClOk far C) (hf : far ≤ 999) (hl : C.length ≤ 50) {t : Int} (h0 : 0 ≤ t) (h1 : t ≤ 999) : d_least_open [clD C, .int t] = M.pure (.int (opF C t)) := by
  have ck := check_closings_ev O hf hl
  have ct : d_check_time [.int t] = M.pure .non := check_time_ev h0 h1
  have of_ := open_from_ev (C := C) (t := t)
  have le := opF_le O hf h1
  have mn : minD [.int 1000, .int (opF C t)] = M.pure (.int (opF C t)) := by
    rw [min_ev, Int.min_eq_right le]
  unfold d_least_open
  rw [ev_fnM]
  simp [-ev_minI, ck, ct, of_, mn]
end K56

namespace K56
open PySem PySem.Spec PyProof.Rows L2 Q Fm
/-! ## drawn closings -/
def clB : Q.Env → M Fl := seqS (setS 5 (bin2 addD (vE 4) (argN 2 F__law_dip (consA (vE 0) (consA (argN 2 F__law_one (consA (vE 0) (consA (lstE (consA (iE 1) (consA (iE 3) (consA (bin2 addD (bin2 divD (vE 1) (iE 2)) (iE 1)) nilA)))) nilA))) nilA)))))
  (ifS' (tst (bin2 leD (vE 5) (vE 1))) (seqS (mutS 3 appM (consA (tupE (consA (vE 4) (consA (vE 5) nilA))) nilA))
  (setKS 4 (bin2 addD (bin2 addD (vE 5) (iE 2)) (argN 2 F__law_dip (consA (vE 0) (consA (iE 4) nilA)))))) nilS)
theorem closings_eq : d__law_closings = fnM 6 (seqS (parS2 3 4 (consA (lstE nilA) (consA (argN 2 F__law_dip (consA (vE 0) (consA (bin2 addD (vE 1) (iE 1)) nilA))) nilA)))
  (seqS (forS (argE rng1D (consA (argN 2 F__law_dip (consA (vE 0) (consA (iE 4) nilA))) nilA)) (gNm 2) clB)
  (retS (argE tupleD (consA (vE 3) nilA))))) := rfl
structure ClN (far : Int) (C : Cl) (now : Int) : Prop where
  ok : ClOk far C
  bef : ∀ p ∈ C, p.2 + 1 < now
  n0 : 0 ≤ now
theorem clB_ok {w : Wl} {far now : Int} {C : Cl} {x2 x5 : Option D} (hw : Good w) (f0 : 0 ≤ far) (f9 : far ≤ 999) (N : ClN far C now) (hl : C.length ≤ 100) :
    Run (clB [some .well, some (.int far), x2, some (.lst (C.map pD)), some (.int now), x5]) w fun r w' => ∃ C' now' y5, r = .nx [some .well, some (.int far), x2, some (.lst (C'.map pD)), some (.int now'), y5] ∧ ClN far C' now' ∧ C'.length ≤ C.length + 1 ∧ Good w' := by
  unfold clB
  have r1 : Run (setS 5 (bin2 addD (vE 4) (argN 2 F__law_dip (consA (vE 0) (consA (argN 2 F__law_one (consA (vE 0) (consA (lstE (consA (iE 1) (consA (iE 3) (consA (bin2 addD (bin2 divD (vE 1) (iE 2)) (iE 1)) nilA)))) nilA))) nilA)))) [some .well, some (.int far), x2, some (.lst (C.map pD)), some (.int now), x5]) w
      fun r w' => ∃ last : Int, r = .nx [some .well, some (.int far), x2, some (.lst (C.map pD)), some (.int now), some (.int last)] ∧ now ≤ last ∧ Good w' := by
    conv => arg 1; simp [ev_mkLst]
    refine Run.bind (one_ok (.inl rfl) hw (by simp) (by simp)) fun a w1 ⟨ha, g1⟩ => ?_
    have : ∃ k : Int, a = .int k ∧ 0 < k ∧ k ≤ 1000 := by
      simp only [List.mem_cons, List.not_mem_nil, or_false] at ha
      rcases ha with rfl | rfl | rfl
      · exact ⟨1, rfl, by omega, by omega⟩
      · exact ⟨3, rfl, by omega, by omega⟩
      · exact ⟨_, rfl, by omega, by omega⟩
    obtain ⟨k, rfl, k0, k1⟩ := this
    refine Run.bind (dip_ok g1 k0 (by omega)) fun a w2 ⟨r, e, r0, r1, g2⟩ => ?_
    subst e
    conv => arg 1; simp
    exact ⟨_, w2, rfl, now + r, rfl, by omega, g2⟩
  rw [ev_seqS]
  refine Run.bind r1 fun r w1 ⟨last, e, hn, g1⟩ => ?_
  subst e
  dsimp only
  rw [ev_ifS]
  have tt : tst (bin2 leD (vE 5) (vE 1)) [some .well, some (.int far), x2, some (.lst (C.map pD)), some (.int now), some (.int last)] = M.pure (decide (last ≤ far)) := by simp
  rw [tt, ev_pure_bind]
  by_cases h : last ≤ far
  · rw [decide_eq_true h, if_pos rfl]
    have n0 := N.n0
    have ap : appM (C.map pD) [.tup [.int now, .int last]] = M.pure ((C ++ [(now, last)]).map pD) := by
      rw [ev_app (by rw [List.length_map]; omega), List.map_append]; rfl
    have m1 : mutS 3 appM (consA (tupE (consA (vE 4) (consA (vE 5) nilA))) nilA) [some .well, some (.int far), x2, some (.lst (C.map pD)), some (.int now), some (.int last)] = M.pure (.nx [some .well, some (.int far), x2, some (.lst ((C ++ [(now, last)]).map pD)), some (.int now), some (.int last)]) := by
      simp [ev_mkTup, ap]
    rw [ev_seqS, m1, ev_pure_bind]
    dsimp only
    conv => arg 1; simp
    refine Run.bind (dip_ok g1 (n := 4) (by omega) (by omega)) fun a w2 ⟨r, e, r0, r1, g2⟩ => ?_
    subst e
    conv => arg 1; simp
    refine ⟨_, w2, rfl, C ++ [(now, last)], last + 2 + r, some (.int last), by simp, ⟨⟨fun p hp => ?_, ?_⟩, fun p hp => ?_, by omega⟩, by simp, g2⟩
    · rcases List.mem_append.mp hp with q | q
      · exact N.ok.at_ p q
      · rw [List.mem_singleton.mp q]; exact ⟨n0, hn, h⟩
    · refine List.pairwise_append.mpr ⟨N.ok.gap, List.pairwise_singleton _ _, fun p hp q hq => ?_⟩
      rw [List.mem_singleton.mp hq]
      exact N.bef p hp
    · rcases List.mem_append.mp hp with q | q
      · have a := N.bef p q
        omega
      · rw [List.mem_singleton.mp q]
        show last + 1 < last + 2 + r
        omega
  · rw [decide_eq_false h, if_neg (by decide)]
    exact ⟨_, w1, rfl, C, now, some (.int last), rfl, N, by omega, g1⟩
theorem closings_ok {w : Wl} {far : Int} (hw : Good w) (f0 : 0 ≤ far) (f9 : far ≤ 999) : Run (d__law_closings [.well, .int far]) w fun d w' => ∃ C, d = clD C ∧ ClOk far C ∧ C.length ≤ 3 ∧ Good w' := by
  rw [closings_eq]
  refine fnM_run ?_
  have r1 : Run (parS2 3 4 (consA (lstE nilA) (consA (argN 2 F__law_dip (consA (vE 0) (consA (bin2 addD (vE 1) (iE 1)) nilA))) nilA)) (startE 6 [.well, .int far])) w fun r w' => ∃ now : Int, r = .nx [some .well, some (.int far), none, some (.lst []), some (.int now), none] ∧ 0 ≤ now ∧ Good w' := by
    conv => arg 1; simp [ev_mkLst]
    refine Run.bind (dip_ok hw (by omega) (by omega)) fun a w1 ⟨r, e, r0, r1, g1⟩ => ?_
    subst e
    exact ⟨_, w1, rfl, r, rfl, r0, g1⟩
  rw [ev_seqS]
  refine Run.bind r1 fun r w1 ⟨now, e, n0, g1⟩ => ?_
  subst e
  dsimp only
  rw [ev_seqS, ev_forS, ev_assoc]
  have r2 : Run (argE rng1D (consA (argN 2 F__law_dip (consA (vE 0) (consA (iE 4) nilA))) nilA) [some .well, some (.int far), none, some (.lst []), some (.int now), none]) w1 fun items w' => ∃ n : Nat, items = (List.range n).map (fun i => D.int (0 + (i : Nat))) ∧ n ≤ 3 ∧ Good w' := by
    rw [argRng_eq]
    have d4 : Run (argN 2 F__law_dip (consA (vE 0) (consA (iE 4) nilA)) [some .well, some (.int far), none, some (.lst []), some (.int now), none]) w1 fun d w' => ∃ r : Int, d = .int r ∧ 0 ≤ r ∧ r < 4 ∧ Good w' := by
      conv => arg 1; simp
      exact dip_ok g1 (by omega) (by omega)
    refine Run.bind d4 fun a w2 ⟨r, e, r0, r1, g2⟩ => ?_
    subst e
    obtain ⟨n, rfl⟩ : ∃ n : Nat, r = (n : Nat) := ⟨r.toNat, by omega⟩
    exact run_pure (rng1_nat n (by omega)) ⟨n, rfl, by omega, g2⟩
  refine Run.bind r2 fun items w2 ⟨n, e, n3, g2⟩ => ?_
  subst e
  refine Run.bind (forL_runN (I := fun n ρ w => ∃ (C : Cl) (now : Int) (x2 x5 : Option D), ρ = [some .well, some (.int far), x2, some (.lst (C.map pD)), some (.int now), x5] ∧ ClN far C now ∧ C.length + n ≤ 3 ∧ Good w) ?_ ?_) fun r w' ⟨ρ', e, C, now', x2, x5, e2, N, l, g⟩ => ?_
  · exact ⟨[], now, none, none, rfl, ⟨⟨(fun _ h => nomatch h), .nil⟩, (fun _ h => nomatch h), n0⟩, by simp; omega, g2⟩
  · rintro n d hd ρ w ⟨C, now, x2, x5, rfl, N, l, g⟩
    refine run_pure (a := [some .well, some (.int far), some d, some (.lst (C.map pD)), some (.int now), x5]) rfl ?_
    refine (clB_ok g f0 f9 N (by omega)).imp fun r w' ⟨C', now', y5, e, N', l', g'⟩ => ⟨_, e, C', now', some d, y5, rfl, N', by omega, g'⟩
  · subst e e2
    have te : tupleD [.lst (C.map pD)] = M.pure (.tup (C.map pD)) := rfl
    conv => arg 1; simp [te]
    exact ⟨_, w', rfl, C, rfl, N.ok, by omega, g⟩
/-! what is shut, as a dict -/
abbrev shG : D → Q.Env → M Q.Env := gTup 2 (gCons (gNm 9) (gCons (gNm 10) gNil))
abbrev shI : Q.Env → M Fl := forS (argE rng2D (consA (vE 9) (consA (bin2 addD (vE 10) (iE 1)) nilA))) (gNm 11) (putS 3 (bE true) (vE 11))
def E20 (c s b x4 x6 x7 x8 x9 x10 x11 f t x14 x15 x16 x17 x18 x19 x1 : Option D) : Q.Env := [some .well, x1, c, s, x4, b, x6, x7, x8, x9, x10, x11, f, t, x14, x15, x16, x17, x18, x19]
theorem sh_in {c b x4 x6 x7 x8 x9 x10 f t x14 x15 x16 x17 x18 x19 x1 : Option D} : ∀ (ts : List Int) (acc : List (D × D)) (x11 : Option D), acc.length + ts.length < 9000 →
    ∃ acc' y11, forL (gNm 11) (putS 3 (bE true) (vE 11)) (ts.map D.int) (E20 c (some (.dct false acc)) b x4 x6 x7 x8 x9 x10 x11 f t x14 x15 x16 x17 x18 x19 x1) = M.pure (.nx (E20 c (some (.dct false acc')) b x4 x6 x7 x8 x9 x10 y11 f t x14 x15 x16 x17 x18 x19 x1)) ∧ (∀ i, hasK acc' i = (hasK acc i || decide (i ∈ ts))) ∧ acc'.length ≤ acc.length + ts.length
  | [], acc, x11, h => ⟨acc, x11, rfl, fun i => by simp, by simp⟩
  | i :: ts, acc, x11, h => by
    simp only [List.length_cons] at h
    have := len_put (acc := acc) (k := .int i) (v := .bl true)
    obtain ⟨acc', y11, e, q, l⟩ := sh_in ts (putD acc (.int i) (.bl true)) (some (.int i)) (c := c) (b := b) (x4 := x4) (x6 := x6) (x7 := x7) (x8 := x8) (x9 := x9) (x10 := x10) (f := f) (t := t) (x14 := x14) (x15 := x15) (x16 := x16) (x17 := x17) (x18 := x18) (x19 := x19) (x1 := x1) (by omega)
    refine ⟨acc', y11, ?_, fun j => ?_, by simp only [List.length_cons]; omega⟩
    · have gt : noX (gNm 11 (.int i) (E20 c (some (.dct false acc)) b x4 x6 x7 x8 x9 x10 x11 f t x14 x15 x16 x17 x18 x19 x1)) = M.pure (E20 c (some (.dct false acc)) b x4 x6 x7 x8 x9 x10 (some (.int i)) f t x14 x15 x16 x17 x18 x19 x1) := rfl
      have st : putS 3 (bE true) (vE 11) (E20 c (some (.dct false acc)) b x4 x6 x7 x8 x9 x10 (some (.int i)) f t x14 x15 x16 x17 x18 x19 x1) = M.pure (.nx (E20 c (some (.dct false (putD acc (.int i) (.bl true)))) b x4 x6 x7 x8 x9 x10 (some (.int i)) f t x14 x15 x16 x17 x18 x19 x1)) := by
        show M.bind (M.pure (D.bl true)) (fun v => M.bind (M.pure (D.dct false acc)) fun d => M.bind (M.pure (D.int i)) fun k => M.bind (optM (setAt d k v)) fun d' => M.pure (Fl.nx ((E20 c (some (.dct false acc)) b x4 x6 x7 x8 x9 x10 (some (.int i)) f t x14 x15 x16 x17 x18 x19 x1).set 3 (some d')))) = _
        rw [ev_pure_bind, ev_pure_bind, ev_pure_bind, put_int (by omega)]
        rfl
      rw [List.map_cons, ev_forCons, gt, ev_pure_bind, st, ev_pure_bind]
      exact e
    · rw [q j, has_put]
      by_cases z : j = i
      · subst z; simp
      · have z' : ¬ i = j := fun y => z y.symm
        simp [z, z']
theorem rng2_ev {a b : Int} (h0 : 0 ≤ a) (h1 : b ≤ 1000) (h2 : a ≤ b) : rng2D [.int a, .int b] = M.pure (((List.range (b - a).toNat).map fun i => a + (i : Nat)).map D.int) := by
  show (if -(2 ^ 62) ≤ a ∧ a < 2 ^ 62 ∧ -(2 ^ 62) ≤ b ∧ b < 2 ^ 62 then M.pure (rngL a b) else M.fail) = _
  rw [if_pos (by omega)]
  unfold rngL
  rw [List.map_map]; rfl
theorem mem_rng {a b t : Int} : t ∈ (List.range (b - a).toNat).map (fun i => a + (i : Nat)) ↔ a ≤ t ∧ t < b := by
  rw [List.mem_map]
  constructor
  · rintro ⟨k, hk, rfl⟩
    have := List.mem_range.mp hk
    omega
  · rintro ⟨h1, h2⟩
    exact ⟨(t - a).toNat, List.mem_range.mpr (by omega), by omega⟩
theorem sh_out {c b x4 x6 x7 x8 f t x14 x15 x16 x17 x18 x19 x1 : Option D} {far : Int} (hf : far ≤ 999) : ∀ (L : Cl) (acc : List (D × D)) (x9 x10 x11 : Option D), (∀ p ∈ L, 0 ≤ p.1 ∧ p.1 ≤ p.2 ∧ p.2 ≤ far) → acc.length + L.length * 1000 < 9000 →
    ∃ acc' y9 y10 y11, forL shG shI (L.map pD) (E20 c (some (.dct false acc)) b x4 x6 x7 x8 x9 x10 x11 f t x14 x15 x16 x17 x18 x19 x1) = M.pure (.nx (E20 c (some (.dct false acc')) b x4 x6 x7 x8 y9 y10 y11 f t x14 x15 x16 x17 x18 x19 x1)) ∧ (∀ i, hasK acc' i = (hasK acc i || inC L i))
  | [], acc, x9, x10, x11, _, _ => ⟨acc, x9, x10, x11, rfl, fun i => by simp [inC]⟩
  | p :: L, acc, x9, x10, x11, hL, hl => by
    simp only [List.length_cons] at hl
    obtain ⟨a, b_, c_⟩ := hL p List.mem_cons_self
    have tl : ((List.range (p.2 + 1 - p.1).toNat).map fun i => p.1 + ((i : Nat) : Int)).length ≤ 1000 := by
      rw [List.length_map, List.length_range]; omega
    obtain ⟨acc1, y11, e1, q1, l1⟩ := sh_in ((List.range (p.2 + 1 - p.1).toNat).map fun i => p.1 + ((i : Nat) : Int)) acc x11 (c := c) (b := b) (x4 := x4) (x6 := x6) (x7 := x7) (x8 := x8) (x9 := some (.int p.1)) (x10 := some (.int p.2)) (f := f) (t := t) (x14 := x14) (x15 := x15) (x16 := x16) (x17 := x17) (x18 := x18) (x19 := x19) (x1 := x1) (by omega)
    obtain ⟨acc2, z9, z10, z11, e2, q2⟩ := sh_out hf L acc1 (some (.int p.1)) (some (.int p.2)) y11 (c := c) (b := b) (x4 := x4) (x6 := x6) (x7 := x7) (x8 := x8) (f := f) (t := t) (x14 := x14) (x15 := x15) (x16 := x16) (x17 := x17) (x18 := x18) (x19 := x19) (x1 := x1) (fun q hq => hL q (List.mem_cons_of_mem _ hq)) (by omega)
    refine ⟨acc2, z9, z10, z11, ?_, fun i => ?_⟩
    · have gt : noX (shG (pD p) (E20 c (some (.dct false acc)) b x4 x6 x7 x8 x9 x10 x11 f t x14 x15 x16 x17 x18 x19 x1)) = M.pure (E20 c (some (.dct false acc)) b x4 x6 x7 x8 (some (.int p.1)) (some (.int p.2)) x11 f t x14 x15 x16 x17 x18 x19 x1) := rfl
      have st : shI (E20 c (some (.dct false acc)) b x4 x6 x7 x8 (some (.int p.1)) (some (.int p.2)) x11 f t x14 x15 x16 x17 x18 x19 x1) = M.pure (.nx (E20 c (some (.dct false acc1)) b x4 x6 x7 x8 (some (.int p.1)) (some (.int p.2)) y11 f t x14 x15 x16 x17 x18 x19 x1)) := by
        have ar : argE rng2D (consA (vE 9) (consA (bin2 addD (vE 10) (iE 1)) nilA)) (E20 c (some (.dct false acc)) b x4 x6 x7 x8 (some (.int p.1)) (some (.int p.2)) x11 f t x14 x15 x16 x17 x18 x19 x1) = rng2D [.int p.1, .int (p.2 + 1)] := rfl
        show forS _ _ _ _ = _
        rw [ev_forS, ar, rng2_ev a (by omega) (by omega), ev_pure_bind, e1]
      rw [List.map_cons, ev_forCons, gt, ev_pure_bind, st, ev_pure_bind]
      exact e2
    · rw [q2 i, q1 i]
      have m : decide (i ∈ (List.range (p.2 + 1 - p.1).toNat).map fun i => p.1 + ((i : Nat) : Int)) = hit i p := by
        rw [Bool.eq_iff_iff, decide_eq_true_iff, mem_rng, hit_iff]
        omega
      rw [m]
      unfold inC
      rw [List.any_cons, Bool.or_assoc]
end K56

namespace K56
open PySem PySem.Spec PyProof.Rows L2 Q Fm
/-! ## open times of flights -/
def oG (C : Cl) (f : Flt) (t : Int) : Int := opF C t
theorem ev_callLE {n n' : Nat} {js : List Nat} {dF : (List D → M D) → List D → M D} {gb : Q.Env → M D} {fr : Q.Env → M (List D)} {ρ : Q.Env} : callLE n n' js dF gb fr ρ = M.bind (fr ρ) fun ds =>
  if ds.length + 1 = n ∧ D.nofnL ds = true ∧ D.nofnL ((capE js ρ).filterMap id) = true then M.bind (noX (dF (fnL n' gb (capE js ρ)) ds)) fun d => if d.nofn = true then M.pure d else M.fail else M.fail := rfl
abbrev oBody : Q.Env → M D := argN 2 d_open_from (consA (vE 2) (consA (vE 1) nilA))
abbrev uBody : Q.Env → M D := argN 2 d_open_until (consA (vE 1) (consA (vE 0) nilA))
theorem o_ev {C : Cl} (f : Flt) (t : Int) : fnL (["flight", "time", "closings"] : List Str).length oBody [some (clD C)] [f.d, .int t] = M.pure (.int (oG C f t)) := by
  show argN 2 d_open_from (consA (vE 2) (consA (vE 1) nilA)) [some f.d, some (.int t), some (clD C)] = _
  have := open_from_ev (C := C) (t := t)
  simp [this]
  rfl
theorem u_ev {C : Cl} (t : Int) : fnL (["time", "closings"] : List Str).length uBody [some (clD C)] [.int t] = M.pure (.int (opU C t)) := by
  show argN 2 d_open_until (consA (vE 1) (consA (vE 0) nilA)) [some (.int t), some (clD C)] = _
  have := open_until_ev (C := C) (t := t)
  simp [this]
section
variable {ks : List Str} {rs : List (List Int)} {fs : List Flt}
theorem cl_nofn {C : Cl} (hl : C.length ≤ 50) : (clD C).nofn = true := (pl_cl (L := 50) (n := 0) C (by omega) hl).nofn
theorem beside_ev (A : FOk ks rs fs) {C : Cl} (hl : C.length ≤ 50) : d_earliest_beside [bookD ks rs, flD fs, clD C] = M.pure (resL (ebGo (num ks rs) (oG C) [] fs)) := by
  have le := A.F.le
  have eb := earliest_by_ev (fs := fs) A.B (g := fnL (["flight", "time", "closings"] : List Str).length oBody [some (clD C)]) (G := oG C) A.F.kd (by omega) fun f _ t => o_ev f t
  have e0 : d_earliest_beside = fnM 4 (seqS (setS 3 (callLE (["book", "flights", "next_open"] : List Str).length (["flight", "time", "closings"] : List Str).length [2] F_earliest_by oBody (consA (vE 0) (consA (vE 1) nilA)))) (retS (ifE (truT (argN 2 F_are_in_time (consA (vE 1) (consA (vE 3) nilA)))) (vE 3) (lstE nilA)))) := rfl
  have cn : D.nofnL (([some (clD C)] : List (Option D)).filterMap id) = true := by
    simp [D.nofnL, cl_nofn hl]
  rw [e0, ev_fnM]
  show M.bind (seqS _ _ [some (bookD ks rs), some (flD fs), some (clD C), none]) endM = _
  rw [ev_seqS, ev_setS, ev_callLE]
  show M.bind (M.bind (M.bind (M.bind (M.pure [bookD ks rs, flD fs]) _) _) _) _ = _
  have cp : capE [2] [some (bookD ks rs), some (flD fs), some (clD C), none] = [some (clD C)] := rfl
  rw [ev_pure_bind, cp, if_pos ⟨rfl, A.nofn, cn⟩, eb, ev_noX_pure, ev_pure_bind, if_pos (tim_nofn _), ev_pure_bind, ev_pure_bind]
  dsimp only
  show M.bind (retS (ifE (truT (argN 2 F_are_in_time (consA (vE 1) (consA (vE 3) nilA)))) (vE 3) (lstE nilA)) [some (bookD ks rs), some (flD fs), some (clD C), some (timD (ebGo (num ks rs) (oG C) [] fs))]) endM = _
  have tm := A.tms (N := num ks rs) (G := oG C)
  unfold resL
  cases q : inT (ebGo (num ks rs) (oG C) [] fs)
  · rw [q] at tm
    simp [tm, ev_mkLst]
  · rw [q] at tm
    simp [tm]
theorem lbeside_ev (A : FOk ks rs fs) {C : Cl} (hl : C.length ≤ 50) : d_latest_beside [bookD ks rs, flD fs, clD C] = M.pure (timD (ltT (num ks rs) (opU C) fs)) := by
  have le := A.F.le
  have eb := latest_by_ev (fs := fs) A.B (g := fnL (["time", "closings"] : List Str).length uBody [some (clD C)]) (G := opU C) A.F.kd (by omega) u_ev
  have e0 : d_latest_beside = fnM 3 (retS (callLE (["book", "flights", "last_open"] : List Str).length (["time", "closings"] : List Str).length [2] F_latest_by uBody (consA (vE 0) (consA (vE 1) nilA)))) := rfl
  have cn : D.nofnL (([some (clD C)] : List (Option D)).filterMap id) = true := by
    simp [D.nofnL, cl_nofn hl]
  rw [e0, ev_fnM]
  show M.bind (retS _ [some (bookD ks rs), some (flD fs), some (clD C)]) endM = _
  rw [ev_retS, ev_callLE]
  show M.bind (M.bind (M.bind (M.pure [bookD ks rs, flD fs]) _) _) _ = _
  have cp : capE [2] [some (bookD ks rs), some (flD fs), some (clD C)] = [some (clD C)] := rfl
  rw [ev_pure_bind, cp, if_pos ⟨rfl, A.nofn, cn⟩, eb, ev_noX_pure, ev_pure_bind, if_pos (tim_nofn _)]
  rfl
theorem closed_out_ev (A : FOk ks rs fs) {far : Int} {C : Cl} (O : ClOk far C) (hf : far ≤ 999) (hl : C.length ≤ 50) : d_check_closed_out [bookD ks rs, flD fs, clD C] = M.pure .non := by
  have ck : d_check_flights [bookD ks rs, flD fs] = M.pure .non := A.check
  have cc := check_closings_ev O hf hl
  unfold d_check_closed_out
  rw [ev_fnM]
  simp [ck, cc]
theorem eopen_ev (A : FOk ks rs fs) {far : Int} {C : Cl} (O : ClOk far C) (hf : far ≤ 999) (hl : C.length ≤ 50) : d_earliest_open [bookD ks rs, flD fs, clD C] = M.pure (resD (ebGo (num ks rs) (oG C) [] fs)) := by
  have ck := closed_out_ev A O hf hl
  have ht := beside_ev A (C := C) hl
  have ne := res_ne (A.ebn (N := num ks rs) (G := oG C)) (by rw [A.ebl]; have := A.F.le; omega)
  unfold d_earliest_open
  rw [ev_fnM]
  unfold resD
  cases q : inT (ebGo (num ks rs) (oG C) [] fs)
  · rw [q] at ne
    simp [ck, ht, ne, ev_mkLst]
  · rw [q] at ne
    have rl : resL (ebGo (num ks rs) (oG C) [] fs) = timD (ebGo (num ks rs) (oG C) [] fs) := by unfold resL; rw [if_pos q]
    rw [rl] at ht ne
    simp [ck, ht, ne, ev_mkLst, tup_of_tim]
theorem res_eq {e : List (Flt × Int)} (h : e ≠ []) (hl : e.length ≤ 100) : eqD (resL e) (.lst []) = M.pure (.bl (!inT e)) := by
  have p : Pl 100 1 (resL e) := by
    unfold resL
    split
    · exact pl_tim e hl
    · exact .lst (by simp) fun _ h => nomatch h
  rw [ev_eq (p.sh (by omega)) rfl (fun a z => by unfold resL at z; split at z <;> cases z)]
  unfold resL
  cases q : inT e
  · rw [if_neg (by decide), eqv_nilL]; rfl
  · rw [if_pos rfl]
    unfold timD
    rw [eqv_nilL]
    cases e with
    | nil => exact absurd rfl h
    | cons => rfl
theorem lopen_ev (A : FOk ks rs fs) {far : Int} {C : Cl} (O : ClOk far C) (hf : far ≤ 999) (hl : C.length ≤ 50) : d_latest_open [bookD ks rs, flD fs, clD C] = M.pure (latD (num ks rs) (oG C) (opU C) fs) := by
  have ck := closed_out_ev A O hf hl
  have ht := beside_ev A (C := C) hl
  have lt := lbeside_ev A (C := C) hl
  have ne := res_eq (A.ebn (N := num ks rs) (G := oG C)) (by rw [A.ebl]; have := A.F.le; omega)
  unfold d_latest_open
  rw [ev_fnM]
  unfold latD
  cases q : inT (ebGo (num ks rs) (oG C) [] fs)
  · rw [q] at ne
    simp [ck, ht, ne, ev_mkLst]
  · rw [q] at ne
    simp [ck, ht, ne, ev_mkLst, lt, tup_of_tim]
theorem nilOk : ClOk 999 [] := ⟨(fun _ h => nomatch h), .nil⟩
theorem oG_nil : oG [] = idG := rfl
theorem opU_nil : opU [] = idH := rfl
theorem cl_nil : clD [] = .tup [] := rfl
end
end K56

namespace K56
open PySem PySem.Spec PyProof.Rows L2 Q Fm
/-! ## the law's own going -/
def resN (e : List (Flt × Int)) : D := if inT e = true then timD e else .non
abbrev ownG : D → Q.Env → M Q.Env := gTup 2 (gCons (gNm 14) (gCons (gTup 4 (gCons (gNm 15) (gCons (gNm 16) (gCons (gNm 9) (gCons (gNm 10) gNil))))) gNil))
abbrev ownL : Q.Env → M D := argE maxD (consA (bin2 addD (lstE (consA (vE 9) nilA)) (lcE [19] (argE rng1D (consA (vE 14) nilA)) (gNm 19) yesT (bin2 addD (bin2 ixX (vE 6) (vE 19)) (bin2 ixX (vE 13) (tupE (consA (bin2 ixX (bin2 ixX (vE 12) (vE 19)) (iE 1)) (consA (vE 16) nilA))))))) nilA)
section
variable {ks : List Str} {rs : List (List Int)} {fs : List Flt}
theorem own_dead {c s b x4 x7 x8 f t x17 x18 x19 x1 x11 : Option D} : ∀ (gs : List Flt) (i : Nat) (x9 x10 x14 x15 x16 : Option D),
    ∃ y9 y10 y14 y15 y16, forL ownG (ifS' (tst (bin2 notND (vE 6) noE)) (seqS (setKS 11 ownL) (seqS (setS 11 (argN 2 d__law_free (consA (vE 3) (consA (vE 11) nilA)))) (setS 6 (ifE (tst (bin2 leD (vE 11) (vE 10))) (bin2 addD (vE 6) (lstE (consA (vE 11) nilA))) noE)))) nilS) (enF i (gs.map Flt.d)) (E20 c s b x4 (some .non) x7 x8 x9 x10 x11 f t x14 x15 x16 x17 x18 x19 x1) = M.pure (.nx (E20 c s b x4 (some .non) x7 x8 y9 y10 x11 f t y14 y15 y16 x17 x18 x19 x1))
  | [], i, x9, x10, x14, x15, x16 => ⟨x9, x10, x14, x15, x16, rfl⟩
  | g :: gs, i, x9, x10, x14, x15, x16 => by
    obtain ⟨y9, y10, y14, y15, y16, e⟩ := own_dead gs (i + 1) (some (.int g.fr)) (some (.int g.to)) (some (.int (i : Nat))) (some (.str g.nm)) (some (.str g.kd)) (c := c) (s := s) (b := b) (x4 := x4) (x7 := x7) (x8 := x8) (f := f) (t := t) (x17 := x17) (x18 := x18) (x19 := x19) (x1 := x1) (x11 := x11)
    refine ⟨y9, y10, y14, y15, y16, ?_⟩
    have gt : noX (ownG (.tup [.int (i : Nat), g.d]) (E20 c s b x4 (some .non) x7 x8 x9 x10 x11 f t x14 x15 x16 x17 x18 x19 x1)) = M.pure (E20 c s b x4 (some .non) x7 x8 (some (.int g.fr)) (some (.int g.to)) x11 f t (some (.int (i : Nat))) (some (.str g.nm)) (some (.str g.kd)) x17 x18 x19 x1) := rfl
    have st : (ifS' (tst (bin2 notND (vE 6) noE)) (seqS (setKS 11 ownL) (seqS (setS 11 (argN 2 d__law_free (consA (vE 3) (consA (vE 11) nilA)))) (setS 6 (ifE (tst (bin2 leD (vE 11) (vE 10))) (bin2 addD (vE 6) (lstE (consA (vE 11) nilA))) noE)))) nilS) (E20 c s b x4 (some .non) x7 x8 (some (.int g.fr)) (some (.int g.to)) x11 f t (some (.int (i : Nat))) (some (.str g.nm)) (some (.str g.kd)) x17 x18 x19 x1) = M.pure (.nx (E20 c s b x4 (some .non) x7 x8 (some (.int g.fr)) (some (.int g.to)) x11 f t (some (.int (i : Nat))) (some (.str g.nm)) (some (.str g.kd)) x17 x18 x19 x1)) := rfl
    rw [List.map_cons]
    unfold enF
    rw [ev_forCons, gt, ev_pure_bind, st, ev_pure_bind]
    exact e
theorem own_loop (A : FOk ks rs fs) {far : Int} {C : Cl} (O : ClOk far C) (hfar : far ≤ 999) {acc : List (D × D)} (ha : ∀ t, hasK acc t = inC C t) {c b x4 x7 x8 x17 x18 x1 : Option D} : ∀ (gs : List Flt) (d : List (Flt × Int)) (x9 x10 x11 x14 x15 x16 x19 : Option D), fs = d.map (·.1) ++ gs → inT d = true →
    ∃ y9 y10 y11 y14 y15 y16 y19, forL ownG (ifS' (tst (bin2 notND (vE 6) noE)) (seqS (setKS 11 ownL) (seqS (setS 11 (argN 2 d__law_free (consA (vE 3) (consA (vE 11) nilA)))) (setS 6 (ifE (tst (bin2 leD (vE 11) (vE 10))) (bin2 addD (vE 6) (lstE (consA (vE 11) nilA))) noE)))) nilS) (enF d.length (gs.map Flt.d)) (E20 c (some (.dct false acc)) b x4 (some (timD d)) x7 x8 x9 x10 x11 (some (flD fs)) (some (tabD ks rs)) x14 x15 x16 x17 x18 x19 x1) =
      M.pure (.nx (E20 c (some (.dct false acc)) b x4 (some (resN (ebGo (num ks rs) (oG C) d gs))) x7 x8 y9 y10 y11 (some (flD fs)) (some (tabD ks rs)) y14 y15 y16 x17 x18 y19 x1))
  | [], d, x9, x10, x11, x14, x15, x16, x19, _, hd => ⟨x9, x10, x11, x14, x15, x16, x19, by
      unfold ebGo resN
      rw [hd]; rfl⟩
  | g :: gs, d, x9, x10, x11, x14, x15, x16, x19, e, hd => by
    have hg : g ∈ fs := by rw [e]; simp
    have hdk : ∀ p ∈ d, p.1.kd ∈ ks := fun p hp => A.F.kd _ (by rw [e]; exact List.mem_append_left _ (List.mem_map_of_mem (f := (·.1)) hp))
    have dl : d.length ≤ 10 := by
      have := A.F.le
      rw [e, List.length_append, List.length_map] at this
      omega
    have gt : noX (ownG (.tup [.int (d.length : Nat), g.d]) (E20 c (some (.dct false acc)) b x4 (some (timD d)) x7 x8 x9 x10 x11 (some (flD fs)) (some (tabD ks rs)) x14 x15 x16 x17 x18 x19 x1)) = M.pure (E20 c (some (.dct false acc)) b x4 (some (timD d)) x7 x8 (some (.int g.fr)) (some (.int g.to)) x11 (some (flD fs)) (some (tabD ks rs)) (some (.int (d.length : Nat))) (some (.str g.nm)) (some (.str g.kd)) x17 x18 x19 x1) := rfl
    have lw : ownL (E20 c (some (.dct false acc)) b x4 (some (timD d)) x7 x8 (some (.int g.fr)) (some (.int g.to)) x11 (some (flD fs)) (some (tabD ks rs)) (some (.int (d.length : Nat))) (some (.str g.nm)) (some (.str g.kd)) x17 x18 x19 x1) = M.pure (.int (low (num ks rs) d g)) :=
      low_gen A.B (d := d) (f := g) (rest := g :: gs) (fd := timD d) (by show 19 < 20; decide) (by decide) (by decide) (by decide) (by decide) (.inl rfl) rfl (by rw [← e]; rfl) rfl rfl rfl rfl hdk (A.F.kd _ hg) (by omega)
    have fr := free_ev O hfar ha (t := low (num ks rs) d g)
    have s1 : setKS 11 ownL (E20 c (some (.dct false acc)) b x4 (some (timD d)) x7 x8 (some (.int g.fr)) (some (.int g.to)) x11 (some (flD fs)) (some (tabD ks rs)) (some (.int (d.length : Nat))) (some (.str g.nm)) (some (.str g.kd)) x17 x18 x19 x1) = M.pure (.nx (E20 c (some (.dct false acc)) b x4 (some (timD d)) x7 x8 (some (.int g.fr)) (some (.int g.to)) (some (.int (low (num ks rs) d g))) (some (flD fs)) (some (tabD ks rs)) (some (.int (d.length : Nat))) (some (.str g.nm)) (some (.str g.kd)) x17 x18 x19 x1)) := by
      rw [ev_setKS, lw, ev_pure_bind, if_pos (show (D.int (low (num ks rs) d g)).atom = true from rfl)]; rfl
    have s2 : setS 11 (argN 2 d__law_free (consA (vE 3) (consA (vE 11) nilA))) (E20 c (some (.dct false acc)) b x4 (some (timD d)) x7 x8 (some (.int g.fr)) (some (.int g.to)) (some (.int (low (num ks rs) d g))) (some (flD fs)) (some (tabD ks rs)) (some (.int (d.length : Nat))) (some (.str g.nm)) (some (.str g.kd)) x17 x18 x19 x1) = M.pure (.nx (E20 c (some (.dct false acc)) b x4 (some (timD d)) x7 x8 (some (.int g.fr)) (some (.int g.to)) (some (.int (opF C (low (num ks rs) d g)))) (some (flD fs)) (some (tabD ks rs)) (some (.int (d.length : Nat))) (some (.str g.nm)) (some (.str g.kd)) x17 x18 x19 x1)) := by
      have : argN 2 d__law_free (consA (vE 3) (consA (vE 11) nilA)) (E20 c (some (.dct false acc)) b x4 (some (timD d)) x7 x8 (some (.int g.fr)) (some (.int g.to)) (some (.int (low (num ks rs) d g))) (some (flD fs)) (some (tabD ks rs)) (some (.int (d.length : Nat))) (some (.str g.nm)) (some (.str g.kd)) x17 x18 x19 x1) = d__law_free [.dct false acc, .int (low (num ks rs) d g)] := rfl
      rw [ev_setS, this, fr, ev_pure_bind]; rfl
    have tt : tst (bin2 leD (vE 11) (vE 10)) (E20 c (some (.dct false acc)) b x4 (some (timD d)) x7 x8 (some (.int g.fr)) (some (.int g.to)) (some (.int (opF C (low (num ks rs) d g)))) (some (flD fs)) (some (tabD ks rs)) (some (.int (d.length : Nat))) (some (.str g.nm)) (some (.str g.kd)) x17 x18 x19 x1) = M.pure (decide (opF C (low (num ks rs) d g) ≤ g.to)) := by
      rw [ev_tst, ev_bin2]
      generalize hρ : E20 c (some (.dct false acc)) b x4 (some (timD d)) x7 x8 (some (.int g.fr)) (some (.int g.to)) (some (.int (opF C (low (num ks rs) d g)))) (some (flD fs)) (some (tabD ks rs)) (some (.int (d.length : Nat))) (some (.str g.nm)) (some (.str g.kd)) x17 x18 x19 x1 = ρ
      have q1 : getV ρ 11 = M.pure (.int (opF C (low (num ks rs) d g))) := by rw [← hρ]; rfl
      have q2 : getV ρ 10 = M.pure (.int g.to) := by rw [← hρ]; rfl
      rw [ev_vE', ev_vE', q1, q2]
      rw [ev_pure_bind, ev_pure_bind, ev_leI, ev_pure_bind, ev_asB]
    have ob : (ifS' (tst (bin2 notND (vE 6) noE)) (seqS (setKS 11 ownL) (seqS (setS 11 (argN 2 d__law_free (consA (vE 3) (consA (vE 11) nilA)))) (setS 6 (ifE (tst (bin2 leD (vE 11) (vE 10))) (bin2 addD (vE 6) (lstE (consA (vE 11) nilA))) noE)))) nilS) (E20 c (some (.dct false acc)) b x4 (some (timD d)) x7 x8 (some (.int g.fr)) (some (.int g.to)) x11 (some (flD fs)) (some (tabD ks rs)) (some (.int (d.length : Nat))) (some (.str g.nm)) (some (.str g.kd)) x17 x18 x19 x1) = (seqS (setKS 11 ownL) (seqS (setS 11 (argN 2 d__law_free (consA (vE 3) (consA (vE 11) nilA)))) (setS 6 (ifE (tst (bin2 leD (vE 11) (vE 10))) (bin2 addD (vE 6) (lstE (consA (vE 11) nilA))) noE)))) (E20 c (some (.dct false acc)) b x4 (some (timD d)) x7 x8 (some (.int g.fr)) (some (.int g.to)) x11 (some (flD fs)) (some (tabD ks rs)) (some (.int (d.length : Nat))) (some (.str g.nm)) (some (.str g.kd)) x17 x18 x19 x1) := by
      have nn : tst (bin2 notND (vE 6) noE) (E20 c (some (.dct false acc)) b x4 (some (timD d)) x7 x8 (some (.int g.fr)) (some (.int g.to)) x11 (some (flD fs)) (some (tabD ks rs)) (some (.int (d.length : Nat))) (some (.str g.nm)) (some (.str g.kd)) x17 x18 x19 x1) = M.pure true := rfl
      show ifS' _ _ _ _ = _
      rw [ev_ifS, nn, ev_pure_bind, if_pos rfl]
    have stp : ebGo (num ks rs) (oG C) d (g :: gs) = ebGo (num ks rs) (oG C) (d ++ [(g, opF C (low (num ks rs) d g))]) gs := rfl
    rw [List.map_cons]
    unfold enF
    rw [ev_forCons, gt, ev_pure_bind, ob, ev_seqS, s1, ev_pure_bind]
    dsimp only
    rw [ev_seqS, s2, ev_pure_bind]
    dsimp only
    rw [ev_setS, ev_ifE, tt, ev_pure_bind, stp]
    by_cases h : opF C (low (num ks rs) d g) ≤ g.to
    · have it : inT (d ++ [(g, opF C (low (num ks rs) d g))]) = true := by
        rw [inT_app, hd, Bool.true_and]
        show (decide (opF C (low (num ks rs) d g) ≤ g.to) && true) = true
        rw [decide_eq_true h]; rfl
      obtain ⟨y9, y10, y11, y14, y15, y16, y19, ih⟩ := own_loop A O hfar ha (c := c) (b := b) (x4 := x4) (x7 := x7) (x8 := x8) (x17 := x17) (x18 := x18) (x1 := x1) gs (d ++ [(g, opF C (low (num ks rs) d g))]) (some (.int g.fr)) (some (.int g.to)) (some (.int (opF C (low (num ks rs) d g)))) (some (.int (d.length : Nat))) (some (.str g.nm)) (some (.str g.kd)) x19 (by rw [e, List.map_append, List.append_assoc]; rfl) it
      refine ⟨y9, y10, y11, y14, y15, y16, y19, ?_⟩
      have ad : addD (timD d) (.lst [.int (opF C (low (num ks rs) d g))]) = M.pure (timD (d ++ [(g, opF C (low (num ks rs) d g))])) := by
        unfold timD
        rw [addL (by rw [List.length_map]; show d.length + 1 ≤ 1000; omega), List.map_append]; rfl
      have ae : bin2 addD (vE 6) (lstE (consA (vE 11) nilA)) (E20 c (some (.dct false acc)) b x4 (some (timD d)) x7 x8 (some (.int g.fr)) (some (.int g.to)) (some (.int (opF C (low (num ks rs) d g)))) (some (flD fs)) (some (tabD ks rs)) (some (.int (d.length : Nat))) (some (.str g.nm)) (some (.str g.kd)) x17 x18 x19 x1) = M.pure (timD (d ++ [(g, opF C (low (num ks rs) d g))])) := by
        rw [ev_bin2, ev_lstE]
        show M.bind (M.pure (timD d)) (fun x => M.bind (M.bind (M.pure [D.int (opF C (low (num ks rs) d g))]) mkLst) fun y => addD x y) = _
        rw [ev_pure_bind, ev_pure_bind, ev_mkLst (by simp), ev_pure_bind, ad]
      rw [decide_eq_true h, if_pos rfl, ae, ev_pure_bind, ev_pure_bind]
      rw [List.length_append, List.length_singleton] at ih
      exact ih
    · have nt : resN (ebGo (num ks rs) (oG C) (d ++ [(g, opF C (low (num ks rs) d g))]) gs) = .non := by
        obtain ⟨z, ez⟩ := eb_pre (N := num ks rs) (G := oG C) gs (d ++ [(g, opF C (low (num ks rs) d g))])
        unfold resN
        rw [ez, inT_app, inT_app]
        have : inT [(g, opF C (low (num ks rs) d g))] = false := by
          show (decide (opF C (low (num ks rs) d g) ≤ g.to) && true) = false
          rw [decide_eq_false h]; rfl
        rw [this, Bool.and_false, Bool.false_and]; rfl
      obtain ⟨y9, y10, y14, y15, y16, ih⟩ := own_dead gs (d.length + 1) (some (.int g.fr)) (some (.int g.to)) (some (.int (d.length : Nat))) (some (.str g.nm)) (some (.str g.kd)) (c := c) (s := some (.dct false acc)) (b := b) (x4 := x4) (x7 := x7) (x8 := x8) (f := some (flD fs)) (t := some (tabD ks rs)) (x17 := x17) (x18 := x18) (x19 := x19) (x1 := x1) (x11 := some (.int (opF C (low (num ks rs) d g))))
      refine ⟨y9, y10, some (.int (opF C (low (num ks rs) d g))), y14, y15, y16, x19, ?_⟩
      rw [decide_eq_false h, if_neg (by decide), nt]
      exact ih
/-! none earlier, none later -/
theorem none_lc {cnd : Q.Env → M Bool} {R : Int × Int → Prop} {c s b x4 x6 x7 x8 x9 x10 x11 f t x14 x15 x16 x19 x1 : Option D} (hc : ∀ p, R p → cnd (E20 c s b x4 x6 x7 x8 x9 x10 x11 f t x14 x15 x16 (some (.int p.1)) (some (.int p.2)) x19 x1) = M.pure false) : ∀ L : List (Int × Int), (∀ p ∈ L, R p) →
    lcL (gTup 2 (gCons (gNm 17) (gCons (gNm 18) gNil))) cnd (iE 1) (E20 c s b x4 x6 x7 x8 x9 x10 x11 f t x14 x15 x16 none none x19 x1) (L.map fun p => D.tup [.int p.1, .int p.2]) = M.pure []
  | [], _ => rfl
  | p :: L, h => by
    rw [List.map_cons]
    unfold lcL
    have gt : noX (gTup 2 (gCons (gNm 17) (gCons (gNm 18) gNil)) (.tup [.int p.1, .int p.2]) (E20 c s b x4 x6 x7 x8 x9 x10 x11 f t x14 x15 x16 none none x19 x1)) = M.pure (E20 c s b x4 x6 x7 x8 x9 x10 x11 f t x14 x15 x16 (some (.int p.1)) (some (.int p.2)) x19 x1) := rfl
    rw [gt, ev_pure_bind, hc p (h p List.mem_cons_self), ev_noX_pure, ev_pure_bind, if_neg (by decide)]
    exact none_lc hc L fun q hq => h q (List.mem_cons_of_mem _ hq)
theorem zip_two {a b : List (Flt × Int)} (h : All2 (fun p q => p.1 = q.1 ∧ p.2 ≤ q.2) a b) : zipD [.tup (a.map fun p => D.int p.2), .tup (b.map fun p => D.int p.2)] = M.pure (((a.zip b).map fun p => (p.1.2, p.2.2)).map fun p => D.tup [.int p.1, .int p.2]) ∧ ∀ p ∈ (a.zip b).map fun p => (p.1.2, p.2.2), p.1 ≤ p.2 := by
  refine ⟨?_, fun p hp => ?_⟩
  · show M.pure (zipL _ _) = _
    rw [zipL_map, List.map_map]; rfl
  · obtain ⟨q, hq, rfl⟩ := List.mem_map.mp hp
    exact (all2_zip h q hq).2
theorem zip_two' {a b : List (Flt × Int)} (h : All2 (fun p q => p.1 = q.1 ∧ p.2 ≤ q.2) a b) : zipD [.tup (b.map fun p => D.int p.2), .tup (a.map fun p => D.int p.2)] = M.pure (((b.zip a).map fun p => (p.1.2, p.2.2)).map fun p => D.tup [.int p.1, .int p.2]) ∧ ∀ p ∈ (b.zip a).map fun p => (p.1.2, p.2.2), p.2 ≤ p.1 := by
  refine ⟨?_, fun p hp => ?_⟩
  · show M.pure (zipL _ _) = _
    rw [zipL_map, List.map_map]; rfl
  · obtain ⟨q, hq, rfl⟩ := List.mem_map.mp hp
    have hs : All2 (fun p q : Flt × Int => q.2 ≤ p.2) b a := by
      clear hq hp
      induction h with
      | nil => exact .nil
      | cons r _ ih => exact .cons r.2 ih
    exact all2_zip hs q hq
end
end K56

namespace K56
open PySem PySem.Spec PyProof.Rows L2 Q Fm
/-! ## one turn of the law -/
theorem ne_tst {fa fb : Q.Env → M D} {ρ : Q.Env} {a b : D} (ha : fa ρ = M.pure a) (hb : fb ρ = M.pure b) (h : neD a b = M.pure (.bl false)) : tst (bin2 neD fa fb) ρ = M.pure false := by
  rw [ev_tst, ev_bin2, ha, ev_pure_bind, hb, ev_pure_bind, h, ev_pure_bind, ev_asB]
theorem skip {c : Q.Env → M Bool} {r : Q.Env → M Fl} {ρ : Q.Env} (h : c ρ = M.pure false) : ifS' c r nilS ρ = M.pure (.nx ρ) := by
  rw [ev_ifS, h, ev_pure_bind, if_neg (by decide), ev_nilS]
theorem arg1 {g : List D → M D} {fa : Q.Env → M D} {ρ : Q.Env} {a : D} {r : M D} (ha : fa ρ = M.pure a) (h : g [a] = r) : argE g (consA fa nilA) ρ = r := by
  rw [ev_argE, ev_consA, ha, ev_pure_bind, ev_nilA, ev_pure_bind, ev_pure_bind, h]
abbrev timeE : Q.Env → M D := argN 2 F__law_one (consA (vE 0) (consA (lstE (consA (iE 0) (consA (iE 999) (consA (argN 2 F__law_dip (consA (vE 0) (consA (iE 1000) nilA))) (consA (ifE (tst (bin2 neD (vE 2) (tupE nilA))) (bin2 ixX (bin2 ixX (vE 2) (iE 0)) (iE 0)) (iE 5)) nilA))))) nilA))
abbrev twoE : Q.Env → M D := lstE (consA (argN 2 d_least_open (consA (vE 2) (consA (vE 11) nilA))) (consA (argK 0 2 [1, 0] d_least_open nilA (consA (vE 11) (consA (vE 2) nilA))) nilA))
abbrev againB : Q.Env → M Fl := seqS (setS 11 timeE) (seqS (setS 7 (argN 2 d__law_free (consA (vE 3) (consA (vE 11) nilA)))) (ifS' (tst (bin2 neD (argE reprD (consA twoE nilA)) (argE reprD (consA (lstE (consA (vE 7) (consA (vE 7) nilA))) nilA)))) (retS (bE false)) nilS))
theorem first_ev {far : Int} {C : Cl} (O : ClOk far C) (hf : far ≤ 999) (hl : C.length ≤ 50) {ρ : Q.Env} (h2 : getV ρ 2 = M.pure (clD C)) : ∃ k : Int, ifE (tst (bin2 neD (vE 2) (tupE nilA))) (bin2 ixX (bin2 ixX (vE 2) (iE 0)) (iE 0)) (iE 5) ρ = M.pure (.int k) ∧ 0 ≤ k ∧ k ≤ 999 := by
  have nq : neD (clD C) (.tup []) = M.pure (.bl (!C.isEmpty)) := by
    rw [ev_ne ((pl_cl (L := 50) (n := 0) C (by omega) hl).sh (by omega)) rfl (fun _ e => nomatch e)]
    unfold clD
    rw [eqv_nilT, List.isEmpty_map]
  cases C with
  | nil => exact ⟨5, by simp [h2, ev_mkTup, nq], by omega, by omega⟩
  | cons p C =>
    have at_ := O.at_ p List.mem_cons_self
    have i0 : ixX (clD (p :: C)) (.int 0) = M.pure (pD p) := by
      unfold clD
      rw [ev_ixT (by omega) (by rw [List.length_map]; simp only [List.length_cons]; omega)]; rfl
    have i1 : ixX (pD p) (.int 0) = M.pure (.int p.1) := rfl
    have ne : (!(p :: C).isEmpty) = true := rfl
    rw [ne] at nq
    exact ⟨p.1, by simp [h2, ev_mkTup, nq, i0, i1], by omega, by omega⟩
theorem time_ok {w : Wl} {far : Int} {C : Cl} (O : ClOk far C) (hf : far ≤ 999) (hl : C.length ≤ 50) (hw : Good w) {ρ : Q.Env} (h0 : getV ρ 0 = M.pure .well) (h2 : getV ρ 2 = M.pure (clD C)) : Run (timeE ρ) w fun d w' => ∃ t : Int, d = .int t ∧ 0 ≤ t ∧ t ≤ 999 ∧ Good w' := by
  obtain ⟨k, ek, k0, k9⟩ := first_ev O hf hl h2
  have e0 : timeE ρ = M.bind (F__law_dip [.well, .int 1000]) fun d => M.bind (M.pure (.lst [.int 0, .int 999, d, .int k])) fun l => F__law_one [.well, l] := by
    show argN 2 F__law_one (consA (vE 0) (consA (lstE (consA (iE 0) (consA (iE 999) (consA (argN 2 F__law_dip (consA (vE 0) (consA (iE 1000) nilA))) (consA (ifE (tst (bin2 neD (vE 2) (tupE nilA))) (bin2 ixX (bin2 ixX (vE 2) (iE 0)) (iE 0)) (iE 5)) nilA))))) nilA)) ρ = _
    simp [-ev_ifE, h0, ek, ev_mkLst]
  rw [e0]
  refine Run.bind (dip_ok hw (n := 1000) (by omega) (by omega)) fun a w1 ⟨r, e, r0, r1, g1⟩ => ?_
  subst e
  rw [ev_pure_bind]
  refine (one_ok (.inl rfl) g1 (by simp) (by simp)).imp fun a w2 ⟨ha, g2⟩ => ?_
  simp only [List.mem_cons, List.not_mem_nil, or_false] at ha
  rcases ha with rfl | rfl | rfl | rfl
  · exact ⟨_, rfl, by omega, by omega, g2⟩
  · exact ⟨_, rfl, by omega, by omega, g2⟩
  · exact ⟨_, rfl, by omega, by omega, g2⟩
  · exact ⟨_, rfl, by omega, by omega, g2⟩
theorem again_ok {w : Wl} {far : Int} {C : Cl} (O : ClOk far C) (hf : far ≤ 999) (hl : C.length ≤ 50) {acc : List (D × D)} (ha : ∀ t, hasK acc t = inC C t) (hw : Good w) {b x4 x6 x7 x8 x9 x10 x11 f t x14 x15 x16 x17 x18 x19 x1 : Option D} :
    Run (againB (E20 (some (clD C)) (some (.dct false acc)) b x4 x6 x7 x8 x9 x10 x11 f t x14 x15 x16 x17 x18 x19 x1)) w fun r w' => ∃ y7 y11, r = .nx (E20 (some (clD C)) (some (.dct false acc)) b x4 x6 y7 x8 x9 x10 y11 f t x14 x15 x16 x17 x18 x19 x1) ∧ Good w' := by
  show Run (seqS (setS 11 timeE) (seqS (setS 7 (argN 2 d__law_free (consA (vE 3) (consA (vE 11) nilA)))) (ifS' (tst (bin2 neD (argE reprD (consA twoE nilA)) (argE reprD (consA (lstE (consA (vE 7) (consA (vE 7) nilA))) nilA)))) (retS (bE false)) nilS)) _) w _
  rw [ev_seqS, ev_setS, ev_assoc]
  refine Run.bind (time_ok O hf hl hw rfl rfl) fun a w1 ⟨tm, e, t0, t9, g1⟩ => ?_
  subst e
  rw [ev_pure_bind]
  dsimp only
  show Run (seqS (setS 7 (argN 2 d__law_free (consA (vE 3) (consA (vE 11) nilA)))) (ifS' (tst (bin2 neD (argE reprD (consA twoE nilA)) (argE reprD (consA (lstE (consA (vE 7) (consA (vE 7) nilA))) nilA)))) (retS (bE false)) nilS) (E20 (some (clD C)) (some (.dct false acc)) b x4 x6 x7 x8 x9 x10 (some (.int tm)) f t x14 x15 x16 x17 x18 x19 x1)) w1 _
  have fr := free_ev O hf ha (t := tm)
  have le := least_open_ev O hf hl t0 t9
  have oge := opF_ge (C := C) (t := tm)
  have ole := opF_le O hf t9
  have s1 : setS 7 (argN 2 d__law_free (consA (vE 3) (consA (vE 11) nilA))) (E20 (some (clD C)) (some (.dct false acc)) b x4 x6 x7 x8 x9 x10 (some (.int tm)) f t x14 x15 x16 x17 x18 x19 x1) = M.pure (.nx (E20 (some (clD C)) (some (.dct false acc)) b x4 x6 (some (.int (opF C tm))) x8 x9 x10 (some (.int tm)) f t x14 x15 x16 x17 x18 x19 x1)) := by
    have : argN 2 d__law_free (consA (vE 3) (consA (vE 11) nilA)) (E20 (some (clD C)) (some (.dct false acc)) b x4 x6 x7 x8 x9 x10 (some (.int tm)) f t x14 x15 x16 x17 x18 x19 x1) = d__law_free [.dct false acc, .int tm] := rfl
    rw [ev_setS, this, fr, ev_pure_bind]; rfl
  have rp := rep_two (L := 12) (n := 0) (x := .int (opF C tm)) (.int (by omega)) (by omega) (by omega) (by decide)
  have e1 : twoE (E20 (some (clD C)) (some (.dct false acc)) b x4 x6 (some (.int (opF C tm))) x8 x9 x10 (some (.int tm)) f t x14 x15 x16 x17 x18 x19 x1) = M.pure (.lst [.int (opF C tm), .int (opF C tm)]) := by
    have pl : permL [1, 0] [D.int tm, clD C] = [clD C, .int tm] := rfl
    show lstE (consA (argN 2 d_least_open (consA (vE 2) (consA (vE 11) nilA))) (consA (argK 0 2 [1, 0] d_least_open nilA (consA (vE 11) (consA (vE 2) nilA))) nilA)) (E20 _ _ _ _ _ _ _ _ _ _ _ _ _ _ _ _ _ _ _) = _
    unfold E20
    simp [le, pl, ev_mkLst]
  have e2 : lstE (consA (vE 7) (consA (vE 7) nilA)) (E20 (some (clD C)) (some (.dct false acc)) b x4 x6 (some (.int (opF C tm))) x8 x9 x10 (some (.int tm)) f t x14 x15 x16 x17 x18 x19 x1) = M.pure (.lst [.int (opF C tm), .int (opF C tm)]) := by
    unfold E20
    simp [ev_mkLst]
  rw [ev_seqS, s1, ev_pure_bind]
  dsimp only
  rw [skip (ne_tst (arg1 e1 rp) (arg1 e2 rp) ne_str)]
  exact ⟨_, w1, rfl, _, _, rfl, g1⟩
/-! what follows the draws -/
abbrev s7 : Q.Env → M Fl := ifS' (tst (bin2 neD (argN 3 d_earliest_open (consA (vE 5) (consA (vE 12) (consA (tupE nilA) nilA)))) (argN 2 d_earliest (consA (vE 5) (consA (vE 12) nilA))))) (retS (bE false)) nilS
abbrev s8 : Q.Env → M Fl := ifS' (tst (bin2 neD (argN 3 d_latest_open (consA (vE 5) (consA (vE 12) (consA (tupE nilA) nilA)))) (argN 2 d_latest (consA (vE 5) (consA (vE 12) nilA))))) (retS (bE false)) nilS
abbrev s10 : Q.Env → M Fl := forS (argE enumD (consA (vE 12) nilA)) ownG (ifS' (tst (bin2 notND (vE 6) noE)) (seqS (setKS 11 ownL) (seqS (setS 11 (argN 2 d__law_free (consA (vE 3) (consA (vE 11) nilA)))) (setS 6 (ifE (tst (bin2 leD (vE 11) (vE 10))) (bin2 addD (vE 6) (lstE (consA (vE 11) nilA))) noE)))) nilS)
abbrev s11 : Q.Env → M Fl := setS 7 (ifE (tst (bin2 isND (vE 6) noE)) noE (argE tupleD (consA (vE 6) nilA)))
abbrev s12 : Q.Env → M Fl := ifS' (tst (bin2 neD (argE reprD (consA (argN 3 d_earliest_open (consA (vE 5) (consA (vE 12) (consA (vE 2) nilA)))) nilA)) (argE reprD (consA (vE 7) nilA)))) (retS (bE false)) nilS
abbrev s13 : Q.Env → M Fl := setS 8 (argN 3 d_latest_open (consA (vE 5) (consA (vE 12) (consA (vE 2) nilA))))
abbrev s14 : Q.Env → M Fl := ifS' (tst (bin2 neD (bin2 isND (vE 8) noE) (bin2 isND (vE 7) noE))) (retS (bE false)) nilS
abbrev l1 : Q.Env → M D := lcE [17, 18] (argE zipD (consA (argN 2 d_earliest (consA (vE 5) (consA (vE 12) nilA))) (consA (vE 7) nilA))) (gTup 2 (gCons (gNm 17) (gCons (gNm 18) gNil))) (tst (bin2 ltD (vE 18) (vE 17))) (iE 1)
abbrev l2 : Q.Env → M D := lcE [17, 18] (argE zipD (consA (argN 2 d_latest (consA (vE 5) (consA (vE 12) nilA))) (consA (vE 8) nilA))) (gTup 2 (gCons (gNm 17) (gCons (gNm 18) gNil))) (tst (bin2 gtD (vE 18) (vE 17))) (iE 1)
abbrev s15 : Q.Env → M Fl := ifS' (tst (bin2 notND (vE 7) noE)) (seqS (ifS' (tst (bin2 neD l1 (lstE nilA))) (retS (bE false)) nilS) (ifS' (tst (bin2 neD l2 (lstE nilA))) (retS (bE false)) nilS)) nilS
abbrev tailB : Q.Env → M Fl := seqS s7 (seqS s8 (seqS (setS 6 (lstE nilA)) (seqS s10 (seqS s11 (seqS s12 (seqS s13 (seqS s14 s15)))))))
section
variable {ks : List Str} {rs : List (List Int)} {fs : List Flt}
theorem lat_nostr {N : Str → Str → Int} {G : Flt → Int → Int} {H : Int → Int} : ∀ a, latD N G H fs ≠ .str a := fun a z => by
  unfold latD at z
  split at z <;> cases z
theorem lat_pl (A : FOk ks rs fs) {N : Str → Str → Int} {G : Flt → Int → Int} {H : Int → Int} : Pl 12 1 (latD N G H fs) := by
  unfold latD
  split
  · refine .tup ?_ fun d hd => ?_
    · have := congrArg List.length (ltT_fst (N := N) (G := H) (fs := fs))
      rw [List.length_map] at this
      rw [List.length_map, this]
      have := A.F.le
      omega
    · obtain ⟨p, _, rfl⟩ := List.mem_map.mp hd
      exact .int _
  · exact .non
theorem isN_res {e : List (Flt × Int)} : isND (resD e) .non = M.pure (.bl (!inT e)) := by
  unfold resD
  cases inT e <;> rfl
theorem isN_lat {N : Str → Str → Int} {G : Flt → Int → Int} {H : Int → Int} : isND (latD N G H fs) .non = M.pure (.bl (!inT (ebGo N G [] fs))) := by
  unfold latD
  cases inT (ebGo N G [] fs) <;> rfl
theorem ne_bl (b : Bool) : neD (.bl b) (.bl b) = M.pure (.bl false) := by cases b <;> rfl
theorem nil_lst (ρ : Q.Env) : lstE nilA ρ = M.pure (.lst []) := by rw [ev_lstE, ev_nilA, ev_pure_bind, ev_mkLst (by simp)]
theorem nil_tup (ρ : Q.Env) : tupE nilA ρ = M.pure (.tup []) := by rw [ev_tupE, ev_nilA, ev_pure_bind, ev_mkTup (by simp)]
theorem tail_ok (A : FOk ks rs fs) {far : Int} {C : Cl} (O : ClOk far C) (hf : far ≤ 999) (hl : C.length ≤ 50) {acc : List (D × D)} (ha : ∀ t, hasK acc t = inC C t) {x4 x6 x7 x8 x9 x10 x11 x14 x15 x16 x19 x1 : Option D} :
    ∃ y6 y7 y8 y9 y10 y11 y14 y15 y16 y19, tailB (E20 (some (clD C)) (some (.dct false acc)) (some (bookD ks rs)) x4 x6 x7 x8 x9 x10 x11 (some (flD fs)) (some (tabD ks rs)) x14 x15 x16 none none x19 x1) = M.pure (.nx (E20 (some (clD C)) (some (.dct false acc)) (some (bookD ks rs)) x4 y6 y7 y8 y9 y10 y11 (some (flD fs)) (some (tabD ks rs)) y14 y15 y16 none none y19 x1)) := by
  have er : d_earliest [bookD ks rs, flD fs] = M.pure (resD (ebGo (num ks rs) idG [] fs)) := earliest_ev A
  have lr : d_latest [bookD ks rs, flD fs] = M.pure (latD (num ks rs) idG idH fs) := latest_ev A
  have e0 : d_earliest_open [bookD ks rs, flD fs, .tup []] = M.pure (resD (ebGo (num ks rs) idG [] fs)) := eopen_ev A nilOk (by omega) (by simp)
  have l0 : d_latest_open [bookD ks rs, flD fs, .tup []] = M.pure (latD (num ks rs) idG idH fs) := lopen_ev A nilOk (by omega) (by simp)
  have e1 := eopen_ev A O hf hl
  have lo := lopen_ev A O hf hl
  have h7 : ∀ ρ : Q.Env, getV ρ 5 = M.pure (bookD ks rs) → getV ρ 12 = M.pure (flD fs) → s7 ρ = M.pure (.nx ρ) := fun ρ a b =>
    skip (ne_tst (a := resD (ebGo (num ks rs) idG [] fs)) (b := resD (ebGo (num ks rs) idG [] fs)) (by simp [a, b, ev_mkTup, e0]) (by simp [a, b, er]) (ne_same (res_sh A (fun _ _ => Int.le_refl _)).pl (by omega) (res_nostr _)))
  have h8 : ∀ ρ : Q.Env, getV ρ 5 = M.pure (bookD ks rs) → getV ρ 12 = M.pure (flD fs) → s8 ρ = M.pure (.nx ρ) := fun ρ a b =>
    skip (ne_tst (a := latD (num ks rs) idG idH fs) (b := latD (num ks rs) idG idH fs) (by simp [a, b, ev_mkTup, l0]) (by simp [a, b, lr]) (ne_same (lat_pl A) (by omega) lat_nostr))
  obtain ⟨y9, y10, y11, y14, y15, y16, y19, e10⟩ := own_loop A O hf ha (c := some (clD C)) (b := some (bookD ks rs)) (x4 := x4) (x7 := x7) (x8 := x8) (x17 := none) (x18 := none) (x1 := x1) fs [] x9 x10 x11 x14 x15 x16 x19 rfl rfl
  refine ⟨some (resN (ebGo (num ks rs) (oG C) [] fs)), some (resD (ebGo (num ks rs) (oG C) [] fs)), some (latD (num ks rs) (oG C) (opU C) fs), y9, y10, y11, y14, y15, y16, y19, ?_⟩
  show seqS s7 (seqS s8 (seqS (setS 6 (lstE nilA)) (seqS s10 (seqS s11 (seqS s12 (seqS s13 (seqS s14 s15))))))) _ = _
  rw [ev_seqS, h7 _ rfl rfl, ev_pure_bind]
  dsimp only
  rw [ev_seqS, h8 _ rfl rfl, ev_pure_bind]
  dsimp only
  rw [ev_seqS, ev_setS, nil_lst, ev_pure_bind, ev_pure_bind]
  dsimp only
  have f10 : s10 (E20 (some (clD C)) (some (.dct false acc)) (some (bookD ks rs)) x4 (some (.lst [])) x7 x8 x9 x10 x11 (some (flD fs)) (some (tabD ks rs)) x14 x15 x16 none none x19 x1) = M.pure (.nx (E20 (some (clD C)) (some (.dct false acc)) (some (bookD ks rs)) x4 (some (resN (ebGo (num ks rs) (oG C) [] fs))) x7 x8 y9 y10 y11 (some (flD fs)) (some (tabD ks rs)) y14 y15 y16 none none y19 x1)) := by
    show forS (argE enumD (consA (vE 12) nilA)) ownG (ifS' (tst (bin2 notND (vE 6) noE)) (seqS (setKS 11 ownL) (seqS (setS 11 (argN 2 d__law_free (consA (vE 3) (consA (vE 11) nilA)))) (setS 6 (ifE (tst (bin2 leD (vE 11) (vE 10))) (bin2 addD (vE 6) (lstE (consA (vE 11) nilA))) noE)))) nilS) _ = _
    rw [ev_forS]
    have en : argE enumD (consA (vE 12) nilA) (E20 (some (clD C)) (some (.dct false acc)) (some (bookD ks rs)) x4 (some (.lst [])) x7 x8 x9 x10 x11 (some (flD fs)) (some (tabD ks rs)) x14 x15 x16 none none x19 x1) = M.pure (enF 0 (fs.map Flt.d)) := by
      rw [← enumL_enF]; rfl
    rw [en, ev_pure_bind]
    exact e10
  show seqS s10 _ (E20 (some (clD C)) (some (.dct false acc)) (some (bookD ks rs)) x4 (some (.lst [])) x7 x8 x9 x10 x11 (some (flD fs)) (some (tabD ks rs)) x14 x15 x16 none none x19 x1) = _
  rw [ev_seqS, f10, ev_pure_bind]
  dsimp only
  have f11 : s11 (E20 (some (clD C)) (some (.dct false acc)) (some (bookD ks rs)) x4 (some (resN (ebGo (num ks rs) (oG C) [] fs))) x7 x8 y9 y10 y11 (some (flD fs)) (some (tabD ks rs)) y14 y15 y16 none none y19 x1) = M.pure (.nx (E20 (some (clD C)) (some (.dct false acc)) (some (bookD ks rs)) x4 (some (resN (ebGo (num ks rs) (oG C) [] fs))) (some (resD (ebGo (num ks rs) (oG C) [] fs))) x8 y9 y10 y11 (some (flD fs)) (some (tabD ks rs)) y14 y15 y16 none none y19 x1)) := by
    show setS 7 (ifE (tst (bin2 isND (vE 6) noE)) noE (argE tupleD (consA (vE 6) nilA))) _ = _
    unfold resN resD
    cases inT (ebGo (num ks rs) (oG C) [] fs) <;> rfl
  rw [ev_seqS, f11, ev_pure_bind]
  dsimp only
  have sh := res_sh A (N := num ks rs) (G := oG C) (fun _ _ => opF_ge)
  have rp := rep_one sh (res_nostr _) (by omega) (by decide)
  have f12 : s12 (E20 (some (clD C)) (some (.dct false acc)) (some (bookD ks rs)) x4 (some (resN (ebGo (num ks rs) (oG C) [] fs))) (some (resD (ebGo (num ks rs) (oG C) [] fs))) x8 y9 y10 y11 (some (flD fs)) (some (tabD ks rs)) y14 y15 y16 none none y19 x1) = M.pure (.nx (E20 (some (clD C)) (some (.dct false acc)) (some (bookD ks rs)) x4 (some (resN (ebGo (num ks rs) (oG C) [] fs))) (some (resD (ebGo (num ks rs) (oG C) [] fs))) x8 y9 y10 y11 (some (flD fs)) (some (tabD ks rs)) y14 y15 y16 none none y19 x1)) :=
    skip (ne_tst (arg1 (a := resD (ebGo (num ks rs) (oG C) [] fs)) (by rw [← e1]; rfl) rp) (arg1 (a := resD (ebGo (num ks rs) (oG C) [] fs)) rfl rp) ne_str)
  rw [ev_seqS, f12, ev_pure_bind]
  dsimp only
  have f13 : s13 (E20 (some (clD C)) (some (.dct false acc)) (some (bookD ks rs)) x4 (some (resN (ebGo (num ks rs) (oG C) [] fs))) (some (resD (ebGo (num ks rs) (oG C) [] fs))) x8 y9 y10 y11 (some (flD fs)) (some (tabD ks rs)) y14 y15 y16 none none y19 x1) = M.pure (.nx (E20 (some (clD C)) (some (.dct false acc)) (some (bookD ks rs)) x4 (some (resN (ebGo (num ks rs) (oG C) [] fs))) (some (resD (ebGo (num ks rs) (oG C) [] fs))) (some (latD (num ks rs) (oG C) (opU C) fs)) y9 y10 y11 (some (flD fs)) (some (tabD ks rs)) y14 y15 y16 none none y19 x1)) := by
    have : argN 3 d_latest_open (consA (vE 5) (consA (vE 12) (consA (vE 2) nilA))) (E20 (some (clD C)) (some (.dct false acc)) (some (bookD ks rs)) x4 (some (resN (ebGo (num ks rs) (oG C) [] fs))) (some (resD (ebGo (num ks rs) (oG C) [] fs))) x8 y9 y10 y11 (some (flD fs)) (some (tabD ks rs)) y14 y15 y16 none none y19 x1) = d_latest_open [bookD ks rs, flD fs, clD C] := rfl
    show setS 8 (argN 3 d_latest_open (consA (vE 5) (consA (vE 12) (consA (vE 2) nilA)))) _ = _
    rw [ev_setS, this, lo, ev_pure_bind]; rfl
  rw [ev_seqS, f13, ev_pure_bind]
  dsimp only
  generalize hρ : E20 (some (clD C)) (some (.dct false acc)) (some (bookD ks rs)) x4 (some (resN (ebGo (num ks rs) (oG C) [] fs))) (some (resD (ebGo (num ks rs) (oG C) [] fs))) (some (latD (num ks rs) (oG C) (opU C) fs)) y9 y10 y11 (some (flD fs)) (some (tabD ks rs)) y14 y15 y16 none none y19 x1 = ρ
  have g5 : getV ρ 5 = M.pure (bookD ks rs) := by rw [← hρ]; rfl
  have g7 : getV ρ 7 = M.pure (resD (ebGo (num ks rs) (oG C) [] fs)) := by rw [← hρ]; rfl
  have g8 : getV ρ 8 = M.pure (latD (num ks rs) (oG C) (opU C) fs) := by rw [← hρ]; rfl
  have g12 : getV ρ 12 = M.pure (flD fs) := by rw [← hρ]; rfl
  have f14 : s14 ρ = M.pure (.nx ρ) := skip (ne_tst (a := .bl (!inT (ebGo (num ks rs) (oG C) [] fs))) (b := .bl (!inT (ebGo (num ks rs) (oG C) [] fs))) (by simp [g8, isN_lat]) (by simp [g7, isN_res]) (ne_bl _))
  rw [ev_seqS, f14, ev_pure_bind]
  dsimp only
  show ifS' (tst (bin2 notND (vE 7) noE)) (seqS (ifS' (tst (bin2 neD l1 (lstE nilA))) (retS (bE false)) nilS) (ifS' (tst (bin2 neD l2 (lstE nilA))) (retS (bE false)) nilS)) nilS ρ = _
  have nn : tst (bin2 notND (vE 7) noE) ρ = M.pure (inT (ebGo (num ks rs) (oG C) [] fs)) := by
    have : notND (resD (ebGo (num ks rs) (oG C) [] fs)) .non = M.pure (.bl (inT (ebGo (num ks rs) (oG C) [] fs))) := by
      unfold resD
      cases inT (ebGo (num ks rs) (oG C) [] fs) <;> rfl
    simp [g7, this]
  rw [ev_ifS, nn, ev_pure_bind]
  cases q : inT (ebGo (num ks rs) (oG C) [] fs) with
  | false => rw [if_neg (by decide), ev_nilS]
  | true =>
    rw [if_pos rfl]
    have le1 := ebGo_le (N := num ks rs) (G := oG C) (fun _ _ => opF_ge) fs [] [] .nil
    have q0 := inT_le le1 q
    have le2 : All2 (fun p q : Flt × Int => p.1 = q.1 ∧ p.2 ≤ q.2) (ltT (num ks rs) (opU C) fs) (ltT (num ks rs) idH fs) := all2_rev (lbGo_le (N := num ks rs) (G := opU C) (fun _ => opU_le) fs.reverse [] [] .nil)
    have r0 : resD (ebGo (num ks rs) idG [] fs) = .tup ((ebGo (num ks rs) idG [] fs).map fun p => D.int p.2) := by unfold resD; rw [if_pos q0]
    have r1 : resD (ebGo (num ks rs) (oG C) [] fs) = .tup ((ebGo (num ks rs) (oG C) [] fs).map fun p => D.int p.2) := by unfold resD; rw [if_pos q]
    have r2 : latD (num ks rs) idG idH fs = .tup ((ltT (num ks rs) idH fs).map fun p => D.int p.2) := by unfold latD; rw [if_pos q0]
    have r3 : latD (num ks rs) (oG C) (opU C) fs = .tup ((ltT (num ks rs) (opU C) fs).map fun p => D.int p.2) := by unfold latD; rw [if_pos q]
    obtain ⟨z1, b1⟩ := zip_two le1
    obtain ⟨z2, b2⟩ := zip_two' le2
    have ll : ∀ {a b : List (Flt × Int)}, a.length = fs.length → (((a.zip b).map fun p => (p.1.2, p.2.2)).map fun p : Int × Int => D.tup [.int p.1, .int p.2]).length ≤ sizeLine := fun {a b} h => by
      rw [List.length_map, List.length_map, List.length_zip, h, sizeLine_eq]
      have := A.F.le
      omega
    have wp : wipeE ρ [17, 18] = ρ := by rw [← hρ]; rfl
    have k1 : l1 ρ = M.pure (.lst []) := by
      show lcE [17, 18] _ _ _ _ ρ = _
      have it : argE zipD (consA (argN 2 d_earliest (consA (vE 5) (consA (vE 12) nilA))) (consA (vE 7) nilA)) ρ = M.pure ((((ebGo (num ks rs) idG [] fs).zip (ebGo (num ks rs) (oG C) [] fs)).map fun p => (p.1.2, p.2.2)).map fun p => D.tup [.int p.1, .int p.2]) := by
        simp only [ev_argE, ev_consA, ev_argN, ev_vE', g5, g12, g7, ev_pure_bind, ev_nilA]
        rw [if_pos (show [bookD ks rs, flD fs].length = 2 from rfl), er, ev_pure_bind, r0, r1, ev_pure_bind, z1]
      rw [ev_lcE, it, ev_pure_bind, if_pos (ll A.ebl), wp, ← hρ, none_lc (R := fun p => p.1 ≤ p.2) (fun p hp => by
        have : ¬ p.2 < p.1 := by omega
        unfold E20
        simp [this]) _ b1]
      rfl
    have k2 : l2 ρ = M.pure (.lst []) := by
      show lcE [17, 18] _ _ _ _ ρ = _
      have it : argE zipD (consA (argN 2 d_latest (consA (vE 5) (consA (vE 12) nilA))) (consA (vE 8) nilA)) ρ = M.pure ((((ltT (num ks rs) idH fs).zip (ltT (num ks rs) (opU C) fs)).map fun p => (p.1.2, p.2.2)).map fun p => D.tup [.int p.1, .int p.2]) := by
        simp only [ev_argE, ev_consA, ev_argN, ev_vE', g5, g12, g8, ev_pure_bind, ev_nilA]
        rw [if_pos (show [bookD ks rs, flD fs].length = 2 from rfl), lr, ev_pure_bind, r2, r3]
        exact z2
      have lt := congrArg List.length (ltT_fst (N := num ks rs) (G := idH) (fs := fs))
      rw [List.length_map] at lt
      rw [ev_lcE, it, ev_pure_bind, if_pos (ll lt), wp, ← hρ, none_lc (R := fun p => p.2 ≤ p.1) (fun p hp => by
        have : ¬ p.2 > p.1 := by omega
        unfold E20
        simp [this]) _ b2]
      rfl
    rw [ev_seqS, skip (ne_tst k1 (nil_lst ρ) nil_ne), ev_pure_bind]
    dsimp only
    rw [skip (ne_tst k2 (nil_lst ρ) nil_ne)]
end
def turnB : Q.Env → M Fl := seqS (setS 2 (argN 2 d__law_closings (consA (vE 0) (consA (argN 2 F__law_one (consA (vE 0) (consA (lstE (consA (iE 12) (consA (iE 100) (consA (iE 999) nilA)))) nilA))) nilA))))
  (seqS (setS 3 (fun _ => M.pure (.dct false [])))
  (seqS (forS (itE (vE 2)) shG shI)
  (seqS (forS (argE rng1D (consA (iE 4) nilA)) (gNm 4) againB)
  (seqS (setS 5 (argN 2 F__law_book (consA (vE 0) (consA (iE 3) nilA))))
  (seqS (parS2 12 13 (consA (argN 4 F__law_flights (consA (vE 0) (consA (vE 5) (consA (iE 8) (consA (argN 2 F__law_one (consA (vE 0) (consA (lstE (consA (iE 40) (consA (iE 300) nilA))) nilA))) nilA))))) (consA (argN 1 F__law_table (consA (vE 5) nilA)) nilA)))
  tailB)))))
theorem right_eq : d__law_right = fnM 20 (seqS (forS (argE rng1D (consA (iE 4) nilA)) (gNm 1) turnB) (retS (bE true))) := rfl
theorem rng4_ev (ρ : Q.Env) : argE rng1D (consA (iE 4) nilA) ρ = M.pure ((List.range 4).map fun i => D.int (0 + (i : Nat))) := ev_argRng (n := 4) rfl (by omega)
theorem turn_ok {w : Wl} (hw : Good w) {x1 c s b x4 x6 x7 x8 x9 x10 x11 f t x14 x15 x16 x19 : Option D} : Run (turnB (E20 c s b x4 x6 x7 x8 x9 x10 x11 f t x14 x15 x16 none none x19 x1)) w
    fun r w' => ∃ c s b x4 x6 x7 x8 x9 x10 x11 f t x14 x15 x16 x19, r = .nx (E20 c s b x4 x6 x7 x8 x9 x10 x11 f t x14 x15 x16 none none x19 x1) ∧ Good w' := by
  unfold turnB
  have r1 : Run (setS 2 (argN 2 d__law_closings (consA (vE 0) (consA (argN 2 F__law_one (consA (vE 0) (consA (lstE (consA (iE 12) (consA (iE 100) (consA (iE 999) nilA)))) nilA))) nilA))) (E20 c s b x4 x6 x7 x8 x9 x10 x11 f t x14 x15 x16 none none x19 x1)) w
      fun r w' => ∃ (far : Int) (C : Cl), r = .nx (E20 (some (clD C)) s b x4 x6 x7 x8 x9 x10 x11 f t x14 x15 x16 none none x19 x1) ∧ ClOk far C ∧ far ≤ 999 ∧ C.length ≤ 3 ∧ Good w' := by
    unfold E20
    conv => arg 1; simp [ev_mkLst]
    refine Run.bind (one_ok (.inl rfl) hw (by simp) (by simp)) fun a w2 ⟨ha, g2⟩ => ?_
    have : ∃ far : Int, a = .int far ∧ 0 ≤ far ∧ far ≤ 999 := by
      simp only [List.mem_cons, List.not_mem_nil, or_false] at ha
      rcases ha with rfl | rfl | rfl
      · exact ⟨12, rfl, by omega, by omega⟩
      · exact ⟨100, rfl, by omega, by omega⟩
      · exact ⟨999, rfl, by omega, by omega⟩
    obtain ⟨far, rfl, f0, f9⟩ := this
    refine Run.bind (closings_ok g2 f0 f9) fun a w3 ⟨C, e, O, l, g3⟩ => ?_
    subst e
    exact ⟨_, w3, rfl, far, C, rfl, O, f9, l, g3⟩
  rw [ev_seqS]
  refine Run.bind r1 fun r w1 ⟨far, C, e, O, hf, hl, g1⟩ => ?_
  subst e
  dsimp only
  rw [ev_seqS, ev_setS, ev_pure_bind, ev_pure_bind]
  dsimp only
  show Run (seqS (forS (itE (vE 2)) shG shI) _ (E20 (some (clD C)) (some (.dct false [])) b x4 x6 x7 x8 x9 x10 x11 f t x14 x15 x16 none none x19 x1)) w1 _
  obtain ⟨acc, y9, y10, y11, e3, q3⟩ := sh_out hf C [] x9 x10 x11 O.at_ (by simp only [List.length_nil]; omega) (c := some (clD C)) (b := b) (x4 := x4) (x6 := x6) (x7 := x7) (x8 := x8) (f := f) (t := t) (x14 := x14) (x15 := x15) (x16 := x16) (x17 := none) (x18 := none) (x19 := x19) (x1 := x1)
  have ha : ∀ t, hasK acc t = inC C t := fun t => by rw [q3 t]; rfl
  have f3 : forS (itE (vE 2)) shG shI (E20 (some (clD C)) (some (.dct false [])) b x4 x6 x7 x8 x9 x10 x11 f t x14 x15 x16 none none x19 x1) = M.pure (.nx (E20 (some (clD C)) (some (.dct false acc)) b x4 x6 x7 x8 y9 y10 y11 f t x14 x15 x16 none none x19 x1)) := by
    have it : itE (vE 2) (E20 (some (clD C)) (some (.dct false [])) b x4 x6 x7 x8 x9 x10 x11 f t x14 x15 x16 none none x19 x1) = M.pure (C.map pD) := rfl
    rw [ev_forS, it, ev_pure_bind]
    exact e3
  rw [ev_seqS, f3, ev_pure_bind]
  dsimp only
  rw [ev_seqS, ev_forS, rng4_ev, ev_pure_bind]
  refine Run.bind (forL_run (I := fun ρ w => (∃ x4 x7 x11, ρ = E20 (some (clD C)) (some (.dct false acc)) b x4 x6 x7 x8 y9 y10 x11 f t x14 x15 x16 none none x19 x1) ∧ Good w) ?_ ?_) fun r w2 ⟨ρ, e, ⟨z4, z7, z11, e2⟩, g2⟩ => ?_
  · exact ⟨⟨x4, x7, y11, rfl⟩, g1⟩
  · rintro d hd ρ w ⟨⟨a4, a7, a11, rfl⟩, g⟩
    have e0 : noX (gNm 4 d (E20 (some (clD C)) (some (.dct false acc)) b a4 x6 a7 x8 y9 y10 a11 f t x14 x15 x16 none none x19 x1)) = M.pure (E20 (some (clD C)) (some (.dct false acc)) b (some d) x6 a7 x8 y9 y10 a11 f t x14 x15 x16 none none x19 x1) := rfl
    refine run_pure e0 ?_
    exact (again_ok O hf (by omega) ha g).imp fun r w' ⟨y7, y11, e, g'⟩ => ⟨_, e, ⟨_, _, _, rfl⟩, g'⟩
  subst e e2
  dsimp only
  have r5 : Run (setS 5 (argN 2 F__law_book (consA (vE 0) (consA (iE 3) nilA))) (E20 (some (clD C)) (some (.dct false acc)) b z4 x6 z7 x8 y9 y10 z11 f t x14 x15 x16 none none x19 x1)) w2 fun r w' => ∃ ks rs, r = .nx (E20 (some (clD C)) (some (.dct false acc)) (some (bookD ks rs)) z4 x6 z7 x8 y9 y10 z11 f t x14 x15 x16 none none x19 x1) ∧ BookOk ks rs ∧ Good w' := by
    unfold E20
    conv => arg 1; simp
    refine Run.bind (book_ok g2 (most := 3) (by omega) (by omega)) fun d w1 ⟨ks, rs, e, B, _, g⟩ => ?_
    subst e
    exact ⟨_, w1, rfl, ks, rs, rfl, B, g⟩
  rw [ev_seqS]
  refine Run.bind r5 fun r w3 ⟨ks, rs, e, B, g3⟩ => ?_
  subst e
  dsimp only
  have r6 : Run (parS2 12 13 (consA (argN 4 F__law_flights (consA (vE 0) (consA (vE 5) (consA (iE 8) (consA (argN 2 F__law_one (consA (vE 0) (consA (lstE (consA (iE 40) (consA (iE 300) nilA))) nilA))) nilA))))) (consA (argN 1 F__law_table (consA (vE 5) nilA)) nilA)) (E20 (some (clD C)) (some (.dct false acc)) (some (bookD ks rs)) z4 x6 z7 x8 y9 y10 z11 f t x14 x15 x16 none none x19 x1)) w3
      fun r w' => ∃ fs, r = .nx (E20 (some (clD C)) (some (.dct false acc)) (some (bookD ks rs)) z4 x6 z7 x8 y9 y10 z11 (some (flD fs)) (some (tabD ks rs)) x14 x15 x16 none none x19 x1) ∧ FOk ks rs fs ∧ Good w' := by
    unfold E20
    conv => arg 1; simp [ev_mkLst]
    refine Run.bind (one_ok (.inl rfl) g3 (by simp) (by simp)) fun a w2 ⟨ha, g2⟩ => ?_
    have : ∃ far : Int, a = .int far ∧ 0 ≤ far ∧ far ≤ 999 := by
      simp only [List.mem_cons, List.not_mem_nil, or_false] at ha
      rcases ha with rfl | rfl
      · exact ⟨40, rfl, by omega, by omega⟩
      · exact ⟨300, rfl, by omega, by omega⟩
    obtain ⟨far, rfl, f0, f10⟩ := this
    conv => arg 1; simp
    refine Run.bind (flights_ok B g2 (most := 8) (far := far) (by omega) (by omega) f0 (by omega)) fun a w3 ⟨fs, e, F, l4, g3⟩ => ?_
    subst e
    have te := table_ev B
    conv => arg 1; simp [te]
    exact ⟨_, w3, rfl, fs, rfl, FOk.of B F (by omega), g3⟩
  rw [ev_seqS]
  refine Run.bind r6 fun r w4 ⟨fs, e, A, g4⟩ => ?_
  subst e
  dsimp only
  obtain ⟨u6, u7, u8, u9, u10, u11, u14, u15, u16, u19, et⟩ := tail_ok A O hf (by omega) ha (x4 := z4) (x6 := x6) (x7 := z7) (x8 := x8) (x9 := y9) (x10 := y10) (x11 := z11) (x14 := x14) (x15 := x15) (x16 := x16) (x19 := x19) (x1 := x1)
  rw [et]
  exact ⟨_, w4, rfl, _, _, _, _, _, _, _, _, _, _, _, _, _, _, _, _, rfl, g4⟩
theorem right_ok (w : Wl) (hw : Good w) : ∃ w', d__law_right [.well] w = .ok (.bl true) w' := by
  have r : Run (d__law_right [.well]) w fun d w' => d = .bl true := by
    rw [right_eq]
    refine fnM_run ?_
    rw [ev_seqS, ev_forS, rng4_ev, ev_pure_bind]
    show Run (M.bind (forL (gNm 1) turnB _ (E20 none none none none none none none none none none none none none none none none none none none)) _) w _
    refine Run.bind (forL_run (I := fun ρ w => (∃ c s b x4 x6 x7 x8 x9 x10 x11 f t x14 x15 x16 x19 x1, ρ = E20 c s b x4 x6 x7 x8 x9 x10 x11 f t x14 x15 x16 none none x19 x1) ∧ Good w) ?_ ?_) fun r w1 ⟨ρ, e, _⟩ => ?_
    · exact ⟨⟨none, none, none, none, none, none, none, none, none, none, none, none, none, none, none, none, none, rfl⟩, hw⟩
    · rintro d hd ρ w ⟨⟨c, s, b, x4, x6, x7, x8, x9, x10, x11, f, t, x14, x15, x16, x19, x1, rfl⟩, g⟩
      have e0 : noX (gNm 1 d (E20 c s b x4 x6 x7 x8 x9 x10 x11 f t x14 x15 x16 none none x19 x1)) = M.pure (E20 c s b x4 x6 x7 x8 x9 x10 x11 f t x14 x15 x16 none none x19 (some d)) := rfl
      refine run_pure e0 ?_
      exact (turn_ok g).imp fun r w' ⟨c, s, b, x4, x6, x7, x8, x9, x10, x11, f, t, x14, x15, x16, x19, e, g'⟩ => ⟨_, e, ⟨_, _, _, _, _, _, _, _, _, _, _, _, _, _, _, _, _, rfl⟩, g'⟩
    · subst e
      exact ⟨_, w1, rfl, rfl⟩
  obtain ⟨d, w', e, rfl⟩ := r
  exact ⟨w', e⟩
theorem law_eq : d_law = lawT d__law_right := rfl
theorem plain (ns : List Int) (hl : ns.length ≤ 63) (_ : ∀ z ∈ ns, Builtin.Int.intBits z ≤ 1048576) : ∃ w', d_law [.scr (ns.map D.int)] [] = .ok (.bl true) w' := by
  rw [law_eq]
  exact fam_law right_ok ns hl
end K56

open PySem PySem.W PySem.Calls PyProof.Rows
theorem PySem.Challenge.cw_runwayrows_k56_whole_open_times_holds : PySem.Challenge.rw_runwayrows_k56_whole_open_times.Holds := by
  w_on; o_law
  refine HandSHeadRun.head_any (r := OpenLaw.row PySem.Challenge.rw_runwayrows_k56_whole_open_times) (q := view (OpenLaw.row PySem.Challenge.rw_runwayrows_k56_whole_open_times).prog [72]) (H := K56.hk) (ob := K56.ob) (M := 3000) (loose := K56.loose) (d := HandSHeadRun.topDef (OpenLaw.row PySem.Challenge.rw_runwayrows_k56_whole_open_times).prog 72) (kwd := []) K56.ob_eq
    (by kernel_rfl) (fun s => by kernel_rfl) K56.run (by kernel_rfl) (by kernel_rfl) (by kernel_rfl) (by rfl) (by first | assumption | decide +kernel) (by decide +kernel) ⟨rfl, rfl, rfl, rfl, rfl, by decide +kernel⟩ ?hw ?hc
  case hw => w_witness2
  case hc =>
    refine Q.walkG (l := PySem.Challenge.rw_runwayrows_k56_whole_open_times) (n := 63) (k := 13) (x := "script") rfl (by decide) (by kernel_rfl) ⟨rfl, by decide, by decide⟩ ?F
    intro w mg fa h Y G hmg0
    obtain ⟨K, KX, c⟩ := Y
    have hmg : mg ("law" : PySem.Str) = some (.ref fa) := by
      have e : (HandSHeadRun.topDef (OpenLaw.row PySem.Challenge.rw_runwayrows_k56_whole_open_times).prog 72).name = ("law" : PySem.Str) := by kernel_rfl
      rw [← e]
      exact hmg0
    obtain ⟨⟨znd⟩, W⟩ := K56.facts KX G c.t.d c.more
    have e : W.f_law = fa := by
      have q := W.g_law
      rw [hmg] at q
      cases q; rfl
    refine ⟨K, W.q_law, K56.TF.map (He.cT K), K56.tt K, K56.d_law, KX, fun p hp => by obtain ⟨q, hq, rfl⟩ := List.mem_map.mp hp; exact c.empty q hq, fun p hp => by obtain ⟨q, hq, rfl⟩ := List.mem_map.mp hp; exact c.out q hq, fun p hp => by obtain ⟨q, hq, rfl⟩ := List.mem_map.mp hp; exact PySem.W.codeHd_of_K KX (c.hd q hq), fun q hq => by simpa [K56.tt, K56.TF] using (List.mem_map.mpr ⟨q, hq, rfl⟩ : q.1 ∈ (K56.tt K).map (·.1)), ?_, K56.plain, fun base _ _ tb => e ▸ K56.w_law W ⟨znd, tb (He.cT K ("wrong_kinds", none)) (List.mem_map.mpr ⟨_, by simp [K56.TF], rfl⟩), tb (He.cT K ("wrong_flights", none)) (List.mem_map.mpr ⟨_, by simp [K56.TF], rfl⟩), tb (He.cT K ("earliest_beside", none)) (List.mem_map.mpr ⟨_, by simp [K56.TF], rfl⟩), tb (He.cT K ("latest_beside", none)) (List.mem_map.mpr ⟨_, by simp [K56.TF], rfl⟩)⟩⟩
    exact fun s v => L2.FunD.bindsA (ps := ["script"]) W.F_law (fun _ _ _ _ _ _ us hl => match us, hl with | [_], _ => rfl) s [v] rfl
