import PyProof.Rows.All
import Wide.All
import OpenK.AllK
import Wide.FinOn
import KE.KStateDown
import HandS.ForMost
import HandS.WordsExc
import HandS.TryMany
import HandS.ExcInit
import HandS.CallSlots
import HandS.NestedK
import HandS.TupAny
import HandS.Wide
import HandS.Defaults
import HandS.Head0
import HandS.Head1
import HandS.Head2
import HandS.HeadEnd
import HandS.HeadHook4
import HandS.HeadWalk
import HandS.TupLe
import HandS.TupMul
import HandS.IsInst
import HandS.Style
import HandS.RaiseMore
import HandS.Flow
import HandS.Gcd
import HandS.Walk
import HandS.SortInts
import HandS.Conv
import HandS.Deep
import KE.KDictDisplayH
import HandS.Steps
import PySem.Challenge.RW_runwayrows_k65_whole_orders_that_move_fe
set_option Elab.async false
set_option linter.all false
set_option maxRecDepth 100000
set_option maxHeartbeats 0
namespace Q
open PySem PySem.Spec PyProof.Rows L2

/-! ## data -/
inductive D where
  | non
  | bl (b : Bool)
  | int (i : Int)
  | str (s : Str)
  | tup (xs : List D)
  | lst (xs : List D)
  | dct (t : Bool) (kvs : List (D × D))
  | set (xs : List D)
  | scr (xs : List D)
  | ktp (xs : List D)
  | fn (n : Nat)
  | well

abbrev Wl := List Int
abbrev Env := List (Option D)

inductive Out (α : Type) where
  | fail
  | exc (c : Str) (p : Option (Str × D)) (w : Wl)
  | ok (a : α) (w : Wl)

def M (α : Type) := Wl → Out α
@[simp] def M.pure {α : Type} (a : α) : M α := fun w => .ok a w
def M.bind {α β : Type} (m : M α) (f : α → M β) : M β := fun w => match m w with
  | .fail => .fail
  | .exc c p w' => .exc c p w'
  | .ok a w' => f a w'
def M.fail {α : Type} : M α := fun _ => .fail
instance : Monad M where
  pure := M.pure
  bind := M.bind

abbrev Hx (G H : Hp) : Prop := ∀ a o, G a = some o → H a = some o
theorem Hx.refl (G : Hp) : Hx G G := fun _ _ h => h
theorem Hx.trans {G H J : Hp} (a : Hx G H) (b : Hx H J) : Hx G J := fun x o h => b x o (a x o h)
theorem Hx.sqT {K : PySem.W.Frag} {G H : Hp} {a : Addr} {xs : List V} (e : Hx G H) (h : SqT K G a xs) : SqT K H a xs := by
  rcases h with (h | ⟨o, h⟩) | h
  · exact .inl (.inl (e _ _ h))
  · exact .inl (.inr ⟨o, e _ _ h⟩)
  · exact .inr h
theorem Hx.tq {K : PySem.W.Frag} {G H : Hp} {a : Addr} {xs : List V} (e : Hx G H) (h : G a = some (.tup xs)) : SqT K H a xs := SqT.of (e _ _ h)
theorem Hx.sqL {K : PySem.W.Frag} {G H : Hp} {a : Addr} {xs : List V} (e : Hx G H) (h : SqL K G a xs) : SqL K H a xs := by
  rcases h with (h | ⟨o, h⟩) | h
  · exact .inl (.inl (e _ _ h))
  · exact .inl (.inr ⟨o, e _ _ h⟩)
  · exact .inr h

/-! ## what a value is, as data -/
def kD : Key → D
  | .inl i => .int i
  | .inr s => .str s
def kT (ks : List Key) : D := .tup (ks.map kD)
mutual
inductive Is (K : PySem.W.Frag) (wl : Option Addr) (G : Hp) : V → D → Prop
  | non : Is K wl G .non .non
  | bl (b : Bool) : Is K wl G (.bl b) (.bl b)
  | int (i : Int) : Is K wl G (.int i) (.int i)
  | str (s : Str) : Is K wl G (.str s) (.str s)
  | tup {a : Addr} {vs : List V} {ds : List D} : G a = some (.tup vs) → IsL K wl G vs ds → Is K wl G (.ref a) (.tup ds)
  | lst {a : Addr} {vs : List V} {ds : List D} : G a = some (.lst vs) → IsL K wl G vs ds → Is K wl G (.ref a) (.lst ds)
  | scr {a : Addr} {vs : List V} {ds : List D} : SqL K G a vs → IsL K wl G vs ds → Is K wl G (.ref a) (.scr ds)
  | ktp {a : Addr} {vs : List V} {ds : List D} : SqT K G a vs → IsL K wl G vs ds → Is K wl G (.ref a) (.ktp ds)
  | dK {a : Addr} {kvs : List (Key × V)} {ds : List (D × D)} : G a = some (.dK kvs) → ds.map (·.1) = kvs.map (fun p => kD p.1) → IsL K wl G (kvs.map (·.2)) (ds.map (·.2)) → Is K wl G (.ref a) (.dct false ds)
  | dT {a : Addr} {kvs : List (List Key × V)} {ds : List (D × D)} : G a = some (.dT kvs) → ds.map (·.1) = kvs.map (fun p => kT p.1) → IsL K wl G (kvs.map (·.2)) (ds.map (·.2)) → Is K wl G (.ref a) (.dct true ds)
  | well {a : Addr} : wl = some a → Is K wl G (.ref a) .well
inductive IsL (K : PySem.W.Frag) (wl : Option Addr) (G : Hp) : List V → List D → Prop
  | nil : IsL K wl G [] []
  | cons {v : V} {d : D} {vs : List V} {ds : List D} : Is K wl G v d → IsL K wl G vs ds → IsL K wl G (v :: vs) (d :: ds)
end
section
variable {K : PySem.W.Frag} {wl : Option Addr} {G H : Hp}
mutual
theorem Is.mono (e : Hx G H) : ∀ {v : V} {d : D}, Is K wl G v d → Is K wl H v d
  | _, _, .non => .non
  | _, _, .bl b => .bl b
  | _, _, .int i => .int i
  | _, _, .str s => .str s
  | _, _, .tup h hl => .tup (e _ _ h) (IsL.mono e hl)
  | _, _, .ktp h hl => .ktp (e.sqT h) (IsL.mono e hl)
  | _, _, .lst h hl => .lst (e _ _ h) (IsL.mono e hl)
  | _, _, .scr h hl => .scr (e.sqL h) (IsL.mono e hl)
  | _, _, .dK h k hl => .dK (e _ _ h) k (IsL.mono e hl)
  | _, _, .dT h k hl => .dT (e _ _ h) k (IsL.mono e hl)
  | _, _, .well h => .well h
theorem IsL.mono (e : Hx G H) : ∀ {vs : List V} {ds : List D}, IsL K wl G vs ds → IsL K wl H vs ds
  | _, _, .nil => .nil
  | _, _, .cons h hl => .cons (Is.mono e h) (IsL.mono e hl)
end
theorem IsL.length : ∀ {vs : List V} {ds : List D}, IsL K wl G vs ds → vs.length = ds.length
  | _, _, .nil => rfl
  | _, _, .cons _ hl => congrArg (· + 1) hl.length
theorem IsL.get : ∀ {vs : List V} {ds : List D} {i : Nat} {d : D}, IsL K wl G vs ds → ds[i]? = some d → ∃ v, vs[i]? = some v ∧ Is K wl G v d
  | _, _, 0, _, .cons h _, e => ⟨_, rfl, by cases e; exact h⟩
  | _, _, i + 1, _, .cons _ hl, e => by
    obtain ⟨v, h1, h2⟩ := IsL.get (i := i) hl (by simpa using e)
    exact ⟨v, by simpa using h1, h2⟩
theorem IsL.getV : ∀ {vs : List V} {ds : List D} {i : Nat} {v : V}, IsL K wl G vs ds → vs[i]? = some v → ∃ d, ds[i]? = some d ∧ Is K wl G v d
  | _, _, 0, _, .cons h _, e => ⟨_, rfl, by cases e; exact h⟩
  | _, _, i + 1, _, .cons _ hl, e => by
    obtain ⟨v, h1, h2⟩ := IsL.getV (i := i) hl (by simpa using e)
    exact ⟨v, by simpa using h1, h2⟩
theorem IsL.append : ∀ {vs us : List V} {ds es : List D}, IsL K wl G vs ds → IsL K wl G us es → IsL K wl G (vs ++ us) (ds ++ es)
  | _, _, _, _, .nil, h => h
  | _, _, _, _, .cons h hl, h2 => .cons h (hl.append h2)
theorem IsL.take : ∀ {vs : List V} {ds : List D} (n : Nat), IsL K wl G vs ds → IsL K wl G (vs.take n) (ds.take n)
  | _, _, 0, _ => .nil
  | _, _, _ + 1, .nil => .nil
  | _, _, n + 1, .cons h hl => .cons h (hl.take n)
theorem IsL.drop : ∀ {vs : List V} {ds : List D} (n : Nat), IsL K wl G vs ds → IsL K wl G (vs.drop n) (ds.drop n)
  | _, _, 0, h => h
  | _, _, _ + 1, .nil => .nil
  | _, _, n + 1, .cons _ hl => hl.drop n
theorem IsL.set {v : V} {d : D} (h : Is K wl G v d) : ∀ {vs : List V} {ds : List D} (i : Nat), IsL K wl G vs ds → IsL K wl G (vs.set i v) (ds.set i d)
  | _, _, _, .nil => .nil
  | _, _, 0, .cons _ hl => .cons h hl
  | _, _, i + 1, .cons h2 hl => .cons h2 (IsL.set h i hl)
theorem IsL.erase : ∀ {vs : List V} {ds : List D} (i : Nat), IsL K wl G vs ds → IsL K wl G (vs.eraseIdx i) (ds.eraseIdx i)
  | _, _, _, .nil => .nil
  | _, _, 0, .cons _ hl => hl
  | _, _, i + 1, .cons h2 hl => .cons h2 (IsL.erase i hl)
theorem IsL.rev {vs : List V} {ds : List D} (h : IsL K wl G vs ds) : IsL K wl G vs.reverse ds.reverse := by
  induction vs generalizing ds with
  | nil => cases h; exact .nil
  | cons v vs ih =>
    cases h with
    | cons h1 h2 =>
      rw [List.reverse_cons, List.reverse_cons]
      exact (ih h2).append (.cons h1 .nil)
theorem IsL.ints : ∀ (ns : List Int), IsL K wl G (ns.map V.int) (ns.map D.int)
  | [] => .nil
  | n :: ns => .cons (.int n) (IsL.ints ns)
theorem IsL.ofInts : ∀ {vs : List V} {ns : List Int}, IsL K wl G vs (ns.map D.int) → vs = ns.map V.int
  | [], [], _ => rfl
  | v :: vs, n :: ns, .cons h hl => by
    cases h
    rw [IsL.ofInts (ns := ns) hl]; rfl
end

/-! ## contexts and the state relation -/
abbrev Tb := List NdefX.NTab
structure Ctx where
  wl : Option Addr
  G0 : Hp
  B : Hp
abbrev NoTbl (o : HO) : Prop := ∀ ps, o ≠ .tbl ps
structure RelH (T : Tb) (Γ : Ctx) (G H : Hp) (w : Wl) : Prop where
  sub : Hx G H
  nt : ∀ a o, G a = some o → NoTbl o
  nw : ∀ a, G a ≠ none → Γ.G0 a ≠ none ∨ Γ.B a = none
  g0 : Hx Γ.G0 G
  keep : ∀ a o, Γ.B a = some o → Γ.wl ≠ some a → NoTbl o → H a = some o
  mono : ∀ a, H a = none → Γ.B a = none
  well : ∀ a, Γ.wl = some a → G a = none ∧ H a = some (.lst (w.map V.int))
  tabs : NdefX.TabsN T H
  tv : ∀ a vs, H a = some (.tup vs) → G a = some (.tup vs)
inductive IsO (K : PySem.W.Frag) (wl : Option Addr) (G : Hp) : HO → D → Prop
  | lst {vs : List V} {ds : List D} : IsL K wl G vs ds → IsO K wl G (.lst vs) (.lst ds)
  | dK {kvs : List (Key × V)} {ds : List (D × D)} : ds.map (·.1) = kvs.map (fun p => kD p.1) → IsL K wl G (kvs.map (·.2)) (ds.map (·.2)) → IsO K wl G (.dK kvs) (.dct false ds)
  | dT {kvs : List (List Key × V)} {ds : List (D × D)} : ds.map (·.1) = kvs.map (fun p => kT p.1) → IsL K wl G (kvs.map (·.2)) (ds.map (·.2)) → IsO K wl G (.dT kvs) (.dct true ds)
theorem IsO.mono {K : PySem.W.Frag} {wl : Option Addr} {G H : Hp} (e : Hx G H) {o : HO} {d : D} : IsO K wl G o d → IsO K wl H o d
  | .lst h => .lst (h.mono e)
  | .dK k h => .dK k (h.mono e)
  | .dT k h => .dT k (h.mono e)
theorem IsO.nt {K : PySem.W.Frag} {wl : Option Addr} {G : Hp} {o : HO} {d : D} (h : IsO K wl G o d) (vs : List V) : o ≠ .tup vs := by
  cases h <;> exact fun z => nomatch z
structure Rel (K : PySem.W.Frag) (T : Tb) (Γ : Ctx) (O : List Nat) (ρ : Env) (σ : L2.St) (G H : Hp) (w : Wl) : Prop where
  h : RelH T Γ G H w
  len : ρ.length = σ.length
  fro : ∀ i d, i ∉ O → ρ[i]? = some (some d) → ∃ v, σ[i]? = some (some v) ∧ Is K Γ.wl G v d
  own : ∀ i d, i ∈ O → ρ[i]? = some (some d) → ∃ l o, σ[i]? = some (some (.ref l)) ∧ G l = none ∧ Γ.B l = none ∧ Γ.wl ≠ some l ∧ H l = some o ∧ NoTbl o ∧ IsO K Γ.wl G o d
  inj : ∀ i j l d e, i ∈ O → j ∈ O → i ≠ j → ρ[i]? = some (some d) → ρ[j]? = some (some e) → σ[i]? = some (some (.ref l)) → σ[j]? = some (some (.ref l)) → False

section
variable {K : PySem.W.Frag} {T : Tb} {Γ : Ctx} {O : List Nat} {ρ : Env} {σ : L2.St} {G H : Hp} {w : Wl}
/-- a new object, known from now on -/
theorem RelH.alloc (R : RelH T Γ G H w) {p : Addr} {o : HO} (hp : H p = none) (ho : NoTbl o) : RelH T Γ (upd G p o) (upd H p o) w := by
  have gp : G p = none := by
    cases e : G p with
    | none => rfl
    | some u => rw [R.sub _ _ e] at hp; cases hp
  have pb := R.mono p hp
  refine ⟨fun a u e => ?_, fun a u e => ?_, fun a e => ?_, fun a u e => ?_, fun a u e n t => ?_, fun a e => ?_, fun a e => ?_, ?_, fun a us e => ?_⟩
  · by_cases z : a = p
    · subst z; rw [upd_same] at e ⊢; exact e
    · rw [upd_ne z] at e ⊢; exact R.sub _ _ e
  · by_cases z : a = p
    · subst z; rw [upd_same] at e; cases e; exact ho
    · rw [upd_ne z] at e; exact R.nt _ _ e
  · by_cases z : a = p
    · subst z; exact .inr pb
    · rw [upd_ne z] at e; exact R.nw _ e
  · have z : a ≠ p := fun z => by rw [z] at e; rw [R.g0 _ _ e] at gp; cases gp
    rw [upd_ne z]; exact R.g0 _ _ e
  · have z : a ≠ p := fun z => by rw [z, pb] at e; cases e
    rw [upd_ne z]; exact R.keep _ _ e n t
  · by_cases z : a = p
    · subst z; exact pb
    · rw [upd_ne z] at e; exact R.mono _ e
  · obtain ⟨h1, h2⟩ := R.well a e
    have z : a ≠ p := fun z => by rw [z, hp] at h2; cases h2
    rw [upd_ne z, upd_ne z]; exact ⟨h1, h2⟩
  · exact R.tabs.ext fun b u e => by
      have z : b ≠ p := fun z => by rw [z, hp] at e; cases e
      rw [upd_ne z]; exact e
  · by_cases z : a = p
    · subst z; rw [upd_same] at e ⊢; exact e
    · rw [upd_ne z] at e ⊢; exact R.tv _ _ e
theorem hx_upd {p : Addr} {o : HO} (hp : G p = none) : Hx G (upd G p o) := fun a u e => by
  have z : a ≠ p := fun z => by rw [z, hp] at e; cases e
  rw [upd_ne z]; exact e
theorem RelH.gnone (R : RelH T Γ G H w) {p : Addr} (hp : H p = none) : G p = none := by
  cases e : G p with
  | none => rfl
  | some u => rw [R.sub _ _ e] at hp; cases hp
theorem Rel.alloc (R : Rel K T Γ O ρ σ G H w) {p : Addr} {o : HO} (hp : H p = none) (ho : NoTbl o) : Rel K T Γ O ρ σ (upd G p o) (upd H p o) w := by
  have gp := R.h.gnone hp
  refine ⟨R.h.alloc hp ho, R.len, fun i d hi e => ?_, fun i d hi e => ?_, R.inj⟩
  · obtain ⟨v, h1, h2⟩ := R.fro i d hi e
    exact ⟨v, h1, h2.mono (hx_upd gp)⟩
  · obtain ⟨l, u, h1, h2, h3, h4, h5, h6, h7⟩ := R.own i d hi e
    have z : l ≠ p := fun z => by rw [z, hp] at h5; cases h5
    exact ⟨l, u, h1, by rw [upd_ne z]; exact h2, h3, h4, by rw [upd_ne z]; exact h5, h6, h7.mono (hx_upd gp)⟩
end

/-! ## exceptions -/
def ExcIs (K : PySem.W.Frag) (wl : Option Addr) (c : Str) (p : Option (Str × D)) (cls : Value) (dd : Option Addr) (G H : Hp) : Prop :=
  cls = .ref (He.ga K c) ∧ match p with
    | none => dd = none
    | some (f, d) => ∃ a v, dd = some a ∧ H a = some (.xd [(f, v)]) ∧ Is K wl G v d

/-- what stood stays, but the well and the tables -/
def Kp (wl : Option Addr) (H H' : Hp) : Prop := ∀ a o, H a = some o → wl ≠ some a → NoTbl o → H' a = some o
theorem Kp.refl {wl : Option Addr} (H : Hp) : Kp wl H H := fun _ _ h _ _ => h
theorem Kp.trans {wl : Option Addr} {H H1 H2 : Hp} (a : Kp wl H H1) (b : Kp wl H1 H2) : Kp wl H H2 := fun x o h n t => b x o (a x o h n t) n t
theorem Kp.new {wl : Option Addr} {H : Hp} {p : Addr} {o : HO} (hp : H p = none) : Kp wl H (upd H p o) := fun a u h _ _ => by
  have z : a ≠ p := fun z => by rw [z, hp] at h; cases h
  rw [upd_ne z]; exact h
/-- from one state to a later one, by an expression: view and heap grow -/
structure Stp (wl : Option Addr) (G H G' H' : Hp) : Prop where
  x : Hx G G'
  kp : Kp wl H H'
  nw : ∀ a, G' a ≠ none → G a ≠ none ∨ H a = none
  mono : ∀ a, H' a = none → H a = none
theorem Stp.refl {wl : Option Addr} {G H : Hp} : Stp wl G H G H := ⟨Hx.refl _, Kp.refl _, fun _ h => .inl h, fun _ h => h⟩
theorem Stp.trans {wl : Option Addr} {G H G1 H1 G2 H2 : Hp} (a : Stp wl G H G1 H1) (b : Stp wl G1 H1 G2 H2) : Stp wl G H G2 H2 :=
  ⟨a.x.trans b.x, a.kp.trans b.kp, fun p h => (b.nw p h).elim (a.nw p) fun z => .inr (a.mono p z), fun p h => a.mono p (b.mono p h)⟩
theorem Stp.new {wl : Option Addr} {G H : Hp} {p : Addr} {o : HO} (gp : G p = none) (hp : H p = none) : Stp wl G H (upd G p o) (upd H p o) :=
  ⟨hx_upd gp, Kp.new hp, fun a h => by
    by_cases z : a = p
    · subst z; exact .inr hp
    · rw [upd_ne z] at h; exact .inl h, fun a h => by
    by_cases z : a = p
    · subst z; exact hp
    · rw [upd_ne z] at h; exact h⟩
/-! ## readings -/
abbrev IR (β α : Type) := PySem.W.Frag → Option Addr → Hp → β → α → Prop
def Post {α β : Type} (K : PySem.W.Frag) (T : Tb) (Γ : Ctx) (O : List Nat) (Wx : WX) (ρ : Env) (σ : L2.St) (G H : Hp) (I : IR β α) (r : Out α) (Q : β → Hp → Prop) : Prop :=
  match r with
  | .fail => False
  | .ok d w' => ∀ v G' H', Stp Γ.wl G H G' H' → Rel K T Γ O ρ σ G' H' w' → I K Γ.wl G' v d → Q v H'
  | .exc c p w' => ∀ cls dd G' H', Stp Γ.wl G H G' H' → RelH T Γ G' H' w' → ExcIs K Γ.wl c p cls dd G' H' → Wx cls dd σ H'
abbrev IsV : IR V D := fun K wl G v d => Is K wl G v d
abbrev IsB : IR Bool Bool := fun _ _ _ b c => b = c
abbrev IsA : IR (List V) (List D) := fun K wl G v d => IsL K wl G v d
def tG {α β : Type} (K : PySem.W.Frag) (T : Tb) (O : List Nat) (Wx : WX) (I : IR β α) (f : Env → M α) : L2.St → Hp → (β → Hp → Prop) → Prop :=
  fun σ H Q => ∃ Γ ρ G w, Rel K T Γ O ρ σ G H w ∧ Post K T Γ O Wx ρ σ G H I (f ρ w) Q
abbrev tE (K : PySem.W.Frag) (T : Tb) (O : List Nat) (Wx : WX) (f : Env → M D) : TE := tG K T O Wx IsV f
abbrev tT (K : PySem.W.Frag) (T : Tb) (O : List Nat) (Wx : WX) (f : Env → M Bool) : TT := tG K T O Wx IsB f
abbrev tL (K : PySem.W.Frag) (T : Tb) (O : List Nat) (Wx : WX) (f : Env → M (List D)) : TA := tG K T O Wx IsA f
def DE (X : Cx) (T : Tb) (O : List Nat) (Wx : WX) (e : Expr) (f : Env → M D) : Prop := PE X e (tE X.K T O Wx f)
def DT (X : Cx) (T : Tb) (O : List Nat) (Wx : WX) (e : Expr) (f : Env → M Bool) : Prop := PT X e (tT X.K T O Wx f)
def DA (X : Cx) (T : Tb) (O : List Nat) (Wx : WX) (es : List Expr) (f : Env → M (List D)) : Prop := PA X es (tL X.K T O Wx f)
theorem pe_imp {X : Cx} {e : Expr} {t t' : TE} (h : PE X e t) (hi : ∀ σ H Q, t' σ H Q → t σ H Q) : PE X e t' := ⟨fun pins s σ H Q I q => h.run pins s σ H Q I (hi _ _ _ q)⟩
theorem pt_imp {X : Cx} {e : Expr} {t t' : TT} (h : PT X e t) (hi : ∀ σ H Q, t' σ H Q → t σ H Q) : PT X e t' := ⟨fun pins s σ H Q I q => h.run pins s σ H Q I (hi _ _ _ q)⟩
theorem pw_imp {X : Cx} {e : Expr} {t t' : TT} (h : PW X e t) (hi : ∀ σ H Q, t' σ H Q → t σ H Q) : PW X e t' := ⟨fun wh pins s σ H Q I q => h.run wh pins s σ H Q I (hi _ _ _ q)⟩
theorem pa_imp {X : Cx} {es : List Expr} {t t' : TA} (h : PA X es t) (hi : ∀ σ H Q, t' σ H Q → t σ H Q) : PA X es t' := ⟨fun p pins s σ H Q I q => h.run p pins s σ H Q I (hi _ _ _ q)⟩
theorem ps_imp {X : Cx} {e : Stmt} {t t' : TS} (h : PS X e t) (hi : ∀ D σ H, t' D σ H → t D σ H) : PS X e t' := ⟨fun pins s σ H D I q => h.run pins s σ H D I (hi _ _ _ q)⟩
theorem pss_imp {X : Cx} {e : List Stmt} {t t' : TS} (h : PSs X e t) (hi : ∀ D σ H, t' D σ H → t D σ H) : PSs X e t' := ⟨fun pins s σ H D I q => h.run pins s σ H D I (hi _ _ _ q)⟩
/-- sequencing: run f from a state, then from each of its ends the rest -/
theorem post_bind {α β γ δ : Type} {K : PySem.W.Frag} {T : Tb} {Γ : Ctx} {O : List Nat} {Wx : WX} {I : IR β α} {J : IR δ γ} {f : Env → M α} {k : α → M γ} {ρ : Env} {σ : L2.St} {G H : Hp} {w : Wl} {Q : δ → Hp → Prop} {Q1 : β → Hp → Prop}
    (R : Rel K T Γ O ρ σ G H w) (P : Post K T Γ O Wx ρ σ G H J (M.bind (f ρ) k w) Q)
    (hk : ∀ v d G1 H1 w1, Stp Γ.wl G H G1 H1 → Rel K T Γ O ρ σ G1 H1 w1 → I K Γ.wl G1 v d → Post K T Γ O Wx ρ σ G1 H1 J (k d w1) Q → Q1 v H1) : tG K T O Wx I f σ H Q1 := by
  refine ⟨Γ, ρ, G, w, R, ?_⟩
  simp only [M.bind] at P
  cases e : f ρ w with
  | fail => rw [e] at P; exact P
  | exc c p w' => rw [e] at P; exact P
  | ok d w' =>
    rw [e] at P
    intro v G1 H1 hx R1 i1
    refine hk v d G1 H1 w' hx R1 i1 ?_
    show Post K T Γ O Wx ρ σ G1 H1 J (k d w') Q
    cases e2 : k d w' with
    | fail => simp only [e2] at P; exact P
    | exc c p w2 => simp only [e2] at P; exact fun cls dd G' H' h1 => P cls dd G' H' (hx.trans h1)
    | ok d2 w2 => simp only [e2] at P; exact fun v G' H' h1 => P v G' H' (hx.trans h1)
theorem tG_of {α β : Type} {K : PySem.W.Frag} {T : Tb} {Γ : Ctx} {O : List Nat} {Wx : WX} {I : IR β α} {f : Env → M α} {ρ : Env} {σ : L2.St} {G H : Hp} {w : Wl} {Q : β → Hp → Prop} (R : Rel K T Γ O ρ σ G H w) (P : Post K T Γ O Wx ρ σ G H I (f ρ w) Q) : tG K T O Wx I f σ H Q := ⟨Γ, ρ, G, w, R, P⟩
theorem Post.ok {α β : Type} {K : PySem.W.Frag} {T : Tb} {Γ : Ctx} {O : List Nat} {Wx : WX} {I : IR β α} {ρ : Env} {σ : L2.St} {G H : Hp} {w : Wl} {Q : β → Hp → Prop} {d : α} {v : β} (P : Post K T Γ O Wx ρ σ G H I (.ok d w) Q) (R : Rel K T Γ O ρ σ G H w) (i : I K Γ.wl G v d) : Q v H := P v G H Stp.refl R i
/-- the same, an object laid -/
theorem Post.new {α : Type} {K : PySem.W.Frag} {T : Tb} {Γ : Ctx} {O : List Nat} {Wx : WX} {I : IR V α} {ρ : Env} {σ : L2.St} {G H : Hp} {w : Wl} {Q : V → Hp → Prop} {d : α} {p : Addr} {o : HO} (P : Post K T Γ O Wx ρ σ G H I (.ok d w) Q) (R : Rel K T Γ O ρ σ G H w) (hp : H p = none) (ho : NoTbl o)
    (i : I K Γ.wl (upd G p o) (.ref p) d) : Q (.ref p) (upd H p o) := P _ _ _ (Stp.new (R.h.gnone hp) hp) (R.alloc hp ho) i
end Q

namespace Q
open PySem PySem.Spec PyProof.Rows L2

/-! ## names, constants -/
def getV (ρ : Env) (i : Nat) : M D := match ρ[i]? with
  | some (some d) => M.pure d
  | _ => M.fail
section
variable {X : Cx} {T : Tb} {Γ : Ctx} {O : List Nat} {Wx : WX}
theorem de_var (i : Nat) {x : Str} {pos : Pos} (hO : i ∉ O := by decide) (hN : X.N[i]? = some x := by rfl) (hv : Vis X.env.scope x := by first | exact Or.inl rfl | exact Or.inr (Or.inl rfl) | exact Or.inr (Or.inr rfl)) (hd : (x == ("__debug__" : Str)) = false := by decide)
    (hcd : (x == ("__classdict__" : Str)) = false := by decide) : DE X T O Wx (.Name x pos) (fun ρ => getV ρ i) := by
  refine pe_imp (pv i hN hv hd hcd) fun σ H Q ⟨Γ, ρ, G, w, R, P⟩ => ?_
  have P' : Post X.K T Γ O Wx ρ σ G H IsV (getV ρ i w) Q := P
  unfold getV at P'
  cases e : ρ[i]? with
  | none => rw [e] at P'; exact False.elim P'
  | some o =>
    cases o with
    | none => rw [e] at P'; exact False.elim P'
    | some d =>
      rw [e] at P'
      obtain ⟨v, h1, h2⟩ := R.fro i d hO e
      exact ⟨v, h1, Post.ok P' R h2⟩
theorem de_const {e : Expr} {v : V} {d : D} (h : PE X e (tC v)) (hi : ∀ wl G, Is X.K wl G v d) : DE X T O Wx e (fun _ => M.pure d) :=
  pe_imp h fun σ H Q ⟨Γ, ρ, G, w, R, P⟩ => Post.ok P R (hi _ G)
theorem de_int {i : Int} {j : Nat} {pos : Pos} : DE X T O Wx (.Constant (.int i) j pos) (fun _ => M.pure (.int i)) := de_const pe_int fun _ _ => .int i
theorem de_bl {i : Bool} {j : Nat} {pos : Pos} : DE X T O Wx (.Constant (.bool i) j pos) (fun _ => M.pure (.bl i)) := de_const pe_bl fun _ _ => .bl i
theorem de_str {i : Str} {j : Nat} {pos : Pos} : DE X T O Wx (.Constant (.str i) j pos) (fun _ => M.pure (.str i)) := de_const pe_str fun _ _ => .str i
theorem de_non {j : Nat} {pos : Pos} : DE X T O Wx (.Constant .none j pos) (fun _ => M.pure .non) := de_const pe_non fun _ _ => .non
theorem de_glob {x : Str} {v : V} {u : Value} {d : D} {pos : Pos} (hm : X.mg x = some u) (r : RelV v u) (hi : ∀ wl G, Is X.K wl G v d) (hg : Gl X x := by rfl) (hd : (x == ("__debug__" : Str)) = false := by decide) : DE X T O Wx (.Name x pos) (fun _ => M.pure d) := de_const (pe_glob hg hm r hd) hi
theorem de_globI {x : Str} {i : Int} {pos : Pos} (hm : ∃ t, X.mg x = some (.int i t)) (hg : Gl X x := by rfl) (hd : (x == ("__debug__" : Str)) = false := by decide) : DE X T O Wx (.Name x pos) (fun _ => M.pure (.int i)) := by
  obtain ⟨t, hm⟩ := hm
  exact de_const (v := .int i) (pe_glob hg hm ⟨t, rfl⟩ hd) fun _ _ => .int i
theorem de_globS {x z : Str} {pos : Pos} (hm : ∃ t, X.mg x = some (.str z t)) (hg : Gl X x := by rfl) (hd : (x == ("__debug__" : Str)) = false := by decide) : DE X T O Wx (.Name x pos) (fun _ => M.pure (.str z)) := by
  obtain ⟨t, hm⟩ := hm
  exact de_const (v := .str z) (pe_glob hg hm ⟨t, rfl⟩ hd) fun _ _ => .str z
end

/-! ## two-place operations -/
abbrev OpSp (K : PySem.W.Frag) (T : Tb) (r : R2) (op : D → D → M D) : Prop :=
  ∀ (Γ : Ctx) (O : List Nat) (Wx : WX) (ρ : Env) (σ : L2.St) (G H : Hp) (w : Wl) (x y : V) (d e : D) (Q : VK), Rel K T Γ O ρ σ G H w → Is K Γ.wl G x d → Is K Γ.wl G y e → Post K T Γ O Wx ρ σ G H IsV (op d e w) Q → r x y H Q
def OpOk (X : Cx) (T : Tb) (f : Value → Value → Sem Value) (op : D → D → M D) : Prop := ∃ r : R2, OpR X f r ∧ OpSp X.K T r op
section
variable {X : Cx} {T : Tb} {Γ : Ctx} {O : List Nat} {Wx : WX} {a b : Expr} {fa fb : Env → M D} {pos : Pos}
def bin2 (op : D → D → M D) (fa fb : Env → M D) : Env → M D := fun ρ => M.bind (fa ρ) fun x => M.bind (fb ρ) fun y => op x y
theorem bin2_ok {op : D → D → M D} {r : R2} (hr : OpSp X.K T r op)
    (σ : L2.St) (H : Hp) (Q : VK) (h : tE X.K T O Wx (bin2 op fa fb) σ H Q) : tOp r (tE X.K T O Wx fa) (tE X.K T O Wx fb) σ H Q := by
  obtain ⟨Γ, ρ, G, w, R, P⟩ := h
  refine post_bind R P fun v d G1 H1 w1 x1 R1 i1 P1 => ?_
  refine post_bind R1 P1 fun v2 d2 G2 H2 w2 x2 R2 i2 P2 => ?_
  exact hr Γ O Wx ρ σ G2 H2 w2 v v2 d d2 Q R2 (i1.mono x2.x) i2 P2
theorem de_op {op : Operator} {g : D → D → M D} (ho : OpOk X T (binaryOp op) g) (ha : DE X T O Wx a fa) (hb : DE X T O Wx b fb) : DE X T O Wx (.BinOp a op b pos) (bin2 g fa fb) := by
  obtain ⟨r, h1, h2⟩ := ho
  exact pe_imp (pe_op h1 ha hb) (bin2_ok h2)
def asB : D → M Bool
  | .bl b => M.pure b
  | _ => M.fail
theorem asB_ok {ρ : Env} {σ : L2.St} {G H : Hp} {w : Wl} {v : V} {d : D} {Q : Bool → Hp → Prop} (R : Rel X.K T Γ O ρ σ G H w) (i : Is X.K Γ.wl G v d) (P : Post X.K T Γ O Wx ρ σ G H IsB (asB d w) Q) : ∃ k, v = .bl k ∧ Q k H := by
  cases i with
  | bl b => exact ⟨b, rfl, Post.ok P R rfl⟩
  | _ => exact False.elim P
theorem de_cmp {op : CmpOp} {g : D → D → M D} (ho : OpOk X T (compareOp op) g) (ha : DE X T O Wx a fa) (hb : DE X T O Wx b fb) (hm : behindInMarks op b = false := by first | exact nomark _ | rfl) : DE X T O Wx (.Compare a [op] [b] pos) (bin2 g fa fb) := by
  obtain ⟨r, h1, h2⟩ := ho
  exact pe_imp (pe_cmpR h1 ha hb hm) (bin2_ok h2)
def tst (f : Env → M D) : Env → M Bool := fun ρ => M.bind (f ρ) asB
theorem dt_of {e : Expr} {f : Env → M D} {t : TE} (hp : PT X e (tTest t)) (ht : ∀ σ H Q, tE X.K T O Wx f σ H Q → t σ H Q) : DT X T O Wx e (tst f) :=
  pt_imp hp fun σ H Q ⟨Γ, ρ, G, w, R, P⟩ => ht σ H _ (post_bind R P fun v d G1 H1 w1 x1 R1 i1 P1 => asB_ok R1 i1 P1)
theorem dt_cmp {op : CmpOp} {g : D → D → M D} (ho : OpOk X T (compareOp op) g) (ha : DE X T O Wx a fa) (hb : DE X T O Wx b fb) (hm : behindInMarks op b = false := by first | exact nomark _ | rfl) : DT X T O Wx (.Compare a [op] [b] pos) (tst (bin2 g fa fb)) := by
  obtain ⟨r, h1, h2⟩ := ho
  exact dt_of (pt_cmpR h1 ha hb hm) (bin2_ok h2)
end

/-! ## numbers, texts, tuples, lists: operators -/
def addD : D → D → M D
  | .int i, .int j => M.pure (.int (i + j))
  | .str x, .str y => if x.length + y.length ≤ sizeLine then M.pure (.str (x ++ y)) else M.fail
  | .tup xs, .tup ys => if xs.length + ys.length ≤ sizeLine then M.pure (.tup (xs ++ ys)) else M.fail
  | .lst xs, .lst ys => if xs.length + ys.length ≤ sizeLine then M.pure (.lst (xs ++ ys)) else M.fail
  | _, _ => M.fail
theorem noTup {xs : List V} : NoTbl (.tup xs) := fun _ z => nomatch z
theorem noLst {xs : List V} : NoTbl (.lst xs) := fun _ z => nomatch z
theorem ifP {α β : Type} {X : Cx} {T : Tb} {Γ : Ctx} {O : List Nat} {Wx : WX} {ρ : Env} {σ : L2.St} {G H : Hp} {I : IR β α} {c : Prop} [Decidable c] {m : M α} {w : Wl} {Q : β → Hp → Prop} (P : Post X.K T Γ O Wx ρ σ G H I ((if c then m else M.fail) w) Q) : c ∧ Post X.K T Γ O Wx ρ σ G H I (m w) Q := by
  by_cases h : c
  · rw [if_pos h] at P; exact ⟨h, P⟩
  · rw [if_neg h] at P; exact False.elim P
section
variable {X : Cx} {T : Tb}
theorem ok_add : OpOk X T (binaryOp .Add) addD := by
  refine ⟨_, (op_add.or op_add_str).or (op_catA.or op_cat), ?_⟩
  intro Γ O Wx ρ σ G H w x y d e Q R i1 i2 P
  cases i1 <;> cases i2 <;> first | exact False.elim P | skip
  case int.int i j => exact .inl (.inl ⟨i, j, rfl, rfl, Post.ok P R (.int _)⟩)
  case str.str x y =>
    obtain ⟨h, P⟩ := ifP P
    exact .inl (.inr ⟨x, y, rfl, rfl, h, Post.ok P R (.str _)⟩)
  case tup.tup a vs ds s1 l1 b us es s2 l2 =>
    obtain ⟨h, P⟩ := ifP P
    skip
    rw [← l1.length, ← l2.length] at h
    have s1' : SqT X.K H _ _ := R.h.sub.tq s1
    have s2' : SqT X.K H _ _ := R.h.sub.tq s2
    refine .inr (.inl ⟨a, b, vs, us, rfl, rfl, s1', s2', h, fun e => ?_, fun _ e => ?_, fun _ _ p hp => ?_⟩)
    · subst e; cases l1
      exact Post.ok P R (.tup s2 l2)
    · subst e; cases l2
      refine Post.ok P R (.tup (vs := vs) s1 ?_)
      rw [List.append_nil]; exact l1
    · exact Post.new P R hp noTup (.tup (vs := vs ++ us) upd_same ((l1.mono (hx_upd (R.h.gnone hp))).append (l2.mono (hx_upd (R.h.gnone hp)))))
  case lst.lst a vs ds s1 l1 b us es s2 l2 =>
    obtain ⟨h, P⟩ := ifP P
    rw [← l1.length, ← l2.length] at h
    refine .inr (.inr ⟨a, b, vs, us, rfl, rfl, R.h.sub _ _ s1, R.h.sub _ _ s2, h, fun p hp => ?_⟩)
    exact Post.new P R hp noLst (.lst (vs := vs ++ us) upd_same ((l1.mono (hx_upd (R.h.gnone hp))).append (l2.mono (hx_upd (R.h.gnone hp)))))
def subD : D → D → M D
  | .int i, .int j => M.pure (.int (i - j))
  | _, _ => M.fail
theorem ok_sub : OpOk X T (binaryOp .Sub) subD := by
  refine ⟨_, op_sub, fun Γ O Wx ρ σ G H w x y d e Q R i1 i2 P => ?_⟩
  cases i1 <;> cases i2 <;> first | exact False.elim P | skip
  case int.int i j => exact ⟨i, j, rfl, rfl, Post.ok P R (.int _)⟩
instance (i j : Int) : Decidable (CMul i j) := by unfold CMul; infer_instance
instance (i j : Int) : Decidable (CDiv i j) := by unfold CDiv; infer_instance
instance (i j : Int) : Decidable (CPow i j) := by unfold CPow; infer_instance
def mulD : D → D → M D
  | .int i, .int j => if CMul i j then M.pure (.int (i * j)) else M.fail
  | .lst xs, .int k => if -(2 ^ 63) ≤ k ∧ k < 2 ^ 63 ∧ xs.length * k.toNat ≤ sizeLine then M.pure (.lst (List.replicate k.toNat xs).flatten) else M.fail
  | _, _ => M.fail
theorem IsL.rep {K : PySem.W.Frag} {wl : Option Addr} {G : Hp} {vs : List V} {ds : List D} (h : IsL K wl G vs ds) : ∀ k : Nat, IsL K wl G (List.replicate k vs).flatten (List.replicate k ds).flatten
  | 0 => .nil
  | k + 1 => by
    rw [List.replicate_succ, List.replicate_succ, List.flatten_cons, List.flatten_cons]
    exact h.append (IsL.rep h k)
theorem ok_mul : OpOk X T (binaryOp .Mult) mulD := by
  refine ⟨_, op_mul.or op_rep, fun Γ O Wx ρ σ G H w x y d e Q R i1 i2 P => ?_⟩
  cases i1 <;> cases i2 <;> first | exact False.elim P | skip
  case int.int i j =>
    obtain ⟨h, P⟩ := ifP P
    exact .inl ⟨i, j, rfl, rfl, h, Post.ok P R (.int _)⟩
  case lst.int a vs ds s1 l1 k =>
    obtain ⟨⟨h1, h2, h3⟩, P⟩ := ifP P
    refine .inr ⟨a, k, vs, rfl, rfl, R.h.sub _ _ s1, h1, h2, by rw [l1.length]; exact h3, fun p hp => ?_⟩
    exact Post.new P R hp noLst (.lst (vs := (List.replicate k.toNat vs).flatten) upd_same ((l1.mono (hx_upd (R.h.gnone hp))).rep _))
def modD : D → D → M D
  | .int i, .int j => if 0 < j then M.pure (.int (i % j)) else M.fail
  | _, _ => M.fail
theorem ok_mod : OpOk X T (binaryOp .Mod) modD := by
  refine ⟨_, op_mod, fun Γ O Wx ρ σ G H w x y d e Q R i1 i2 P => ?_⟩
  cases i1 <;> cases i2 <;> first | exact False.elim P | skip
  case int.int i j =>
    obtain ⟨h, P⟩ := ifP P
    exact ⟨i, j, rfl, rfl, h, Post.ok P R (.int _)⟩
def divD : D → D → M D
  | .int i, .int j => if CDiv i j then M.pure (.int (i / j)) else M.fail
  | _, _ => M.fail
theorem ok_div : OpOk X T (binaryOp .FloorDiv) divD := by
  refine ⟨_, op_fdiv, fun Γ O Wx ρ σ G H w x y d e Q R i1 i2 P => ?_⟩
  cases i1 <;> cases i2 <;> first | exact False.elim P | skip
  case int.int i j =>
    obtain ⟨h, P⟩ := ifP P
    exact ⟨i, j, rfl, rfl, h, Post.ok P R (.int _)⟩
def powD : D → D → M D
  | .int i, .int j => if CPow i j then M.pure (.int (i ^ j.toNat)) else M.fail
  | _, _ => M.fail
theorem ok_pow : OpOk X T (binaryOp .Pow) powD := by
  refine ⟨_, op_pow, fun Γ O Wx ρ σ G H w x y d e Q R i1 i2 P => ?_⟩
  cases i1 <;> cases i2 <;> first | exact False.elim P | skip
  case int.int i j =>
    obtain ⟨h, P⟩ := ifP P
    exact ⟨i, j, rfl, rfl, h, Post.ok P R (.int _)⟩

/-! ## comparisons -/
def ltD : D → D → M D
  | .int i, .int j => M.pure (.bl (decide (i < j)))
  | .str i, .str j => M.pure (.bl (decide (i.cps.toList < j.cps.toList)))
  | _, _ => M.fail
theorem ok_lt : OpOk X T (compareOp .Lt) ltD := by
  refine ⟨_, op_lt.or op_lt_str, fun Γ O Wx ρ σ G H w x y d e Q R i1 i2 P => ?_⟩
  cases i1 <;> cases i2 <;> first | exact False.elim P | skip
  case int.int i j => exact .inl ⟨i, j, rfl, rfl, Post.ok P R (.bl _)⟩
  case str.str i j => exact .inr ⟨i, j, rfl, rfl, Post.ok P R (.bl _)⟩
def leD : D → D → M D
  | .int i, .int j => M.pure (.bl (decide (i ≤ j)))
  | _, _ => M.fail
theorem ok_le : OpOk X T (compareOp .LtE) leD := by
  refine ⟨_, op_le, fun Γ O Wx ρ σ G H w x y d e Q R i1 i2 P => ?_⟩
  cases i1 <;> cases i2 <;> first | exact False.elim P | skip
  case int.int i j => exact ⟨i, j, rfl, rfl, Post.ok P R (.bl _)⟩
def gtD : D → D → M D
  | .int i, .int j => M.pure (.bl (decide (j < i)))
  | _, _ => M.fail
theorem ok_gt : OpOk X T (compareOp .Gt) gtD := by
  refine ⟨_, op_gt, fun Γ O Wx ρ σ G H w x y d e Q R i1 i2 P => ?_⟩
  cases i1 <;> cases i2 <;> first | exact False.elim P | skip
  case int.int i j => exact ⟨i, j, rfl, rfl, Post.ok P R (.bl _)⟩
def geD : D → D → M D
  | .int i, .int j => M.pure (.bl (decide (j ≤ i)))
  | _, _ => M.fail
theorem ok_ge : OpOk X T (compareOp .GtE) geD := by
  refine ⟨_, op_ge, fun Γ O Wx ρ σ G H w x y d e Q R i1 i2 P => ?_⟩
  cases i1 <;> cases i2 <;> first | exact False.elim P | skip
  case int.int i j => exact ⟨i, j, rfl, rfl, Post.ok P R (.bl _)⟩
def D.isNon : D → Bool
  | .non => true
  | _ => false
def isND : D → D → M D
  | d, .non => M.pure (.bl d.isNon)
  | _, _ => M.fail
def notND : D → D → M D
  | d, .non => M.pure (.bl (!d.isNon))
  | _, _ => M.fail
theorem Is.isNon {K : PySem.W.Frag} {wl : Option Addr} {G : Hp} {v : V} {d : D} (h : Is K wl G v d) : decide (v = .non) = d.isNon := by
  cases h <;> first | rfl | exact decide_eq_false (fun z => nomatch z)
theorem ok_is : OpOk X T (compareOp .Is) isND := by
  refine ⟨_, op_isN, fun Γ O Wx ρ σ G H w x y d e Q R i1 i2 P => ?_⟩
  cases i2 <;> first | exact False.elim P | skip
  exact ⟨rfl, by rw [i1.isNon]; exact Post.ok P R (.bl _)⟩
theorem ok_isnot : OpOk X T (compareOp .IsNot) notND := by
  refine ⟨_, op_notN, fun Γ O Wx ρ σ G H w x y d e Q R i1 i2 P => ?_⟩
  cases i2 <;> first | exact False.elim P | skip
  exact ⟨rfl, by rw [i1.isNon]; exact Post.ok P R (.bl _)⟩

/-! ## data of the library -/
end
mutual
def D.py : D → PyData
  | .non => .none
  | .bl b => .bool b
  | .int i => .int i
  | .str s => .str s
  | .tup xs => .tuple (D.pyL xs)
  | .lst xs => .list (D.pyL xs)
  | .scr xs => .list (D.pyL xs)
  | .ktp xs => .tuple (D.pyL xs)
  | .dct _ _ => .none
  | .set _ => .none
  | .fn _ => .none
  | .well => .none
def D.pyL : List D → List PyData
  | [] => []
  | x :: xs => D.py x :: D.pyL xs
end
mutual
def D.pyOk : D → Bool
  | .non => true
  | .bl _ => true
  | .int _ => true
  | .str _ => true
  | .tup xs => D.pyOkL xs
  | .lst xs => D.pyOkL xs
  | .scr xs => D.pyOkL xs
  | .ktp xs => D.pyOkL xs
  | .dct _ _ => false
  | .set _ => false
  | .fn _ => false
  | .well => false
def D.pyOkL : List D → Bool
  | [] => true
  | x :: xs => D.pyOk x && D.pyOkL xs
end
section
variable {K : PySem.W.Frag} {wl : Option Addr} {G H : Hp}
mutual
theorem Is.dp (e : Hx G H) : ∀ {v : V} {d : D}, Is K wl G v d → d.pyOk = true → Dp K H v d.py
  | _, _, .non, _ => by simp only [D.py]; exact .non
  | _, _, .bl b, _ => by simp only [D.py]; exact .bl b
  | _, _, .int i, _ => by simp only [D.py]; exact .int i
  | _, _, .str s, _ => by simp only [D.py]; exact .str s
  | _, _, .tup h hl, z => by
    simp only [D.py]
    exact .tup (e.tq h) (IsL.dp e hl (by simpa only [D.pyOk] using z))
  | _, _, .lst h hl, z => by
    simp only [D.py]
    exact .lst (.inl (.inl (e _ _ h))) (IsL.dp e hl (by simpa only [D.pyOk] using z))
  | _, _, .scr h hl, z => by
    simp only [D.py]
    exact .lst (e.sqL h) (IsL.dp e hl (by simpa only [D.pyOk] using z))
  | _, _, .ktp h hl, z => by
    simp only [D.py]
    exact .tup (e.sqT h) (IsL.dp e hl (by simpa only [D.pyOk] using z))
  | _, _, .dK _ _ _, z => by simp only [D.pyOk] at z; cases z
  | _, _, .dT _ _ _, z => by simp only [D.pyOk] at z; cases z
  | _, _, .well h, z => by simp only [D.pyOk] at z; cases z
theorem IsL.dp (e : Hx G H) : ∀ {vs : List V} {ds : List D}, IsL K wl G vs ds → D.pyOkL ds = true → DpAll K H vs (D.pyL ds)
  | _, _, .nil, _ => by simp only [D.pyL]; exact .nil
  | _, _, .cons h hl, z => by
    simp only [D.pyOkL, Bool.and_eq_true] at z
    simp only [D.pyL]
    exact .cons (Is.dp e h z.1) (IsL.dp e hl z.2)
end
end
def shOk (d : D) : Bool := d.pyOk && SeqAt.shaped d.py
def eqvD (d e : D) : Bool := PyData.eqv d.py e.py
def eqD : D → D → M D
  | .str a, .str b => M.pure (.bl (decide (a = b)))
  | d, e => if shOk d = true ∧ shOk e = true then M.pure (.bl (eqvD d e)) else M.fail
def neD : D → D → M D
  | .str a, .str b => M.pure (.bl (!decide (a = b)))
  | d, e => if shOk d = true ∧ shOk e = true then M.pure (.bl (!eqvD d e)) else M.fail
section
variable {X : Cx} {T : Tb}
theorem shOk_of {d : D} (h : shOk d = true) : d.pyOk = true ∧ SeqAt.shaped d.py = true := Bool.and_eq_true_iff.mp h
theorem str_or (d e : D) : (∃ a b, d = .str a ∧ e = .str b) ∨ (eqD d e = (if shOk d = true ∧ shOk e = true then M.pure (.bl (eqvD d e)) else M.fail) ∧ neD d e = (if shOk d = true ∧ shOk e = true then M.pure (.bl (!eqvD d e)) else M.fail)) := by
  cases d <;> cases e <;> first | exact .inr ⟨rfl, rfl⟩ | exact .inl ⟨_, _, rfl, rfl⟩
theorem dec_str (a b : Str) : decide (V.str a = V.str b) = decide (a = b) := by simp
theorem ok_eq (hu : X.A.units + 64 < cLine) : OpOk X T (compareOp .Eq) eqD := by
  refine ⟨_, op_eq.or (op_eqD hu), fun Γ O Wx ρ σ G H w x y d e Q R i1 i2 P => ?_⟩
  rcases str_or d e with ⟨a, b, rfl, rfl⟩ | ⟨z, _⟩
  · cases i1; cases i2
    exact .inl ⟨rfl, by rw [dec_str]; exact Post.ok P R (.bl _)⟩
  · rw [z] at P
    obtain ⟨⟨h1, h2⟩, P⟩ := ifP P
    exact .inr ⟨_, _, i1.dp R.h.sub (shOk_of h1).1, i2.dp R.h.sub (shOk_of h2).1, (shOk_of h1).2, (shOk_of h2).2, Post.ok P R (.bl _)⟩
theorem ok_ne (hu : X.A.units + 64 < cLine) : OpOk X T (compareOp .NotEq) neD := by
  refine ⟨_, op_ne.or (op_neD hu), fun Γ O Wx ρ σ G H w x y d e Q R i1 i2 P => ?_⟩
  rcases str_or d e with ⟨a, b, rfl, rfl⟩ | ⟨_, z⟩
  · cases i1; cases i2
    exact .inl ⟨rfl, by rw [dec_str]; exact Post.ok P R (.bl _)⟩
  · rw [z] at P
    obtain ⟨⟨h1, h2⟩, P⟩ := ifP P
    exact .inr ⟨_, _, i1.dp R.h.sub (shOk_of h1).1, i2.dp R.h.sub (shOk_of h2).1, (shOk_of h1).2, (shOk_of h2).2, Post.ok P R (.bl _)⟩
end
end Q

namespace Q
open PySem PySem.Spec PyProof.Rows L2
section
variable {X : Cx} {T : Tb} {Γ : Ctx} {O : List Nat} {Wx : WX} {a b c : Expr} {rest : List Expr} {fa fb : Env → M D} {ga gb gc : Env → M Bool} {pos : Pos}

/-! ## tests -/
def DW (X : Cx) (T : Tb) (O : List Nat) (Wx : WX) (e : Expr) (f : Env → M Bool) : Prop := PW X e (tT X.K T O Wx f)
theorem dt_w {f : Env → M Bool} (h : DW X T O Wx a f) : DT X T O Wx a f := PW.pt h
theorem dw_and1 (ha : DT X T O Wx a ga) : DW X T O Wx (.BoolOp .And [a] pos) ga := pw_and1 ha
theorem dw_or1 (ha : DT X T O Wx a ga) : DW X T O Wx (.BoolOp .Or [a] pos) ga := pw_or1 ha
def andT (ga gb : Env → M Bool) : Env → M Bool := fun ρ => M.bind (ga ρ) fun c => if c = true then gb ρ else M.pure false
def orT (ga gb : Env → M Bool) : Env → M Bool := fun ρ => M.bind (ga ρ) fun c => if c = true then M.pure true else gb ρ
def notT (ga : Env → M Bool) : Env → M Bool := fun ρ => M.bind (ga ρ) fun c => M.pure (!c)
theorem dw_and (ha : DT X T O Wx a ga) (hb : DW X T O Wx (.BoolOp .And (b :: rest) pos) gb) : DW X T O Wx (.BoolOp .And (a :: b :: rest) pos) (andT ga gb) :=
  pw_imp (pw_and ha hb) fun σ H Q ⟨Γ, ρ, G, w, R, P⟩ => post_bind R P fun v d G1 H1 w1 x1 R1 i1 P1 => by
    obtain rfl : v = d := i1
    cases v with
    | true => exact ⟨Γ, ρ, G1, w1, R1, P1⟩
    | false => exact Post.ok P1 R1 rfl
theorem dw_or (ha : DT X T O Wx a ga) (hb : DW X T O Wx (.BoolOp .Or (b :: rest) pos) gb) : DW X T O Wx (.BoolOp .Or (a :: b :: rest) pos) (orT ga gb) :=
  pw_imp (pw_or ha hb) fun σ H Q ⟨Γ, ρ, G, w, R, P⟩ => post_bind R P fun v d G1 H1 w1 x1 R1 i1 P1 => by
    obtain rfl : v = d := i1
    cases v with
    | true => exact Post.ok P1 R1 rfl
    | false => exact ⟨Γ, ρ, G1, w1, R1, P1⟩
theorem dt_not (ha : DT X T O Wx a ga) : DT X T O Wx (.UnaryOp .Not a pos) (notT ga) :=
  pt_imp (pt_not ha) fun σ H Q ⟨Γ, ρ, G, w, R, P⟩ => post_bind R P fun v d G1 H1 w1 x1 R1 i1 P1 => by
    obtain rfl : v = d := i1
    exact Post.ok P1 R1 rfl
/-- a value's truth -/
def truD : D → M Bool
  | .non => M.pure false
  | .bl b => M.pure b
  | .int i => M.pure (i != 0)
  | .str s => if s.length ≤ sizeLine then M.pure ((s.length : Int) != 0) else M.fail
  | .tup xs => M.pure (!xs.isEmpty)
  | .lst xs => M.pure (!xs.isEmpty)
  | .scr xs => M.pure (!xs.isEmpty)
  | _ => M.fail
theorem IsL.empty {K : PySem.W.Frag} {wl : Option Addr} {G : Hp} {vs : List V} {ds : List D} (h : IsL K wl G vs ds) : vs.isEmpty = ds.isEmpty := by
  cases h <;> rfl
theorem truD_ok {ρ : Env} {σ : L2.St} {G H : Hp} {w : Wl} {v : V} {d : D} {Q : Bool → Hp → Prop} (R : Rel X.K T Γ O ρ σ G H w) (i : Is X.K Γ.wl G v d) (P : Post X.K T Γ O Wx ρ σ G H IsB (truD d w) Q) : ∃ k, TruV X.K v H k ∧ Q k H := by
  cases i with
  | non => exact ⟨false, rfl, Post.ok P R rfl⟩
  | bl b => exact ⟨b, rfl, Post.ok P R rfl⟩
  | int i => exact ⟨_, rfl, Post.ok P R rfl⟩
  | str s =>
    obtain ⟨h, P⟩ := ifP P
    exact ⟨_, ⟨h, rfl⟩, Post.ok P R rfl⟩
  | tup s l =>
    skip
    exact ⟨_, .inr (.inl ⟨_, R.h.sub.tq s, rfl⟩), Post.ok P R (by rw [l.empty])⟩
  | lst s l => exact ⟨_, .inl ⟨_, SqL.of (R.h.sub _ _ s), rfl⟩, Post.ok P R (by rw [l.empty])⟩
  | scr s l =>
    skip
    exact ⟨_, .inl ⟨_, R.h.sub.sqL s, rfl⟩, Post.ok P R (by rw [l.empty])⟩
  | _ => exact False.elim P
def truT (fa : Env → M D) : Env → M Bool := fun ρ => M.bind (fa ρ) truD
theorem dt_tru (ha : DE X T O Wx a fa) (he : ∀ whole, isTrue a X.env whole = (do let v ← whole; standAt a.pos; holding [v] (truthy v)) := by intro _; rfl) : DT X T O Wx a (truT fa) :=
  pt_imp (pt_truth ha he) fun σ H Q ⟨Γ, ρ, G, w, R, P⟩ => post_bind R P fun v d G1 H1 w1 x1 R1 i1 P1 => truD_ok R1 i1 P1
/-! ## and, or, not, if as values -/
theorem de_one {op : BoolOp} {f : Env → M D} (h : DE X T O Wx a f) : DE X T O Wx (.BoolOp op [a] pos) f := pe_one h
def andE (fa fb : Env → M D) : Env → M D := fun ρ => M.bind (fa ρ) fun x => M.bind (asB x) fun c => if c = true then fb ρ else M.pure (.bl false)
def orE (fa fb : Env → M D) : Env → M D := fun ρ => M.bind (fa ρ) fun x => M.bind (asB x) fun c => if c = true then M.pure (.bl true) else fb ρ
def notE (fa : Env → M D) : Env → M D := fun ρ => M.bind (fa ρ) fun x => M.bind (asB x) fun c => M.pure (.bl (!c))
theorem asB_bind {α β : Type} {ρ : Env} {σ : L2.St} {G H : Hp} {w : Wl} {v : V} {d : D} {I : IR β α} {k : Bool → M α} {Q : β → Hp → Prop} (i : Is X.K Γ.wl G v d) (P : Post X.K T Γ O Wx ρ σ G H I (M.bind (asB d) k w) Q) : ∃ c, v = .bl c ∧ Post X.K T Γ O Wx ρ σ G H I (k c w) Q := by
  cases i with
  | bl b => exact ⟨b, rfl, P⟩
  | _ => exact False.elim P
theorem de_and (ha : DE X T O Wx a fa) (hb : DE X T O Wx (.BoolOp .And (b :: rest) pos) fb) : DE X T O Wx (.BoolOp .And (a :: b :: rest) pos) (andE fa fb) :=
  pe_imp (pe_and ha hb) fun σ H Q ⟨Γ, ρ, G, w, R, P⟩ => post_bind R P fun v d G1 H1 w1 x1 R1 i1 P1 => by
    obtain ⟨c, e, P2⟩ := asB_bind i1 P1
    refine ⟨c, e, ?_⟩
    cases c with
    | true => exact ⟨Γ, ρ, G1, w1, R1, P2⟩
    | false => exact Post.ok P2 R1 (.bl _)
theorem de_or (ha : DE X T O Wx a fa) (hb : DE X T O Wx (.BoolOp .Or (b :: rest) pos) fb) : DE X T O Wx (.BoolOp .Or (a :: b :: rest) pos) (orE fa fb) :=
  pe_imp (pe_or ha hb) fun σ H Q ⟨Γ, ρ, G, w, R, P⟩ => post_bind R P fun v d G1 H1 w1 x1 R1 i1 P1 => by
    obtain ⟨c, e, P2⟩ := asB_bind i1 P1
    refine ⟨c, e, ?_⟩
    cases c with
    | true => exact Post.ok P2 R1 (.bl _)
    | false => exact ⟨Γ, ρ, G1, w1, R1, P2⟩
theorem de_not (ha : DE X T O Wx a fa) : DE X T O Wx (.UnaryOp .Not a pos) (notE fa) :=
  pe_imp (pe_not ha) fun σ H Q ⟨Γ, ρ, G, w, R, P⟩ => post_bind R P fun v d G1 H1 w1 x1 R1 i1 P1 => by
    obtain ⟨c, e, P2⟩ := asB_bind i1 P1
    exact ⟨c, e, Post.ok P2 R1 (.bl _)⟩
def ifE {α : Type} (gc : Env → M Bool) (fa fb : Env → M α) : Env → M α := fun ρ => M.bind (gc ρ) fun c => if c = true then fa ρ else fb ρ
theorem de_if (hc : DT X T O Wx c gc) (ha : DE X T O Wx a fa) (hb : DE X T O Wx b fb) : DE X T O Wx (.IfExp c a b pos) (ifE gc fa fb) :=
  pe_imp (pe_ifExp hc ha hb) fun σ H Q ⟨Γ, ρ, G, w, R, P⟩ => post_bind R P fun v d G1 H1 w1 x1 R1 i1 P1 => by
    obtain rfl : v = d := i1
    cases v with
    | true => exact ⟨Γ, ρ, G1, w1, R1, P1⟩
    | false => exact ⟨Γ, ρ, G1, w1, R1, P1⟩
/-! ## arguments, displays -/
def nilA : Env → M (List D) := fun _ => M.pure []
def consA (fa : Env → M D) (fr : Env → M (List D)) : Env → M (List D) := fun ρ => M.bind (fa ρ) fun x => M.bind (fr ρ) fun xs => M.pure (x :: xs)
theorem da_nil : DA X T O Wx [] nilA := pa_imp pa_nil fun σ H Q ⟨Γ, ρ, G, w, R, P⟩ => Post.ok P R .nil
theorem da_cons {fr : Env → M (List D)} (ha : DE X T O Wx a fa) (hr : DA X T O Wx rest fr) (hs : starEach (a :: rest) X.env = (false, eval a X.env) :: starEach rest X.env := by rfl) : DA X T O Wx (a :: rest) (consA fa fr) :=
  pa_imp (pa_cons ha hr hs) fun σ H Q ⟨Γ, ρ, G, w, R, P⟩ => post_bind R P fun v d G1 H1 w1 x1 R1 i1 P1 => post_bind R1 P1 fun vs ds G2 H2 w2 x2 R2 i2 P2 =>
    Post.ok P2 R2 (.cons (i1.mono x2.x) i2)
def mkTup (xs : List D) : M D := if xs.length ≤ sizeLine then M.pure (.tup xs) else M.fail
def mkLst (xs : List D) : M D := if xs.length ≤ sizeLine then M.pure (.lst xs) else M.fail
def tupE (fr : Env → M (List D)) : Env → M D := fun ρ => M.bind (fr ρ) mkTup
def lstE (fr : Env → M (List D)) : Env → M D := fun ρ => M.bind (fr ρ) mkLst
theorem de_tup {x1 : Nat} {fr : Env → M (List D)} (h : DA X T O Wx rest fr) : DE X T O Wx (.Tuple rest x1 pos) (tupE fr) :=
  pe_imp (pe_tup h) fun σ H Q ⟨Γ, ρ, G, w, R, P⟩ => post_bind R P fun v d G1 H1 w1 x1 R1 i1 P1 => by
    obtain ⟨h, P2⟩ := ifP P1
    exact ⟨by rw [i1.length]; exact h, fun p hp => Post.new P2 R1 hp noTup (.tup upd_same (i1.mono (hx_upd (R1.h.gnone hp))))⟩
theorem de_lst {fr : Env → M (List D)} (h : DA X T O Wx rest fr) : DE X T O Wx (.List rest pos) (lstE fr) :=
  pe_imp (pe_lst h) fun σ H Q ⟨Γ, ρ, G, w, R, P⟩ => post_bind R P fun v d G1 H1 w1 x1 R1 i1 P1 => by
    obtain ⟨h, P2⟩ := ifP P1
    exact ⟨by rw [i1.length]; exact h, fun p hp => Post.new P2 R1 hp noLst (.lst upd_same (i1.mono (hx_upd (R1.h.gnone hp))))⟩
def negD : D → M D
  | .int i => M.pure (.int (-i))
  | _ => M.fail
theorem de_neg (ha : DE X T O Wx a fa) : DE X T O Wx (.UnaryOp .USub a pos) (fun ρ => M.bind (fa ρ) negD) :=
  pe_imp (pe_un un_neg ha) fun σ H Q ⟨Γ, ρ, G, w, R, P⟩ => post_bind R P fun v d G1 H1 w1 x1 R1 i1 P1 => by
    cases i1 with
    | int i => exact ⟨i, rfl, Post.ok P1 R1 (.int _)⟩
    | _ => exact False.elim P1
/-! ## chains -/
def chainE (op op' : D → D → M D) (fa fb fc : Env → M D) : Env → M D := fun ρ => M.bind (fa ρ) fun x => M.bind (fb ρ) fun y => M.bind (op x y) fun z => M.bind (asB z) fun k => if k = true then M.bind (fc ρ) fun u => op' y u else M.pure (.bl false)
theorem chain_ok {r r' : R2} {op op' : D → D → M D} {fc : Env → M D} (h : OpSp X.K T r op) (h' : OpSp X.K T r' op') (σ : L2.St) (H : Hp) (Q : VK) : tE X.K T O Wx (chainE op op' fa fb fc) σ H Q → tChain r r' (tE X.K T O Wx fa) (tE X.K T O Wx fb) (tE X.K T O Wx fc) σ H Q :=
  fun ⟨Γ, ρ, G, w, R, P⟩ => post_bind R P fun x d G1 H1 w1 x1 R1 i1 P1 => post_bind R1 P1 fun y e G2 H2 w2 x2 R2 i2 P2 => by
    refine h Γ O Wx ρ σ G2 H2 w2 x y d e _ R2 (i1.mono x2.x) i2 ?_
    simp only [M.bind] at P2
    cases q : op d e w2 with
    | fail => rw [q] at P2; exact P2
    | exc c p w' => rw [q] at P2; exact P2
    | ok z w3 =>
      rw [q] at P2
      intro v G3 H3 x3 R3 i3
      cases i3 with
      | bl k =>
        refine ⟨k, rfl, ?_⟩
        cases k with
        | false => exact P2 _ _ _ x3 R3 (.bl _)
        | true =>
          have P3 : Post X.K T Γ O Wx ρ σ G2 H2 IsV (M.bind (fc ρ) (fun u => op' e u) w3) Q := P2
          have P4 : Post X.K T Γ O Wx ρ σ G3 H3 IsV (M.bind (fc ρ) (fun u => op' e u) w3) Q := by
            cases q2 : M.bind (fc ρ) (fun u => op' e u) w3 with
            | fail => rw [q2] at P3; exact P3
            | exc c p w' => rw [q2] at P3; exact fun cls dd G' H' h1 => P3 cls dd G' H' (x3.trans h1)
            | ok d2 w' => rw [q2] at P3; exact fun v G' H' h1 => P3 v G' H' (x3.trans h1)
          exact post_bind R3 P4 fun u f G4 H4 w4 x4 R4 i4 P5 => h' Γ O Wx ρ σ G4 H4 w4 y u e f _ R4 (i2.mono (x3.trans x4).x) i4 P5
      | _ => exact False.elim P2
theorem de_chain {op op' : CmpOp} {g g' : D → D → M D} {fc : Env → M D} (ho : OpOk X T (compareOp op) g) (ho' : OpOk X T (compareOp op') g') (ha : DE X T O Wx a fa) (hb : DE X T O Wx b fb) (hc : DE X T O Wx c fc)
    (hm : lastMarks [op, op'] [b, c] = false := by with_unfolding_all rfl) : DE X T O Wx (.Compare a [op, op'] [b, c] pos) (chainE g g' fa fb fc) := by
  obtain ⟨r, h1, h2⟩ := ho
  obtain ⟨r', h1', h2'⟩ := ho'
  exact pe_imp (pe_chain h1 h1' ha hb hc hm) (chain_ok h2 h2')
theorem dt_chain {op op' : CmpOp} {g g' : D → D → M D} {fc : Env → M D} (ho : OpOk X T (compareOp op) g) (ho' : OpOk X T (compareOp op') g') (ha : DE X T O Wx a fa) (hb : DE X T O Wx b fb) (hc : DE X T O Wx c fc)
    (hm : lastMarks [op, op'] [b, c] = false := by with_unfolding_all rfl) : DT X T O Wx (.Compare a [op, op'] [b, c] pos) (tst (chainE g g' fa fb fc)) := by
  obtain ⟨r, h1, h2⟩ := ho
  obtain ⟨r', h1', h2'⟩ := ho'
  exact dt_of (pt_chain h1 h1' ha hb hc hm) (chain_ok h2 h2')
/-! ## subscripts -/
def chr1 (c : Nat) : D := .str ⟨#[c]⟩
def lkp (kvs : List (D × D)) (p : D → Bool) : Option D := (kvs.find? fun kv => p kv.1).map (·.2)
def keyOf : D → Option Key
  | .int i => some (.inl i)
  | .str s => some (.inr s)
  | _ => none
def keysOf : List D → Option (List Key)
  | [] => some []
  | d :: ds => match keyOf d, keysOf ds with
    | some k, some ks => some (k :: ks)
    | _, _ => none
def ixD : D → D → M D
  | .lst xs, .int i => match atI xs i with
    | some d => M.pure d
    | none => M.fail
  | .tup xs, .int i => match atI xs i with
    | some d => M.pure d
    | none => M.fail
  | .scr xs, .int i => match atI xs i with
    | some d => M.pure d
    | none => M.fail
  | .str s, .int i => if s.length ≤ sizeLine then (match atI s.cps.toList i with
    | some c => M.pure (chr1 c)
    | none => M.fail) else M.fail
  | _, _ => M.fail
theorem IsL.atI {K : PySem.W.Frag} {wl : Option Addr} {G : Hp} {vs : List V} {ds : List D} (h : IsL K wl G vs ds) {i : Int} {d : D} (e : L2.atI ds i = some d) : ∃ v, L2.atI vs i = some v ∧ Is K wl G v d := by
  unfold L2.atI at e ⊢
  rw [h.length]
  cases q : ixN ds.length i with
  | none => rw [q] at e; cases e
  | some j =>
    rw [q] at e
    exact h.get e
theorem de_ix (ha : DE X T O Wx a fa) (hb : DE X T O Wx b fb) (hs : PlainIx b := by exact fun _ _ => rfl) : DE X T O Wx (.Subscript a b pos) (bin2 ixD fa fb) := by
  refine pe_imp (pe_ix ix_seq ha hb hs) (bin2_ok fun Γ O Wx ρ σ G H w x y d e Q R i1 i2 P => ?_)
  cases i1 <;> cases i2 <;> first | exact False.elim P | skip
  case tup.int a vs ds s l i =>
    skip
    have P' : Post X.K T Γ O Wx ρ σ G H IsV (ixD (.tup ds) (.int i) w) Q := P
    unfold ixD at P'
    cases e : L2.atI ds i with
    | none => simp only [e] at P'; exact False.elim P'
    | some d =>
      simp only [e] at P'
      obtain ⟨v, h1, h2⟩ := l.atI e
      exact .inr (.inl ⟨a, vs, i, v, rfl, rfl, R.h.sub.tq s, h1, Post.ok P' R h2⟩)
  case lst.int a vs ds s l i =>
    have P' : Post X.K T Γ O Wx ρ σ G H IsV (ixD (.lst ds) (.int i) w) Q := P
    unfold ixD at P'
    cases e : L2.atI ds i with
    | none => simp only [e] at P'; exact False.elim P'
    | some d =>
      simp only [e] at P'
      obtain ⟨v, h1, h2⟩ := l.atI e
      exact .inl ⟨a, vs, i, v, rfl, rfl, SqL.of (R.h.sub _ _ s), h1, Post.ok P' R h2⟩
  case scr.int a vs ds s l i =>
    skip
    have P' : Post X.K T Γ O Wx ρ σ G H IsV (ixD (.scr ds) (.int i) w) Q := P
    unfold ixD at P'
    cases e : L2.atI ds i with
    | none => simp only [e] at P'; exact False.elim P'
    | some d =>
      simp only [e] at P'
      obtain ⟨v, h1, h2⟩ := l.atI e
      exact .inl ⟨a, vs, i, v, rfl, rfl, R.h.sub.sqL s, h1, Post.ok P' R h2⟩
  case str.int s i =>
    have P' : Post X.K T Γ O Wx ρ σ G H IsV (ixD (.str s) (.int i) w) Q := P
    unfold ixD at P'
    obtain ⟨hl, P'⟩ := ifP P'
    cases e : L2.atI s.cps.toList i with
    | none => simp only [e] at P'; exact False.elim P'
    | some c =>
      simp only [e] at P'
      exact .inr (.inr ⟨s, i, c, rfl, rfl, hl, e, Post.ok P' R (.str _)⟩)
end
end Q

namespace Q
open PySem PySem.Spec PyProof.Rows L2
open Classical in
/-- the view widened by the objects of some owned names -/
noncomputable def thawG (O O1 : List Nat) (ρ : Env) (σ : L2.St) (G H : Hp) : Hp := fun a => match G a with
  | some o => some o
  | none => if ∃ i d, i ∈ O ∧ i ∉ O1 ∧ ρ[i]? = some (some d) ∧ σ[i]? = some (some (.ref a)) then H a else none
section
variable {K : PySem.W.Frag} {T : Tb} {Γ : Ctx} {O O1 : List Nat} {ρ : Env} {σ : L2.St} {G H : Hp} {w : Wl}
theorem IsO.is {a : Addr} {o : HO} {d : D} (h : G a = some o) : IsO K Γ.wl G o d → Is K Γ.wl G (.ref a) d
  | .lst l => .lst h l
  | .dK k l => .dK h k l
  | .dT k l => .dT h k l
theorem Rel.thaw (R : Rel K T Γ O ρ σ G H w) (hs : ∀ i ∈ O1, i ∈ O) : ∃ G1, Hx G G1 ∧ Rel K T Γ O1 ρ σ G1 H w := by
  classical
  have gx : Hx G (thawG O O1 ρ σ G H) := fun a o e => by unfold thawG; rw [e]
  have at0 : ∀ {a : Addr} {o : HO}, thawG O O1 ρ σ G H a = some o → G a = some o ∨ (G a = none ∧ H a = some o ∧ ∃ i d, i ∈ O ∧ i ∉ O1 ∧ ρ[i]? = some (some d) ∧ σ[i]? = some (some (.ref a))) := fun {a o} e => by
    unfold thawG at e
    cases q : G a with
    | some u => rw [q] at e; exact .inl e
    | none =>
      rw [q] at e
      by_cases z : ∃ i d, i ∈ O ∧ i ∉ O1 ∧ ρ[i]? = some (some d) ∧ σ[i]? = some (some (.ref a))
      · simp only [if_pos z] at e
        exact .inr ⟨rfl, e, z⟩
      · simp only [if_neg z] at e; cases e
  have own1 : ∀ {a : Addr} {i : Nat} {d : D}, i ∈ O → ρ[i]? = some (some d) → σ[i]? = some (some (.ref a)) → ∃ o, G a = none ∧ Γ.B a = none ∧ Γ.wl ≠ some a ∧ H a = some o ∧ NoTbl o ∧ IsO K Γ.wl G o d := fun {a i d} hi e1 e2 => by
    obtain ⟨l, o, h1, h2, h3, h4, h5, h6, h7⟩ := R.own i d hi e1
    rw [e2] at h1; cases h1
    exact ⟨o, h2, h3, h4, h5, h6, h7⟩
  refine ⟨thawG O O1 ρ σ G H, gx, ⟨fun a o e => ?_, fun a o e => ?_, fun a e => ?_, fun a o e => gx _ _ (R.h.g0 _ _ e), R.h.keep, R.h.mono, fun a e => ⟨?_, (R.h.well a e).2⟩, R.h.tabs, fun a us e => gx _ _ (R.h.tv a us e)⟩, R.len, fun i d hi e => ?_, fun i d hi e => ?_, fun i j l d e hi hj => R.inj i j l d e (hs i hi) (hs j hj)⟩
  · rcases at0 e with z | ⟨_, z, _⟩
    · exact R.h.sub _ _ z
    · exact z
  · rcases at0 e with z | ⟨_, z, i, d, hi, _, h1, h2⟩
    · exact R.h.nt _ _ z
    · obtain ⟨u, _, _, _, h5, h6, _⟩ := own1 hi h1 h2
      rw [z] at h5; cases h5; exact h6
  · cases q : thawG O O1 ρ σ G H a with
    | none => exact absurd q e
    | some u =>
      rcases at0 q with z | ⟨_, z, i, d, hi, _, h1, h2⟩
      · exact R.h.nw a (by rw [z]; exact fun y => nomatch y)
      · obtain ⟨u, _, h3, _⟩ := own1 hi h1 h2
        exact .inr h3
  · cases q : thawG O O1 ρ σ G H a with
    | none => rfl
    | some u =>
      rcases at0 q with z | ⟨_, z, i, d, hi, _, h1, h2⟩
      · rw [(R.h.well a e).1] at z; cases z
      · obtain ⟨u, _, _, h4, _⟩ := own1 hi h1 h2
        exact absurd e h4
  · by_cases hO : i ∈ O
    · obtain ⟨l, o, h1, h2, h3, h4, h5, h6, h7⟩ := R.own i d hO e
      refine ⟨.ref l, h1, (h7.mono gx).is ?_⟩
      unfold thawG
      rw [h2]
      show (if _ then H l else none) = some o
      rw [if_pos ⟨i, d, hO, hi, e, h1⟩]; exact h5
    · obtain ⟨v, h1, h2⟩ := R.fro i d hO e
      exact ⟨v, h1, h2.mono gx⟩
  · obtain ⟨l, o, h1, h2, h3, h4, h5, h6, h7⟩ := R.own i d (hs i hi) e
    refine ⟨l, o, h1, ?_, h3, h4, h5, h6, h7.mono gx⟩
    cases q : thawG O O1 ρ σ G H l with
    | none => rfl
    | some u =>
      rcases at0 q with z | ⟨_, z, j, d', hj, hj1, e1, e2⟩
      · rw [h2] at z; cases z
      · exact (R.inj i j l d d' (hs i hi) hj (fun z => hj1 (z ▸ hi)) e e1 h1 e2).elim
/-- the view with all tuples in it -/
def tupG (G H : Hp) : Hp := fun a => match H a with
  | some (.tup vs) => some (.tup vs)
  | _ => G a
theorem tupG_or {G H : Hp} (a : Addr) : (∃ vs, H a = some (.tup vs) ∧ tupG G H a = some (.tup vs)) ∨ ((∀ vs, H a ≠ some (.tup vs)) ∧ tupG G H a = G a) := by
  unfold tupG
  cases e : H a with
  | none => exact .inr ⟨fun vs z => (nomatch z), rfl⟩
  | some o =>
    cases o with
    | tup vs => exact .inl ⟨vs, rfl, rfl⟩
    | _ => exact .inr ⟨fun vs z => (nomatch z), rfl⟩
/-- back to the names as they were, behind an expression -/
theorem Rel.back {G2 H2 : Hp} {w2 : Wl} (R : Rel K T Γ O ρ σ G H w) (h2 : RelH T Γ G2 H2 w2) (x : Hx G G2) (kp : Kp Γ.wl H H2) : Hx G (tupG G H2) ∧ Rel K T Γ O ρ σ (tupG G H2) H2 w2 := by
  have gx : Hx G (tupG G H2) := fun a o e => by
    rcases tupG_or (G := G) (H := H2) a with ⟨vs, h, q⟩ | ⟨_, q⟩
    · have := (x.trans h2.sub) _ _ e
      rw [h] at this; cases this; exact q
    · rw [q]; exact e
  refine ⟨gx, ⟨⟨fun a o e => ?_, fun a o e => ?_, fun a e => ?_, R.h.g0.trans gx, h2.keep, h2.mono, fun a e => ?_, h2.tabs, fun a vs e => ?_⟩, R.len, fun i d hi e => ?_, fun i d hi e => ?_, R.inj⟩⟩
  · rcases tupG_or (G := G) (H := H2) a with ⟨vs, h, q⟩ | ⟨_, q⟩
    · rw [q] at e; rw [h]; exact e
    · rw [q] at e; exact (x.trans h2.sub) _ _ e
  · rcases tupG_or (G := G) (H := H2) a with ⟨vs, h, q⟩ | ⟨_, q⟩
    · rw [q] at e; cases e; exact noTup
    · rw [q] at e; exact R.h.nt _ _ e
  · rcases tupG_or (G := G) (H := H2) a with ⟨vs, h, q⟩ | ⟨_, q⟩
    · exact h2.nw a (by rw [h2.tv a vs h]; exact fun y => nomatch y)
    · rw [q] at e; exact R.h.nw _ e
  · obtain ⟨h3, h4⟩ := h2.well a e
    refine ⟨?_, h4⟩
    rcases tupG_or (G := G) (H := H2) a with ⟨vs, h, q⟩ | ⟨_, q⟩
    · rw [h4] at h; cases h
    · rw [q]; exact (R.h.well a e).1
  · rcases tupG_or (G := G) (H := H2) a with ⟨us, h, q⟩ | ⟨h, _⟩
    · rw [h] at e; cases e; exact q
    · exact absurd e (h vs)
  · obtain ⟨v, h1, h2⟩ := R.fro i d hi e
    exact ⟨v, h1, h2.mono gx⟩
  · obtain ⟨l, o, h1, h2', h3, h4, h5, h6, h7⟩ := R.own i d hi e
    have h8 := kp _ _ h5 h4 h6
    refine ⟨l, o, h1, ?_, h3, h4, h8, h6, h7.mono gx⟩
    rcases tupG_or (G := G) (H := H2) l with ⟨vs, h, q⟩ | ⟨_, q⟩
    · rw [h8] at h; cases h; exact absurd rfl (h7.nt vs)
    · rw [q]; exact h2'
/-- fewer owned names, the same view: only for names that hold nothing -/
theorem Rel.drop (R : Rel K T Γ O ρ σ G H w) (hs : ∀ i ∈ O1, i ∈ O) (hn : ∀ i ∈ O, i ∉ O1 → ∀ d, ρ[i]? ≠ some (some d)) : Rel K T Γ O1 ρ σ G H w :=
  ⟨R.h, R.len, fun i d hi e => by
    by_cases hO : i ∈ O
    · exact absurd e (hn i hO hi d)
    · exact R.fro i d hO e, fun i d hi e => R.own i d (hs i hi) e, fun i j l d e hi hj => R.inj i j l d e (hs i hi) (hs j hj)⟩
theorem get_set {α : Type} {l : List α} {i j : Nat} {a b : α} (h : (l.set i a)[j]? = some b) : (i = j ∧ b = a) ∨ (i ≠ j ∧ l[j]? = some b) := by
  by_cases e : i = j
  · subst e
    have hl : i < l.length := by
      have := (List.getElem?_eq_some_iff.mp h).1
      simpa using this
    rw [List.getElem?_set_self hl] at h
    exact .inl ⟨rfl, (Option.some.inj h).symm⟩
  · rw [List.getElem?_set_ne e] at h
    exact .inr ⟨e, h⟩
theorem set_get {α : Type} {l : List α} {i : Nat} {a : α} (h : i < l.length) : (l.set i a)[i]? = some a := List.getElem?_set_self h
/-- a name stored: known -/
theorem Rel.store {i : Nat} {v : V} {d : D} (R : Rel K T Γ O ρ σ G H w) (iv : Is K Γ.wl G v d) : Rel K T Γ (O.filter (· != i)) (ρ.set i (some d)) (σ.set i (some v)) G H w := by
  refine ⟨R.h, by rw [List.length_set, List.length_set]; exact R.len, fun j e hj h => ?_, fun j e hj h => ?_, fun j k l d e hj hk ne h1 h2 h3 h4 => ?_⟩
  · rcases get_set h with ⟨rfl, q⟩ | ⟨ne, q⟩
    · cases q
      have hl : i < ρ.length := by simpa using (List.getElem?_eq_some_iff.mp h).1
      exact ⟨v, set_get (by rw [← R.len]; exact hl), iv⟩
    · have hO : j ∉ O := fun z => hj (List.mem_filter.mpr ⟨z, by simpa using Ne.symm ne⟩)
      obtain ⟨u, h1, h2⟩ := R.fro j e hO q
      exact ⟨u, by rw [List.getElem?_set_ne ne]; exact h1, h2⟩
  · obtain ⟨hO, hn⟩ := List.mem_filter.mp hj
    have ne : i ≠ j := fun z => by simp [z] at hn
    rw [List.getElem?_set_ne ne] at h
    obtain ⟨l, o, h1, r⟩ := R.own j e hO h
    exact ⟨l, o, by rw [List.getElem?_set_ne ne]; exact h1, r⟩
  · obtain ⟨jO, hn⟩ := List.mem_filter.mp hj
    obtain ⟨kO, hn'⟩ := List.mem_filter.mp hk
    have n1 : i ≠ j := fun z => by simp [z] at hn
    have n2 : i ≠ k := fun z => by simp [z] at hn'
    rw [List.getElem?_set_ne n1] at h1 h3
    rw [List.getElem?_set_ne n2] at h2 h4
    exact R.inj j k l d e jO kO ne h1 h2 h3 h4
/-- a name stored that owns a new object -/
theorem Rel.storeO {i : Nat} {p : Addr} {o : HO} {d : D} (R : Rel K T Γ O ρ σ G H w) (hp : H p = none) (ho : NoTbl o) (iv : IsO K Γ.wl G o d) : Rel K T Γ (i :: O) (ρ.set i (some d)) (σ.set i (some (.ref p))) G (upd H p o) w := by
  have gp := R.h.gnone hp
  have pb := R.h.mono p hp
  have rh : RelH T Γ G (upd H p o) w := by
    refine ⟨R.h.sub.trans (hx_upd hp), R.h.nt, R.h.nw, R.h.g0, fun a u e n t => ?_, fun a e => ?_, fun a e => ?_, ?_, fun a us e => ?_⟩
    · have z : a ≠ p := fun z => by rw [z, pb] at e; cases e
      rw [upd_ne z]; exact R.h.keep _ _ e n t
    · by_cases z : a = p
      · subst z; exact pb
      · rw [upd_ne z] at e; exact R.h.mono _ e
    · obtain ⟨h1, h2⟩ := R.h.well a e
      have z : a ≠ p := fun z => by rw [z, hp] at h2; cases h2
      rw [upd_ne z]; exact ⟨h1, h2⟩
    · exact R.h.tabs.ext (hx_upd hp)
    · have z : a ≠ p := fun z => by rw [z, upd_same] at e; exact iv.nt us (Option.some.inj e)
      rw [upd_ne z] at e; exact R.h.tv _ _ e
  have wp : Γ.wl ≠ some p := fun z => by rw [(R.h.well p z).2] at hp; cases hp
  refine ⟨rh, by rw [List.length_set, List.length_set]; exact R.len, fun j e hj h => ?_, fun j e hj h => ?_, fun j k l d e hj hk ne h1 h2 h3 h4 => ?_⟩
  · have ne : i ≠ j := fun z => hj (by rw [z]; exact List.mem_cons_self)
    rw [List.getElem?_set_ne ne] at h ⊢
    exact R.fro j e (fun z => hj (List.mem_cons_of_mem _ z)) h
  · rcases get_set h with ⟨rfl, q⟩ | ⟨ne, q⟩
    · cases q
      have hl : i < ρ.length := by simpa using (List.getElem?_eq_some_iff.mp h).1
      exact ⟨p, o, set_get (by rw [← R.len]; exact hl), gp, pb, wp, upd_same, ho, iv⟩
    · have hO : j ∈ O := by
        rcases List.mem_cons.mp hj with z | z
        · exact absurd z.symm ne
        · exact z
      obtain ⟨l, u, h1, h2, h3, h4, h5, r⟩ := R.own j e hO q
      have z : l ≠ p := fun z => by rw [z, hp] at h5; cases h5
      exact ⟨l, u, by rw [List.getElem?_set_ne ne]; exact h1, h2, h3, h4, by rw [upd_ne z]; exact h5, r⟩
  · have fresh : ∀ {m : Nat} {x : D}, m ∈ O → ρ[m]? = some (some x) → σ[m]? = some (some (.ref p)) → False := fun {m x} hm e1 e2 => by
      obtain ⟨l, u, h1, h2, h3, h4, h5, r⟩ := R.own m x hm e1
      rw [e2] at h1; cases h1
      rw [hp] at h5; cases h5
    rcases get_set h1 with ⟨rfl, q⟩ | ⟨n1, q⟩
    · rw [set_get (by simpa using (List.getElem?_eq_some_iff.mp h3).1)] at h3
      cases h3
      rw [List.getElem?_set_ne ne] at h2 h4
      exact fresh ((List.mem_cons.mp hk).resolve_left (Ne.symm ne)) h2 h4
    · rw [List.getElem?_set_ne n1] at h3
      have jO : j ∈ O := (List.mem_cons.mp hj).resolve_left (Ne.symm n1)
      rcases get_set h2 with ⟨rfl, q2⟩ | ⟨n2, q2⟩
      · rw [set_get (by simpa using (List.getElem?_eq_some_iff.mp h4).1)] at h4
        cases h4
        exact fresh jO q h3
      · rw [List.getElem?_set_ne n2] at h4
        exact R.inj j k l d e jO ((List.mem_cons.mp hk).resolve_left (Ne.symm n2)) ne q q2 h3 h4
/-- an owned object written -/
theorem Rel.write {i : Nat} {l : Addr} {o o' : HO} {d d' : D} (R : Rel K T Γ O ρ σ G H w) (hi : i ∈ O) (e : ρ[i]? = some (some d)) (es : σ[i]? = some (some (.ref l))) (ho : NoTbl o') (iv : IsO K Γ.wl G o' d') :
    Rel K T Γ O (ρ.set i (some d')) σ G (upd H l o') w := by
  obtain ⟨l', u, h1, h2, h3, h4, h5, h6, h7⟩ := R.own i d hi e
  rw [es] at h1; cases h1
  have nl : ∀ {a : Addr} {x : HO}, G a = some x → a ≠ l := fun {a x} q z => by rw [z, h2] at q; cases q
  refine ⟨⟨fun a x q => by rw [upd_ne (nl q)]; exact R.h.sub _ _ q, R.h.nt, R.h.nw, R.h.g0, fun a x q n t => ?_, fun a q => ?_, fun a q => ?_, ?_, fun a us q => ?_⟩, by rw [List.length_set]; exact R.len, fun j f hj h => ?_, fun j f hj h => ?_, fun j k m x y hj hk ne q1 q2 q3 q4 => ?_⟩
  · have z : a ≠ l := fun z => by rw [z, h3] at q; cases q
    rw [upd_ne z]; exact R.h.keep _ _ q n t
  · have z : a ≠ l := fun z => by rw [z, upd_same] at q; cases q
    rw [upd_ne z] at q; exact R.h.mono _ q
  · obtain ⟨q1, q2⟩ := R.h.well a q
    have z : a ≠ l := fun z => h4 (by rw [q, z])
    rw [upd_ne z]; exact ⟨q1, q2⟩
  · intro p hp
    obtain ⟨ps, q1, q2⟩ := R.h.tabs p hp
    have z : p.1 ≠ l := fun z => by rw [z, h5] at q1; exact h6 ps (Option.some.inj q1)
    refine ⟨ps, by rw [upd_ne z]; exact q1, q2.1, fun pos cv hc => ?_⟩
    obtain ⟨c, r1, r2⟩ := q2.2 pos cv hc
    have z2 : c ≠ l := fun z => by
      rw [z, h5] at r2
      have := Option.some.inj r2
      subst this
      cases h7
    exact ⟨c, r1, by rw [upd_ne z2]; exact r2⟩
  · have z : a ≠ l := fun z => by rw [z, upd_same] at q; exact iv.nt us (Option.some.inj q)
    rw [upd_ne z] at q; exact R.h.tv _ _ q
  · have ne : i ≠ j := fun z => hj (z ▸ hi)
    rw [List.getElem?_set_ne ne] at h
    exact R.fro j f hj h
  · rcases get_set h with ⟨rfl, q⟩ | ⟨ne, q⟩
    · cases q
      exact ⟨l, o', es, h2, h3, h4, upd_same, ho, iv⟩
    · obtain ⟨m, u', q1, q2, q3, q4, q5, q6⟩ := R.own j f hj q
      have z : m ≠ l := fun z => by
        subst z
        exact R.inj i j m d f hi hj ne e q es q1
      exact ⟨m, u', q1, q2, q3, q4, by rw [upd_ne z]; exact q5, q6⟩
  · have at' : ∀ {m : Nat} {x : D}, (ρ.set i (some d'))[m]? = some (some x) → ∃ x', ρ[m]? = some (some x') := fun {m x} h => by
      rcases get_set h with ⟨rfl, _⟩ | ⟨_, q⟩
      · exact ⟨d, e⟩
      · exact ⟨x, q⟩
    obtain ⟨x', p1⟩ := at' q1
    obtain ⟨y', p2⟩ := at' q2
    exact R.inj j k m x' y' hj hk ne p1 p2 q3 q4
end
end Q

namespace Q
open PySem PySem.Spec PyProof.Rows L2
inductive Fl where
  | nx (ρ : Env)
  | rt (d : D)
  | bk (ρ : Env)
  | ct (ρ : Env)
def PostS (K : PySem.W.Frag) (T : Tb) (Γ : Ctx) (L O : List Nat) (Wx : WX) (G : Hp) (r : Out Fl) (D : Ends) : Prop :=
  match r with
  | .fail => False
  | .exc c p w' => ∀ cls dd σ' G' H', Hx G G' → RelH T Γ G' H' w' → ExcIs K Γ.wl c p cls dd G' H' → Wx cls dd σ' H'
  | .ok (.nx ρ') w' => ∀ σ' G' H', Hx G G' → Rel K T Γ O ρ' σ' G' H' w' → D.nx σ' H'
  | .ok (.rt d) w' => ∀ v G' H', Hx G G' → RelH T Γ G' H' w' → Is K Γ.wl G' v d → D.rt v H'
  | .ok (.bk ρ') w' => ∀ σ' G' H', Hx G G' → Rel K T Γ L ρ' σ' G' H' w' → D.bk σ' H'
  | .ok (.ct ρ') w' => ∀ σ' G' H', Hx G G' → Rel K T Γ L ρ' σ' G' H' w' → D.ct σ' H'
def tS (K : PySem.W.Frag) (T : Tb) (L O O' : List Nat) (Wx : WX) (f : Env → M Fl) : TS := fun D σ H => ∃ Γ ρ G w, Rel K T Γ O ρ σ G H w ∧ PostS K T Γ L O' Wx G (f ρ w) D
def DS (X : Cx) (T : Tb) (L O O' : List Nat) (Wx : WX) (st : Stmt) (f : Env → M Fl) : Prop := PS X st (tS X.K T L O O' Wx f)
def DSs (X : Cx) (T : Tb) (L O O' : List Nat) (Wx : WX) (st : List Stmt) (f : Env → M Fl) : Prop := PSs X st (tS X.K T L O O' Wx f)
section
variable {K : PySem.W.Frag} {T : Tb} {Γ : Ctx} {L O O' : List Nat} {Wx : WX} {G G1 : Hp} {D D' : Ends}
theorem PostS.widen {r : Out Fl} (P : PostS K T Γ L O Wx G r D) (x : Hx G G1) : PostS K T Γ L O Wx G1 r D := by
  cases r with
  | fail => exact P
  | exc c p w' => exact fun cls dd σ' G' H' h => P cls dd σ' G' H' (x.trans h)
  | ok r w' =>
    cases r with
    | nx ρ' => exact fun σ' G' H' h => P σ' G' H' (x.trans h)
    | rt d => exact fun v G' H' h => P v G' H' (x.trans h)
    | bk ρ' => exact fun σ' G' H' h => P σ' G' H' (x.trans h)
    | ct ρ' => exact fun σ' G' H' h => P σ' G' H' (x.trans h)
/-- a wish that does not look at the slots -/
def Flat (Wx : WX) : Prop := ∀ cls dd σ σ' H', Wx cls dd σ H' → Wx cls dd σ' H'
/-- from an expression's post to a statement's -/
theorem PostS.bindE {α β : Type} {I : IR β α} {f : Env → M α} {k : α → M Fl} {ρ : Env} {σ : L2.St} {H : Hp} {w : Wl} {Q1 : β → Hp → Prop} {O1 : List Nat}
    (P : PostS K T Γ L O Wx G (M.bind (f ρ) k w) D) (x1 : Hx G G1) (R : Rel K T Γ O1 ρ σ G1 H w)
    (hk : ∀ v d G2 H2 w2, Stp Γ.wl G1 H G2 H2 → Rel K T Γ O1 ρ σ G2 H2 w2 → I K Γ.wl G2 v d → PostS K T Γ L O Wx G (k d w2) D → Q1 v H2) : tG K T O1 Wx I f σ H Q1 := by
  refine ⟨Γ, ρ, G1, w, R, ?_⟩
  simp only [M.bind] at P
  cases e : f ρ w with
  | fail => rw [e] at P; exact P
  | exc c p w' => rw [e] at P; exact fun cls dd G' H' h1 h2 h3 => P cls dd σ G' H' (x1.trans h1.x) h2 h3
  | ok d w' =>
    rw [e] at P
    exact fun v G2 H2 hx R1 i1 => hk v d G2 H2 w' hx R1 i1 P
end
section
variable {X : Cx} {T : Tb} {L O O1 O' : List Nat} {Wx : WX} {a : Expr} {st : Stmt} {rest : List Stmt} {fa : Env → M D} {f g : Env → M Fl} {pos : Pos}
/-! ## blocks -/
def nilS : Env → M Fl := fun ρ => M.pure (.nx ρ)
def seqS (f g : Env → M Fl) : Env → M Fl := fun ρ => M.bind (f ρ) fun r => match r with
  | .nx ρ' => g ρ'
  | r => M.pure r
theorem dss_nil : DSs X T L O O Wx [] nilS := pss_imp pss_nil fun D σ H ⟨Γ, ρ, G, w, R, P⟩ => P σ G H (Hx.refl _) R
theorem seq_ok (D : Ends) (σ : L2.St) (H : Hp) : tS X.K T L O O' Wx (seqS f g) D σ H → tSeq (tS X.K T L O O1 Wx f) (tS X.K T L O1 O' Wx g) D σ H := fun ⟨Γ, ρ, G, w, R, P⟩ => by
  refine ⟨Γ, ρ, G, w, R, ?_⟩
  simp only [seqS, M.bind] at P
  cases e : f ρ w with
  | fail => rw [e] at P; exact P
  | exc c p w' => rw [e] at P; exact P
  | ok r w' =>
    rw [e] at P
    cases r with
    | nx ρ' => exact fun σ' G' H' x R' => ⟨Γ, ρ', G', w', R', PostS.widen P x⟩
    | rt d => exact P
    | bk ρ' => exact P
    | ct ρ' => exact P
theorem dss_cons (h1 : DS X T L O O1 Wx st f) (h2 : DSs X T L O1 O' Wx rest g) : DSs X T L O O' Wx (st :: rest) (seqS f g) := pss_imp (pss_cons h1 h2) seq_ok
theorem dss_one (h1 : DS X T L O O' Wx st f) : DSs X T L O O' Wx [st] f := pss_one h1
theorem ds_pass : DS X T L O O Wx (.Pass pos) nilS := ps_imp ps_pass fun D σ H ⟨Γ, ρ, G, w, R, P⟩ => P σ G H (Hx.refl _) R
theorem ds_break : DS X T O O O' Wx (.Break pos) (fun ρ => M.pure (.bk ρ)) := ps_imp ps_break fun D σ H ⟨Γ, ρ, G, w, R, P⟩ => P σ G H (Hx.refl _) R
theorem ds_continue : DS X T O O O' Wx (.Continue pos) (fun ρ => M.pure (.ct ρ)) := ps_imp ps_continue fun D σ H ⟨Γ, ρ, G, w, R, P⟩ => P σ G H (Hx.refl _) R
/-- fewer owned names at the end: names that hold nothing -/
abbrev SubL (O1 O : List Nat) : Prop := ∀ i ∈ O1, i ∈ O
def retS (fa : Env → M D) : Env → M Fl := fun ρ => M.bind (fa ρ) fun d => M.pure (.rt d)
theorem ds_ret (h : DE X T O1 Wx a fa) (hs : SubL O1 O := by decide) : DS X T L O O' Wx (.Return (some a) pos) (retS fa) :=
  ps_imp (ps_ret h) fun D σ H ⟨Γ, ρ, G, w, R, P⟩ => by
    obtain ⟨G1, x1, R1⟩ := R.thaw hs
    exact PostS.bindE P x1 R1 fun v d G2 H2 w2 x2 R2 i2 P2 => P2 v G2 H2 (x1.trans x2.x) R2.h i2
theorem ds_retN : DS X T L O O' Wx (.Return none pos) (fun _ => M.pure (.rt .non)) := ps_imp ps_retN fun D σ H ⟨Γ, ρ, G, w, R, P⟩ => P .non G H (Hx.refl _) R.h .non
/-- e; nothing of it kept -/
def dropS (fa : Env → M D) : Env → M Fl := fun ρ => M.bind (fa ρ) fun _ => M.pure (.nx ρ)
theorem ds_expr (h : DE X T O1 Wx a fa) (hs : SubL O1 O := by decide) (hsw : swapsWith a none pos.line X.env = pure false := by rfl) : DS X T L O O Wx (.Expr a pos) (dropS fa) :=
  ps_imp (ps_expr h hsw) fun D σ H ⟨Γ, ρ, G, w, R, P⟩ => by
    obtain ⟨G1, x1, R1⟩ := R.thaw hs
    exact PostS.bindE P x1 R1 fun v d G2 H2 w2 x2 R2 i2 P2 => P2 σ _ H2 (R.back R2.h (x1.trans x2.x) x2.kp).1 (R.back R2.h (x1.trans x2.x) x2.kp).2
/-! ## stores -/
def setS (i : Nat) (fa : Env → M D) : Env → M Fl := fun ρ => M.bind (fa ρ) fun d => M.pure (.nx (ρ.set i (some d)))
/-- x = e; the owned names that e reads are owned no more -/
theorem ds_set (i : Nat) {x : Str} {pos' : Pos} (hN : X.N.Nodup) (h : DE X T O1 Wx a fa) (hs : SubL O1 O := by decide) (ho : O' = O1.filter (· != i) := by rfl) (hi : X.N[i]? = some x := by rfl) (hx : Loc X.env.scope x := by first | exact Or.inl rfl | exact Or.inr rfl)
    (hsw : swapsWith a (some (.Name x pos')) pos.line X.env = pure false := by rfl) (hf : X.fn x = true ∨ X.env.scope.names.lookup x = some .local := by first | exact .inl rfl | exact .inr rfl) : DS X T L O O' Wx (.Assign [.Name x pos'] a pos) (setS i fa) :=
  ps_imp (ps_set hN hi hx h hsw hf) fun D σ H ⟨Γ, ρ, G, w, R, P⟩ => by
    subst ho
    obtain ⟨G1, x1, R1⟩ := R.thaw hs
    exact PostS.bindE P x1 R1 fun v d G2 H2 w2 x2 R2 i2 P2 => P2 _ G2 H2 (x1.trans x2.x) (R2.store i2)
/-- a value that holds no object -/
def D.atom : D → Bool
  | .non => true
  | .bl _ => true
  | .int _ => true
  | .str _ => true
  | .well => true
  | _ => false
theorem Is.atom {K : PySem.W.Frag} {wl : Option Addr} {G H : Hp} {v : V} {d : D} (h : Is K wl G v d) (ha : d.atom = true) : Is K wl H v d := by
  cases h with
  | non => exact .non
  | bl b => exact .bl b
  | int i => exact .int i
  | str s => exact .str s
  | well h => exact .well h
  | _ => cases ha
def atmE (fa : Env → M D) : Env → M D := fun ρ => M.bind (fa ρ) fun d => if d.atom = true then M.pure d else M.fail
theorem ifS {K : PySem.W.Frag} {T : Tb} {Γ : Ctx} {L O : List Nat} {Wx : WX} {G : Hp} {D : Ends} {c : Prop} [Decidable c] {m : M Fl} {w : Wl} (P : PostS K T Γ L O Wx G ((if c then m else M.fail) w) D) : c ∧ PostS K T Γ L O Wx G (m w) D := by
  by_cases h : c
  · rw [if_pos h] at P; exact ⟨h, P⟩
  · rw [if_neg h] at P; exact False.elim P
def setKS (i : Nat) (fa : Env → M D) : Env → M Fl := fun ρ => M.bind (fa ρ) fun d => if d.atom = true then M.pure (.nx (ρ.set i (some d))) else M.fail
/-- x = e, a value without objects: the owned names stay so -/
theorem ds_setK (i : Nat) {x : Str} {pos' : Pos} (hN : X.N.Nodup) (h : DE X T O1 Wx a fa) (hs : SubL O1 O := by decide) (ho : O' = O.filter (· != i) := by rfl) (hi : X.N[i]? = some x := by rfl) (hx : Loc X.env.scope x := by first | exact Or.inl rfl | exact Or.inr rfl)
    (hsw : swapsWith a (some (.Name x pos')) pos.line X.env = pure false := by rfl) (hf : X.fn x = true ∨ X.env.scope.names.lookup x = some .local := by first | exact .inl rfl | exact .inr rfl) : DS X T L O O' Wx (.Assign [.Name x pos'] a pos) (setKS i fa) :=
  ps_imp (ps_set hN hi hx h hsw hf) fun D σ H ⟨Γ, ρ, G, w, R, P⟩ => by
    subst ho
    obtain ⟨G1, x1, R1⟩ := R.thaw hs
    refine PostS.bindE P x1 R1 fun v d G2 H2 w2 x2 R2 i2 P2 => ?_
    obtain ⟨ha, P2⟩ := ifS P2
    exact P2 _ _ H2 (R.back R2.h (x1.trans x2.x) x2.kp).1 ((R.back R2.h (x1.trans x2.x) x2.kp).2.store (i2.atom ha))
/-! ## if -/
def ifS' (gc : Env → M Bool) (f g : Env → M Fl) : Env → M Fl := fun ρ => M.bind (gc ρ) fun c => if c = true then f ρ else g ρ
theorem ds_if {c : Expr} {gc : Env → M Bool} {sa sb : List Stmt} (hc : DT X T O1 Wx c gc) (ha : DSs X T L O O' Wx sa f) (hb : DSs X T L O O' Wx sb g) (hs : SubL O1 O := by decide) : DS X T L O O' Wx (.If c sa sb pos) (ifS' gc f g) :=
  ps_imp (ps_if hc ha hb) fun D σ H ⟨Γ, ρ, G, w, R, P⟩ => by
    obtain ⟨G1, x1, R1⟩ := R.thaw hs
    refine PostS.bindE P x1 R1 fun v d G2 H2 w2 x2 R2 i2 P2 => ?_
    obtain rfl : v = d := i2
    obtain ⟨gx, R3⟩ := R.back R2.h (x1.trans x2.x) x2.kp
    cases v with
    | true => exact ⟨Γ, ρ, _, w2, R3, PostS.widen P2 gx⟩
    | false => exact ⟨Γ, ρ, _, w2, R3, PostS.widen P2 gx⟩
/-- owned names given up -/
theorem PostS.less {K : PySem.W.Frag} {T : Tb} {Γ : Ctx} {G : Hp} {r : Out Fl} {D : Ends} (P : PostS K T Γ L O' Wx G r D) (hs : SubL O' O) : PostS K T Γ L O Wx G r D := by
  cases r with
  | fail => exact P
  | exc c p w' => exact P
  | ok r w' =>
    cases r with
    | nx ρ' =>
      intro σ' G' H' h R
      obtain ⟨G1, x1, R1⟩ := R.thaw hs
      exact P σ' G1 H' (h.trans x1) R1
    | rt d => exact P
    | bk ρ' => exact P
    | ct ρ' => exact P
theorem dss_less (h : DSs X T L O O1 Wx rest f) (hs : SubL O' O1 := by decide) : DSs X T L O O' Wx rest f := pss_imp h fun D σ H ⟨Γ, ρ, G, w, R, P⟩ => ⟨Γ, ρ, G, w, R, P.less hs⟩
theorem ds_less (h : DS X T L O O1 Wx st f) (hs : SubL O' O1 := by decide) : DS X T L O O' Wx st f := ps_imp h fun D σ H ⟨Γ, ρ, G, w, R, P⟩ => ⟨Γ, ρ, G, w, R, P.less hs⟩
end
end Q

namespace Q
open PySem PySem.Spec PyProof.Rows L2
/-! ## what is walked -/
/-- while the view G0 stands, the iterator gives the items in turn -/
def Yields (K : PySem.W.Frag) (T : Tb) (wl : Option Addr) (J : It) (items : List D) (G0 : Hp) : Prop :=
  ∀ (i : Nat) (Γ : Ctx) (O : List Nat) (ρ : Env) (σ : L2.St) (G H : Hp) (w : Wl), Γ.wl = wl → Rel K T Γ O ρ σ G H w → Hx G0 G →
    (∀ d, items[i]? = some d → J.go i H ∧ ∀ x H', J.yld i H x H' → ∃ G2, Stp wl G H G2 H' ∧ Rel K T Γ O ρ σ G2 H' w ∧ Is K wl G2 x d) ∧ (items[i]? = none → J.stop i H)
abbrev IsJ (T : Tb) : IR It (List D) := fun K wl G J items => Yields K T wl J items G
abbrev tI (K : PySem.W.Frag) (T : Tb) (O : List Nat) (Wx : WX) (f : Env → M (List D)) : TI := tG K T O Wx (IsJ T) f
def DI (X : Cx) (T : Tb) (O : List Nat) (Wx : WX) (tg iter : Expr) (f : Env → M (List D)) : Prop := PI X tg iter (tI X.K T O Wx f)
theorem pi_imp {X : Cx} {tg e : Expr} {t t' : TI} (h : PI X tg e t) (hi : ∀ σ H R, t' σ H R → t σ H R) : PI X tg e t' := ⟨fun pins s σ H R I q => h.run pins s σ H R I (hi _ _ _ q)⟩
theorem Yields.mono {K : PySem.W.Frag} {T : Tb} {wl : Option Addr} {J : It} {items : List D} {G0 G1 : Hp} (h : Yields K T wl J items G0) (x : Hx G0 G1) : Yields K T wl J items G1 :=
  fun i Γ O ρ σ G H w e R y => h i Γ O ρ σ G H w e R (x.trans y)
/-- a value that is walked -/
def IterR (X : Cx) (tg : Expr) (r : V → Hp → (It → Hp → Prop) → Prop) : Prop :=
  ∀ (pins : List (Addr × Obj)) (s : Shared) (σ : L2.St) (H : Hp) (x : V) (v : Value) (R : It → Hp → Prop), Inv X pins σ H s → RelV x v → r x H R → wpAny (model X.prog X.w) X.A (pyIter v) (PIE X pins σ tg R) X.xe s
section
variable {X : Cx} {T : Tb} {O : List Nat} {Wx : WX} {tg e : Expr}
theorem IterR.or {r r' : V → Hp → (It → Hp → Prop) → Prop} (h : IterR X tg r) (h' : IterR X tg r') : IterR X tg fun x H R => r x H R ∨ r' x H R :=
  fun pins s σ H x v R I rx q => q.elim (h pins s σ H x v R I rx) (h' pins s σ H x v R I rx)
theorem pi_of {r : V → Hp → (It → Hp → Prop) → Prop} {te : TE} (hr : IterR X tg r) (he : PE X e te) : PI X tg e fun σ H R => te σ H fun x H1 => r x H1 R :=
  ⟨fun pins s σ H R I h => thn (he.run pins s σ H _ I h) fun v s1 ⟨x, H1, I1, rx, q⟩ => hr pins s1 σ H1 x v R I1 rx q⟩
theorem it_lst : IterR X tg fun x H R => ∃ a xs, x = .ref a ∧ SqL X.K H a xs ∧ R (Itl X.K a) H := fun pins s σ H x v R I rx ⟨a, xs, ex, hq, q⟩ => by
  subst ex
  obtain rfl : v = Value.ref a := rx
  obtain ⟨its, _, pl, _⟩ := I.list hq
  refine wpAny_pyIter_list pl.isList ?_
  exact pi_one (tk := s.toks) I _ (turn_list a _) ⟨_, Heap.get?_push_size _ rfl, rfl, rfl⟩ q
theorem it_tup : IterR X tg fun x H R => ∃ a xs, x = .ref a ∧ SqT X.K H a xs ∧ R (Itt X.K a) H := fun pins s σ H x v R I rx ⟨a, xs, ex, hq, q⟩ => by
  subst ex
  obtain rfl : v = Value.ref a := rx
  obtain ⟨its, _, pl, _⟩ := I.tuple hq
  refine wpAny_pyIter_tuple (show s.heap.IsTuple a its.toArray from pl) ?_
  exact pi_one (tk := s.toks) I _ (turn_tuple a _) ⟨_, Heap.get?_push_size _ rfl, rfl, rfl⟩ q
theorem it_str : IterR X tg fun x H R => ∃ z, x = .str z ∧ R (Its z) H := fun pins s σ H x v R I rx ⟨z, ex, q⟩ => by
  subst ex
  obtain ⟨t, rfl⟩ := rx
  cases ha : z.cps.all (· < 128)
  · exact wpAny_pyIter_wide ha (pi_one (tk := s.toks) I _ (turn_str _ z t "str_iterator" (.inr rfl)) ⟨_, Heap.get?_push_size _ rfl, rfl, rfl⟩ q)
  · exact wpAny_pyIter_ascii ha (pi_one (tk := s.toks) I _ (turn_str _ z t "str_ascii_iterator" (.inl rfl)) ⟨_, Heap.get?_push_size _ rfl, rfl, rfl⟩ q)
/-- the items that a walked value gives -/
def itemsD : D → M (List D)
  | .tup xs => M.pure xs
  | .lst xs => M.pure xs
  | .scr xs => M.pure xs
  | .str s => M.pure (s.cps.toList.map chr1)
  | _ => M.fail
theorem yields_scr {K : PySem.W.Frag} {wl : Option Addr} {G : Hp} {a : Addr} {vs : List V} {ds : List D} (h : SqL K G a vs) (hl : IsL K wl G vs ds) : Yields K T wl (Itl K a) ds G := by
  intro i Γ O ρ σ G1 H w ew R x
  have s1 : SqL K H a vs := R.h.sub.sqL (x.sqL h)
  refine ⟨fun d e => ?_, fun e => ⟨vs, s1, by rw [hl.length]; exact List.getElem?_eq_none_iff.mp e⟩⟩
  obtain ⟨v, h1, h2⟩ := hl.get e
  refine ⟨⟨vs, v, s1, h1⟩, fun y H' ⟨e1, e2⟩ => ?_⟩
  subst e1
  have := e2 vs s1
  rw [h1] at this; cases this
  exact ⟨G1, Stp.refl, R, h2.mono x⟩
theorem yields_tup {K : PySem.W.Frag} {wl : Option Addr} {G : Hp} {a : Addr} {vs : List V} {ds : List D} (h : SqT K G a vs) (hl : IsL K wl G vs ds) : Yields K T wl (Itt K a) ds G := by
  intro i Γ O ρ σ G1 H w ew R x
  have s1 : SqT K H a vs := R.h.sub.sqT (x.sqT h)
  refine ⟨fun d e => ?_, fun e => ⟨vs, s1, by rw [hl.length]; exact List.getElem?_eq_none_iff.mp e⟩⟩
  obtain ⟨v, h1, h2⟩ := hl.get e
  refine ⟨⟨vs, v, s1, h1⟩, fun y H' ⟨e1, e2⟩ => ?_⟩
  subst e1
  have := e2 vs s1
  rw [h1] at this; cases this
  exact ⟨G1, Stp.refl, R, h2.mono x⟩
theorem yields_str {K : PySem.W.Frag} {wl : Option Addr} {G : Hp} {z : Str} : Yields K T wl (Its z) (z.cps.toList.map chr1) G := by
  intro i Γ O ρ σ G1 H w ew R x
  refine ⟨fun d e => ?_, fun e => ?_⟩
  · rw [List.getElem?_map] at e
    cases q : z.cps.toList[i]? with
    | none => rw [q] at e; cases e
    | some c =>
      rw [q] at e
      obtain rfl := Option.some.inj e
      refine ⟨by have := (List.getElem?_eq_some_iff.mp q).1; show i < z.cps.size; simpa using this, fun y H' ⟨e1, c', e2, e3⟩ => ?_⟩
      subst e1 e3
      have : z.cps[i]? = some c := by rw [← Array.getElem?_toList]; exact q
      rw [e2] at this; cases this
      exact ⟨G1, Stp.refl, R, .str _⟩
  · have := List.getElem?_eq_none_iff.mp e
    show z.cps.size ≤ i
    simpa using this
def itE (fa : Env → M D) : Env → M (List D) := fun ρ => M.bind (fa ρ) itemsD
theorem di_seq {fa : Env → M D} (he : DE X T O Wx e fa) : DI X T O Wx tg e (itE fa) :=
  pi_imp (pi_of (it_lst.or (it_tup.or it_str)) he) fun σ H Q ⟨Γ, ρ, G, w, R, P⟩ => post_bind R P fun v d G1 H1 w1 x1 R1 i1 P1 => by
    cases i1 with
    | tup s l => exact .inr (.inl ⟨_, _, rfl, R1.h.sub.tq s, Post.ok P1 R1 (yields_tup (SqT.of s) l)⟩)
    | lst s l => exact .inl ⟨_, _, rfl, SqL.of (R1.h.sub _ _ s), Post.ok P1 R1 (yields_scr (SqL.of s) l)⟩
    | scr s l => exact .inl ⟨_, _, rfl, R1.h.sub.sqL s, Post.ok P1 R1 (yields_scr s l)⟩
    | str s => exact .inr (.inr ⟨_, rfl, Post.ok P1 R1 yields_str⟩)
    | _ => exact False.elim P1
/-- range -/
def rngL (lo hi : Int) : List D := (List.range (hi - lo).toNat).map fun i => .int (lo + (i : Nat))
theorem yields_rng {K : PySem.W.Frag} {wl : Option Addr} {G : Hp} {lo : Int} {n : Nat} : Yields K T wl (Itr lo n) ((List.range n).map fun i => .int (lo + (i : Nat))) G := by
  intro i Γ O ρ σ G1 H w ew R x
  refine ⟨fun d e => ?_, fun e => ?_⟩
  · rw [List.getElem?_map] at e
    by_cases hi : i < n
    · rw [List.getElem?_range hi] at e
      obtain rfl := Option.some.inj e
      exact ⟨hi, fun y H' ⟨e1, e2⟩ => by subst e1 e2; exact ⟨G1, Stp.refl, R, .int _⟩⟩
    · rw [List.getElem?_eq_none_iff.mpr (by simp; omega)] at e; cases e
  · have := List.getElem?_eq_none_iff.mp e
    show n ≤ i
    simpa using this
def rng1D : List D → M (List D)
  | [.int j] => if -(2 ^ 62) ≤ j ∧ j < 2 ^ 62 then M.pure (rngL 0 j) else M.fail
  | _ => M.fail
def rng2D : List D → M (List D)
  | [.int i, .int j] => if -(2 ^ 62) ≤ i ∧ i < 2 ^ 62 ∧ -(2 ^ 62) ≤ j ∧ j < 2 ^ 62 then M.pure (rngL i j) else M.fail
  | _ => M.fail
def argE {α : Type} (g : List D → M α) (fa : Env → M (List D)) : Env → M α := fun ρ => M.bind (fa ρ) g
theorem di_rng1 {a : Expr} {fa : Env → M (List D)} {p pos : Pos} (hm : X.mg "range" = none) (ha : DA X T O Wx [a] fa) (hg : Gl X "range" := by rfl) (hs : starEach [a] X.env = [(false, eval a X.env)] := by rfl) : DI X T O Wx tg (.Call (.Name "range" p) [a] [] pos) (argE rng1D fa) :=
  pi_imp (pi_range1 hg hm ha hs) fun σ H Q ⟨Γ, ρ, G, w, R, P⟩ => post_bind R P fun v d G1 H1 w1 x1 R1 i1 P1 => by
    cases i1 with
    | nil => exact False.elim P1
    | cons i1 i2 =>
      cases i1 with
      | int j =>
        cases i2 with
        | nil =>
          obtain ⟨⟨h1, h2⟩, P2⟩ := ifP P1
          refine ⟨j, rfl, h1, h2, Post.ok P2 R1 ?_⟩
          unfold rngL
          rw [show j - 0 = j by omega]
          exact yields_rng
        | cons _ _ => exact False.elim P1
      | _ => exact False.elim P1
theorem di_rng2 {a b : Expr} {fa : Env → M (List D)} {p pos : Pos} (hm : X.mg "range" = none) (ha : DA X T O Wx [a, b] fa) (hg : Gl X "range" := by rfl) (hs : starEach [a, b] X.env = [(false, eval a X.env), (false, eval b X.env)] := by rfl) (hs2 : starEach [b] X.env = [(false, eval b X.env)] := by rfl) :
    DI X T O Wx tg (.Call (.Name "range" p) [a, b] [] pos) (argE rng2D fa) :=
  pi_imp (pi_range2 hg hm ha hs hs2) fun σ H Q ⟨Γ, ρ, G, w, R, P⟩ => post_bind R P fun v d G1 H1 w1 x1 R1 i1 P1 => by
    cases i1 with
    | nil => exact False.elim P1
    | cons i1 i2 =>
      cases i1 with
      | int i =>
        cases i2 with
        | nil => exact False.elim P1
        | cons i2 i3 =>
          cases i2 with
          | int j =>
            cases i3 with
            | nil =>
              obtain ⟨⟨h1, h2, h3, h4⟩, P2⟩ := ifP P1
              exact ⟨i, j, rfl, ⟨h1, h2, h3, h4⟩, Post.ok P2 R1 yields_rng⟩
            | cons _ _ => exact False.elim P1
          | _ => exact False.elim P1
      | _ => exact False.elim P1
end
end Q

namespace Q
open PySem PySem.Spec PyProof.Rows L2
/-! ## targets -/
/-- the slots but those of vs -/
def Off (vs : List Nat) (σ σ' : L2.St) : Prop := σ'.length = σ.length ∧ ∀ j, j ∉ vs → σ'[j]? = σ[j]?
theorem Off.refl {vs : List Nat} {σ : L2.St} : Off vs σ σ := ⟨rfl, fun _ _ => rfl⟩
theorem Off.trans {vs : List Nat} {σ σ1 σ2 : L2.St} (a : Off vs σ σ1) (b : Off vs σ1 σ2) : Off vs σ σ2 := ⟨b.1.trans a.1, fun j h => (b.2 j h).trans (a.2 j h)⟩
def tGt (K : PySem.W.Frag) (T : Tb) (O O' : List Nat) (xs : List Nat) (g : D → Env → M Env) : TG := fun v σ H Q => ∃ Γ ρ G w d, Rel K T Γ O ρ σ G H w ∧ Is K Γ.wl G v d ∧
  match g d ρ w with
  | .ok ρ' w' => ∀ σ' G' H', Off xs σ σ' → Stp Γ.wl G H G' H' → Rel K T Γ O' ρ' σ' G' H' w' → Q σ' H'
  | _ => False
def tGts (K : PySem.W.Frag) (T : Tb) (O O' : List Nat) (xs : List Nat) (g : List D → Env → M Env) : TGs := fun vs σ H Q => ∃ Γ ρ G w ds, Rel K T Γ O ρ σ G H w ∧ IsL K Γ.wl G vs ds ∧
  match g ds ρ w with
  | .ok ρ' w' => ∀ σ' G' H', Off xs σ σ' → Stp Γ.wl G H G' H' → Rel K T Γ O' ρ' σ' G' H' w' → Q σ' H'
  | _ => False
def DG (X : Cx) (T : Tb) (O O' : List Nat) (xs : List Nat) (tg : Expr) (g : D → Env → M Env) : Prop := PG X tg (tGt X.K T O O' xs g)
def DGs (X : Cx) (T : Tb) (O O' : List Nat) (xs : List Nat) (tg : List Expr) (g : List D → Env → M Env) : Prop := PGs X tg (tGts X.K T O O' xs g)
theorem pg_imp {X : Cx} {tg : Expr} {t t' : TG} (h : PG X tg t) (hi : ∀ v σ H Q, t' v σ H Q → t v σ H Q) : PG X tg t' := ⟨fun pins s σ H v u Q I r q => h.run pins s σ H v u Q I r (hi _ _ _ _ q)⟩
theorem pgs_imp {X : Cx} {tg : List Expr} {t t' : TGs} (h : PGs X tg t) (hi : ∀ v σ H Q, t' v σ H Q → t v σ H Q) : PGs X tg t' := ⟨fun pins s σ H v u Q I r q => h.run pins s σ H v u Q I r (hi _ _ _ _ q)⟩
section
variable {X : Cx} {T : Tb} {L O O1 O2 O' xs : List Nat} {Wx : WX} {tg iter c elt : Expr} {tgs : List Expr} {body : List Stmt} {pos : Pos}
def gNm (i : Nat) : D → Env → M Env := fun d ρ => M.pure (ρ.set i (some d))
theorem dg_name (i : Nat) {x : Str} (hN : X.N.Nodup) (ho : O' = O.filter (· != i) := by rfl) (hm : i ∈ xs := by decide) (hi : X.N[i]? = some x := by rfl) (hx : Loc X.env.scope x := by first | exact Or.inl rfl | exact Or.inr rfl) (hf : X.fn x = true ∨ X.env.scope.names.lookup x = some .local := by first | exact .inl rfl | exact .inr rfl) :
    DG X T O O' xs (.Name x pos) (gNm i) := by
  subst ho
  exact pg_imp (pg_name hN hi hx hf) fun v σ H Q ⟨Γ, ρ, G, w, d, R, i1, P⟩ => P _ G H ⟨List.length_set, fun j hj => List.getElem?_set_ne (fun z : i = j => hj (z ▸ hm))⟩ Stp.refl (R.store i1)
def gNil : List D → Env → M Env
  | [], ρ => M.pure ρ
  | _, _ => M.fail
def gCons (g : D → Env → M Env) (gs : List D → Env → M Env) : List D → Env → M Env
  | d :: ds, ρ => M.bind (g d ρ) (gs ds)
  | [], _ => M.fail
theorem dgs_nil : DGs X T O O xs [] gNil := pgs_imp pgs_nil fun v σ H Q ⟨Γ, ρ, G, w, ds, R, l, P⟩ => by
  cases l with
  | nil => exact ⟨rfl, P σ G H Off.refl Stp.refl R⟩
  | cons _ _ => exact False.elim P
theorem dgs_cons {g : D → Env → M Env} {gs : List D → Env → M Env} (h1 : DG X T O O1 xs tg g) (h2 : DGs X T O1 O' xs tgs gs) (hs : (assignEach (tg :: tgs) X.env).map (·.2) = assign tg X.env :: (assignEach tgs X.env).map (·.2) := by rfl) : DGs X T O O' xs (tg :: tgs) (gCons g gs) :=
  pgs_imp (pgs_cons h1 h2 hs) fun v σ H Q ⟨Γ, ρ, G, w, ds, R, l, P⟩ => by
    cases l with
    | nil => exact False.elim P
    | @cons v d vs ds i1 l =>
      refine ⟨v, vs, rfl, Γ, ρ, G, w, d, R, i1, ?_⟩
      simp only [gCons, M.bind] at P
      cases e : g d ρ w with
      | fail => rw [e] at P; exact P
      | exc c p w' => rw [e] at P; exact P
      | ok ρ1 w1 =>
        rw [e] at P
        intro σ' G' H' of x R'
        refine ⟨Γ, ρ1, G', w1, ds, R', l.mono x.x, ?_⟩
        dsimp only at P ⊢
        cases e2 : gs ds ρ1 w1 with
        | fail => rw [e2] at P; exact P
        | exc c p w' => rw [e2] at P; exact P
        | ok ρ2 w2 => rw [e2] at P; exact fun σ2 G2 H2 of2 x2 => P σ2 G2 H2 (of.trans of2) (x.trans x2)
def gTup (n : Nat) (gs : List D → Env → M Env) : D → Env → M Env
  | .tup ds, ρ => if ds.length = n then gs ds ρ else M.fail
  | _, _ => M.fail
def gLst (n : Nat) (gs : List D → Env → M Env) : D → Env → M Env
  | .lst ds, ρ => if ds.length = n then gs ds ρ else M.fail
  | _, _ => M.fail
theorem dg_tup {k n : Nat} {gs : List D → Env → M Env} (hc : X.calm = true) (h : DGs X T O O' xs tgs gs) (hn : (assignEach tgs X.env).length = n := by rfl) (hst : (assignEach tgs X.env).findIdx? (·.1) = none := by rfl) : DG X T O O' xs (.Tuple tgs k pos) (gTup n gs) :=
  pg_imp (pg_tup hc h hn hst) fun v σ H Q ⟨Γ, ρ, G, w, d, R, i1, P⟩ => by
    cases i1 with
    | @tup a vs ds s l =>
      by_cases hl : ds.length = n
      · refine ⟨a, vs, rfl, R.h.sub.tq s, l.length.trans hl, Γ, ρ, G, w, ds, R, l, ?_⟩
        have : gTup n gs (.tup ds) ρ = gs ds ρ := if_pos hl
        rw [this] at P; exact P
      · have : gTup n gs (.tup ds) ρ = M.fail := if_neg hl
        rw [this] at P; exact False.elim P
    | _ => exact False.elim P
theorem dg_lst {k n : Nat} {gs : List D → Env → M Env} (hc : X.calm = true) (h : DGs X T O O' xs tgs gs) (hn : (assignEach tgs X.env).length = n := by rfl) (hst : (assignEach tgs X.env).findIdx? (·.1) = none := by rfl) : DG X T O O' xs (.Tuple tgs k pos) (gLst n gs) :=
  pg_imp (pg_lst hc h hn hst) fun v σ H Q ⟨Γ, ρ, G, w, d, R, i1, P⟩ => by
    cases i1 with
    | @lst a vs ds s l =>
      by_cases hl : ds.length = n
      · refine ⟨a, vs, rfl, SqL.of (R.h.sub _ _ s), l.length.trans hl, Γ, ρ, G, w, ds, R, l, ?_⟩
        have : gLst n gs (.lst ds) ρ = gs ds ρ := if_pos hl
        rw [this] at P; exact P
      · have : gLst n gs (.lst ds) ρ = M.fail := if_neg hl
        rw [this] at P; exact False.elim P
    | _ => exact False.elim P
/-- a target in a statement: assignment of any target -/
theorem PostS.target {K : PySem.W.Frag} {Γ : Ctx} {G G1 : Hp} {g : D → Env → M Env} {k : Env → M Fl} {ρ : Env} {σ : L2.St} {H : Hp} {w : Wl} {v : V} {d : D} {D : Ends} {Q : L2.St → Hp → Prop}
    (P : PostS K T Γ L O' Wx G (M.bind (g d ρ) k w) D) (x1 : Hx G G1) (R : Rel K T Γ O ρ σ G1 H w) (i1 : Is K Γ.wl G1 v d) (hg : ∀ c p w', g d ρ w ≠ .exc c p w')
    (hk : ∀ ρ' σ' G' H' w', Hx G1 G' → Rel K T Γ O1 ρ' σ' G' H' w' → PostS K T Γ L O' Wx G (k ρ' w') D → Q σ' H') : tGt K T O O1 xs g v σ H Q := by
  refine ⟨Γ, ρ, G1, w, d, R, i1, ?_⟩
  simp only [M.bind] at P
  cases e : g d ρ w with
  | fail => rw [e] at P; exact P
  | exc c p w' => exact hg c p w' e
  | ok ρ1 w1 => rw [e] at P; exact fun σ' G' H' _ x R' => hk ρ1 σ' G' H' w1 x.x R' P
/-- targets raise nothing -/
def noX {α : Type} (m : M α) : M α := fun w => match m w with
  | .exc _ _ _ => .fail
  | r => r
theorem noX_no {α : Type} (m : M α) (w : Wl) (c : Str) (p : Option (Str × D)) (w' : Wl) : noX m w ≠ .exc c p w' := by
  unfold noX
  cases m w <;> exact fun z => nomatch z
theorem tGt_noX {K : PySem.W.Frag} {g : D → Env → M Env} {v : V} {σ : L2.St} {H : Hp} {Q : L2.St → Hp → Prop} (h : tGt K T O O' xs (fun d ρ => noX (g d ρ)) v σ H Q) : tGt K T O O' xs g v σ H Q := by
  obtain ⟨Γ, ρ, G, w, d, R, i, P⟩ := h
  refine ⟨Γ, ρ, G, w, d, R, i, ?_⟩
  simp only [noX] at P
  cases e : g d ρ w with
  | fail => rw [e] at P; exact P
  | exc c p w' => rw [e] at P; exact P
  | ok ρ' w' => rw [e] at P; exact P
def asgS (fa : Env → M D) (g : D → Env → M Env) : Env → M Fl := fun ρ => M.bind (fa ρ) fun d => M.bind (noX (g d ρ)) fun ρ' => M.pure (.nx ρ')
theorem ds_asg {fa : Env → M D} {g : D → Env → M Env} (h : DE X T O1 Wx elt fa) (hg : DG X T O1 O' xs tg g) (hs : SubL O1 O := by decide) (hsw : swapsWithSole [tg] elt pos.line X.env = pure false := by rfl) (hw : swappedStores [tg] elt X.env = pure none := by rfl)
    (h1 : (assignEach [tg] X.env).map (·.2) = [assign tg X.env] := by rfl) : DS X T L O O' Wx (.Assign [tg] elt pos) (asgS fa g) :=
  ps_imp (ps_asg h hg hsw hw h1) fun D σ H ⟨Γ, ρ, G, w, R, P⟩ => by
    obtain ⟨G1, x1, R1⟩ := R.thaw hs
    refine PostS.bindE P x1 R1 fun v d G2 H2 w2 x2 R2 i2 P2 => tGt_noX ?_
    exact PostS.target P2 (x1.trans x2.x) R2 i2 (noX_no _ _) fun ρ' σ' G' H' w' x R' P3 => P3 σ' G' H' (x1.trans (x2.x.trans x)) R'
/-! ## for -/
def forL (g : D → Env → M Env) (b : Env → M Fl) : List D → Env → M Fl
  | [], ρ => M.pure (.nx ρ)
  | d :: ds, ρ => M.bind (noX (g d ρ)) fun ρ1 => M.bind (b ρ1) fun r => match r with
    | .nx ρ2 => forL g b ds ρ2
    | .ct ρ2 => forL g b ds ρ2
    | .bk ρ2 => M.pure (.nx ρ2)
    | .rt d => M.pure (.rt d)
theorem drop_get {α : Type} {l : List α} {i : Nat} : (l[i]? = none ∧ l.drop i = []) ∨ ∃ a, l[i]? = some a ∧ l.drop i = a :: l.drop (i + 1) := by
  cases e : l[i]? with
  | none => exact .inl ⟨rfl, List.drop_eq_nil_of_le (List.getElem?_eq_none_iff.mp e)⟩
  | some a =>
    obtain ⟨h, rfl⟩ := List.getElem?_eq_some_iff.mp e
    exact .inr ⟨_, rfl, List.drop_eq_getElem_cons h⟩
theorem for_core {g : D → Env → M Env} {b : Env → M Fl} {Γ : Ctx} {ρ : Env} {σ : L2.St} {G G1 H : Hp} {w : Wl} {E : Ends} {items : List D} {J : It} (hb : True)
    (P : PostS X.K T Γ L O Wx G (forL g b items ρ w) E) (x1 : Hx G G1) (R : Rel X.K T Γ O ρ σ G1 H w) (Y : Yields X.K T Γ.wl J items G1) :
    ∃ W : Nat → Nat → L2.St → Hp → Prop, (∃ m, W 0 m σ H) ∧ ∀ i m σ H, W i m σ H →
      (J.stop i H ∧ E.nx σ H) ∨ (J.go i H ∧ ∃ N : L2.St → Hp → Prop, (∀ σ' H', N σ' H' → ∃ m', m' < m ∧ W (i + 1) m' σ' H') ∧ ∀ x H', J.yld i H x H' → tGt X.K T O O2 xs g x σ H' fun σ2 H2 => tS X.K T O O2 O Wx b { E with nx := N, ct := N, bk := E.nx } σ2 H2) := by
  refine ⟨fun i m σ H => i ≤ items.length ∧ m = items.length - i ∧ ∃ ρ G2 w, Hx G1 G2 ∧ Rel X.K T Γ O ρ σ G2 H w ∧ PostS X.K T Γ L O Wx G (forL g b (items.drop i) ρ w) E, ⟨items.length, Nat.zero_le _, rfl, ρ, G1, w, Hx.refl _, R, P⟩, ?_⟩
  rintro i m σ H ⟨hi, rfl, ρ, G2, w, x2, R, P⟩
  obtain ⟨Ya, Yb⟩ := Y i Γ O ρ σ G2 H w rfl R x2
  rcases drop_get (l := items) (i := i) with ⟨e1, e2⟩ | ⟨d, e1, e2⟩
  · rw [e2] at P
    exact .inl ⟨Yb e1, P σ G2 H (x1.trans x2) R⟩
  · rw [e2] at P
    have hlt : i < items.length := (List.getElem?_eq_some_iff.mp e1).1
    obtain ⟨go, yl⟩ := Ya d e1
    refine .inr ⟨go, fun σ' H' => i + 1 ≤ items.length ∧ ∃ ρ G2 w, Hx G1 G2 ∧ Rel X.K T Γ O ρ σ' G2 H' w ∧ PostS X.K T Γ L O Wx G (forL g b (items.drop (i + 1)) ρ w) E, fun σ' H' ⟨h1, h2⟩ => ⟨items.length - (i + 1), by omega, h1, rfl, h2⟩, fun x H' hy => ?_⟩
    obtain ⟨G3, x3, R3, i3⟩ := yl x H' hy
    refine tGt_noX ?_
    refine PostS.target P (x1.trans (x2.trans x3.x)) R3 i3 (noX_no _ _) fun ρ1 σ1 G4 H4 w4 x4 R4 P4 => ?_
    refine ⟨Γ, ρ1, G4, w4, R4, ?_⟩
    have x5 : Hx G1 G4 := x2.trans (x3.x.trans x4)
    simp only [M.bind] at P4
    cases e : b ρ1 w4 with
    | fail => rw [e] at P4; exact P4
    | exc c p w' => rw [e] at P4; exact fun cls dd σ' G' H' h => P4 cls dd σ' G' H' ((x1.trans x5).trans h)
    | ok r w' =>
      rw [e] at P4
      cases r with
      | nx ρ2 => exact fun σ' G' H' h R' => ⟨hlt, ρ2, G', w', x5.trans h, R', P4⟩
      | ct ρ2 => exact fun σ' G' H' h R' => ⟨hlt, ρ2, G', w', x5.trans h, R', P4⟩
      | bk ρ2 => exact fun σ' G' H' h R' => P4 σ' G' H' ((x1.trans x5).trans h) R'
      | rt d => exact fun v G' H' h => P4 v G' H' ((x1.trans x5).trans h)
def forS (fi : Env → M (List D)) (g : D → Env → M Env) (b : Env → M Fl) : Env → M Fl := fun ρ => M.bind (fi ρ) fun items => forL g b items ρ
theorem ds_for {fi : Env → M (List D)} {g : D → Env → M Env} {b : Env → M Fl} (hp : PassesOwn (model X.prog X.w) X.A X.env X.xe) (hc : X.calm = true) (hi : DI X T O Wx tg iter fi) (hg : DG X T O O2 xs tg g) (hb : DSs X T O O2 O Wx body b) (hs : SubL O O' := by decide)
    (hf : ∀ x, foldedSetIterable iter X.env x = pure x := by intro _; rfl) : DS X T L O' O Wx (.For tg iter body [] pos) (forS fi g b) :=
  ps_imp (ps_for hp hc hi hg hb hf) fun E σ H ⟨Γ, ρ, G, w, R, P⟩ => by
    obtain ⟨G1, x1, R1⟩ := R.thaw hs
    exact PostS.bindE P x1 R1 fun J items G2 H2 w2 x2 R2 Y P2 => for_core trivial P2 (x1.trans x2.x) R2 Y
/-- what is walked does not hang on the view -/
def DIK (X : Cx) (T : Tb) (O : List Nat) (Wx : WX) (tg iter : Expr) (f : Env → M (List D)) : Prop := PI X tg iter (tG X.K T O Wx (fun K wl _ J items => ∀ G, Yields K T wl J items G) f)
theorem ds_forK {fi : Env → M (List D)} {g : D → Env → M Env} {b : Env → M Fl} (hp : PassesOwn (model X.prog X.w) X.A X.env X.xe) (hc : X.calm = true) (hi : DIK X T O1 Wx tg iter fi) (hg : DG X T O O2 xs tg g) (hb : DSs X T O O2 O Wx body b) (hs : SubL O1 O := by decide)
    (hf : ∀ x, foldedSetIterable iter X.env x = pure x := by intro _; rfl) : DS X T L O O Wx (.For tg iter body [] pos) (forS fi g b) :=
  ps_imp (ps_for hp hc hi hg hb hf) fun E σ H ⟨Γ, ρ, G, w, R, P⟩ => by
    obtain ⟨G1, x1, R1⟩ := R.thaw hs
    exact PostS.bindE P x1 R1 fun J items G2 H2 w2 x2 R2 Y P2 => for_core trivial P2 (R.back R2.h (x1.trans x2.x) x2.kp).1 (R.back R2.h (x1.trans x2.x) x2.kp).2 (Y _)
/-! ## while -/
def whileL (c : Env → M Bool) (b : Env → M Fl) : Nat → Env → M Fl
  | 0, _ => M.fail
  | n + 1, ρ => M.bind (c ρ) fun k => if k = true then M.bind (b ρ) fun r => match r with
    | .nx ρ2 => whileL c b n ρ2
    | .ct ρ2 => whileL c b n ρ2
    | .bk ρ2 => M.pure (.nx ρ2)
    | .rt d => M.pure (.rt d)
    else M.pure (.nx ρ)
theorem ds_while (n : Nat) {fc : Env → M Bool} {b : Env → M Fl} (hp : PassesOwn (model X.prog X.w) X.A X.env X.xe) (hc : DT X T O1 Wx c fc) (hb : DSs X T O O O Wx body b) (hs : SubL O1 O := by decide) : DS X T L O O Wx (.While c body [] pos) (whileL fc b n) :=
  ps_imp (ps_while hp hc hb) fun E σ H ⟨Γ, ρ, G, w, R, P⟩ => by
    refine ⟨fun m σ H => ∃ ρ G2 w, Hx G G2 ∧ Rel X.K T Γ O ρ σ G2 H w ∧ PostS X.K T Γ L O Wx G (whileL fc b m ρ w) E, ⟨n, ρ, G, w, Hx.refl _, R, P⟩, ?_⟩
    rintro m σ H ⟨ρ, G2, w, x2, R, P⟩
    cases m with
    | zero => exact False.elim P
    | succ m =>
      obtain ⟨G3, x3, R3⟩ := R.thaw hs
      refine PostS.bindE P (x2.trans x3) R3 fun k k' G4 H4 w4 x4 R4 e P4 => ?_
      obtain rfl : k = k' := e
      obtain ⟨gx, R5⟩ := R.back R4.h (x3.trans x4.x) x4.kp
      cases k with
      | false => exact P4 σ _ H4 (x2.trans gx) R5
      | true =>
        refine ⟨fun σ' H' => ∃ ρ G2 w, Hx G G2 ∧ Rel X.K T Γ O ρ σ' G2 H' w ∧ PostS X.K T Γ L O Wx G (whileL fc b m ρ w) E, fun σ' H' h => ⟨m, Nat.lt_succ_self m, h⟩, Γ, ρ, _, w4, R5, ?_⟩
        have P5 : PostS X.K T Γ L O Wx G (M.bind (b ρ) (fun r => match r with
          | .nx ρ2 => whileL fc b m ρ2
          | .ct ρ2 => whileL fc b m ρ2
          | .bk ρ2 => M.pure (.nx ρ2)
          | .rt d => M.pure (.rt d)) w4) E := P4
        simp only [M.bind] at P5
        cases e : b ρ w4 with
        | fail => rw [e] at P5; exact P5
        | exc c p w' => rw [e] at P5; exact fun cls dd σ' G' H' h => P5 cls dd σ' G' H' ((x2.trans gx).trans h)
        | ok r w' =>
          rw [e] at P5
          cases r with
          | nx ρ2 => exact fun σ' G' H' h R' => ⟨ρ2, G', w', (x2.trans gx).trans h, R', P5⟩
          | ct ρ2 => exact fun σ' G' H' h R' => ⟨ρ2, G', w', (x2.trans gx).trans h, R', P5⟩
          | bk ρ2 => exact fun σ' G' H' h R' => P5 σ' G' H' ((x2.trans gx).trans h) R'
          | rt d => exact fun v G' H' h => P5 v G' H' ((x2.trans gx).trans h)
end
end Q

namespace Q
open PySem PySem.Spec PyProof.Rows L2
/-! ## new objects, owned by who gets them -/
structure New (Γ : Ctx) (O : List Nat) (ρ : Env) (σ : L2.St) (G H : Hp) (p : Addr) (o : HO) : Prop where
  at_ : H p = some o
  g : G p = none
  b : Γ.B p = none
  w : Γ.wl ≠ some p
  nt : NoTbl o
  no : ∀ i d, i ∈ O → ρ[i]? = some (some d) → σ[i]? ≠ some (some (.ref p))
section
variable {K : PySem.W.Frag} {T : Tb} {Γ : Ctx} {O O1 : List Nat} {ρ : Env} {σ : L2.St} {G H : Hp} {w : Wl} {p : Addr} {o : HO}
theorem Rel.reveal (R : Rel K T Γ O ρ σ G H w) (n : New Γ O ρ σ G H p o) : Rel K T Γ O ρ σ (upd G p o) H w := by
  have up : Hx G (upd G p o) := hx_upd n.g
  refine ⟨⟨fun a u e => ?_, fun a u e => ?_, fun a e => ?_, R.h.g0.trans up, R.h.keep, R.h.mono, fun a e => ⟨?_, (R.h.well a e).2⟩, R.h.tabs, fun a us e => ?_⟩, R.len, fun i d hi e => ?_, fun i d hi e => ?_, R.inj⟩
  · by_cases z : a = p
    · subst z; rw [upd_same] at e; cases e; exact n.at_
    · rw [upd_ne z] at e; exact R.h.sub _ _ e
  · by_cases z : a = p
    · subst z; rw [upd_same] at e; cases e; exact n.nt
    · rw [upd_ne z] at e; exact R.h.nt _ _ e
  · by_cases z : a = p
    · subst z; exact .inr n.b
    · rw [upd_ne z] at e; exact R.h.nw _ e
  · have z : a ≠ p := fun z => n.w (by rw [e, z])
    rw [upd_ne z]; exact (R.h.well a e).1
  · by_cases z : a = p
    · subst z; rw [n.at_] at e; rw [upd_same]; exact e
    · rw [upd_ne z]; exact R.h.tv _ _ e
  · obtain ⟨v, h1, h2⟩ := R.fro i d hi e
    exact ⟨v, h1, h2.mono up⟩
  · obtain ⟨l, u, h1, h2, h3, h4, h5, h6, h7⟩ := R.own i d hi e
    have z : l ≠ p := fun z => n.no i d hi e (by rw [h1, z])
    exact ⟨l, u, h1, by rw [upd_ne z]; exact h2, h3, h4, h5, h6, h7.mono up⟩
theorem Rel.give {i : Nat} {d : D} (R : Rel K T Γ O ρ σ G H w) (n : New Γ O ρ σ G H p o) (iv : IsO K Γ.wl G o d) : Rel K T Γ (i :: O) (ρ.set i (some d)) (σ.set i (some (.ref p))) G H w := by
  refine ⟨R.h, by rw [List.length_set, List.length_set]; exact R.len, fun j e hj h => ?_, fun j e hj h => ?_, fun j k l d e hj hk ne h1 h2 h3 h4 => ?_⟩
  · have ne : i ≠ j := fun z => hj (by rw [z]; exact List.mem_cons_self)
    rw [List.getElem?_set_ne ne] at h ⊢
    exact R.fro j e (fun z => hj (List.mem_cons_of_mem _ z)) h
  · rcases get_set h with ⟨rfl, q⟩ | ⟨ne, q⟩
    · cases q
      have hl : i < ρ.length := by simpa using (List.getElem?_eq_some_iff.mp h).1
      exact ⟨p, o, set_get (by rw [← R.len]; exact hl), n.g, n.b, n.w, n.at_, n.nt, iv⟩
    · obtain ⟨l, u, h1, r⟩ := R.own j e ((List.mem_cons.mp hj).resolve_left (Ne.symm ne)) q
      exact ⟨l, u, by rw [List.getElem?_set_ne ne]; exact h1, r⟩
  · rcases get_set h1 with ⟨rfl, q⟩ | ⟨n1, q⟩
    · rw [set_get (by simpa using (List.getElem?_eq_some_iff.mp h3).1)] at h3
      cases h3
      rw [List.getElem?_set_ne ne] at h2 h4
      exact n.no k e ((List.mem_cons.mp hk).resolve_left (Ne.symm ne)) h2 h4
    · rw [List.getElem?_set_ne n1] at h3
      have jO : j ∈ O := (List.mem_cons.mp hj).resolve_left (Ne.symm n1)
      rcases get_set h2 with ⟨rfl, q2⟩ | ⟨n2, q2⟩
      · rw [set_get (by simpa using (List.getElem?_eq_some_iff.mp h4).1)] at h4
        cases h4
        exact n.no j d jO q h3
      · rw [List.getElem?_set_ne n2] at h4
        exact R.inj j k l d e jO ((List.mem_cons.mp hk).resolve_left (Ne.symm n2)) ne q q2 h3 h4
/-- an object just laid, not in the view -/
theorem Rel.lay (R : Rel K T Γ O ρ σ G H w) (hp : H p = none) (ho : NoTbl o) (hq : ∀ vs, o ≠ .tup vs) : Rel K T Γ O ρ σ G (upd H p o) w ∧ New Γ O ρ σ G (upd H p o) p o ∧ Stp Γ.wl G H G (upd H p o) := by
  have gp := R.h.gnone hp
  have pb := R.h.mono p hp
  have up : Hx H (upd H p o) := hx_upd hp
  have mn : ∀ a, upd H p o a = none → H a = none := fun a e => by
    by_cases z : a = p
    · subst z; exact hp
    · rw [upd_ne z] at e; exact e
  refine ⟨⟨⟨R.h.sub.trans up, R.h.nt, R.h.nw, R.h.g0, fun a u e n t => up _ _ (R.h.keep _ _ e n t), fun a e => R.h.mono _ (mn a e), fun a e => ⟨(R.h.well a e).1, up _ _ (R.h.well a e).2⟩, R.h.tabs.ext up, fun a us e => ?_⟩, R.len, R.fro, fun i d hi e => ?_, R.inj⟩, ⟨upd_same, gp, pb, fun z => ?_, ho, fun i d hi e z => ?_⟩, ⟨Hx.refl _, Kp.new hp, fun a e => .inl e, mn⟩⟩
  · have z : a ≠ p := fun z => by rw [z, upd_same] at e; exact hq us (Option.some.inj e)
    rw [upd_ne z] at e; exact R.h.tv _ _ e
  · obtain ⟨l, u, h1, h2, h3, h4, h5, h6⟩ := R.own i d hi e
    exact ⟨l, u, h1, h2, h3, h4, up _ _ h5, h6⟩
  · rw [(R.h.well p z).2] at hp; cases hp
  · obtain ⟨l, u, h1, h2, h3, h4, h5, h6⟩ := R.own i d hi e
    rw [z] at h1; cases h1
    rw [hp] at h5; cases h5
end
/-- an expression that makes a new object -/
def PostN (K : PySem.W.Frag) (T : Tb) (Γ : Ctx) (O : List Nat) (Wx : WX) (ρ : Env) (σ : L2.St) (G H : Hp) (r : Out D) (Q : VK) : Prop :=
  match r with
  | .fail => False
  | .ok d w' => ∀ p o G' H', Stp Γ.wl G H G' H' → Rel K T Γ O ρ σ G' H' w' → New Γ O ρ σ G' H' p o → H p = none → IsO K Γ.wl G' o d → Q (.ref p) H'
  | .exc c p w' => ∀ cls dd G' H', Stp Γ.wl G H G' H' → RelH T Γ G' H' w' → ExcIs K Γ.wl c p cls dd G' H' → Wx cls dd σ H'
def tN (K : PySem.W.Frag) (T : Tb) (O : List Nat) (Wx : WX) (f : Env → M D) : TE := fun σ H Q => ∃ Γ ρ G w, Rel K T Γ O ρ σ G H w ∧ PostN K T Γ O Wx ρ σ G H (f ρ w) Q
def DF (X : Cx) (T : Tb) (O : List Nat) (Wx : WX) (e : Expr) (f : Env → M D) : Prop := PE X e (tN X.K T O Wx f)
section
variable {X : Cx} {T : Tb} {L O O1 O2 O' xs : List Nat} {Wx : WX} {tg iter e elt c : Expr} {rest : List Expr} {f : Env → M D} {pos : Pos}
theorem de_new (h : DF X T O Wx e f) : DE X T O Wx e f := pe_imp h fun σ H Q ⟨Γ, ρ, G, w, R, P⟩ => by
  refine ⟨Γ, ρ, G, w, R, ?_⟩
  cases q : f ρ w with
  | fail => rw [q] at P; exact P
  | exc c p w' => rw [q] at P; exact P
  | ok d w' =>
    rw [q] at P
    intro p o G' H' st R' n hp iv
    refine P (.ref p) (upd G' p o) H' ⟨st.x.trans (hx_upd n.g), st.kp, fun a z => ?_, st.mono⟩ (R'.reveal n) ((iv.mono (hx_upd n.g)).is upd_same)
    by_cases y : a = p
    · subst y; exact .inr hp
    · rw [upd_ne y] at z; exact st.nw a z
/-- the same as post_bind, towards a new object -/
theorem postN_bind {α β : Type} {K : PySem.W.Frag} {Γ : Ctx} {I : IR β α} {f : Env → M α} {k : α → M D} {ρ : Env} {σ : L2.St} {G H : Hp} {w : Wl} {Q : VK} {Q1 : β → Hp → Prop}
    (R : Rel K T Γ O ρ σ G H w) (P : PostN K T Γ O Wx ρ σ G H (M.bind (f ρ) k w) Q)
    (hk : ∀ v d G1 H1 w1, Stp Γ.wl G H G1 H1 → Rel K T Γ O ρ σ G1 H1 w1 → I K Γ.wl G1 v d → PostN K T Γ O Wx ρ σ G1 H1 (k d w1) Q → Q1 v H1) : tG K T O Wx I f σ H Q1 := by
  refine ⟨Γ, ρ, G, w, R, ?_⟩
  simp only [M.bind] at P
  cases e : f ρ w with
  | fail => rw [e] at P; exact P
  | exc c p w' => rw [e] at P; exact P
  | ok d w' =>
    rw [e] at P
    intro v G1 H1 hx R1 i1
    refine hk v d G1 H1 w' hx R1 i1 ?_
    show PostN K T Γ O Wx ρ σ G1 H1 (k d w') Q
    cases e2 : k d w' with
    | fail => simp only [e2] at P; exact P
    | exc c p w2 => simp only [e2] at P; exact fun cls dd G' H' h1 => P cls dd G' H' (hx.trans h1)
    | ok d2 w2 => simp only [e2] at P; exact fun p o G' H' h1 r n hp => P p o G' H' (hx.trans h1) r n (hx.mono p hp)
theorem ifN {K : PySem.W.Frag} {Γ : Ctx} {ρ : Env} {σ : L2.St} {G H : Hp} {c : Prop} [Decidable c] {m : M D} {w : Wl} {Q : VK} (P : PostN K T Γ O Wx ρ σ G H ((if c then m else M.fail) w) Q) : c ∧ PostN K T Γ O Wx ρ σ G H (m w) Q := by
  by_cases h : c
  · rw [if_pos h] at P; exact ⟨h, P⟩
  · rw [if_neg h] at P; exact False.elim P
theorem PostN.new {K : PySem.W.Frag} {Γ : Ctx} {ρ : Env} {σ : L2.St} {G H : Hp} {w : Wl} {d : D} {p : Addr} {o : HO} {Q : VK} (P : PostN K T Γ O Wx ρ σ G H (.ok d w) Q) (R : Rel K T Γ O ρ σ G H w) (hp : H p = none) (ho : NoTbl o) (iv : IsO K Γ.wl G o d) : Q (.ref p) (upd H p o) := by
  obtain ⟨R', n, st⟩ := R.lay hp ho iv.nt
  exact P p o G (upd H p o) st R' n hp iv
theorem df_lst {fr : Env → M (List D)} (h : DA X T O Wx rest fr) : DF X T O Wx (.List rest pos) (lstE fr) :=
  pe_imp (pe_lst h) fun σ H Q ⟨Γ, ρ, G, w, R, P⟩ => postN_bind R P fun v d G1 H1 w1 x1 R1 i1 P1 => by
    obtain ⟨h, P2⟩ := ifN P1
    exact ⟨by rw [i1.length]; exact h, fun p hp => PostN.new P2 R1 hp noLst (.lst i1)⟩
/-- x = a new object: the name owns it -/
theorem ds_setF (i : Nat) {x : Str} {pos' : Pos} (hN : X.N.Nodup) (h : DF X T O1 Wx e f) (hs : SubL O1 O := by decide) (ho : O' = i :: O1 := by rfl) (hi : X.N[i]? = some x := by rfl) (hx : Loc X.env.scope x := by first | exact Or.inl rfl | exact Or.inr rfl)
    (hsw : swapsWith e (some (.Name x pos')) pos.line X.env = pure false := by rfl) (hf : X.fn x = true ∨ X.env.scope.names.lookup x = some .local := by first | exact .inl rfl | exact .inr rfl) : DS X T L O O' Wx (.Assign [.Name x pos'] e pos) (setS i f) :=
  ps_imp (ps_set hN hi hx h hsw hf) fun E σ H ⟨Γ, ρ, G, w, R, P⟩ => by
    subst ho
    obtain ⟨G1, x1, R1⟩ := R.thaw hs
    refine ⟨Γ, ρ, G1, w, R1, ?_⟩
    simp only [setS, M.bind] at P
    cases q : f ρ w with
    | fail => rw [q] at P; exact P
    | exc c p w' => rw [q] at P; exact fun cls dd G' H' st => P cls dd σ G' H' (x1.trans st.x)
    | ok d w' =>
      rw [q] at P
      exact fun p o G' H' st R' n hp iv => P _ G' H' (x1.trans st.x) (R'.give n iv)
end
end Q

namespace Q
open PySem PySem.Spec PyProof.Rows L2
def wipeE (ρ : Env) : List Nat → Env
  | [] => ρ
  | v :: vs => (wipeE ρ vs).set v none
theorem wipeE_length (ρ : Env) : ∀ vs, (wipeE ρ vs).length = ρ.length
  | [] => rfl
  | v :: vs => by rw [wipeE, List.length_set, wipeE_length ρ vs]
theorem wipeE_get {ρ : Env} {j : Nat} {d : D} : ∀ {vs : List Nat}, (wipeE ρ vs)[j]? = some (some d) → j ∉ vs ∧ ρ[j]? = some (some d)
  | [], h => ⟨by simp, h⟩
  | v :: vs, h => by
    rcases get_set h with ⟨_, q⟩ | ⟨ne, q⟩
    · cases q
    · obtain ⟨h1, h2⟩ := wipeE_get q
      exact ⟨fun z => (List.mem_cons.mp z).elim (fun y => ne y.symm) h1, h2⟩
theorem wipe_at {σ : L2.St} {j : Nat} : ∀ {vs : List Nat}, j ∈ vs → (wipe σ vs)[j]? = if j < σ.length then some none else none
  | v :: vs, h => by
    show ((wipe σ vs).set v none)[j]? = _
    by_cases e : v = j
    · subst e
      by_cases hl : v < σ.length
      · rw [if_pos hl, List.getElem?_set_self (by rw [wipe_length]; exact hl)]
      · rw [if_neg hl]; exact List.getElem?_eq_none_iff.mpr (by rw [List.length_set, wipe_length]; omega)
    · rw [List.getElem?_set_ne e]
      exact wipe_at ((List.mem_cons.mp h).resolve_left (Ne.symm e))
theorem wipe_off {σ σ' : L2.St} {vs : List Nat} (h : Off vs σ σ') : wipe σ' vs = wipe σ vs := by
  apply List.ext_getElem?
  intro j
  by_cases hj : j ∈ vs
  · rw [wipe_at hj, wipe_at hj, h.1]
  · rw [wipe_out hj, wipe_out hj, h.2 j hj]
theorem off_wipe {σ : L2.St} {vs : List Nat} : Off vs σ (wipe σ vs) := ⟨wipe_length σ vs, fun j hj => wipe_out hj⟩
section
variable {K : PySem.W.Frag} {T : Tb} {Γ : Ctx} {O : List Nat} {ρ : Env} {σ : L2.St} {G H : Hp} {w : Wl}
theorem Rel.wipe (R : Rel K T Γ O ρ σ G H w) (vs : List Nat) : Rel K T Γ O (wipeE ρ vs) (wipe σ vs) G H w :=
  ⟨R.h, by rw [wipeE_length, wipe_length]; exact R.len, fun i d hi e => by
    obtain ⟨h1, h2⟩ := wipeE_get e
    obtain ⟨v, q1, q2⟩ := R.fro i d hi h2
    exact ⟨v, by rw [wipe_out h1]; exact q1, q2⟩, fun i d hi e => by
    obtain ⟨h1, h2⟩ := wipeE_get e
    obtain ⟨l, o, q1, q2⟩ := R.own i d hi h2
    exact ⟨l, o, by rw [wipe_out h1]; exact q1, q2⟩, fun i j l d e hi hj ne e1 e2 e3 e4 => by
    obtain ⟨h1, h2⟩ := wipeE_get e1
    obtain ⟨h3, h4⟩ := wipeE_get e2
    rw [wipe_out h1] at e3
    rw [wipe_out h3] at e4
    exact R.inj i j l d e hi hj ne h2 h4 e3 e4⟩
end
/-! ## a clause's tests -/
def DTs (X : Cx) (T : Tb) (O : List Nat) (Wx : WX) (ifs : List Expr) (f : Env → M Bool) : Prop := PTs X ifs (tT X.K T O Wx f)
theorem pts_imp {X : Cx} {ifs : List Expr} {t t' : TT} (h : PTs X ifs t) (hi : ∀ σ H Q, t' σ H Q → t σ H Q) : PTs X ifs t' := ⟨fun pins s σ H Q I q => h.run pins s σ H Q I (hi _ _ _ q)⟩
section
variable {X : Cx} {T : Tb} {L O O1 O2 O' xs : List Nat} {Wx : WX} {tg iter e elt c : Expr} {ifs rest : List Expr} {f : Env → M D} {pos : Pos}
def yesT : Env → M Bool := fun _ => M.pure true
theorem dts_nil : DTs X T O Wx [] yesT := pts_imp pts_nil fun σ H Q ⟨Γ, ρ, G, w, R, P⟩ => Post.ok P R rfl
theorem dts_one {g : Env → M Bool} (h : DT X T O Wx c g) : DTs X T O Wx [c] g := pts_one h
/-! ## [elt for tg in iter if ..] -/
abbrev WF : WX := fun _ _ _ _ => False
def lcL (g : D → Env → M Env) (t : Env → M Bool) (e : Env → M D) (ρ : Env) : List D → M (List D)
  | [] => M.pure []
  | d :: ds => M.bind (noX (g d ρ)) fun ρ1 => M.bind (noX (t ρ1)) fun k => if k = true then M.bind (noX (e ρ1)) fun x => M.bind (lcL g t e ρ ds) fun xs => M.pure (x :: xs) else lcL g t e ρ ds
def lcE (vs : List Nat) (fi : Env → M (List D)) (g : D → Env → M Env) (t : Env → M Bool) (e : Env → M D) : Env → M D := fun ρ => M.bind (fi ρ) fun items => if items.length ≤ sizeLine then M.bind (lcL g t e (wipeE ρ vs) items) fun ys => M.pure (.lst ys) else M.fail
/-- from a run that may not raise to a reading -/
theorem noX_step {α β γ : Type} {K : PySem.W.Frag} {I : IR β α} {f : Env → M α} {k : α → M γ} {Γ : Ctx} {ρ : Env} {σ : L2.St} {G H : Hp} {w : Wl} {Q1 : β → Hp → Prop} {Pr : Out γ → Prop} (hf : ¬ Pr .fail)
    (R : Rel K T Γ O ρ σ G H w) (P : Pr (M.bind (noX (f ρ)) k w))
    (hk : ∀ v d G1 H1 w1, Stp Γ.wl G H G1 H1 → Rel K T Γ O ρ σ G1 H1 w1 → I K Γ.wl G1 v d → Pr (k d w1) → Q1 v H1) : tG K T O Wx I f σ H Q1 := by
  refine ⟨Γ, ρ, G, w, R, ?_⟩
  simp only [M.bind, noX] at P
  cases e : f ρ w with
  | fail => rw [e] at P; exact (hf P).elim
  | exc c p w' => rw [e] at P; exact (hf P).elim
  | ok d w' => rw [e] at P; exact fun v G1 H1 st R1 i => hk v d G1 H1 w' st R1 i P
theorem noX_target {γ : Type} {K : PySem.W.Frag} {g : D → Env → M Env} {k : Env → M γ} {Γ : Ctx} {ρ : Env} {σ : L2.St} {G H : Hp} {w : Wl} {v : V} {d : D} {Q : L2.St → Hp → Prop} {Pr : Out γ → Prop} (hf : ¬ Pr .fail)
    (R : Rel K T Γ O ρ σ G H w) (i : Is K Γ.wl G v d) (P : Pr (M.bind (noX (g d ρ)) k w))
    (hk : ∀ ρ1 σ1 G1 H1 w1, Off xs σ σ1 → Stp Γ.wl G H G1 H1 → Rel K T Γ O1 ρ1 σ1 G1 H1 w1 → Pr (k ρ1 w1) → Q σ1 H1) : tGt K T O O1 xs g v σ H Q := by
  refine ⟨Γ, ρ, G, w, d, R, i, ?_⟩
  simp only [M.bind, noX] at P
  cases e : g d ρ w with
  | fail => rw [e] at P; exact (hf P).elim
  | exc c p w' => rw [e] at P; exact (hf P).elim
  | ok ρ1 w1 => rw [e] at P; exact fun σ' G' H' of st R' => hk ρ1 σ' G' H' w1 of st R' P
/-- the state as the block's turns leave it, seen with the def's own slots -/
theorem Rel.slots {K : PySem.W.Frag} {Γ : Ctx} {ρ ρ1 : Env} {σ σ1 : L2.St} {G H G1 H1 : Hp} {w w1 : Wl} (R : Rel K T Γ O ρ σ G H w) (st : Stp Γ.wl G H G1 H1) (h1 : RelH T Γ G1 H1 w1) (ow : ∀ i d l o, i ∈ O → ρ[i]? = some (some d) → σ[i]? = some (some (.ref l)) → G l = none → H l = some o → G1 l = none) : Rel K T Γ O ρ σ G1 H1 w1 :=
  ⟨h1, R.len, fun i d hi e => by
    obtain ⟨v, q1, q2⟩ := R.fro i d hi e
    exact ⟨v, q1, q2.mono st.x⟩, fun i d hi e => by
    obtain ⟨l, o, q1, q2, q3, q4, q5, q6, q7⟩ := R.own i d hi e
    exact ⟨l, o, q1, ow i d l o hi e q1 q2 q5, q3, q4, st.kp _ _ q5 q4 q6, q6, q7.mono st.x⟩, R.inj⟩
theorem Rel.slots' {K : PySem.W.Frag} {Γ : Ctx} {ρ : Env} {σ : L2.St} {G H G1 H1 : Hp} {w w1 : Wl} (R : Rel K T Γ O ρ σ G H w) (st : Stp Γ.wl G H G1 H1) (h1 : RelH T Γ G1 H1 w1) : Rel K T Γ O ρ σ G1 H1 w1 :=
  Rel.slots (ρ1 := ρ) (σ1 := σ) R st h1 fun i d l o _ _ _ hg hh => by
    cases q : G1 l with
    | none => rfl
    | some u =>
      rcases st.nw l (by rw [q]; exact fun z => nomatch z) with z | z
      · exact absurd hg z
      · rw [hh] at z; cases z
theorem M.bind_assoc {α β γ : Type} (m : M α) (f : α → M β) (g : β → M γ) : M.bind (M.bind m f) g = M.bind m fun a => M.bind (f a) g := by
  funext w
  simp only [M.bind]
  cases m w <;> rfl
theorem M.ite_bind {α β : Type} {c : Prop} [Decidable c] (a b : M α) (g : α → M β) : M.bind (if c then a else b) g = if c then M.bind a g else M.bind b g := by
  split <;> rfl
theorem Rel.poke {K : PySem.W.Frag} {Γ : Ctx} {ρ : Env} {σ : L2.St} {G H : Hp} {w : Wl} {p : Addr} {us vs : List V} (R : Rel K T Γ O ρ σ G H w) (n : New Γ O ρ σ G H p (.lst us)) :
    Rel K T Γ O ρ σ G (upd H p (.lst vs)) w ∧ New Γ O ρ σ G (upd H p (.lst vs)) p (.lst vs) := by
  have nl : ∀ {a : Addr} {x : HO}, G a = some x → a ≠ p := fun {a x} q z => by rw [z, n.g] at q; cases q
  refine ⟨⟨⟨fun a x q => by rw [upd_ne (nl q)]; exact R.h.sub _ _ q, R.h.nt, R.h.nw, R.h.g0, fun a x q y t => ?_, fun a q => ?_, fun a q => ?_, ?_, fun a us q => ?_⟩, R.len, R.fro, fun j f hj h => ?_, R.inj⟩, ⟨upd_same, n.g, n.b, n.w, noLst, n.no⟩⟩
  · have z : a ≠ p := fun z => by rw [z, n.b] at q; cases q
    rw [upd_ne z]; exact R.h.keep _ _ q y t
  · have z : a ≠ p := fun z => by rw [z, upd_same] at q; cases q
    rw [upd_ne z] at q; exact R.h.mono _ q
  · obtain ⟨q1, q2⟩ := R.h.well a q
    have z : a ≠ p := fun z => n.w (by rw [q, z])
    rw [upd_ne z]; exact ⟨q1, q2⟩
  · intro u hu
    obtain ⟨ps, q1, q2⟩ := R.h.tabs u hu
    have z : u.1 ≠ p := fun z => by rw [z, n.at_] at q1; cases q1
    refine ⟨ps, by rw [upd_ne z]; exact q1, q2.1, fun pos cv hc => ?_⟩
    obtain ⟨c, r1, r2⟩ := q2.2 pos cv hc
    have z2 : c ≠ p := fun z => by rw [z, n.at_] at r2; cases r2
    exact ⟨c, r1, by rw [upd_ne z2]; exact r2⟩
  · have z : a ≠ p := fun z => by rw [z, upd_same] at q; cases q
    rw [upd_ne z] at q; exact R.h.tv _ _ q
  · obtain ⟨m, u, q1, q2, q3, q4, q5, q6⟩ := R.own j f hj h
    have z : m ≠ p := fun z => n.no j f hj h (by rw [q1, z])
    exact ⟨m, u, q1, q2, q3, q4, by rw [upd_ne z]; exact q5, q6⟩
theorem New.step {Γ : Ctx} {ρ : Env} {σ : L2.St} {G H G1 H1 : Hp} {p : Addr} {o : HO} (n : New Γ O ρ σ G H p o) (st : Stp Γ.wl G H G1 H1) : New Γ O ρ σ G1 H1 p o :=
  ⟨st.kp _ _ n.at_ n.w n.nt, (by
    cases q : G1 p with
    | none => rfl
    | some u =>
      rcases st.nw p (by rw [q]; exact fun z => nomatch z) with z | z
      · exact absurd n.g z
      · rw [n.at_] at z; cases z), n.b, n.w, n.nt, n.no⟩
theorem lc_rd {own : List (Str × Nat)} {fi : Env → M (List D)} {g : D → Env → M Env} {t : Env → M Bool} {e : Env → M D} (σ : L2.St) (H : Hp) (Q : VK) (hh : tN X.K T O Wx (lcE (own.map (·.2)) fi g t e) σ H Q) :
    tLc (tI X.K T O Wx fi) (tGt X.K T O O (List.map (fun p : Str × Nat => p.2) own) g) (tT X.K T O WF t) (tE X.K T O WF e) (own.map (·.2)) σ H Q := by
  obtain ⟨Γ, ρ, G, w, R, P⟩ := hh
  refine postN_bind R P fun J items G1 H1 w1 st1 R1 Y P1 pD hD => ?_
  obtain ⟨hlen, P1⟩ := ifN P1
  obtain ⟨R0, n0, s0⟩ := R1.lay hD (noLst (xs := [])) (fun _ z => nomatch z)
  generalize hv : own.map (·.2) = vs at *
  refine ⟨fun i m H2 => i ≤ items.length ∧ m = items.length - i ∧ ∃ G2 w2 accV accD, Stp Γ.wl G1 H1 G2 H2 ∧ Rel X.K T Γ O ρ σ G2 H2 w2 ∧ New Γ O ρ σ G2 H2 pD (.lst accV) ∧ IsL X.K Γ.wl G2 accV accD ∧ accV.length ≤ i ∧
    PostN X.K T Γ O Wx ρ σ G1 H1 (M.bind (lcL g t e (wipeE ρ vs) (items.drop i)) (fun ys => M.pure (.lst (accD ++ ys))) w2) Q, ⟨items.length, Nat.zero_le _, rfl, G1, w1, [], [], s0, R0, n0, .nil, Nat.le_refl _, P1⟩, ?_⟩
  rintro i m H2 ⟨hi, rfl, G2, w2, accV, accD, st2, R2, n2, l2, hacc, P2⟩
  obtain ⟨Ya, Yb⟩ := Y i Γ O _ _ G2 H2 w2 rfl (R2.wipe vs) st2.x
  rcases drop_get (l := items) (i := i) with ⟨e1, e2⟩ | ⟨d, e1, e2⟩
  · rw [e2] at P2
    refine .inl ⟨Yb e1, ?_⟩
    exact P2 pD (.lst accV) G2 H2 st2 R2 n2 hD (.lst (by rw [List.append_nil]; exact l2))
  · rw [e2] at P2
    have hlt : i < items.length := (List.getElem?_eq_some_iff.mp e1).1
    obtain ⟨go, yl⟩ := Ya d e1
    refine .inr ⟨go, fun H3 => i + 1 ≤ items.length ∧ ∃ G2 w2 accV accD, Stp Γ.wl G1 H1 G2 H3 ∧ Rel X.K T Γ O ρ σ G2 H3 w2 ∧ New Γ O ρ σ G2 H3 pD (.lst accV) ∧ IsL X.K Γ.wl G2 accV accD ∧ accV.length ≤ i + 1 ∧
      PostN X.K T Γ O Wx ρ σ G1 H1 (M.bind (lcL g t e (wipeE ρ vs) (items.drop (i + 1))) (fun ys => M.pure (.lst (accD ++ ys))) w2) Q, fun H' ⟨q1, q2⟩ => ⟨items.length - (i + 1), by omega, q1, rfl, q2⟩, fun x H3 hy => ?_⟩
    obtain ⟨G3, st3, R3, i3⟩ := yl x H3 hy
    simp only [lcL] at P2
    rw [M.bind_assoc] at P2
    refine noX_target (Pr := fun r => PostN X.K T Γ O Wx ρ σ G1 H1 r Q) (fun z => z) R3 i3 P2 fun ρ1 σ1 G4 H4 w4 of st4 R4 P4 => ?_
    refine ⟨(wipe_off of).trans (wipe_off off_wipe), ?_⟩
    rw [M.bind_assoc] at P4
    refine noX_step (Pr := fun r => PostN X.K T Γ O Wx ρ σ G1 H1 r Q) (fun z => z) R4 P4 fun k k' G5 H5 w5 st5 R5 ek P5 => ?_
    obtain rfl : k = k' := ek
    rw [M.ite_bind] at P5
    have st25 := st3.trans (st4.trans st5)
    cases k with
    | false =>
      show (if false = true then _ else _)
      rw [if_neg (by decide)] at P5 ⊢
      exact ⟨hlt, G5, w5, accV, accD, st2.trans st25, R2.slots' st25 R5.h, n2.step st25, l2.mono st25.x, by omega, P5⟩
    | true =>
      show (if true = true then _ else _)
      rw [if_pos rfl] at P5 ⊢
      rw [M.bind_assoc] at P5
      refine noX_step (Pr := fun r => PostN X.K T Γ O Wx ρ σ G1 H1 r Q) (fun z => z) R5 P5 fun y z G6 H6 w6 st6 R6 i6 P6 => ?_
      have st26 := st25.trans st6
      have n6 := n2.step st26
      refine ⟨accV, n6.at_, by omega, hlt, ?_⟩
      obtain ⟨R7, n7⟩ := Rel.poke (vs := accV ++ [y]) (R2.slots' st26 R6.h) n6
      refine ⟨G6, w6, accV ++ [y], accD ++ [z], ?_, R7, n7, (l2.mono st26.x).append (.cons i6 .nil), by simp; omega, ?_⟩
      · have s := st2.trans st26
        refine ⟨s.x, fun a o q q1 q2 => ?_, s.nw, fun a q => ?_⟩
        · have z : a ≠ pD := fun z => by rw [z, hD] at q; cases q
          rw [upd_ne z]; exact s.kp _ _ q q1 q2
        · by_cases z : a = pD
          · subst z; exact hD
          · rw [upd_ne z] at q; exact s.mono _ q
      · rw [M.bind_assoc] at P6
        have e : (fun a : List D => M.bind (M.pure (z :: a)) fun ys => M.pure (D.lst (accD ++ ys))) = fun ys => M.pure (D.lst (accD ++ [z] ++ ys)) := by
          funext ys w
          show Out.ok (D.lst (accD ++ (z :: ys))) w = _
          rw [List.append_assoc]; rfl
        rw [e] at P6; exact P6

theorem df_lc {own : List (Str × Nat)} {scope : Scope} {fi : Env → M (List D)} {g : D → Env → M Env} {t : Env → M Bool} {e : Env → M D} (hc : X.calm = true) (hN : X.N.Nodup) (hi : DI X T O Wx tg iter fi) (ok : BlkOk X.N X.env.scope scope own)
    (hg : ∀ (s : Shared) (H : Hp) (C : Addr) (cl : List (Str × Addr)) (fp : List Addr), DG (X.blk s H scope (compEnvC scope cl C X.env) fp) T O O (own.map (·.2)) tg g)
    (ht : ∀ (s : Shared) (H : Hp) (C : Addr) (cl : List (Str × Addr)) (fp : List Addr), DTs (X.blk s H scope (compEnvC scope cl C X.env) fp) T O WF ifs t)
    (he : ∀ (s : Shared) (H : Hp) (C : Addr) (cl : List (Str × Addr)) (fp : List Addr), DE (X.blk s H scope (compEnvC scope cl C X.env) fp) T O WF elt e) (hs : ∀ x, foldedSetIterable iter X.env x = pure x := by intro _; rfl) :
    DF X T O Wx (.ListComp elt [⟨tg, iter, ifs, 0⟩] scope pos) (lcE (own.map (·.2)) fi g t e) :=
  pe_imp (pe_lc (g := tGt X.K T O O (List.map (fun p : Str × Nat => p.2) own) g) (tt := tT X.K T O WF t) (te := tE X.K T O WF e) hc hN hi ok hg ht he hs) fun σ H Q hh => lc_rd σ H Q hh
/-- from a store of a new object to its making -/
theorem setF_rd {i : Nat} {f : Env → M D} (hs : SubL O1 O) (ho : O' = i :: O1) (E : Ends) (σ : L2.St) (H : Hp) : tS X.K T L O O' Wx (setS i f) E σ H → tN X.K T O1 Wx f σ H fun v H1 => E.nx (σ.set i (some v)) H1 := fun ⟨Γ, ρ, G, w, R, P⟩ => by
  subst ho
  obtain ⟨G1, x1, R1⟩ := R.thaw hs
  refine ⟨Γ, ρ, G1, w, R1, ?_⟩
  simp only [setS, M.bind] at P
  cases q : f ρ w with
  | fail => rw [q] at P; exact P
  | exc c p w' => rw [q] at P; exact fun cls dd G' H' st => P cls dd σ G' H' (x1.trans st.x)
  | ok d w' =>
    rw [q] at P
    exact fun p o G' H' st R' n hp iv => P _ G' H' (x1.trans st.x) (R'.give n iv)
theorem new_rd {f : Env → M D} (σ : L2.St) (H : Hp) (Q : VK) : tE X.K T O Wx f σ H Q → tN X.K T O Wx f σ H Q := fun ⟨Γ, ρ, G, w, R, P⟩ => by
  refine ⟨Γ, ρ, G, w, R, ?_⟩
  cases q : f ρ w with
  | fail => rw [q] at P; exact P
  | exc c p w' => rw [q] at P; exact P
  | ok d w' =>
    rw [q] at P
    intro p o G' H' st R' n hp iv
    refine P (.ref p) (upd G' p o) H' ⟨st.x.trans (hx_upd n.g), st.kp, fun a z => ?_, st.mono⟩ (R'.reveal n) ((iv.mono (hx_upd n.g)).is upd_same)
    by_cases y : a = p
    · subst y; exact .inr hp
    · rw [upd_ne y] at z; exact st.nw a z
theorem set_rd {i : Nat} {f : Env → M D} (hs : SubL O1 O) (ho : O' = O1.filter (· != i)) (E : Ends) (σ : L2.St) (H : Hp) : tS X.K T L O O' Wx (setS i f) E σ H → tE X.K T O1 Wx f σ H fun v H1 => E.nx (σ.set i (some v)) H1 := fun ⟨Γ, ρ, G, w, R, P⟩ => by
  subst ho
  obtain ⟨G1, x1, R1⟩ := R.thaw hs
  exact PostS.bindE P x1 R1 fun v d G2 H2 w2 x2 R2 i2 P2 => P2 _ G2 H2 (x1.trans x2.x) (R2.store i2)
section
variable {own : List (Str × Nat)} {scope : Scope} {fi : Env → M (List D)} {g : D → Env → M Env} {t : Env → M Bool} {fe : Env → M D} {py spos : Pos}
/-- x = [comprehension], the name owns it -/
theorem ds_setLcF (i : Nat) {y : Str} (hc : X.calm = true) (hN : X.N.Nodup) (hi : DI X T O1 Wx tg iter fi) (ok : BlkOk X.N X.env.scope scope own)
    (hg : ∀ (s : Shared) (H : Hp) (C : Addr) (cl : List (Str × Addr)) (fp : List Addr), DG (X.blk s H scope (compEnvC scope cl C X.env) fp) T O1 O1 (own.map (·.2)) tg g)
    (ht : ∀ (s : Shared) (H : Hp) (C : Addr) (cl : List (Str × Addr)) (fp : List Addr), DTs (X.blk s H scope (compEnvC scope cl C X.env) fp) T O1 WF ifs t)
    (he : ∀ (s : Shared) (H : Hp) (C : Addr) (cl : List (Str × Addr)) (fp : List Addr), DE (X.blk s H scope (compEnvC scope cl C X.env) fp) T O1 WF elt fe) (hs : SubL O1 O := by decide) (ho : O' = i :: O1 := by rfl) (hy : X.N[i]? = some y := by rfl) (hyl : X.env.scope.names.lookup y = some .local := by rfl)
    (hsw : swapsWith (.ListComp elt [⟨tg, iter, ifs, 0⟩] scope pos) (some (.Name y py)) spos.line X.env = pure true := by rfl) (hf : ∀ x, foldedSetIterable iter X.env x = pure x := by intro _; rfl) :
    DS X T L O O' Wx (.Assign [.Name y py] (.ListComp elt [⟨tg, iter, ifs, 0⟩] scope pos) spos) (setS i (lcE (own.map (·.2)) fi g t fe)) :=
  ps_imp (ps_setLc (g := tGt X.K T O1 O1 (List.map (fun p : Str × Nat => p.2) own) g) (tt := tT X.K T O1 WF t) (te := tE X.K T O1 WF fe) hc hN hy hyl hsw hi ok hg ht he hf) fun E σ H h => lc_rd _ _ _ (setF_rd hs ho E σ H h)
/-- x = [comprehension], known from then on -/
theorem ds_setLc (i : Nat) {y : Str} (hc : X.calm = true) (hN : X.N.Nodup) (hi : DI X T O1 Wx tg iter fi) (ok : BlkOk X.N X.env.scope scope own)
    (hg : ∀ (s : Shared) (H : Hp) (C : Addr) (cl : List (Str × Addr)) (fp : List Addr), DG (X.blk s H scope (compEnvC scope cl C X.env) fp) T O1 O1 (own.map (·.2)) tg g)
    (ht : ∀ (s : Shared) (H : Hp) (C : Addr) (cl : List (Str × Addr)) (fp : List Addr), DTs (X.blk s H scope (compEnvC scope cl C X.env) fp) T O1 WF ifs t)
    (he : ∀ (s : Shared) (H : Hp) (C : Addr) (cl : List (Str × Addr)) (fp : List Addr), DE (X.blk s H scope (compEnvC scope cl C X.env) fp) T O1 WF elt fe) (hs : SubL O1 O := by decide) (ho : O' = O1.filter (· != i) := by rfl) (hy : X.N[i]? = some y := by rfl) (hyl : X.env.scope.names.lookup y = some .local := by rfl)
    (hsw : swapsWith (.ListComp elt [⟨tg, iter, ifs, 0⟩] scope pos) (some (.Name y py)) spos.line X.env = pure true := by rfl) (hf : ∀ x, foldedSetIterable iter X.env x = pure x := by intro _; rfl) :
    DS X T L O O' Wx (.Assign [.Name y py] (.ListComp elt [⟨tg, iter, ifs, 0⟩] scope pos) spos) (setS i (lcE (own.map (·.2)) fi g t fe)) :=
  ps_imp (ps_setLc (g := tGt X.K T O1 O1 (List.map (fun p : Str × Nat => p.2) own) g) (tt := tT X.K T O1 WF t) (te := tE X.K T O1 WF fe) hc hN hy hyl hsw hi ok hg ht he hf) fun E σ H h => lc_rd _ _ _ (new_rd _ _ _ (set_rd hs ho E σ H h))
end
end
end Q

namespace Q
open PySem PySem.Spec PyProof.Rows L2
/-! ## contracts of defs -/
structure EnterH (T : Tb) (wl : Option Addr) (G H : Hp) (w : Wl) : Prop where
  sub : Hx G H
  nt : ∀ a o, G a = some o → NoTbl o
  well : ∀ a, wl = some a → G a = none ∧ H a = some (.lst (w.map V.int))
  tabs : NdefX.TabsN T H
  tv : ∀ a vs, H a = some (.tup vs) → G a = some (.tup vs)
theorem EnterH.rel {T : Tb} {wl : Option Addr} {G H : Hp} {w : Wl} (e : EnterH T wl G H w) : RelH T ⟨wl, G, H⟩ G H w :=
  ⟨e.sub, e.nt, fun a h => .inl h, Hx.refl _, fun a o h _ _ => h, fun a h => h, e.well, e.tabs, e.tv⟩
theorem RelH.enter {T : Tb} {Γ : Ctx} {G H : Hp} {w : Wl} (R : RelH T Γ G H w) : EnterH T Γ.wl G H w := ⟨R.sub, R.nt, R.well, R.tabs, R.tv⟩
/-- behind a call -/
theorem RelH.after {T : Tb} {Γ : Ctx} {G H G1 H1 : Hp} {w w1 : Wl} (R : RelH T Γ G H w) (r : RelH T ⟨Γ.wl, G, H⟩ G1 H1 w1) : RelH T Γ G1 H1 w1 ∧ Stp Γ.wl G H G1 H1 :=
  ⟨⟨r.sub, r.nt, fun a h => (r.nw a h).elim (R.nw a) fun z => .inr (R.mono a z), R.g0.trans r.g0, fun a o h n t => r.keep a o (R.keep a o h n t) n t, fun a h => R.mono a (r.mono a h), r.well, r.tabs, r.tv⟩,
   ⟨r.g0, fun a o h n t => r.keep a o h n t, r.nw, r.mono⟩⟩
def PostF (K : PySem.W.Frag) (T : Tb) (wl : Option Addr) (G H : Hp) (r : Out D) (Q : VK) (E : XK) : Prop :=
  match r with
  | .fail => False
  | .ok d w' => ∀ v G' H', RelH T ⟨wl, G, H⟩ G' H' w' → Is K wl G' v d → Q v H'
  | .exc c p w' => ∀ cls dd G' H', RelH T ⟨wl, G, H⟩ G' H' w' → ExcIs K wl c p cls dd G' H' → E cls dd H'
/-- the promise: it does on data what g does -/
def spD (K : PySem.W.Frag) (T : Tb) (n : Nat) (g : List D → M D) : Sp := fun vs H Q E => ∃ wl G w ds, EnterH T wl G H w ∧ IsL K wl G vs ds ∧ vs.length = n ∧ PostF K T wl G H (g ds w) Q E
/-- a def's contract; no guard stands around the call -/
structure FnG (P : Program) (w : World) (K : PySem.W.Frag) (mg : Str → Option Value) (base : Heap) (k : Nat) (f : Addr) (fd : FuncData) (ps : List Str) (sp : Sp) : Prop where
  len : ∀ vs H Q E, sp vs H Q E → vs.length = ps.length
  run : ∀ (A : Around) (outer : List PySem.Env) (s : Shared) (H : Hp) (args : Args) (us : List Value) (vs : List V) (Q : VK) (E : XK), A.guards = some [] → Room k A → Env0 P w K mg base A outer s H →
    BindsTo s fd args (ps.zip us) → Vals vs us → sp vs H Q E → codeAny (model P w) A (.call (.ref f) args) (CR (L2.CX P w) outer P w H s Q E) s
/-- what a body's context knows -/
structure Ok (k : Nat) (X : Cx) : Prop where
  room : Room k X.A
  g : X.A.guards = some []
theorem Ok.u64 {k : Nat} {X : Cx} (o : Ok k X) : X.A.units + 64 < cLine := o.room.units
abbrev bodyX (P : Program) (w : World) (K : PySem.W.Frag) (mg : Str → Option Value) (base : Heap) (N : List Str) (qual : Str) (scope : Scope) (f : Addr) (cdv : Value) (A : Around) (outer : List PySem.Env) (s : Shared) (H : Hp) (E : XK) : Cx :=
  cxOf (L2.CX P w) P w K mg base N qual scope f cdv A outer s H E
abbrev WxE (E : XK) : WX := fun cls d _ H => E cls d H
def startE (n : Nat) (ds : List D) : Env := ds.map some ++ List.replicate (n - ds.length) none
def endF (r : Out Fl) : Out D := match r with
  | .fail => .fail
  | .exc c p w => .exc c p w
  | .ok (.nx _) w => .ok .non w
  | .ok (.rt d) w => .ok d w
  | .ok _ _ => .fail
/-- a def on data, by its body -/
def fnM (n : Nat) (f : Env → M Fl) : List D → M D := fun ds w => endF (f (startE n ds) w)
section
variable {P : Program} {w : World} {K : PySem.W.Frag} {mg : Str → Option Value} {base : Heap} {T : Tb}
theorem start_rel {N : List Str} {wl : Option Addr} {G H : Hp} {wv : Wl} {vs : List V} {ds : List D} (e : EnterH T wl G H wv) (l : IsL K wl G vs ds) : Rel K T ⟨wl, G, H⟩ [] (startE N.length ds) (L2.start N vs) G H wv := by
  refine ⟨e.rel, ?_, fun i d _ h => ?_, fun i d hi => (by cases hi), fun i j l d e hi => (by cases hi)⟩
  · simp only [startE, L2.start, List.length_append, List.length_map, List.length_replicate, l.length]
  · unfold startE at h
    rw [List.getElem?_append] at h
    by_cases hi : i < ds.length
    · rw [if_pos (by simpa using hi), List.getElem?_map] at h
      cases q : ds[i]? with
      | none => rw [q] at h; cases h
      | some d' =>
        rw [q] at h
        cases h
        obtain ⟨v, h1, h2⟩ := l.get q
        refine ⟨v, ?_, h2⟩
        unfold L2.start
        rw [List.getElem?_append, if_pos (by rw [List.length_map, l.length]; exact hi), List.getElem?_map, h1]; rfl
    · rw [if_neg (by simpa using hi), List.getElem?_replicate] at h
      split at h <;> cases h
theorem fnG_of {k : Nat} {f : Addr} {fname qual : Str} {params : Arguments} {body : List Stmt} {scope : Scope} {dV kV doc pm cdv ct oc : Value} {an od : Option Addr} {osl : Array (Option Value)} {N ps : List Str} {sp : Sp}
    (lk : K.lookup f = some ⟨oc, od, .func (PySem.W.fnOf fname qual params body scope dV kV doc pm an cdv ct), osl⟩) (hcd : PySem.W.codeIn K cdv qual = true) (S : FnScope N ps scope) (hlen : ∀ vs H Q E, sp vs H Q E → vs.length = ps.length)
    (hbody : ∀ (A : Around) (outer : List PySem.Env) (s : Shared) (H : Hp) (vs : List V) (Q : VK) (E : XK), Ok k (bodyX P w K mg base N qual scope f cdv A outer s H E) → sp vs H Q E →
      ∃ t, PSs (bodyX P w K mg base N qual scope f cdv A outer s H E) body t ∧ t { nx := fun _ H1 => Q .non H1, rt := Q } (L2.start N vs) H) :
    FnG P w K mg base (k + 1) f (PySem.W.fnOf fname qual params body scope dV kV doc pm an cdv ct) ps sp := by
  refine ⟨hlen, ?_⟩
  intro A outer s H args us vs Q E hg hr en hb rv hsp
  have up : ∀ b o, base.get? b = some o → s.heap.get? b = some o := fun b o e => (en.bs b o e).1
  have kinds : ∀ y ∈ ps.zip us, scope.names.lookup y.1 = some .local ∨ (scope.names.lookup y.1 = some .cell ∧ ((cellsFrom (s.heap.objs.size + 1) scope.names []).lookup y.1).isSome = true) := by
    rintro ⟨x, u⟩ hy
    rcases S.par x (List.of_mem_zip hy).1 with z | z
    · exact .inl z
    · exact .inr ⟨z, PySem.W.cellsFrom_some _ _ _ (.inl z)⟩
  have KH : K.In s.heap := en.mod.kin.keeps up
  refine codeAny_call_function hr.depth (KH _ _ lk) rfl S.co S.gen rfl (PySem.W.codeRec_of KH hcd) ?_
  refine hb _ _ _ _ (wpAny_newFunctionEnv_cells S.kind kinds ?_)
  rintro env he s1 x
  subst he
  refine ⟨(en.mod.nolimit.keeps up).keeps x.toInCall.keep, codeAny_func ?_⟩
  obtain ⟨t, ht, hq⟩ := hbody A outer s H vs Q E ⟨hr.deeper _, hg⟩ hsp
  have I0 : Inv (bodyX P w K mg base N qual scope f cdv A outer s H E) [] (L2.start N vs) H s1 := inv_start S hr.hd en (hlen _ _ _ _ hsp) rv x
  refine wpAny_mono (ht.run [] s1 (L2.start N vs) H _ I0 hq) ?_ (fun _ _ z => z)
  intro fl s2 hs
  cases fl with
  | ret u => obtain ⟨v, _, H2, J, ru, q⟩ := hs; exact ⟨v, H2, J.os, J.bare, J.base, J.hok, ru, q⟩
  | next => obtain ⟨_, H2, J, q⟩ := hs; exact ⟨V.non, H2, J.os, J.bare, J.base, J.hok, rfl, q⟩
  | brk => obtain ⟨_, _, _, q⟩ := hs; exact q.elim
  | cont => obtain ⟨_, _, _, q⟩ := hs; exact q.elim
theorem FnG.mono {j k : Nat} {f : Addr} {fd : FuncData} {ps : List Str} {sp : Sp} (F : FnG P w K mg base j f fd ps sp) (h : j ≤ k) : FnG P w K mg base k f fd ps sp :=
  ⟨F.len, fun A o s H a us vs Q E hg hr => F.run A o s H a us vs Q E hg (hr.mono h)⟩
/-- a def by its body, on data -/
theorem fnG_data {k : Nat} {f : Addr} {fd : FuncData} {fname qual : Str} {params : Arguments} {body : List Stmt} {scope : Scope} {dvs : List V} {kws : List (Str × V)} {N ps : List Str} {g : Env → M Fl} {O : List Nat} (F : FunD K fname qual params body scope dvs kws f fd) (S : FnScope N ps scope)
    (hbody : ∀ (cdv : Value) (A : Around) (outer : List PySem.Env) (s : Shared) (H : Hp) (E : XK), Ok k (bodyX P w K mg base N qual scope f cdv A outer s H E) →
      DSs (bodyX P w K mg base N qual scope f cdv A outer s H E) T [] [] O (WxE E) body g) :
    FnG P w K mg base (k + 1) f fd ps (spD K T ps.length (fnM N.length g)) := by
  obtain ⟨oc, od, dV, kV, doc, pm, an, cdv, ct, osl, rfl, lk, hcd, _, _⟩ := F.ex
  refine fnG_of lk hcd S (fun vs H Q E ⟨wl, G, wv, ds, _, _, h, _⟩ => h) fun A outer s H vs Q E ok ⟨wl, G, wv, ds, en, l, hl, P1⟩ => ⟨_, hbody cdv A outer s H E ok, ?_⟩
  refine ⟨⟨wl, G, H⟩, startE N.length ds, G, wv, start_rel en l, ?_⟩
  have P2 : PostF K T wl G H (endF (g (startE N.length ds) wv)) Q E := P1
  show PostS K T ⟨wl, G, H⟩ [] O (WxE E) G (g (startE N.length ds) wv) _
  cases e : g (startE N.length ds) wv with
  | fail => rw [e] at P2; exact P2
  | exc c p w' => rw [e] at P2; exact fun cls dd σ' G' H' _ r x => P2 cls dd G' H' r x
  | ok r w' =>
    rw [e] at P2
    cases r with
    | nx ρ' => exact fun σ' G' H' _ R => P2 .non G' H' R.h .non
    | rt d => exact fun v G' H' _ r i => P2 v G' H' r i
    | bk ρ' => exact False.elim P2
    | ct ρ' => exact False.elim P2
end
/-! ## calls -/
section
variable {X : Cx} {T : Tb} {O : List Nat} {Wx : WX} {k : Nat} {f : Addr} {fd : FuncData} {ps : List Str} {g : List D → M D} {x : Str} {p pos : Pos} {e : Expr} {es : List Expr} {fa : Env → M (List D)}
/-- behind a call, with the caller's slots -/
theorem Rel.after {K : PySem.W.Frag} {Γ : Ctx} {ρ : Env} {σ : L2.St} {G H G1 H1 : Hp} {w w1 : Wl} (R : Rel K T Γ O ρ σ G H w) (r : RelH T ⟨Γ.wl, G, H⟩ G1 H1 w1) : Rel K T Γ O ρ σ G1 H1 w1 ∧ Stp Γ.wl G H G1 H1 :=
  let ⟨h1, st⟩ := R.h.after r
  ⟨R.slots' st h1, st⟩
theorem run_fnG {pins : List (Addr × Obj)} {s : Shared} {σ : L2.St} {H : Hp} {Q : VK} {us : List Value} {vs : List V} {sp : Sp} (F : FnG X.prog X.w X.K X.mg X.base k f fd ps sp) (hr : Room k X.A) (hg : X.A.guards = some []) (tk : Takes X Wx)
    (hb : BindsTo s fd ⟨us, []⟩ (ps.zip us)) (I : Inv X pins σ H s) (r : Vals vs us) (q : sp vs H Q (WE Wx σ)) : wpAny (model X.prog X.w) X.A (call (.ref f) us) (EP X pins σ Q) X.xe s := by
  refine wpAny_call (codeAny_mono (F.run X.A X.stack s H ⟨us, []⟩ us vs Q (WE Wx σ) hg hr I.env0 hb r q) ?_)
  intro r s1 h
  cases r with
  | error e => exact passAt tk σ pins H s e s1 I h
  | ok fl =>
    cases fl with
    | ret u => exact I.after h
    | _ => exact False.elim h
/-- from a state's post to the callee's promise -/
theorem spD_of {ρ : Env} {σ : L2.St} {Γ : Ctx} {G H : Hp} {w : Wl} {vs : List V} {ds : List D} {Q : VK} {n : Nat} (R : Rel X.K T Γ O ρ σ G H w) (l : IsL X.K Γ.wl G vs ds) (hn : vs.length = n) (Pq : Post X.K T Γ O Wx ρ σ G H IsV (g ds w) Q) : spD X.K T n g vs H Q (WE Wx σ) := by
  refine ⟨Γ.wl, G, w, ds, R.h.enter, l, hn, ?_⟩
  cases e : g ds w with
  | fail => rw [e] at Pq; exact Pq
  | ok d w' =>
    rw [e] at Pq
    intro v G' H' r i
    obtain ⟨R', st⟩ := R.after r
    exact Pq v G' H' st R' i
  | exc c p w' =>
    rw [e] at Pq
    intro cls dd G' H' r z
    obtain ⟨R', st⟩ := R.after r
    exact Pq cls dd G' H' st R'.h z
def argN (n : Nat) (g : List D → M D) (fa : Env → M (List D)) : Env → M D := fun ρ => M.bind (fa ρ) fun ds => if ds.length = n then g ds else M.fail
theorem ifP' {α β : Type} {K : PySem.W.Frag} {Γ : Ctx} {ρ : Env} {σ : L2.St} {G H : Hp} {I : IR β α} {c : Prop} [Decidable c] {m : M α} {w : Wl} {Q : β → Hp → Prop} (P : Post K T Γ O Wx ρ σ G H I ((if c then m else M.fail) w) Q) : c ∧ Post K T Γ O Wx ρ σ G H I (m w) Q := by
  by_cases h : c
  · rw [if_pos h] at P; exact ⟨h, P⟩
  · rw [if_neg h] at P; exact False.elim P
/-- f(e, ..) of a def of the module -/
theorem de_call {j : Nat} (F : FnG X.prog X.w X.K X.mg X.base k f fd ps (spD X.K T ps.length g)) (ok : Ok j X) (hk : k ≤ j) (tk : Takes X Wx) (hm : X.mg x = some (.ref f)) (kp : PySem.W.keepIn X.K (.ref f) = true) (hb : Binds X.K fd ps [])
    (ha : DA X T O Wx (e :: es) fa) (hg : Gl X x := by rfl) (hdb : (x == ("__debug__" : Str)) = false := by decide) (he : starEach (e :: es) X.env = (false, eval e X.env) :: starEach es X.env := by rfl) (hpl : (backTo pos (starEach es X.env)).any (·.1) = false := by rfl) :
    DE X T O Wx (.Call (.Name x p) (e :: es) [] pos) (argN ps.length g fa) := by
  refine ⟨fun pins s σ H Q I h => ?_⟩
  refine wpAny_Call_Name_kw (ld_glob I hg hm ?_ hdb)
  obtain ⟨Γ, ρ, G, w, R, Pq⟩ := h
  have q : tL X.K T O Wx fa σ H (fun vs H1 => spD X.K T ps.length g vs H1 Q (WE Wx σ)) := post_bind R Pq fun vs ds G1 H1 w1 st R1 l P1 => by
    obtain ⟨hn, P2⟩ := ifP' P1
    exact spD_of R1 l (l.length.trans hn) P2
  refine PySem.W.callWith_K (h₀ := X.base) I.ok.mod.kin kp (thn (ha.run pos pins s σ H _ I q) ?_) he hpl
  rintro us s1 ⟨vs, H1, I1, rv, q1⟩
  refine ⟨I1.kIn, run_fnG F (ok.room.mono hk) ok.g tk ?_ I1 rv q1⟩
  have hl : us.length = ps.length := by rw [← rv.length]; exact F.len _ _ _ _ q1
  have := hb s1 us I1.kIn (by rw [List.append_nil]; exact hl)
  rw [List.append_nil] at this
  exact this
theorem de_call0 {j : Nat} (F : FnG X.prog X.w X.K X.mg X.base k f fd [] (spD X.K T 0 g)) (ok : Ok j X) (hk : k ≤ j) (tk : Takes X Wx) (hm : X.mg x = some (.ref f)) (kp : PySem.W.keepIn X.K (.ref f) = true) (hb : Binds X.K fd [] [])
    (hg : Gl X x := by rfl) (hdb : (x == ("__debug__" : Str)) = false := by decide) : DE X T O Wx (.Call (.Name x p) [] [] pos) (fun _ => g []) := by
  refine ⟨fun pins s σ H Q I h => ?_⟩
  refine wpAny_Call_Name_kw (ld_glob I hg hm ?_ hdb)
  obtain ⟨Γ, ρ, G, w, R, Pq⟩ := h
  exact PySem.W.callWith_K0 I.kIn kp (run_fnG F (ok.room.mono hk) ok.g tk (hb s [] I.kIn rfl) I .nil (spD_of R .nil rfl Pq))
/-- how the keywords' values come to their parameters: places, by the values as they are written -/
def permL {α : Type} (ix : List Nat) (xs : List α) : List α := ix.filterMap fun i => xs[i]?
theorem permL_rel {K : PySem.W.Frag} {wl : Option Addr} {G : Hp} {vs : List V} {ds : List D} (l : IsL K wl G vs ds) : ∀ ix : List Nat, IsL K wl G (permL ix vs) (permL ix ds)
  | [] => .nil
  | i :: ix => by
    unfold permL
    rw [List.filterMap_cons, List.filterMap_cons]
    cases e : ds[i]? with
    | none =>
      have : vs[i]? = none := List.getElem?_eq_none_iff.mpr (by rw [l.length]; exact List.getElem?_eq_none_iff.mp e)
      rw [this]; exact permL_rel l ix
    | some d =>
      obtain ⟨v, h1, h2⟩ := l.get e
      rw [h1]; exact .cons h2 (permL_rel l ix)
theorem permL_vals {vs : List V} {us : List Value} (l : Vals vs us) : ∀ ix : List Nat, Vals (permL ix vs) (permL ix us)
  | [] => .nil
  | i :: ix => by
    unfold permL
    rw [List.filterMap_cons, List.filterMap_cons]
    cases e : vs[i]? with
    | none => rw [l.none_of e]; exact permL_vals l ix
    | some d =>
      obtain ⟨v, h1, h2⟩ := l.get e
      rw [h1]; exact .cons h2 (permL_vals l ix)
def DK (X : Cx) (T : Tb) (O : List Nat) (Wx : WX) (ks : List Keyword) (f : Env → M (List D)) : Prop := PK X ks (tL X.K T O Wx f)
theorem pk_imp {X : Cx} {ks : List Keyword} {t t' : TA} (h : PK X ks t) (hi : ∀ σ H Q, t' σ H Q → t σ H Q) : PK X ks t' := ⟨fun p pins s σ H Q I q => h.run p pins s σ H Q I (hi _ _ _ q)⟩
theorem dk_nil : DK X T O Wx [] nilA := pk_imp pk_nil fun σ H Q ⟨Γ, ρ, G, w, R, P⟩ => Post.ok P R .nil
theorem dk_cons {nm : Option Str} {kpos : Pos} {ks : List Keyword} {fe : Env → M D} {fr : Env → M (List D)} (ha : DE X T O Wx e fe) (hr : DK X T O Wx ks fr) : DK X T O Wx (⟨nm, e, kpos⟩ :: ks) (consA fe fr) :=
  pk_imp (pk_cons ha hr) fun σ H Q ⟨Γ, ρ, G, w, R, P⟩ => post_bind R P fun v d G1 H1 w1 x1 R1 i1 P1 => post_bind R1 P1 fun vs ds G2 H2 w2 x2 R2 i2 P2 =>
    Post.ok P2 R2 (.cons (i1.mono x2.x) i2)
end
end Q

namespace Q
open PySem PySem.Spec PyProof.Rows L2
section
variable {X : Cx} {T : Tb} {O : List Nat} {Wx : WX} {k : Nat} {f : Addr} {fd : FuncData} {ps ks : List Str} {g : List D → M D} {x : Str} {p pos : Pos} {e : Expr} {es : List Expr} {kws : List Keyword} {fa fk : Env → M (List D)} {ix : List Nat}
/-- the values as they are written (by position, then by keyword) come to the parameters by places -/
def KwB (K : PySem.W.Frag) (fd : FuncData) (ps ks : List Str) (n : Nat) (ix : List Nat) : Prop :=
  ∀ (s : Shared) (us ws : List Value), K.In s.heap → us.length = n → ws.length = ks.length → BindsTo s fd ⟨us, ks.zip ws⟩ (ps.zip (permL ix (us ++ ws)))
theorem run_fnGK {pins : List (Addr × Obj)} {s : Shared} {σ : L2.St} {H : Hp} {Q : VK} {us ws : List Value} {vs : List V} {sp : Sp} (F : FnG X.prog X.w X.K X.mg X.base k f fd ps sp) (hr : Room k X.A) (hg : X.A.guards = some []) (tk : Takes X Wx)
    (hb : BindsTo s fd ⟨us, ks.zip ws⟩ (ps.zip (permL ix (us ++ ws)))) (I : Inv X pins σ H s) (r : Vals vs (permL ix (us ++ ws))) (q : sp vs H Q (WE Wx σ)) : wpAny (model X.prog X.w) X.A (call (.ref f) us (ks.zip ws)) (EP X pins σ Q) X.xe s := by
  refine wpAny_call (codeAny_mono (F.run X.A X.stack s H ⟨us, ks.zip ws⟩ _ vs Q (WE Wx σ) hg hr I.env0 hb r q) ?_)
  intro r s1 h
  cases r with
  | error e => exact passAt tk σ pins H s e s1 I h
  | ok fl =>
    cases fl with
    | ret u => exact I.after h
    | _ => exact False.elim h
def argK (n m : Nat) (ix : List Nat) (g : List D → M D) (fa fk : Env → M (List D)) : Env → M D := fun ρ => M.bind (fa ρ) fun ds => M.bind (fk ρ) fun es =>
  if ds.length = n ∧ es.length = m ∧ (permL ix (ds ++ es)).length = ix.length then g (permL ix (ds ++ es)) else M.fail
theorem de_callK {j : Nat} (n : Nat) (ks : List Str) (ix : List Nat) (F : FnG X.prog X.w X.K X.mg X.base k f fd ps (spD X.K T ps.length g)) (ok : Ok j X) (hk : k ≤ j) (tk : Takes X Wx) (hm : X.mg x = some (.ref f)) (kp : PySem.W.keepIn X.K (.ref f) = true) (hb : KwB X.K fd ps ks n ix) (hix : ix.length = ps.length)
    (ha : DA X T O Wx (e :: es) fa) (hkw : DK X T O Wx kws fk) (hg : Gl X x := by rfl) (hdb : (x == ("__debug__" : Str)) = false := by decide)
    (hall : (backToKw pos (keywordEach kws X.env)).all (·.1.isSome) = true := by rfl) (hks : (backToKw pos (keywordEach kws X.env)).filterMap (·.1) = ks := by rfl) (he : starEach (e :: es) X.env = (false, eval e X.env) :: starEach es X.env := by rfl)
    (hpl : ((backTo pos (starEach (e :: es) X.env)).any (·.1) || (backToKw pos (keywordEach kws X.env)).any (·.1.isNone)) = false := by rfl) :
    DE X T O Wx (.Call (.Name x p) (e :: es) kws pos) (argK n ks.length ix g fa fk) := by
  refine ⟨fun pins s σ H Q I h => ?_⟩
  refine wpAny_Call_Name_kw (ld_glob I hg hm ?_ hdb)
  obtain ⟨Γ, ρ, G, w, R, Pq⟩ := h
  have q : tL X.K T O Wx fa σ H (fun vs H1 => tL X.K T O Wx fk σ H1 (fun zs H2 => vs.length = n ∧ zs.length = ks.length ∧ spD X.K T ps.length g (permL ix (vs ++ zs)) H2 Q (WE Wx σ))) := post_bind R Pq fun vs ds G1 H1 w1 st R1 l P1 =>
    post_bind R1 P1 fun zs ds2 G2 H2 w2 st2 R2 l2 P2 => by
    obtain ⟨⟨h1, h2, h3⟩, P3⟩ := ifP' P2
    have l3 := permL_rel ((l.mono st2.x).append l2) ix
    exact ⟨l.length.trans h1, l2.length.trans h2, spD_of R2 l3 (by rw [l3.length, h3, hix]) P3⟩
  refine PySem.W.callWith_KW (h₀ := X.base) I.ok.mod.kin kp hall (thn (ha.run pos pins s σ H _ I q) ?_) hpl he
  rintro us s1 ⟨vs, H1, I1, rv, q1⟩
  refine thn (hkw.run pos pins s1 σ H1 _ I1 q1) ?_
  rintro ws s2 ⟨zs, H2, I2, rz, hn, hz, q2⟩
  refine ⟨I2.kIn, ?_⟩
  rw [hks]
  have rr := permL_vals (rv.append rz) ix
  exact run_fnGK F (ok.room.mono hk) ok.g tk (hb s2 us ws I2.kIn (by rw [← rv.length]; exact hn) (by rw [← rz.length]; exact hz)) I2 rr q2
theorem de_callK0 {j : Nat} (ks : List Str) (ix : List Nat) (F : FnG X.prog X.w X.K X.mg X.base k f fd ps (spD X.K T ps.length g)) (ok : Ok j X) (hk : k ≤ j) (tk : Takes X Wx) (hm : X.mg x = some (.ref f)) (kp : PySem.W.keepIn X.K (.ref f) = true) (hb : KwB X.K fd ps ks 0 ix) (hix : ix.length = ps.length)
    (hkw : DK X T O Wx kws fk) (hg : Gl X x := by rfl) (hdb : (x == ("__debug__" : Str)) = false := by decide)
    (hall : (backToKw pos (keywordEach kws X.env)).all (·.1.isSome) = true := by rfl) (hks : (backToKw pos (keywordEach kws X.env)).filterMap (·.1) = ks := by rfl)
    (hpl : (backToKw pos (keywordEach kws X.env)).any (·.1.isNone) = false := by rfl) :
    DE X T O Wx (.Call (.Name x p) [] kws pos) (argK 0 ks.length ix g nilA fk) := by
  refine ⟨fun pins s σ H Q I h => ?_⟩
  refine wpAny_Call_Name_kw (ld_glob I hg hm ?_ hdb)
  obtain ⟨Γ, ρ, G, w, R, Pq⟩ := h
  have q : tL X.K T O Wx fk σ H (fun zs H2 => zs.length = ks.length ∧ spD X.K T ps.length g (permL ix zs) H2 Q (WE Wx σ)) := post_bind R Pq fun zs ds2 G2 H2 w2 st2 R2 l2 P2 => by
    obtain ⟨⟨h1, h2, h3⟩, P3⟩ := ifP' P2
    have l3 := permL_rel l2 ix
    rw [List.nil_append] at P3 h3
    exact ⟨l2.length.trans h2, spD_of R2 l3 (by rw [l3.length, h3, hix]) P3⟩
  refine PySem.W.callWith_KW0 (h₀ := X.base) I.ok.mod.kin kp hall (thn (hkw.run pos pins s σ H _ I q) ?_) hpl
  rintro ws s2 ⟨zs, H2, I2, rz, hz, q2⟩
  refine ⟨I2.kIn, ?_⟩
  rw [hks]
  have rr := permL_vals (us := [] ++ ws) rz ix
  exact run_fnGK (us := []) F (ok.room.mono hk) ok.g tk (hb s2 [] ws I2.kIn rfl (by rw [← rz.length]; exact hz)) I2 rr q2
end
end Q

namespace Q
open PySem PySem.Spec PyProof.Rows L2
theorem kwB_of {K : PySem.W.Frag} {x qual : Str} {params : Arguments} {body : List Stmt} {scope : Scope} {kws : List (Str × V)} {f : Addr} {fd : FuncData} {ps ks : List Str} {n : Nat} {ix : List Nat} (F : FunD K x qual params body scope [] kws f fd)
    (h : ∀ (kV doc pm : Value) (an : Option Addr) (cdv ct : Value) (us ws : List Value), us.length = n → ws.length = ks.length → bindArgs (PySem.W.fnOf x qual params body scope .none kV doc pm an cdv ct) ⟨us, ks.zip ws⟩ = pure (ps.zip (permL ix (us ++ ws)))) : KwB K fd ps ks n ix := by
  obtain ⟨oc, od, dV, kV, doc, pm, an, cdv, ct, osl, rfl, lk, hcd, hd, _⟩ := F.ex
  intro s us ws _ h1 h2
  rcases hd with ⟨_, rfl⟩ | ⟨hn, _⟩
  · exact .of_eq (h kV doc pm an cdv ct us ws h1 h2)
  · exact absurd rfl hn
/-! ## built-in functions -/
abbrev CallSp (K : PySem.W.Frag) (T : Tb) (r : List V → Hp → VK → Prop) (g : List D → M D) : Prop :=
  ∀ (Γ : Ctx) (O : List Nat) (Wx : WX) (ρ : Env) (σ : L2.St) (G H : Hp) (w : Wl) (vs : List V) (ds : List D) (Q : VK), Rel K T Γ O ρ σ G H w → IsL K Γ.wl G vs ds → Post K T Γ O Wx ρ σ G H IsV (g ds w) Q → r vs H Q
def CallOk (X : Cx) (T : Tb) (f : Value) (g : List D → M D) : Prop := ∃ r, CallR X f r ∧ CallSp X.K T r g
section
variable {X : Cx} {T : Tb} {O : List Nat} {Wx : WX} {x : Str} {p pos : Pos} {e : Expr} {es : List Expr} {g : List D → M D} {fa : Env → M (List D)} {bid : String}
theorem callE_ok {r : List V → Hp → VK → Prop} (h : CallSp X.K T r g) (σ : L2.St) (H : Hp) (Q : VK) : tE X.K T O Wx (argE g fa) σ H Q → tCB r (tL X.K T O Wx fa) σ H Q :=
  fun ⟨Γ, ρ, G, w, R, P⟩ => post_bind R P fun vs ds G1 H1 w1 st R1 l P1 => h Γ O Wx ρ σ G1 H1 w1 vs ds Q R1 l P1
theorem de_callB (ho : CallOk X T (.builtin bid) g) (hm : X.mg x = none) (hv : bootBuiltins x = some (.builtin bid)) (ha : DA X T O Wx (e :: es) fa) (hg : Gl X x := by rfl) (hn : x ≠ "__name__" := by decide) (hdb : (x == ("__debug__" : Str)) = false := by decide)
    (he : starEach (e :: es) X.env = (false, eval e X.env) :: starEach es X.env := by rfl) (hpl : (backTo pos (starEach es X.env)).any (·.1) = false := by rfl) : DE X T O Wx (.Call (.Name x p) (e :: es) [] pos) (argE g fa) := by
  obtain ⟨r, h1, h2⟩ := ho
  exact pe_imp (pe_callB h1 hg hm hv ha hn hdb he hpl) (callE_ok h2)
theorem de_callTy (ho : CallOk X T (.type bid) g) (hm : X.mg x = none) (hv : bootBuiltins x = some (.type bid)) (ha : DA X T O Wx (e :: es) fa) (hg : Gl X x := by rfl) (hn : x ≠ "__name__" := by decide) (hdb : (x == ("__debug__" : Str)) = false := by decide)
    (he : starEach (e :: es) X.env = (false, eval e X.env) :: starEach es X.env := by rfl) (hpl : (backTo pos (starEach es X.env)).any (·.1) = false := by rfl) : DE X T O Wx (.Call (.Name x p) (e :: es) [] pos) (argE g fa) := by
  obtain ⟨r, h1, h2⟩ := ho
  exact pe_imp (pe_callTy h1 hg hm hv ha hn hdb he hpl) (callE_ok h2)
theorem boot_abs' : bootBuiltins "abs" = some (.builtin "abs") := by decide +kernel
theorem boot_int' : bootBuiltins "int" = some (.type "int") := by decide +kernel
theorem boot_max' : bootBuiltins "max" = some (.builtin "max") := by decide +kernel
theorem boot_min' : bootBuiltins "min" = some (.builtin "min") := by decide +kernel
theorem boot_sum' : bootBuiltins "sum" = some (.builtin "sum") := by decide +kernel
theorem boot_all' : bootBuiltins "all" = some (.builtin "all") := by decide +kernel
theorem boot_any' : bootBuiltins "any" = some (.builtin "any") := by decide +kernel
theorem boot_tuple' : bootBuiltins "tuple" = some (.type "tuple") := by decide +kernel
theorem boot_list' : bootBuiltins "list" = some (.type "list") := by decide +kernel
theorem boot_divmod' : bootBuiltins "divmod" = some (.builtin "divmod") := by decide +kernel
theorem boot_repr' : bootBuiltins "repr" = some (.builtin "repr") := by decide +kernel
theorem boot_sorted' : bootBuiltins "sorted" = some (.builtin "sorted") := by decide +kernel
theorem boot_isinstance' : bootBuiltins "isinstance" = some (.builtin "isinstance") := by decide +kernel
theorem boot_bool' : bootBuiltins "bool" = some (.type "bool") := by decide +kernel
theorem boot_str' : bootBuiltins "str" = some (.type "str") := by decide +kernel
theorem boot_dict' : bootBuiltins "dict" = some (.type "dict") := by decide +kernel
theorem boot_len' : bootBuiltins "len" = some (.builtin "len") := by decide +kernel
theorem boot_set' : bootBuiltins "set" = some (.type "set") := by decide +kernel
def lenD : List D → M D
  | [.str s] => if s.length ≤ sizeLine then M.pure (.int (s.length : Nat)) else M.fail
  | [.tup xs] => M.pure (.int (xs.length : Nat))
  | [.lst xs] => M.pure (.int (xs.length : Nat))
  | [.scr xs] => M.pure (.int (xs.length : Nat))
  | _ => M.fail
theorem ok_len : CallOk X T (.builtin "len") lenD := by
  refine ⟨_, call_len, fun Γ O Wx ρ σ G H w vs ds Q R l P => ?_⟩
  cases l with
  | nil => exact False.elim P
  | cons i l =>
    cases l with
    | cons _ _ => cases i <;> exact False.elim P
    | nil =>
      cases i with
      | str s =>
        obtain ⟨h, P⟩ := ifP' P
        exact ⟨_, _, rfl, ⟨h, rfl⟩, Post.ok P R (.int _)⟩
      | tup s l => exact ⟨_, _, rfl, .inr ⟨_, R.h.sub.tq s, rfl⟩, by rw [l.length]; exact Post.ok P R (.int _)⟩
      | lst s l => exact ⟨_, _, rfl, .inl ⟨_, SqL.of (R.h.sub _ _ s), rfl⟩, by rw [l.length]; exact Post.ok P R (.int _)⟩
      | scr s l => exact ⟨_, _, rfl, .inl ⟨_, R.h.sub.sqL s, rfl⟩, by rw [l.length]; exact Post.ok P R (.int _)⟩
      | _ => exact False.elim P
def intD : List D → M D
  | [.int i] => M.pure (.int i)
  | [.bl k] => M.pure (.int (if k then 1 else 0))
  | _ => M.fail
theorem ok_int : CallOk X T (.type "int") intD := by
  refine ⟨_, call_int1, fun Γ O Wx ρ σ G H w vs ds Q R l P => ?_⟩
  cases l with
  | nil => exact False.elim P
  | cons i l =>
    cases l with
    | cons _ _ => cases i <;> exact False.elim P
    | nil =>
      cases i with
      | int i => exact .inl ⟨_, rfl, Post.ok P R (.int _)⟩
      | bl i => exact .inr ⟨_, rfl, Post.ok P R (.int _)⟩
      | _ => exact False.elim P
def absD : List D → M D
  | [.int i] => M.pure (.int (if i < 0 then -i else i))
  | _ => M.fail
theorem ok_abs : CallOk X T (.builtin "abs") absD := by
  refine ⟨_, call_abs, fun Γ O Wx ρ σ G H w vs ds Q R l P => ?_⟩
  cases l with
  | nil => exact False.elim P
  | cons i l =>
    cases l with
    | cons _ _ => cases i <;> exact False.elim P
    | nil =>
      cases i with
      | int i => exact ⟨_, rfl, Post.ok P R (.int _)⟩
      | _ => exact False.elim P
/-- a list of whole numbers -/
def intsD : List D → Option (List Int)
  | [] => some []
  | .int i :: r => (intsD r).map (i :: ·)
  | _ :: _ => none
theorem intsD_eq : ∀ {ds : List D} {ns : List Int}, intsD ds = some ns → ds = ns.map D.int
  | [], ns, h => by cases h; rfl
  | .int i :: r, ns, h => by
    unfold intsD at h
    cases e : intsD r with
    | none => rw [e] at h; cases h
    | some ms =>
      rw [e] at h
      cases h
      rw [intsD_eq e]; rfl
theorem intsD_map (ns : List Int) : intsD (ns.map D.int) = some ns := by
  induction ns with
  | nil => rfl
  | cons n ns ih => rw [List.map_cons]; unfold intsD; rw [ih]; rfl
def blsD : List D → Option (List Bool)
  | [] => some []
  | .bl i :: r => (blsD r).map (i :: ·)
  | _ :: _ => none
theorem blsD_eq : ∀ {ds : List D} {ns : List Bool}, blsD ds = some ns → ds = ns.map D.bl
  | [], ns, h => by cases h; rfl
  | .bl i :: r, ns, h => by
    unfold blsD at h
    cases e : blsD r with
    | none => rw [e] at h; cases h
    | some ms =>
      rw [e] at h
      cases h
      rw [blsD_eq e]; rfl
theorem blsD_map (ns : List Bool) : blsD (ns.map D.bl) = some ns := by
  induction ns with
  | nil => rfl
  | cons n ns ih => rw [List.map_cons]; unfold blsD; rw [ih]; rfl
theorem IsL.ofBls {K : PySem.W.Frag} {wl : Option Addr} {G : Hp} : ∀ {vs : List V} {ns : List Bool}, IsL K wl G vs (ns.map D.bl) → vs = ns.map V.bl
  | [], [], _ => rfl
  | v :: vs, n :: ns, .cons h hl => by
    cases h
    rw [IsL.ofBls (ns := ns) hl]; rfl
def maxI : List Int → Int
  | [] => 0
  | [a] => a
  | a :: r => max a (maxI r)
def minI : List Int → Int
  | [] => 0
  | [a] => a
  | a :: r => min a (minI r)
theorem maxI_mem : ∀ {l : List Int}, l ≠ [] → maxI l ∈ l
  | [], h => absurd rfl h
  | [a], _ => by simp [maxI]
  | a :: b :: r, _ => by
    have := maxI_mem (l := b :: r) (by simp)
    show max a (maxI (b :: r)) ∈ a :: b :: r
    rcases Int.le_total a (maxI (b :: r)) with h | h
    · rw [Int.max_eq_right h]; exact List.mem_cons_of_mem _ this
    · rw [Int.max_eq_left h]; exact List.mem_cons_self
theorem le_maxI : ∀ {l : List Int} {y : Int}, y ∈ l → y ≤ maxI l
  | [a], y, h => by simp at h; simp [maxI, h]
  | a :: b :: r, y, h => by
    show y ≤ max a (maxI (b :: r))
    rcases List.mem_cons.mp h with rfl | h
    · exact Int.le_max_left _ _
    · exact Int.le_trans (le_maxI h) (Int.le_max_right _ _)
theorem minI_mem : ∀ {l : List Int}, l ≠ [] → minI l ∈ l
  | [], h => absurd rfl h
  | [a], _ => by simp [minI]
  | a :: b :: r, _ => by
    have := minI_mem (l := b :: r) (by simp)
    show min a (minI (b :: r)) ∈ a :: b :: r
    rcases Int.le_total a (minI (b :: r)) with h | h
    · rw [Int.min_eq_left h]; exact List.mem_cons_self
    · rw [Int.min_eq_right h]; exact List.mem_cons_of_mem _ this
theorem minI_le : ∀ {l : List Int} {y : Int}, y ∈ l → minI l ≤ y
  | [a], y, h => by simp at h; simp [minI, h]
  | a :: b :: r, y, h => by
    show min a (minI (b :: r)) ≤ y
    rcases List.mem_cons.mp h with rfl | h
    · exact Int.min_le_left _ _
    · exact Int.le_trans (Int.min_le_right _ _) (minI_le h)
def maxD : List D → M D
  | [.int i, .int j] => M.pure (.int (if j > i then j else i))
  | [.lst xs] => match intsD xs with
    | some ns => if ns ≠ [] then M.pure (.int (maxI ns)) else M.fail
    | none => M.fail
  | _ => M.fail
def minD : List D → M D
  | [.int i, .int j] => M.pure (.int (if j < i then j else i))
  | [.lst xs] => match intsD xs with
    | some ns => if ns ≠ [] then M.pure (.int (minI ns)) else M.fail
    | none => M.fail
  | _ => M.fail
theorem ok_max (hc : X.calm = true) : CallOk X T (.builtin "max") maxD := by
  refine ⟨_, (call_max2 hc).or (cr_max hc), fun Γ O Wx ρ σ G H w vs ds Q R l P => ?_⟩
  cases l with
  | nil => exact False.elim P
  | cons i l =>
    cases l with
    | cons i2 l =>
      cases l with
      | cons _ _ => cases i <;> cases i2 <;> exact False.elim P
      | nil => cases i <;> cases i2 <;> first | exact False.elim P | exact .inl ⟨_, _, rfl, Post.ok P R (.int _)⟩
    | nil =>
      cases i with
      | @lst a vs ds s l =>
        have P' : Post X.K T Γ O Wx ρ σ G H IsV (maxD [.lst ds] w) Q := P
        simp only [maxD] at P'
        cases e : intsD ds with
        | none => simp only [e] at P'; exact False.elim P'
        | some ns =>
          simp only [e] at P'
          obtain ⟨h, P'⟩ := ifP' P'
          cases intsD_eq e
          cases l.ofInts
          refine .inr ⟨a, ns, rfl, SqL.of (R.h.sub _ _ s), List.length_pos_iff.mpr h, fun m hm hle => ?_⟩
          have : m = maxI ns := Int.le_antisymm (le_maxI hm) (hle _ (maxI_mem h))
          subst this
          exact Post.ok P' R (.int _)
      | _ => exact False.elim P
theorem ok_min (hc : X.calm = true) : CallOk X T (.builtin "min") minD := by
  refine ⟨_, (call_min2 hc).or (cr_min hc), fun Γ O Wx ρ σ G H w vs ds Q R l P => ?_⟩
  cases l with
  | nil => exact False.elim P
  | cons i l =>
    cases l with
    | cons i2 l =>
      cases l with
      | cons _ _ => cases i <;> cases i2 <;> exact False.elim P
      | nil => cases i <;> cases i2 <;> first | exact False.elim P | exact .inl ⟨_, _, rfl, Post.ok P R (.int _)⟩
    | nil =>
      cases i with
      | @lst a vs ds s l =>
        have P' : Post X.K T Γ O Wx ρ σ G H IsV (minD [.lst ds] w) Q := P
        simp only [minD] at P'
        cases e : intsD ds with
        | none => simp only [e] at P'; exact False.elim P'
        | some ns =>
          simp only [e] at P'
          obtain ⟨h, P'⟩ := ifP' P'
          cases intsD_eq e
          cases l.ofInts
          refine .inr ⟨a, ns, rfl, SqL.of (R.h.sub _ _ s), List.length_pos_iff.mpr h, fun m hm hle => ?_⟩
          have : m = minI ns := Int.le_antisymm (hle _ (minI_mem h)) (minI_le hm)
          subst this
          exact Post.ok P' R (.int _)
      | _ => exact False.elim P
def sumD : List D → M D
  | [.lst xs] => match intsD xs with
    | some ns => M.pure (.int ns.sum)
    | none => M.fail
  | _ => M.fail
theorem ok_sum (hc : X.calm = true) : CallOk X T (.builtin "sum") sumD := by
  refine ⟨_, cr_sum hc, fun Γ O Wx ρ σ G H w vs ds Q R l P => ?_⟩
  cases l with
  | nil => exact False.elim P
  | cons i l =>
    cases l with
    | cons _ _ => cases i <;> exact False.elim P
    | nil =>
      cases i with
      | @lst a vs ds s l =>
        have P' : Post X.K T Γ O Wx ρ σ G H IsV (sumD [.lst ds] w) Q := P
        simp only [sumD] at P'
        cases e : intsD ds with
        | none => simp only [e] at P'; exact False.elim P'
        | some ns =>
          simp only [e] at P'
          cases intsD_eq e
          cases l.ofInts
          exact ⟨a, ns, rfl, SqL.of (R.h.sub _ _ s), Post.ok P' R (.int _)⟩
      | _ => exact False.elim P
def allD : List D → M D
  | [.lst xs] => match blsD xs with
    | some ns => M.pure (.bl (ns.all id))
    | none => M.fail
  | _ => M.fail
def anyD : List D → M D
  | [.lst xs] => match blsD xs with
    | some ns => M.pure (.bl (ns.any id))
    | none => M.fail
  | _ => M.fail
theorem ok_all (hc : X.calm = true) : CallOk X T (.builtin "all") allD := by
  refine ⟨_, cr_all hc, fun Γ O Wx ρ σ G H w vs ds Q R l P => ?_⟩
  cases l with
  | nil => exact False.elim P
  | cons i l =>
    cases l with
    | cons _ _ => cases i <;> exact False.elim P
    | nil =>
      cases i with
      | @lst a vs ds s l =>
        have P' : Post X.K T Γ O Wx ρ σ G H IsV (allD [.lst ds] w) Q := P
        simp only [allD] at P'
        cases e : blsD ds with
        | none => simp only [e] at P'; exact False.elim P'
        | some ns =>
          simp only [e] at P'
          cases blsD_eq e
          cases l.ofBls
          exact ⟨a, ns, rfl, SqL.of (R.h.sub _ _ s), Post.ok P' R (.bl _)⟩
      | _ => exact False.elim P
theorem ok_any (hc : X.calm = true) : CallOk X T (.builtin "any") anyD := by
  refine ⟨_, cr_any hc, fun Γ O Wx ρ σ G H w vs ds Q R l P => ?_⟩
  cases l with
  | nil => exact False.elim P
  | cons i l =>
    cases l with
    | cons _ _ => cases i <;> exact False.elim P
    | nil =>
      cases i with
      | @lst a vs ds s l =>
        have P' : Post X.K T Γ O Wx ρ σ G H IsV (anyD [.lst ds] w) Q := P
        simp only [anyD] at P'
        cases e : blsD ds with
        | none => simp only [e] at P'; exact False.elim P'
        | some ns =>
          simp only [e] at P'
          cases blsD_eq e
          cases l.ofBls
          exact ⟨a, ns, rfl, SqL.of (R.h.sub _ _ s), Post.ok P' R (.bl _)⟩
      | _ => exact False.elim P
def tupleD : List D → M D
  | [.lst xs] => M.pure (.tup xs)
  | [.tup xs] => M.pure (.tup xs)
  | _ => M.fail
theorem ok_tuple : CallOk X T (.type "tuple") tupleD := by
  refine ⟨_, call_tuple_of, fun Γ O Wx ρ σ G H w vs ds Q R l P => ?_⟩
  cases l with
  | nil => exact False.elim P
  | cons i l =>
    cases l with
    | cons _ _ => cases i <;> exact False.elim P
    | nil =>
      cases i with
      | @lst a vs ds s l => exact ⟨a, vs, rfl, .inl ⟨SqL.of (R.h.sub _ _ s), fun p hp => Post.new P R hp noTup (.tup upd_same (l.mono (hx_upd (R.h.gnone hp))))⟩⟩
      | @tup a vs ds s l => exact ⟨a, vs, rfl, .inr ⟨R.h.sub.tq s, Post.ok P R (.tup s l)⟩⟩
      | _ => exact False.elim P
def listD : List D → M D
  | [.lst xs] => M.pure (.lst xs)
  | [.tup xs] => M.pure (.lst xs)
  | [.scr xs] => M.pure (.lst xs)
  | _ => M.fail
/-- list(xs): a new object -/
theorem df_list (hm : X.mg "list" = none) (ha : DA X T O Wx (e :: es) fa) (hg : Gl X "list" := by rfl) (hn : ("list" : Str) ≠ "__name__" := by decide) (hdb : (("list" : Str) == ("__debug__" : Str)) = false := by decide)
    (he : starEach (e :: es) X.env = (false, eval e X.env) :: starEach es X.env := by rfl) (hpl : (backTo pos (starEach es X.env)).any (·.1) = false := by rfl) : DF X T O Wx (.Call (.Name "list" p) (e :: es) [] pos) (argE listD fa) :=
  pe_imp (pe_callTy call_list_of hg hm boot_list' ha hn hdb he hpl) fun σ H Q ⟨Γ, ρ, G, w, R, P⟩ => postN_bind R P fun vs ds G1 H1 w1 st R l P => by
    cases l with
    | nil => exact False.elim P
    | cons i l =>
      cases l with
      | cons _ _ => cases i <;> exact False.elim P
      | nil =>
        cases i with
        | @lst a vs ds s l => exact ⟨a, vs, rfl, .inl (SqL.of (R.h.sub _ _ s)), fun p hp => PostN.new P R hp noLst (.lst l)⟩
        | @tup a vs ds s l => exact ⟨a, vs, rfl, .inr (R.h.sub.tq s), fun p hp => PostN.new P R hp noLst (.lst l)⟩
        | @scr a vs ds s l => exact ⟨a, vs, rfl, .inl (R.h.sub.sqL s), fun p hp => PostN.new P R hp noLst (.lst l)⟩
        | _ => exact False.elim P
def divmodD : List D → M D
  | [.int i, .int j] => if CDiv i j then M.pure (.tup [.int (i / j), .int (i % j)]) else M.fail
  | _ => M.fail
theorem ok_divmod : CallOk X T (.builtin "divmod") divmodD := by
  refine ⟨_, call_divmod, fun Γ O Wx ρ σ G H w vs ds Q R l P => ?_⟩
  cases l with
  | nil => exact False.elim P
  | cons i l =>
    cases l with
    | nil => cases i <;> exact False.elim P
    | cons i2 l =>
      cases l with
      | cons _ _ => cases i <;> cases i2 <;> exact False.elim P
      | nil =>
        cases i <;> cases i2 <;> first | exact False.elim P | skip
        obtain ⟨h, P⟩ := ifP' P
        exact ⟨_, _, rfl, h, fun p hp => Post.new P R hp noTup (.tup upd_same (.cons (.int _) (.cons (.int _) .nil)))⟩
end
/-! ## repr -/
def repOk (d : D) : Bool := match d with
  | .tup _ | .lst _ => d.pyOk && (d.py.showable && (decide (d.py.hasDict = false) && (decide (d.py.depth ≤ 60) && decide (d.py.shown.length ≤ sizeLine))))
  | _ => false
def reprD : List D → M D
  | [d] => if repOk d = true then M.pure (.str d.py.shown) else M.fail
  | _ => M.fail
section
variable {X : Cx} {T : Tb}
theorem call_reprD (hg : X.A.guards = some []) (hu : X.A.units + 64 < cLine) : CallR X (.builtin "repr") (fun xs H Q => ∃ a d, xs = [V.ref a] ∧ Dp X.K H (.ref a) d ∧ d.showable = true ∧ d.hasDict = false ∧ d.depth ≤ 60 ∧ d.shown.length ≤ sizeLine ∧ Q (.str d.shown) H) := by
  intro pins s σ H xs us Q I r ⟨a, d, e, hd, h1, h2, h3, h4, q⟩
  subst e
  obtain ⟨u, rfl, ru⟩ := vals1 r
  obtain rfl : u = Value.ref a := ru
  obtain ⟨as, rd⟩ := Dp.reads I d _ _ hd rfl
  refine repr_of_reads' rd h1 (PyData.noDict_hsm h2) hg (by omega) (fun _ _ e => e) (fun h' t tk hk => ?_) h4
  exact ⟨.str d.shown, H, I.kept hk, ⟨t, rfl⟩, q⟩
theorem ok_repr {k : Nat} (ok : Ok k X) : CallOk X T (.builtin "repr") reprD := by
  refine ⟨_, call_reprD ok.g ok.u64, fun Γ O Wx ρ σ G H w vs ds Q R l P => ?_⟩
  cases l with
  | nil => exact False.elim P
  | cons i l =>
    cases l with
    | cons _ _ => exact False.elim P
    | nil =>
      obtain ⟨h, P⟩ := ifP' P
      have fin : ∀ {a : Addr} {d : D}, Is X.K Γ.wl G (.ref a) d → (d.pyOk && (d.py.showable && (decide (d.py.hasDict = false) && (decide (d.py.depth ≤ 60) && decide (d.py.shown.length ≤ sizeLine))))) = true → Post X.K T Γ O Wx ρ σ G H IsV (M.pure (D.str d.py.shown) w) Q →
          ∃ a' d', [V.ref a] = [V.ref a'] ∧ Dp X.K H (.ref a') d' ∧ d'.showable = true ∧ d'.hasDict = false ∧ d'.depth ≤ 60 ∧ d'.shown.length ≤ sizeLine ∧ Q (.str d'.shown) H := fun {a d} i h P => by
        simp only [Bool.and_eq_true, decide_eq_true_eq] at h
        obtain ⟨h1, h2, h3, h4, h5⟩ := h
        exact ⟨a, d.py, rfl, i.dp R.h.sub h1, h2, h3, h4, h5, Post.ok P R (.str _)⟩
      cases i with
      | @tup a vs ds s l => exact fin (.tup s l) h P
      | @lst a vs ds s l => exact fin (.lst s l) h P
      | _ => cases h
end
end Q

namespace Q
open PySem PySem.Spec PyProof.Rows L2
/-! ## receivers: a value, or an owned object as it stands -/
def IsX (K : PySem.W.Frag) (Γ : Ctx) (G H : Hp) (v : V) (d : D) : Prop := Is K Γ.wl G v d ∨ ∃ l o, v = .ref l ∧ H l = some o ∧ NoTbl o ∧ Γ.wl ≠ some l ∧ G l = none ∧ Γ.B l = none ∧ IsO K Γ.wl G o d
/-- keys -/
def dkey : D → Option (Key ⊕ List Key)
  | .int i => some (.inl (.inl i))
  | .str s => some (.inl (.inr s))
  | .tup ds => (keysOf ds).map Sum.inr
  | _ => none
mutual
def sameKey : D → D → Bool
  | .int i, .int j => decide (i = j)
  | .str i, .str j => decide (i = j)
  | .tup xs, .tup ys => sameKeys xs ys
  | _, _ => false
def sameKeys : List D → List D → Bool
  | [], [] => true
  | x :: xs, y :: ys => sameKey x y && sameKeys xs ys
  | _, _ => false
end
theorem sameKey_kD (a k : Key) : sameKey (kD a) (kD k) = decide (a = k) := by
  cases a <;> cases k <;> simp [kD, sameKey]
theorem sameKeys_kD : ∀ (a k : List Key), sameKeys (a.map kD) (k.map kD) = decide (a = k)
  | [], [] => by simp [sameKeys]
  | [], b :: k => by simp [sameKeys]
  | a :: r, [] => by simp [sameKeys]
  | a :: r, b :: k => by
    rw [List.map_cons, List.map_cons]
    unfold sameKeys
    rw [sameKey_kD, sameKeys_kD r k]
    by_cases e : a = b <;> by_cases e2 : r = k <;> simp [e, e2]
theorem sameKey_kT (a k : List Key) : sameKey (kT a) (kT k) = decide (a = k) := by
  unfold kT sameKey
  exact sameKeys_kD a k
def lkpD : List (D × D) → D → Option D
  | [], _ => none
  | (a, b) :: r, k => if sameKey a k = true then some b else lkpD r k
def putD (kvs : List (D × D)) (k v : D) : List (D × D) := if (kvs.any fun kv => sameKey kv.1 k) = true then kvs.map (fun kv => if sameKey kv.1 k = true then (kv.1, v) else kv) else kvs ++ [(k, v)]
/-- keys of the kind that the dict takes -/
def keyIn (t : Bool) (k : D) : Bool := match t, k with
  | false, .int _ => true
  | false, .str _ => true
  | true, .tup ds => (keysOf ds).isSome
  | _, _ => false
theorem keyOf_eq {d : D} {k : Key} (h : keyOf d = some k) : d = kD k := by
  cases d <;> first | (cases h; rfl) | cases h
theorem keysOf_eq : ∀ {ds : List D} {ks : List Key}, keysOf ds = some ks → ds = ks.map kD
  | [], ks, h => by cases h; rfl
  | d :: ds, ks, h => by
    unfold keysOf at h
    cases e1 : keyOf d with
    | none => rw [e1] at h; cases h
    | some k =>
      cases e2 : keysOf ds with
      | none => rw [e1, e2] at h; cases h
      | some ls =>
        rw [e1, e2] at h
        cases h
        rw [keyOf_eq e1, keysOf_eq e2]; rfl
section
variable {K : PySem.W.Frag} {wl : Option Addr} {G H : Hp}
theorem Is.key {v : V} {k : Key} (h : Is K wl G v (kD k)) : v = kV k := by
  cases k <;> (cases h; rfl)
theorem IsL.keys : ∀ {vs : List V} {ks : List Key}, IsL K wl G vs (ks.map kD) → vs = ks.map kV
  | [], [], _ => rfl
  | v :: vs, k :: ks, .cons h hl => by rw [Is.key h, IsL.keys (ks := ks) hl]; rfl
theorem Is.ofKey (k : Key) : Is K wl G (kV k) (kD k) := by
  cases k with
  | inl i => exact .int i
  | inr s => exact .str s
theorem IsL.ofKeys : ∀ (ks : List Key), IsL K wl G (ks.map kV) (ks.map kD)
  | [] => .nil
  | k :: ks => .cons (Is.ofKey k) (IsL.ofKeys ks)
/-- what both tables hold -/
def IsOp (K : PySem.W.Frag) (wl : Option Addr) (G : Hp) (a : Option V) (b : Option D) : Prop := match a, b with
  | none, none => True
  | some v, some d => Is K wl G v d
  | _, _ => False
theorem lk_rel {κ : Type} [DecidableEq κ] (f : κ → D) (hf : ∀ a k, sameKey (f a) (f k) = decide (a = k)) : ∀ {kvs : List (κ × V)} {ds : List (D × D)}, ds.map (·.1) = kvs.map (fun p => f p.1) → IsL K wl G (kvs.map (·.2)) (ds.map (·.2)) → ∀ k, IsOp K wl G (valV kvs k) (lkpD ds (f k))
  | [], [], _, _, k => trivial
  | [], _ :: _, h, _, _ => by cases h
  | _ :: _, [], h, _, _ => by cases h
  | (a, v) :: kvs, (b, d) :: ds, h, .cons h1 h2, k => by
    rw [List.map_cons, List.map_cons] at h
    obtain ⟨e, h3⟩ := List.cons.inj h
    have e : b = f a := e
    subst e
    unfold lkpD
    rw [hf a k]
    by_cases z : a = k
    · rw [valV_pos z, if_pos (by simpa using z)]; exact h1
    · rw [valV_neg z, if_neg (by simpa using z)]
      exact lk_rel f hf (kvs := kvs) (ds := ds) h3 h2 k
theorem any_rel {κ : Type} [DecidableEq κ] (f : κ → D) (hf : ∀ a k, sameKey (f a) (f k) = decide (a = k)) : ∀ {kvs : List (κ × V)} {ds : List (D × D)}, ds.map (·.1) = kvs.map (fun p => f p.1) → ∀ k, (kvs.any fun kv => decide (kv.1 = k)) = ds.any fun kv => sameKey kv.1 (f k)
  | [], [], _, k => rfl
  | [], _ :: _, h, _ => by cases h
  | _ :: _, [], h, _ => by cases h
  | (a, v) :: kvs, (b, d) :: ds, h, k => by
    rw [List.map_cons, List.map_cons] at h
    obtain ⟨e, h3⟩ := List.cons.inj h
    have e : b = f a := e
    subst e
    rw [List.any_cons, List.any_cons, any_rel f hf h3 k, hf a k]
theorem map_rel {κ : Type} [DecidableEq κ] (f : κ → D) (hf : ∀ a k, sameKey (f a) (f k) = decide (a = k)) {v : V} {d : D} (hv : Is K wl G v d) (k : κ) : ∀ {kvs : List (κ × V)} {ds : List (D × D)}, ds.map (·.1) = kvs.map (fun p => f p.1) → IsL K wl G (kvs.map (·.2)) (ds.map (·.2)) →
    (ds.map (fun kv => if sameKey kv.1 (f k) = true then (kv.1, d) else kv)).map (·.1) = (kvs.map (fun kv => if kv.1 = k then (kv.1, v) else kv)).map (fun p => f p.1) ∧
    IsL K wl G ((kvs.map (fun kv => if kv.1 = k then (kv.1, v) else kv)).map (·.2)) ((ds.map (fun kv => if sameKey kv.1 (f k) = true then (kv.1, d) else kv)).map (·.2))
  | [], [], _, _ => ⟨rfl, .nil⟩
  | [], _ :: _, h, _ => by cases h
  | _ :: _, [], h, _ => by cases h
  | (a, v1) :: kvs, (b, d1) :: ds, h, .cons h1 h2 => by
    rw [List.map_cons, List.map_cons] at h
    obtain ⟨e, h3⟩ := List.cons.inj h
    have e : b = f a := e
    subst e
    obtain ⟨i1, i2⟩ := map_rel f hf hv k h3 h2
    simp only [List.map_cons, hf a k]
    by_cases z : a = k
    · simp only [z, decide_true, if_true]
      exact ⟨by rw [i1], .cons hv i2⟩
    · simp only [z, decide_false, if_false, Bool.false_eq_true]
      exact ⟨by rw [i1], .cons h1 i2⟩
theorem put_rel {κ : Type} [DecidableEq κ] (f : κ → D) (hf : ∀ a k, sameKey (f a) (f k) = decide (a = k)) {kvs : List (κ × V)} {ds : List (D × D)} (h : ds.map (·.1) = kvs.map (fun p => f p.1)) (hl : IsL K wl G (kvs.map (·.2)) (ds.map (·.2))) (k : κ) {v : V} {d : D} (hv : Is K wl G v d) :
    (putD ds (f k) d).map (·.1) = (putK kvs k v).map (fun p => f p.1) ∧ IsL K wl G ((putK kvs k v).map (·.2)) ((putD ds (f k) d).map (·.2)) := by
  unfold putD putK
  rw [any_rel f hf h k]
  split
  · exact map_rel f hf hv k h hl
  · rw [List.map_append, List.map_append, List.map_append, List.map_append, h]
    exact ⟨rfl, hl.append (.cons hv .nil)⟩
theorem kvs_len {κ : Type} {f : κ → D} {kvs : List (κ × V)} {ds : List (D × D)} (h : ds.map (·.1) = kvs.map (fun p => f p.1)) : kvs.length = ds.length := by
  have := congrArg List.length h
  simpa using this.symm
end
/-! ## d[k] -/
def dgetD (t : Bool) (kvs : List (D × D)) (k : D) : M (Option D) := if keyIn t k = true then M.pure (lkpD kvs k) else M.fail
section
variable {K : PySem.W.Frag} {T : Tb} {Γ : Ctx} {O : List Nat} {Wx : WX} {ρ : Env} {σ : L2.St} {G H : Hp} {w : Wl}
theorem keyIn_rel {t : Bool} {y : V} {k : D} (e : Hx G H) (hk : keyIn t k = true) (i : Is K Γ.wl G y k) : (t = false ∧ ∃ q : Key, k = kD q ∧ y = kV q) ∨ (t = true ∧ ∃ (q : List Key) (b : Addr), k = kT q ∧ y = .ref b ∧ H b = some (.tup (q.map kV))) := by
  cases t with
  | false =>
    cases k <;> first | cases hk | skip
    · rename_i n; cases i; exact .inl ⟨rfl, .inl n, rfl, rfl⟩
    · rename_i s; cases i; exact .inl ⟨rfl, .inr s, rfl, rfl⟩
  | true =>
    cases k <;> first | cases hk | skip
    rename_i ds
    cases q : keysOf ds with
    | none => simp [keyIn, q] at hk
    | some ks =>
      have := keysOf_eq q
      subst this
      cases i with
      | @tup a vs _ s l =>
        have := l.keys
        subst this
        exact .inr ⟨rfl, ks, a, rfl, rfl, e _ _ s⟩
/-- a dict receiver at a key -/
theorem dget_rel {a : Addr} {o : HO} {t : Bool} {kvs : List (D × D)} {y : V} {k : D} (e : Hx G H) (ha : H a = some o) (io : IsO K Γ.wl G o (.dct t kvs)) (hk : keyIn t k = true) (i : Is K Γ.wl G y k) : ∃ r, DGet H a y r ∧ IsOp K Γ.wl G r (lkpD kvs k) := by
  cases io with
  | dK h hl =>
    rcases keyIn_rel e hk i with ⟨_, q, rfl, rfl⟩ | ⟨z, _⟩
    · exact ⟨_, DGet.k ha, lk_rel kD sameKey_kD h hl q⟩
    · cases z
  | dT h hl =>
    rcases keyIn_rel e hk i with ⟨z, _⟩ | ⟨_, q, b, rfl, rfl, hb⟩
    · cases z
    · exact ⟨_, DGet.t ha hb, lk_rel kT sameKey_kT h hl q⟩
/-- an object in the view as an object -/
theorem Is.dct {v : V} {t : Bool} {kvs : List (D × D)} (i : Is K Γ.wl G v (.dct t kvs)) : ∃ a o, v = .ref a ∧ G a = some o ∧ IsO K Γ.wl G o (.dct t kvs) := by
  cases i with
  | dK h k l => exact ⟨_, _, rfl, h, .dK k l⟩
  | dT h k l => exact ⟨_, _, rfl, h, .dT k l⟩
theorem IsX.dct {v : V} {t : Bool} {kvs : List (D × D)} (e : Hx G H) (i : IsX K Γ G H v (.dct t kvs)) : ∃ a o, v = .ref a ∧ H a = some o ∧ IsO K Γ.wl G o (.dct t kvs) := by
  rcases i with i | ⟨l, o, rfl, h, _, _, _, _, io⟩
  · obtain ⟨a, o, rfl, h, io⟩ := i.dct
    exact ⟨a, o, rfl, e _ _ h, io⟩
  · exact ⟨l, o, rfl, h, io⟩
theorem IsX.lst {v : V} {ds : List D} (e : Hx G H) (i : IsX K Γ G H v (.lst ds)) : ∃ a vs, v = .ref a ∧ H a = some (.lst vs) ∧ IsL K Γ.wl G vs ds := by
  rcases i with i | ⟨l, o, rfl, h, _, _, _, _, io⟩
  · cases i with
    | lst s l => exact ⟨_, _, rfl, e _ _ s, l⟩
  · cases io with
    | lst l => exact ⟨_, _, rfl, h, l⟩
theorem IsX.val {v : V} {d : D} (i : IsX K Γ G H v d) (h1 : ∀ ds, d ≠ .lst ds) (h2 : ∀ t ds, d ≠ .dct t ds) : Is K Γ.wl G v d := by
  rcases i with i | ⟨l, o, rfl, h, _, _, _, _, io⟩
  · exact i
  · cases io with
    | lst l => exact absurd rfl (h1 _)
    | dK k l => exact absurd rfl (h2 _ _)
    | dT k l => exact absurd rfl (h2 _ _)
theorem Rel.ownX {i : Nat} {d : D} (R : Rel K T Γ O ρ σ G H w) (hi : i ∈ O) (e : ρ[i]? = some (some d)) : ∃ v, σ[i]? = some (some v) ∧ IsX K Γ G H v d := by
  obtain ⟨l, o, h1, h2, h3, h4, h5, h6, h7⟩ := R.own i d hi e
  exact ⟨_, h1, .inr ⟨l, o, rfl, h5, h6, h4, h2, h3, h7⟩⟩
theorem IsX.up {v : V} {d : D} {G1 H1 : Hp} (i : IsX K Γ G H v d) (st : Stp Γ.wl G H G1 H1) : IsX K Γ G1 H1 v d := by
  rcases i with i | ⟨l, o, rfl, h, n, nw, g, b, io⟩
  · exact .inl (i.mono st.x)
  · refine .inr ⟨l, o, rfl, st.kp _ _ h nw n, n, nw, ?_, b, io.mono st.x⟩
    cases q : G1 l with
    | none => rfl
    | some u =>
      rcases st.nw l (by rw [q]; exact fun z => nomatch z) with z | z
      · exact absurd g z
      · rw [h] at z; cases z
end
def rIxD : R2 := fun x y H Q => ∃ a v, x = .ref a ∧ DGet H a y (some v) ∧ Q v H
theorem ix_dict {X : Cx} (hu : X.A.units + 1 < cLine) : IxR X rIxD := by
  intro value slice pins s σ H x y v u Q I rx ry ⟨a, z, ex, g, q⟩ hs
  subst ex
  obtain rfl : v = Value.ref a := rx
  exact tail_any (ops := [.ref a, u]) (dict_typeIs I g) PySem.F.slot_dict_getitem.lookup (d_getItem hu I g ry fun w' s' I' rw' => ⟨z, H, I', rw', q⟩) hs
/-- a[b], with dicts and the well -/
def ixX : D → D → M D
  | .well, .int i => fun w => match atI w i with
    | some n => .ok (.int n) w
    | none => .fail
  | .dct t kvs, k => if keyIn t k = true then (match lkpD kvs k with
    | some d => M.pure d
    | none => M.fail) else M.fail
  | d, e => ixD d e
abbrev RcSp (K : PySem.W.Frag) (T : Tb) (r : R2) (op : D → D → M D) : Prop :=
  ∀ (Γ : Ctx) (O : List Nat) (Wx : WX) (ρ : Env) (σ : L2.St) (G H : Hp) (w : Wl) (x y : V) (d e : D) (Q : VK), Rel K T Γ O ρ σ G H w → IsX K Γ G H x d → Is K Γ.wl G y e → Post K T Γ O Wx ρ σ G H IsV (op d e w) Q → r x y H Q
theorem atI_map {α β : Type} {f : α → β} {l : List α} {i : Int} : L2.atI (l.map f) i = (L2.atI l i).map f := by
  unfold L2.atI
  rw [List.length_map]
  cases ixN l.length i with
  | none => rfl
  | some j => show (l.map f)[j]? = (l[j]?).map f; rw [List.getElem?_map]
section
variable {X : Cx} {T : Tb} {O : List Nat} {Wx : WX} {a b : Expr} {fa fb : Env → M D} {pos : Pos}
theorem rc_ix : RcSp X.K T (fun x y H Q => rIx X.K x y H Q ∨ rIxD x y H Q) ixX := by
  intro Γ O Wx ρ σ G H w x y d e Q R i1 i2 P
  have seqL : ∀ {ds : List D} {i : Int}, Post X.K T Γ O Wx ρ σ G H IsV ((match atI ds i with | some d => M.pure d | none => M.fail : M D) w) Q → ∃ d, atI ds i = some d ∧ Post X.K T Γ O Wx ρ σ G H IsV (.ok d w) Q := fun {ds i} P => by
    cases q : L2.atI ds i with
    | none => rw [q] at P; exact False.elim P
    | some d => rw [q] at P; exact ⟨d, rfl, P⟩
  by_cases hl : ∃ ds, d = .lst ds
  · obtain ⟨ds, rfl⟩ := hl
    obtain ⟨a, vs, rfl, h, l⟩ := i1.lst R.h.sub
    cases i2 <;> first | exact False.elim P | skip
    rename_i i
    obtain ⟨d, q, P2⟩ := seqL P
    obtain ⟨v, h1, h2⟩ := l.atI q
    exact .inl (.inl ⟨a, vs, i, v, rfl, rfl, SqL.of h, h1, Post.ok P2 R h2⟩)
  by_cases hd : ∃ t ds, d = .dct t ds
  · obtain ⟨t, ds, rfl⟩ := hd
    obtain ⟨a, o, rfl, h, io⟩ := i1.dct R.h.sub
    have P' : Post X.K T Γ O Wx ρ σ G H IsV ((if keyIn t e = true then (match lkpD ds e with | some d => M.pure d | none => M.fail) else M.fail) w) Q := P
    obtain ⟨hk, P2⟩ := ifP P'
    obtain ⟨r, g, ir⟩ := dget_rel R.h.sub h io hk i2
    cases q : lkpD ds e with
    | none => rw [q] at P2; exact False.elim P2
    | some d =>
      rw [q] at P2 ir
      cases r with
      | none => exact False.elim ir
      | some v => exact .inr ⟨a, v, rfl, g, Post.ok P2 R ir⟩
  have i1 := i1.val (fun ds z => hl ⟨ds, z⟩) (fun t ds z => hd ⟨t, ds, z⟩)
  cases i1 <;> cases i2 <;> first | exact False.elim P | skip
  case tup.int a vs ds s l i =>
    obtain ⟨d, q, P2⟩ := seqL P
    obtain ⟨v, h1, h2⟩ := l.atI q
    exact .inl (.inr (.inl ⟨a, vs, i, v, rfl, rfl, R.h.sub.tq s, h1, Post.ok P2 R h2⟩))
  case scr.int a vs ds s l i =>
    obtain ⟨d, q, P2⟩ := seqL P
    obtain ⟨v, h1, h2⟩ := l.atI q
    exact .inl (.inl ⟨a, vs, i, v, rfl, rfl, R.h.sub.sqL s, h1, Post.ok P2 R h2⟩)
  case str.int s i =>
    have P' : Post X.K T Γ O Wx ρ σ G H IsV (ixD (.str s) (.int i) w) Q := P
    unfold ixD at P'
    obtain ⟨hl, P'⟩ := ifP P'
    cases e : L2.atI s.cps.toList i with
    | none => simp only [e] at P'; exact False.elim P'
    | some c =>
      simp only [e] at P'
      exact .inl (.inr (.inr ⟨s, i, c, rfl, rfl, hl, e, Post.ok P' R (.str _)⟩))
  case well.int a hw i =>
    have P' : Post X.K T Γ O Wx ρ σ G H IsV (match atI w i with | some n => .ok (.int n) w | none => .fail) Q := P
    cases q : L2.atI w i with
    | none => rw [q] at P'; exact False.elim P'
    | some n =>
      rw [q] at P'
      refine .inl (.inl ⟨a, w.map V.int, i, .int n, rfl, rfl, SqL.of (R.h.well a hw).2, ?_, Post.ok P' R (.int n)⟩)
      rw [atI_map, q]; rfl
  all_goals first | exact absurd ⟨_, rfl⟩ hl | exact absurd ⟨_, _, rfl⟩ hd
/-- a[b] -/
theorem de_at (hu : X.A.units + 64 < cLine) (ha : DE X T O Wx a fa) (hb : DE X T O Wx b fb) (hs : PlainIx b := by exact fun _ _ => rfl) : DE X T O Wx (.Subscript a b pos) (bin2 ixX fa fb) :=
  pe_imp (pe_ix (ix_seq.or (ix_dict (by omega))) ha hb hs) (bin2_ok fun Γ O Wx ρ σ G H w x y d e Q R i1 i2 P => rc_ix Γ O Wx ρ σ G H w x y d e Q R (.inl i1) i2 P)
/-- a name as it stands, owned or not, then an expression -/
def binO (op : D → D → M D) (i : Nat) (fb : Env → M D) : Env → M D := fun ρ => M.bind (fb ρ) fun y => M.bind (getV ρ i) fun x => op x y
theorem getV_ok {α β : Type} {K : PySem.W.Frag} {I : IR β α} {k : D → M α} {Γ : Ctx} {ρ : Env} {σ : L2.St} {G H : Hp} {w : Wl} {i : Nat} {Q : β → Hp → Prop} (hi : i ∈ O) (R : Rel K T Γ O ρ σ G H w) (P : Post K T Γ O Wx ρ σ G H I (M.bind (getV ρ i) k w) Q) :
    ∃ d v, ρ[i]? = some (some d) ∧ σ[i]? = some (some v) ∧ IsX K Γ G H v d ∧ Post K T Γ O Wx ρ σ G H I (k d w) Q := by
  simp only [getV, M.bind] at P
  cases e : ρ[i]? with
  | none => rw [e] at P; exact False.elim P
  | some o =>
    cases o with
    | none => rw [e] at P; exact False.elim P
    | some d =>
      rw [e] at P
      obtain ⟨v, h1, h2⟩ := R.ownX hi e
      exact ⟨d, v, rfl, h1, h2, P⟩
theorem own_slot {K : PySem.W.Frag} {α β : Type} {I : IR β α} {f : Env → M α} {Γ : Ctx} {ρ : Env} {σ : L2.St} {G H : Hp} {w : Wl} {i : Nat} {Q : β → Hp → Prop} {R2 : V → Hp → Prop} (hi : i ∈ O) (R : Rel K T Γ O ρ σ G H w)
    (hs : ∃ d v, ρ[i]? = some (some d) ∧ σ[i]? = some (some v)) (h : ∀ v, σ[i]? = some (some v) → R2 v H) : ∃ v, σ[i]? = some (some v) ∧ R2 v H := by
  obtain ⟨d, v, h1, h2⟩ := hs
  exact ⟨v, h2, h v h2⟩
/-- name[b], the name owned -/
def ixOE (i : Nat) (fb : Env → M D) : Env → M D := fun ρ => M.bind (getV ρ i) fun x => M.bind (fb ρ) fun y => ixX x y
theorem de_atO (i : Nat) {x : Str} {pos' : Pos} (hu : X.A.units + 64 < cLine) (hb : DE X T O Wx b fb) (hO : i ∈ O := by decide) (hN : X.N[i]? = some x := by rfl) (hv : Vis X.env.scope x := by first | exact Or.inl rfl | exact Or.inr (Or.inl rfl) | exact Or.inr (Or.inr rfl)) (hd : (x == ("__debug__" : Str)) = false := by decide)
    (hcd : (x == ("__classdict__" : Str)) = false := by decide) (hs : PlainIx b := by exact fun _ _ => rfl) : DE X T O Wx (.Subscript (.Name x pos') b pos) (ixOE i fb) :=
  pe_imp (pe_ix (ix_seq.or (ix_dict (by omega))) (pv i hN hv hd hcd) hb hs) fun σ H Q ⟨Γ, ρ, G, w, R, P⟩ => by
    obtain ⟨d, v, h1, h2, h3, P2⟩ := getV_ok hO R P
    refine ⟨v, h2, ?_⟩
    exact post_bind R P2 fun y e G1 H1 w1 st R1 i1 P3 => rc_ix Γ O Wx ρ σ G1 H1 w1 v y d e Q R1 (h3.up st) i1 P3
end
end Q

namespace Q
open PySem PySem.Spec PyProof.Rows L2
/-! ## writes -/
def rSetD : V → V → V → Hp → (Hp → Prop) → Prop := fun o i v H Q => ∃ a H', o = .ref a ∧ DPut H a i v H' ∧ Q H'
theorem set_dict {X : Cx} (hu : X.A.units + 1 < cLine) : PSet X rSetD := by
  intro pins s σ H o i v ov iv u Q I ro ri rv ⟨a, H', e, g, q⟩
  subst e
  obtain rfl : ov = Value.ref a := ro
  exact d_setItem hu I g ri rv fun s' I' => ⟨H', I', q⟩
theorem PSet.or {X : Cx} {t t' : V → V → V → Hp → (Hp → Prop) → Prop} (h : PSet X t) (h' : PSet X t') : PSet X fun o i v H Q => t o i v H Q ∨ t' o i v H Q := by
  intro pins s σ H o i v ov iv u Q I ro ri rv q
  rcases q with q | q
  · exact h pins s σ H o i v ov iv u Q I ro ri rv q
  · exact h' pins s σ H o i v ov iv u Q I ro ri rv q
theorem noDK {xs : List (Key × V)} : NoTbl (.dK xs) := fun _ z => nomatch z
theorem noDT {xs : List (List Key × V)} : NoTbl (.dT xs) := fun _ z => nomatch z
/-- d[k] = v on data -/
def setAt : D → D → D → Option D
  | .lst xs, .int k, v => match ixN xs.length k with
    | some j => some (.lst (xs.set j v))
    | none => none
  | .dct t kvs, k, v => if keyIn t k = true ∧ kvs.length < sizeLine then some (.dct t (putD kvs k v)) else none
  | _, _, _ => none
section
variable {K : PySem.W.Frag} {T : Tb} {Γ : Ctx} {O : List Nat} {ρ : Env} {σ : L2.St} {G H : Hp} {w : Wl}
theorem setAt_rel {l : Addr} {o : HO} {d k v d' : D} {y z : V} (e : Hx G H) (hl : H l = some o) (io : IsO K Γ.wl G o d) (iy : Is K Γ.wl G y k) (iz : Is K Γ.wl G z v) (h : setAt d k v = some d') :
    ∃ o', NoTbl o' ∧ IsO K Γ.wl G o' d' ∧ ∀ Q : Hp → Prop, Q (upd H l o') → rSetL (.ref l) y z H Q ∨ rSetD (.ref l) y z H Q := by
  cases io with
  | @lst vs ds il =>
    cases k <;> first | cases h | skip
    rename_i i
    simp only [setAt] at h
    cases q : ixN ds.length i with
    | none => rw [q] at h; cases h
    | some j =>
      rw [q] at h
      cases h
      cases iy
      exact ⟨.lst (vs.set j z), noLst, .lst (il.set iz j), fun Q hQ => .inl ⟨l, vs, i, j, rfl, rfl, hl, by rw [il.length]; exact q, hQ⟩⟩
  | @dK kk ds h1 h2 =>
    simp only [setAt] at h
    split at h
    · rename_i c
      cases h
      rcases keyIn_rel e c.1 iy with ⟨_, q, rfl, rfl⟩ | ⟨z, _⟩
      · obtain ⟨p1, p2⟩ := put_rel kD sameKey_kD h1 h2 q iz
        exact ⟨.dK (putK kk q z), noDK, .dK p1 p2, fun Q hQ => .inr ⟨l, _, rfl, DPut.k hl (by rw [kvs_len h1]; exact c.2), hQ⟩⟩
      · cases z
    · cases h
  | @dT kk ds h1 h2 =>
    simp only [setAt] at h
    split at h
    · rename_i c
      cases h
      rcases keyIn_rel e c.1 iy with ⟨z, _⟩ | ⟨_, q, b, rfl, rfl, hb⟩
      · cases z
      · obtain ⟨p1, p2⟩ := put_rel kT sameKey_kT h1 h2 q iz
        exact ⟨.dT (putK kk q z), noDT, .dT p1 p2, fun Q hQ => .inr ⟨l, _, rfl, DPut.t hl hb (by rw [kvs_len h1]; exact c.2), hQ⟩⟩
    · cases h
/-- the well written -/
theorem Rel.putW {a : Addr} {w' : Wl} (R : Rel K T Γ O ρ σ G H w) (ha : Γ.wl = some a) : Rel K T Γ O ρ σ G (upd H a (.lst (w'.map V.int))) w' ∧ Stp Γ.wl G H G (upd H a (.lst (w'.map V.int))) := by
  obtain ⟨h1, h2⟩ := R.h.well a ha
  have nl : ∀ {b : Addr} {x : HO}, G b = some x → b ≠ a := fun {b x} q z => by rw [z, h1] at q; cases q
  have mn : ∀ b, upd H a (.lst (w'.map V.int)) b = none → H b = none := fun b q => by
    by_cases z : b = a
    · subst z; rw [upd_same] at q; cases q
    · rw [upd_ne z] at q; exact q
  refine ⟨⟨⟨fun b x q => by rw [upd_ne (nl q)]; exact R.h.sub _ _ q, R.h.nt, R.h.nw, R.h.g0, fun b x q n t => ?_, fun b q => R.h.mono _ (mn b q), fun b q => ?_, ?_, fun b us q => ?_⟩, R.len, R.fro, fun j f hj h => ?_, R.inj⟩, ⟨Hx.refl _, fun b u q n t => ?_, fun b q => .inl q, mn⟩⟩
  · have z : b ≠ a := fun z => n (by rw [ha, z])
    rw [upd_ne z]; exact R.h.keep _ _ q n t
  · rw [ha] at q; cases q
    exact ⟨h1, upd_same⟩
  · intro u hu
    obtain ⟨ps, q1, q2⟩ := R.h.tabs u hu
    have z : u.1 ≠ a := fun z => by rw [z, h2] at q1; cases q1
    refine ⟨ps, by rw [upd_ne z]; exact q1, q2.1, fun pos cv hc => ?_⟩
    obtain ⟨c, r1, r2⟩ := q2.2 pos cv hc
    have z2 : c ≠ a := fun z => by rw [z, h2] at r2; cases r2
    exact ⟨c, r1, by rw [upd_ne z2]; exact r2⟩
  · have z : b ≠ a := fun z => by rw [z, upd_same] at q; cases q
    rw [upd_ne z] at q; exact R.h.tv _ _ q
  · obtain ⟨m, u', q1, q2, q3, q4, q5, q6⟩ := R.own j f hj h
    have z : m ≠ a := fun z => q4 (by rw [ha, z])
    exact ⟨m, u', q1, q2, q3, q4, by rw [upd_ne z]; exact q5, q6⟩
  · have z : b ≠ a := fun z => n (by rw [ha, z])
    rw [upd_ne z]; exact q
end
section
variable {X : Cx} {T : Tb} {L O O1 O2 O' xs : List Nat} {Wx : WX} {a b e val : Expr} {es : List Expr} {fa fb fv : Env → M D} {fas : Env → M (List D)} {pos p1 p2 p3 : Pos}
theorem getS_ok {K : PySem.W.Frag} {k : D → M Fl} {Γ : Ctx} {ρ : Env} {σ : L2.St} {G G0 H : Hp} {w : Wl} {i : Nat} {E : Ends} (hi : i ∈ O) (R : Rel K T Γ O ρ σ G H w) (P : PostS K T Γ L O' Wx G0 (M.bind (getV ρ i) k w) E) :
    ∃ d v, ρ[i]? = some (some d) ∧ σ[i]? = some (some v) ∧ PostS K T Γ L O' Wx G0 (k d w) E := by
  simp only [getV, M.bind] at P
  cases e : ρ[i]? with
  | none => rw [e] at P; exact False.elim P
  | some o =>
    cases o with
    | none => rw [e] at P; exact False.elim P
    | some d =>
      rw [e] at P
      obtain ⟨v, h1, _⟩ := R.ownX hi e
      exact ⟨d, v, rfl, h1, P⟩
def optM {α : Type} : Option α → M α
  | some a => M.pure a
  | none => M.fail
theorem optS {K : PySem.W.Frag} {α : Type} {k : α → M Fl} {Γ : Ctx} {G0 : Hp} {w : Wl} {E : Ends} {o : Option α} (P : PostS K T Γ L O' Wx G0 (M.bind (optM o) k w) E) : ∃ a, o = some a ∧ PostS K T Γ L O' Wx G0 (k a w) E := by
  cases o with
  | none => exact False.elim P
  | some a => exact ⟨a, rfl, P⟩
/-- name[b] = value, the name owned -/
def putS (i : Nat) (fv fb : Env → M D) : Env → M Fl := fun ρ => M.bind (fv ρ) fun v => M.bind (getV ρ i) fun d => M.bind (fb ρ) fun k => M.bind (optM (setAt d k v)) fun d' => M.pure (.nx (ρ.set i (some d')))
theorem ds_put (i : Nat) {x : Str} (hu : X.A.units + 64 < cLine) (hv : DE X T O1 Wx val fv) (hb : DE X T O1 Wx b fb) (hs : SubL O1 O := by decide) (hO : i ∈ O1 := by decide) (hN : X.N[i]? = some x := by rfl) (hx : Vis X.env.scope x := by first | exact Or.inl rfl | exact Or.inr (Or.inl rfl) | exact Or.inr (Or.inr rfl))
    (hd : (x == ("__debug__" : Str)) = false := by decide) (hcd : (x == ("__classdict__" : Str)) = false := by decide) (hsw : swapsWithSole [.Subscript (.Name x p1) b p2] val pos.line X.env = pure false := by rfl) (hw : swappedStores [.Subscript (.Name x p1) b p2] val X.env = pure none := by rfl)
    (h1 : (assignEach [.Subscript (.Name x p1) b p2] X.env).map (·.2) = [assign (.Subscript (.Name x p1) b p2) X.env] := by rfl)
    (ha : ∀ v, assign (.Subscript (.Name x p1) b p2) X.env v = (do
      let ov ← holding [v] (eval (.Name x p1) X.env)
      let iv ← holding [v, ov] (eval b X.env)
      standAt p2
      holding [v, ov, iv] (setItem ov iv v)
      release [v, ov, iv] []) := by intro _; rfl) : DS X T L O O1 Wx (.Assign [.Subscript (.Name x p1) b p2] val pos) (putS i fv fb) :=
  ps_imp (ps_asg hv (pg_sub (pv i hN hx hd hcd) hb (PSet.or set_list (set_dict (by omega))) ha) hsw hw h1) fun D σ H ⟨Γ, ρ, G, w, R, P⟩ => by
    obtain ⟨G1, x1, R1⟩ := R.thaw hs
    refine PostS.bindE P x1 R1 fun z v G2 H2 w2 st2 R2 i2 P2 => ?_
    obtain ⟨d, y, e1, e2, P3⟩ := getS_ok hO R2 P2
    refine ⟨y, e2, ?_⟩
    refine PostS.bindE P3 (x1.trans st2.x) R2 fun u k G3 H3 w3 st3 R3 i3 P4 => ?_
    obtain ⟨d', e4, P5⟩ := optS P4
    obtain ⟨l, o, q1, q2, q3, q4, q5, q6, q7⟩ := R3.own i d hO e1
    rw [e2] at q1; cases q1
    obtain ⟨o', n', io', hQ⟩ := setAt_rel R3.h.sub q5 q7 i3 (i2.mono st3.x) e4
    exact hQ _ (P5 _ G3 _ (x1.trans (st2.x.trans st3.x)) (R3.write (o := o) hO e1 e2 n' io'))
/-- an owned list -/
def getL (ρ : Env) (i : Nat) : M (List D) := match ρ[i]? with
  | some (some (.lst xs)) => M.pure xs
  | _ => M.fail
theorem getL_ok {K : PySem.W.Frag} {k : List D → M Fl} {Γ : Ctx} {ρ : Env} {σ : L2.St} {G G0 H : Hp} {w : Wl} {i : Nat} {E : Ends} (hi : i ∈ O) (R : Rel K T Γ O ρ σ G H w) (P : PostS K T Γ L O' Wx G0 (M.bind (getL ρ i) k w) E) :
    ∃ ds l vs, ρ[i]? = some (some (.lst ds)) ∧ σ[i]? = some (some (.ref l)) ∧ H l = some (.lst vs) ∧ IsL K Γ.wl G vs ds ∧ PostS K T Γ L O' Wx G0 (k ds w) E := by
  simp only [getL, M.bind] at P
  cases e : ρ[i]? with
  | none => rw [e] at P; exact False.elim P
  | some o =>
    cases o with
    | none => rw [e] at P; exact False.elim P
    | some d =>
      cases d with
      | lst ds =>
        rw [e] at P
        obtain ⟨l, o, q1, q2, q3, q4, q5, q6, q7⟩ := R.own i _ hi e
        cases q7 with
        | lst il => exact ⟨ds, l, _, rfl, q1, q5, il, P⟩
      | _ => rw [e] at P; exact False.elim P
theorem ownL {K : PySem.W.Frag} {Γ : Ctx} {ρ : Env} {σ : L2.St} {G H : Hp} {w : Wl} {i : Nat} {ds : List D} {l : Addr} (R : Rel K T Γ O ρ σ G H w) (hi : i ∈ O) (e : ρ[i]? = some (some (.lst ds))) (ev : σ[i]? = some (some (.ref l))) :
    ∃ vs, H l = some (.lst vs) ∧ IsL K Γ.wl G vs ds := by
  obtain ⟨l, o, q1, q2, q3, q4, q5, q6, q7⟩ := R.own i _ hi e
  rw [ev] at q1; cases q1
  cases q7 with
  | lst il => exact ⟨_, q5, il⟩
/-- xs.append(e) -/
def appM (xs es : List D) : M (List D) := match es with
  | [y] => if xs.length < sizeLine then M.pure (xs ++ [y]) else M.fail
  | _ => M.fail
def mutS (i : Nat) (m : List D → List D → M (List D)) (fa : Env → M (List D)) : Env → M Fl := fun ρ => M.bind (getL ρ i) fun xs => M.bind (fa ρ) fun es => M.bind (m xs es) fun ys => M.pure (.nx (ρ.set i (some (.lst ys))))
/-- what a list's method does, by values -/
def MutSp (K : PySem.W.Frag) (T : Tb) (r : V → List V → Hp → VK → Prop) (m : List D → List D → M (List D)) : Prop :=
  ∀ (Γ : Ctx) (L O O' : List Nat) (Wx : WX) (ρ : Env) (σ : L2.St) (G0 G H : Hp) (w : Wl) (l : Addr) (vs us : List V) (ds es : List D) (k : List D → M Fl) (E : Ends) (Q : VK), Rel K T Γ O ρ σ G H w → H l = some (.lst vs) → IsL K Γ.wl G vs ds → IsL K Γ.wl G us es → PostS K T Γ L O' Wx G0 (M.bind (m ds es) k w) E →
    (∀ v vs' ds', IsL K Γ.wl G vs' ds' → PostS K T Γ L O' Wx G0 (k ds' w) E → Q v (upd H l (.lst vs'))) → r (.ref l) us H Q
theorem mu_append {K : PySem.W.Frag} : MutSp K T rAppend appM := by
  intro Γ L O O' Wx ρ σ G0 G H w l vs us ds es k E Q R hl iv iu P hQ
  cases iu with
  | nil => exact False.elim P
  | cons i1 iu =>
    cases iu with
    | cons _ _ => exact False.elim P
    | nil =>
      rename_i y d
      unfold appM at P
      by_cases h : ds.length < sizeLine
      · simp only [if_pos h] at P
        exact ⟨l, vs, y, rfl, rfl, hl, by rw [iv.length]; exact h, hQ _ _ _ (iv.append (.cons i1 .nil)) P⟩
      · simp only [if_neg h] at P; exact False.elim P
def extM (xs es : List D) : M (List D) := match es with
  | [.lst ys] => if xs.length + ys.length ≤ sizeLine then M.pure (xs ++ ys) else M.fail
  | _ => M.fail
theorem mu_extend {K : PySem.W.Frag} : MutSp K T rExtend extM := by
  intro Γ L O O' Wx ρ σ G0 G H w l vs us ds es k E Q R hl iv iu P hQ
  cases iu with
  | nil => exact False.elim P
  | cons i1 iu =>
    cases iu with
    | cons _ _ => cases i1 <;> exact False.elim P
    | nil =>
      cases i1 with
      | @lst b us ys s il =>
        unfold extM at P
        by_cases h : ds.length + ys.length ≤ sizeLine
        · simp only [if_pos h] at P
          exact ⟨l, b, vs, us, rfl, rfl, hl, R.h.sub _ _ s, by rw [iv.length, il.length]; exact h, hQ _ _ _ (iv.append il) P⟩
        · simp only [if_neg h] at P; exact False.elim P
      | _ => exact False.elim P
def popAtM (xs es : List D) : M (List D) := match es with
  | [.int i] => if -(2 ^ 63) ≤ i ∧ i < 2 ^ 63 then (match seqIndex? i xs.length with
    | some k => if k < xs.length then M.pure (xs.eraseIdx k) else M.fail
    | none => M.fail) else M.fail
  | _ => M.fail
theorem mu_popAt {K : PySem.W.Frag} : MutSp K T rPopAt popAtM := by
  intro Γ L O O' Wx ρ σ G0 G H w l vs us ds es k E Q R hl iv iu P hQ
  cases iu with
  | nil => exact False.elim P
  | cons i1 iu =>
    cases iu with
    | cons _ _ => cases i1 <;> exact False.elim P
    | nil =>
      cases i1 with
      | int i =>
        unfold popAtM at P
        by_cases h : -(2 ^ 63) ≤ i ∧ i < 2 ^ 63
        · simp only [if_pos h] at P
          cases q : seqIndex? i ds.length with
          | none => simp only [q] at P; exact False.elim P
          | some j =>
            simp only [q] at P
            by_cases hj : j < ds.length
            · simp only [if_pos hj] at P
              exact ⟨l, vs, i, j, vs[j]'(by rw [iv.length]; exact hj), rfl, rfl, hl, h.1, h.2, by rw [iv.length]; exact q, List.getElem?_eq_getElem _, hQ _ _ _ (iv.erase j) P⟩
            · simp only [if_neg hj] at P; exact False.elim P
        · simp only [if_neg h] at P; exact False.elim P
      | _ => exact False.elim P
/-- a method that changes a list, its value dropped -/
theorem ds_mut (i : Nat) {x name : Str} {nm : String} {r : V → List V → Hp → VK → Prop} {m : List D → List D → M (List D)} (slot : Slot "list" name nm) (hty : typeOf (.builtin nm) = pure (.type "method_descriptor")) (hm : MtR X nm r) (hr : MutSp X.K T r m) (ha : DA X T O1 Wx (e :: es) fas) (hs : SubL O1 O := by decide) (hO : i ∈ O1 := by decide) (hN : X.N[i]? = some x := by rfl) (hx : Vis X.env.scope x := by first | exact Or.inl rfl | exact Or.inr (Or.inl rfl) | exact Or.inr (Or.inr rfl))
    (hd : (x == ("__debug__" : Str)) = false := by decide) (hcd : (x == ("__classdict__" : Str)) = false := by decide) (hbase : attributeBase (.Name x p1) name X.env (eval (.Name x p1) X.env) = eval (.Name x p1) X.env := by rfl)
    (hfew : ((backTo p3 (starEach (e :: es) X.env)).all (fun x => !x.1) && (backToKw p3 (keywordEach [] X.env)).all (fun x => x.1.isSome)
      && decide ((e :: es).length + ([] : List Keyword).length + (if ([] : List Keyword).isEmpty then 0 else 1) < 30)) = true := by rfl)
    (hline : (p2.endLine == p3.line) = true := by rfl) (hst : starEach (e :: es) X.env = (false, eval e X.env) :: starEach es X.env := by rfl) (hplain : (backTo p3 (starEach es X.env)).any (·.1) = false := by rfl)
    (hsw : swapsWith (.Call (.Attribute (.Name x p1) name p2) (e :: es) [] p3) none pos.line X.env = pure false := by rfl) :
    DS X T L O O1 Wx (.Expr (.Call (.Attribute (.Name x p1) name p2) (e :: es) [] p3) pos) (mutS i m fas) :=
  ps_imp (ps_expr (pe_bm PySem.F.plainAttrs_list slot hty hm (pv i hN hx hd hcd) ha hbase hfew hline hst hplain) hsw) fun D σ H ⟨Γ, ρ, G, w, R, P⟩ => by
    obtain ⟨G1, x1, R1⟩ := R.thaw hs
    obtain ⟨ds, l, vs, e1, e2, hl, il, P3⟩ := getL_ok hO R1 P
    refine ⟨.ref l, e2, .inl ⟨rfl, vs, SqL.of hl⟩, ?_⟩
    refine PostS.bindE P3 x1 R1 fun us es G2 H2 w2 st2 R2 i2 P4 => ?_
    obtain ⟨vs2, hl2, il2⟩ := ownL R2 hO e1 e2
    exact hr Γ L O1 O1 Wx ρ σ G G2 H2 w2 l vs2 us ds es _ D _ R2 hl2 il2 i2 P4 fun v vs' ds' iv P5 => P5 σ G2 _ (x1.trans st2.x) (R2.write (o := .lst vs2) hO e1 e2 noLst (.lst iv))
/-! ## the well -/
def getW (ρ : Env) (i : Nat) : M Unit := match ρ[i]? with
  | some (some .well) => M.pure ()
  | _ => M.fail
def setWl (k : Int) (v : Int) : M Unit := fun w => match ixN w.length k with
  | some j => .ok () (w.set j v)
  | none => .fail
theorem well_ok {K : PySem.W.Frag} {Γ : Ctx} {ρ : Env} {σ : L2.St} {G H : Hp} {w : Wl} {i : Nat} {γ : Type} {k : Unit → M γ} {Pr : Out γ → Prop} (hf : ¬ Pr .fail) (hi : i ∉ O) (R : Rel K T Γ O ρ σ G H w) (P : Pr (M.bind (getW ρ i) k w)) :
    ∃ a, Γ.wl = some a ∧ σ[i]? = some (some (.ref a)) ∧ ρ[i]? = some (some .well) ∧ Pr (k () w) := by
  simp only [getW, M.bind] at P
  cases e : ρ[i]? with
  | none => rw [e] at P; exact (hf P).elim
  | some o =>
    cases o with
    | none => rw [e] at P; exact (hf P).elim
    | some d =>
      cases d with
      | well =>
        rw [e] at P
        obtain ⟨v, h1, h2⟩ := R.fro i _ hi e
        cases h2 with
        | well hw => exact ⟨_, hw, h1, rfl, P⟩
      | _ => rw [e] at P; exact (hf P).elim
theorem setWl_ok {K : PySem.W.Frag} {Γ : Ctx} {ρ : Env} {σ : L2.St} {G H : Hp} {w : Wl} {a : Addr} {γ : Type} {n v : Int} {f : Unit → M γ} {Pr : Out γ → Prop} {Q : Hp → Prop} (hf : ¬ Pr .fail) (R : Rel K T Γ O ρ σ G H w) (ha : Γ.wl = some a) (P : Pr (M.bind (setWl n v) f w))
    (hQ : ∀ w' H', Stp Γ.wl G H G H' → Rel K T Γ O ρ σ G H' w' → Pr (f () w') → Q H') : rSetL (.ref a) (.int n) (.int v) H Q := by
  simp only [setWl, M.bind] at P
  cases e : ixN w.length n with
  | none => rw [e] at P; exact (hf P).elim
  | some j =>
    rw [e] at P
    obtain ⟨R', st⟩ := R.putW (w' := w.set j v) ha
    refine ⟨a, w.map V.int, n, j, rfl, rfl, (R.h.well a ha).2, by rw [List.length_map]; exact e, ?_⟩
    have q := hQ _ _ st R' P
    rw [List.map_set] at q
    exact q
def intM : D → M Int
  | .int i => M.pure i
  | _ => M.fail
theorem intM_ok {K : PySem.W.Frag} {wl : Option Addr} {G : Hp} {v : V} {d : D} {γ : Type} {k : Int → M γ} {w : Wl} {Pr : Out γ → Prop} (hf : ¬ Pr .fail) (i : Is K wl G v d) (P : Pr (M.bind (intM d) k w)) : ∃ n, v = .int n ∧ d = .int n ∧ Pr (k n w) := by
  cases i with
  | int n => exact ⟨n, rfl, rfl, P⟩
  | _ => exact (hf P).elim
/-- well[b] = value -/
def putWS (i : Nat) (fv fb : Env → M D) : Env → M Fl := fun ρ => M.bind (fv ρ) fun v => M.bind (getW ρ i) fun _ => M.bind (fb ρ) fun k => M.bind (intM v) fun n => M.bind (intM k) fun j => M.bind (setWl j n) fun _ => M.pure (.nx ρ)
theorem ds_putW (i : Nat) {x : Str} (hv : DE X T O1 Wx val fv) (hb : DE X T O1 Wx b fb) (hs : SubL O1 O := by decide) (hO : i ∉ O1 := by decide) (hN : X.N[i]? = some x := by rfl) (hx : Vis X.env.scope x := by first | exact Or.inl rfl | exact Or.inr (Or.inl rfl) | exact Or.inr (Or.inr rfl))
    (hd : (x == ("__debug__" : Str)) = false := by decide) (hcd : (x == ("__classdict__" : Str)) = false := by decide) (hsw : swapsWithSole [.Subscript (.Name x p1) b p2] val pos.line X.env = pure false := by rfl) (hw : swappedStores [.Subscript (.Name x p1) b p2] val X.env = pure none := by rfl)
    (h1 : (assignEach [.Subscript (.Name x p1) b p2] X.env).map (·.2) = [assign (.Subscript (.Name x p1) b p2) X.env] := by rfl)
    (ha : ∀ v, assign (.Subscript (.Name x p1) b p2) X.env v = (do
      let ov ← holding [v] (eval (.Name x p1) X.env)
      let iv ← holding [v, ov] (eval b X.env)
      standAt p2
      holding [v, ov, iv] (setItem ov iv v)
      release [v, ov, iv] []) := by intro _; rfl) : DS X T L O O1 Wx (.Assign [.Subscript (.Name x p1) b p2] val pos) (putWS i fv fb) :=
  ps_imp (ps_asg hv (pg_sub (pv i hN hx hd hcd) hb set_list ha) hsw hw h1) fun D σ H ⟨Γ, ρ, G, w, R, P⟩ => by
    obtain ⟨G1, x1, R1⟩ := R.thaw hs
    refine PostS.bindE P x1 R1 fun z v G2 H2 w2 st2 R2 i2 P2 => ?_
    obtain ⟨a, hw, e2, e1, P3⟩ := well_ok (Pr := fun r => PostS X.K T Γ L O1 Wx G r D) (fun z => z) hO R2 P2
    refine ⟨.ref a, e2, ?_⟩
    refine PostS.bindE P3 (x1.trans st2.x) R2 fun u k G3 H3 w3 st3 R3 i3 P4 => ?_
    obtain ⟨n, rfl, rfl, P5⟩ := intM_ok (Pr := fun r => PostS X.K T Γ L O1 Wx G r D) (fun z => z) i2 P4
    obtain ⟨j, rfl, rfl, P6⟩ := intM_ok (Pr := fun r => PostS X.K T Γ L O1 Wx G r D) (fun z => z) i3 P5
    exact setWl_ok (Pr := fun r => PostS X.K T Γ L O1 Wx G r D) (fun z => z) R3 hw P6 fun w' H' st4 R4 P7 => P7 σ G3 H' (x1.trans (st2.x.trans st3.x)) R4
/-- well[b] as a target -/
def gPutW (i : Nat) (fb : Env → M D) : D → Env → M Env := fun v ρ => M.bind (getW ρ i) fun _ => M.bind (noX (fb ρ)) fun k => M.bind (intM v) fun n => M.bind (intM k) fun j => M.bind (setWl j n) fun _ => M.pure ρ
def PrG (K : PySem.W.Frag) (T : Tb) (Γ : Ctx) (O' xs : List Nat) (σ : L2.St) (G H : Hp) (Q : L2.St → Hp → Prop) (r : Out Env) : Prop := match r with
  | .ok ρ' w' => ∀ σ' G' H', Off xs σ σ' → Stp Γ.wl G H G' H' → Rel K T Γ O' ρ' σ' G' H' w' → Q σ' H'
  | _ => False
theorem dg_putW (i : Nat) {x : Str} (hb : DE X T O WF b fb) (tk : ∀ {e f}, DE X T O WF e f → DE X T O WF e f) (hO : i ∉ O := by decide) (hN : X.N[i]? = some x := by rfl) (hx : Vis X.env.scope x := by first | exact Or.inl rfl | exact Or.inr (Or.inl rfl) | exact Or.inr (Or.inr rfl))
    (hd : (x == ("__debug__" : Str)) = false := by decide) (hcd : (x == ("__classdict__" : Str)) = false := by decide)
    (ha : ∀ v, assign (.Subscript (.Name x p1) b p2) X.env v = (do
      let ov ← holding [v] (eval (.Name x p1) X.env)
      let iv ← holding [v, ov] (eval b X.env)
      standAt p2
      holding [v, ov, iv] (setItem ov iv v)
      release [v, ov, iv] []) := by intro _; rfl) : DG X T O O xs (.Subscript (.Name x p1) b p2) (gPutW i fb) :=
  pg_imp (pg_sub (pv i hN hx hd hcd) hb set_list ha) fun v σ H Q ⟨Γ, ρ, G, w, d, R, i1, P⟩ => by
    have P : PrG X.K T Γ O xs σ G H Q (gPutW i fb d ρ w) := P
    obtain ⟨a, hw, e2, e1, P3⟩ := well_ok (fun z => z) hO R P
    refine ⟨.ref a, e2, ?_⟩
    refine noX_step (fun z => z) R P3 fun u k G3 H3 w3 st3 R3 i3 P4 => ?_
    obtain ⟨n, rfl, rfl, P5⟩ := intM_ok (fun z => z) i1 P4
    obtain ⟨j, rfl, rfl, P6⟩ := intM_ok (fun z => z) i3 P5
    exact setWl_ok (fun z => z) R3 hw P6 fun w' H' st4 R4 P7 => P7 σ G3 H' Off.refl (st3.trans st4) R4
/-! ## name op= e -/
def augS (i : Nat) (f : Int → Int → Int) (fa : Env → M D) : Env → M Fl := fun ρ => M.bind (getV ρ i) fun x => M.bind (intM x) fun n => M.bind (fa ρ) fun y => M.bind (intM y) fun m => M.pure (.nx (ρ.set i (some (.int (f n m)))))
theorem ds_aug (i : Nat) {x : Str} {op : Operator} {f : Int → Int → Int} (hN : X.N.Nodup) (ho : PIp X op (ipI f)) (he : DE X T O1 Wx val fv) (hs : SubL O1 O := by decide) (hO : i ∉ O := by decide) (hi : X.N[i]? = some x := by rfl) (hx : Loc X.env.scope x := by first | exact Or.inl rfl | exact Or.inr rfl)
    (hf : X.fn x = true ∨ X.env.scope.names.lookup x = some .local := by first | exact .inl rfl | exact .inr rfl) : DS X T L O O Wx (.AugAssign (.Name x p1) op val pos) (augS i f fv) :=
  ps_imp (ps_aug hN hi hx he ho hf) fun D σ H ⟨Γ, ρ, G, w, R, P⟩ => by
    have P1 : PostS X.K T Γ L O Wx G (M.bind (getV ρ i) (fun x => M.bind (intM x) fun n => M.bind (fv ρ) fun y => M.bind (intM y) fun m => M.pure (.nx (ρ.set i (some (.int (f n m)))))) w) D := P
    simp only [getV, M.bind] at P1
    cases e : ρ[i]? with
    | none => rw [e] at P1; exact False.elim P1
    | some o =>
      cases o with
      | none => rw [e] at P1; exact False.elim P1
      | some d =>
        rw [e] at P1
        obtain ⟨v, h1, h2⟩ := R.fro i d hO e
        refine ⟨v, h1, ?_⟩
        obtain ⟨n, rfl, rfl, P2⟩ := intM_ok (Pr := fun r => PostS X.K T Γ L O Wx G r D) (fun z => z) h2 P1
        obtain ⟨G1, x1, R1⟩ := R.thaw hs
        refine PostS.bindE P2 x1 R1 fun z y G2 H2 w2 st2 R2 i2 P3 => ?_
        obtain ⟨m, rfl, rfl, P4⟩ := intM_ok (Pr := fun r => PostS X.K T Γ L O Wx G r D) (fun z => z) i2 P3
        obtain ⟨gx, R3⟩ := R.back R2.h (x1.trans st2.x) st2.kp
        refine ⟨n, m, rfl, rfl, ?_⟩
        have R4 := R3.store (i := i) (.int (f n m))
        have e : O.filter (· != i) = O := List.filter_eq_self.mpr fun j hj => by
          have : j ≠ i := fun z => hO (z ▸ hj)
          simpa using this
        rw [e] at R4
        exact P4 _ _ H2 gx R4
end
end Q

namespace Q
open PySem PySem.Spec PyProof.Rows L2
/-! ## a, b = x, y: some of them new objects -/
def newsOf : List Bool → List V → List V
  | true :: fl, v :: vs => v :: newsOf fl vs
  | false :: fl, _ :: vs => newsOf fl vs
  | _, _ => []
inductive IsM (K : PySem.W.Frag) (Γ : Ctx) (O : List Nat) (ρ : Env) (σ : L2.St) (G H : Hp) : List Bool → List V → List D → Prop
  | nil : IsM K Γ O ρ σ G H [] [] []
  | val {fl : List Bool} {v : V} {d : D} {vs : List V} {ds : List D} : Is K Γ.wl G v d → IsM K Γ O ρ σ G H fl vs ds → IsM K Γ O ρ σ G H (false :: fl) (v :: vs) (d :: ds)
  | new {fl : List Bool} {p : Addr} {o : HO} {d : D} {vs : List V} {ds : List D} : New Γ O ρ σ G H p o → IsO K Γ.wl G o d → V.ref p ∉ newsOf fl vs → IsM K Γ O ρ σ G H fl vs ds → IsM K Γ O ρ σ G H (true :: fl) (.ref p :: vs) (d :: ds)
def PostM (K : PySem.W.Frag) (T : Tb) (Γ : Ctx) (O : List Nat) (Wx : WX) (ρ : Env) (σ : L2.St) (G H : Hp) (fl : List Bool) (r : Out (List D)) (Q : List V → Hp → Prop) : Prop :=
  match r with
  | .fail => False
  | .ok ds w' => ∀ vs G' H', Stp Γ.wl G H G' H' → Rel K T Γ O ρ σ G' H' w' → IsM K Γ O ρ σ G' H' fl vs ds → (∀ v ∈ newsOf fl vs, ∃ p, v = .ref p ∧ H p = none) → Q vs H'
  | .exc c p w' => ∀ cls dd G' H', Stp Γ.wl G H G' H' → RelH T Γ G' H' w' → ExcIs K Γ.wl c p cls dd G' H' → Wx cls dd σ H'
def tM (K : PySem.W.Frag) (T : Tb) (O : List Nat) (Wx : WX) (fl : List Bool) (f : Env → M (List D)) : TA := fun σ H Q => ∃ Γ ρ G w, Rel K T Γ O ρ σ G H w ∧ PostM K T Γ O Wx ρ σ G H fl (f ρ w) Q
def DM (X : Cx) (T : Tb) (O : List Nat) (Wx : WX) (fl : List Bool) (es : List Expr) (f : Env → M (List D)) : Prop := PA X es (tM X.K T O Wx fl f)
section
variable {X : Cx} {T : Tb} {L O O1 O2 O' xs : List Nat} {Wx : WX} {a b c e val : Expr} {es : List Expr} {f : Env → M D} {fr : Env → M (List D)} {fl : List Bool} {pos : Pos}
theorem dm_nil : DM X T O Wx [] [] nilA := pa_imp pa_nil fun σ H Q ⟨Γ, ρ, G, w, R, P⟩ => P [] G H Stp.refl R .nil (by intro v hv; cases hv)
theorem postM_step {K : PySem.W.Frag} {Γ : Ctx} {ρ : Env} {σ : L2.St} {G H G1 H1 : Hp} {w1 : Wl} {d : D} {m : M (List D)} {b : Bool} {Q : List V → Hp → Prop} (st : Stp Γ.wl G H G1 H1)
    (P : PostM K T Γ O Wx ρ σ G H (b :: fl) (M.bind m (fun ds => M.pure (d :: ds)) w1) Q) {v : V} (hn : b = true → ∃ p, v = .ref p ∧ H p = none)
    (hv : ∀ vs ds G2 H2, Stp Γ.wl G1 H1 G2 H2 → IsM K Γ O ρ σ G2 H2 fl vs ds → (∀ v ∈ newsOf fl vs, ∃ p, v = .ref p ∧ H1 p = none) → IsM K Γ O ρ σ G2 H2 (b :: fl) (v :: vs) (d :: ds)) : PostM K T Γ O Wx ρ σ G1 H1 fl (m w1) (fun vs H2 => Q (v :: vs) H2) := by
  simp only [M.bind] at P
  cases e : m w1 with
  | fail => rw [e] at P; exact P
  | exc c p w' => rw [e] at P; exact fun cls dd G' H' s => P cls dd G' H' (st.trans s)
  | ok ds w' =>
    rw [e] at P
    intro vs G' H' s R i hw
    refine P (v :: vs) G' H' (st.trans s) R (hv vs ds G' H' s i hw) fun u hu => ?_
    cases b with
    | true =>
      rcases List.mem_cons.mp hu with rfl | hu
      · exact hn rfl
      · obtain ⟨p, e1, e2⟩ := hw u hu
        exact ⟨p, e1, st.mono p e2⟩
    | false =>
      obtain ⟨p, e1, e2⟩ := hw u hu
      exact ⟨p, e1, st.mono p e2⟩
theorem dm_val (h : DE X T O Wx e f) (hr : DM X T O Wx fl es fr) (hs : starEach (e :: es) X.env = (false, eval e X.env) :: starEach es X.env := by rfl) : DM X T O Wx (false :: fl) (e :: es) (consA f fr) :=
  pa_imp (pa_cons h hr hs) fun σ H Q ⟨Γ, ρ, G, w, R, P⟩ => by
    refine ⟨Γ, ρ, G, w, R, ?_⟩
    simp only [consA, M.bind] at P
    cases q : f ρ w with
    | fail => rw [q] at P; exact P
    | exc c p w' => rw [q] at P; exact P
    | ok d w' =>
      rw [q] at P
      intro v G1 H1 st R1 i1
      exact ⟨Γ, ρ, G1, w', R1, postM_step (m := fr ρ) st P (fun z => nomatch z) fun vs ds G2 H2 s i _ => .val (i1.mono s.x) i⟩
theorem dm_new (h : DF X T O Wx e f) (hr : DM X T O Wx fl es fr) (hs : starEach (e :: es) X.env = (false, eval e X.env) :: starEach es X.env := by rfl) : DM X T O Wx (true :: fl) (e :: es) (consA f fr) :=
  pa_imp (pa_cons h hr hs) fun σ H Q ⟨Γ, ρ, G, w, R, P⟩ => by
    refine ⟨Γ, ρ, G, w, R, ?_⟩
    simp only [consA, M.bind] at P
    cases q : f ρ w with
    | fail => rw [q] at P; exact P
    | exc c p w' => rw [q] at P; exact P
    | ok d w' =>
      rw [q] at P
      intro p o G1 H1 st R1 n hp io
      refine ⟨Γ, ρ, G1, w', R1, postM_step (m := fr ρ) st P (fun _ => ⟨p, rfl, hp⟩) fun vs ds G2 H2 s i hw => .new (n.step s) (io.mono s.x) (fun hm => ?_) i⟩
      obtain ⟨p', e1, e2⟩ := hw _ hm
      cases e1
      rw [n.at_] at e2; cases e2
def oSet (b : Bool) (i : Nat) (O : List Nat) : List Nat := if b = true then i :: O else O.filter (· != i)
theorem New.stored {Γ : Ctx} {ρ : Env} {σ : L2.St} {G H : Hp} {p : Addr} {o : HO} {i : Nat} {v : V} {d : D} {b : Bool} (n : New Γ O ρ σ G H p o) (hl : ρ.length = σ.length) (hv : b = true → v ≠ .ref p) : New Γ (oSet b i O) (ρ.set i (some d)) (σ.set i (some v)) G H p o := by
  refine ⟨n.at_, n.g, n.b, n.w, n.nt, fun j e hj h q => ?_⟩
  by_cases z : i = j
  · subst z
    cases b with
    | true =>
      have lt : i < σ.length := by
        rw [← hl]
        simpa using (List.getElem?_eq_some_iff.mp h).1
      rw [set_get lt] at q
      exact hv rfl (Option.some.inj (Option.some.inj q))
    | false => simp [oSet] at hj
  · rw [List.getElem?_set_ne z] at h q
    have hO : j ∈ O := by
      cases b with
      | true => exact (List.mem_cons.mp hj).resolve_left (Ne.symm z)
      | false => exact (List.mem_filter.mp hj).1
    exact n.no j e hO h q
theorem IsM.stored {K : PySem.W.Frag} {Γ : Ctx} {ρ : Env} {σ : L2.St} {G H : Hp} {i : Nat} {v : V} {d : D} {b : Bool} (hl : ρ.length = σ.length) : ∀ {fl : List Bool} {vs : List V} {ds : List D}, IsM K Γ O ρ σ G H fl vs ds → (b = true → v ∉ newsOf fl vs) → IsM K Γ (oSet b i O) (ρ.set i (some d)) (σ.set i (some v)) G H fl vs ds
  | _, _, _, .nil, _ => .nil
  | _, _, _, .val h r, hv => .val h (IsM.stored hl r hv)
  | _, _, _, .new n io hp r, hv => .new (n.stored hl fun e z => hv e (by rw [z]; exact List.mem_cons_self)) io hp (IsM.stored hl r fun e z => hv e (List.mem_cons_of_mem _ z))
/-- the first of them stored -/
theorem Rel.storeM {K : PySem.W.Frag} {Γ : Ctx} {ρ : Env} {σ : L2.St} {G H : Hp} {w : Wl} {i : Nat} {b : Bool} {vs : List V} {ds : List D} (R : Rel K T Γ O ρ σ G H w) (h : IsM K Γ O ρ σ G H (b :: fl) vs ds) :
    ∃ v d vr dr, vs = v :: vr ∧ ds = d :: dr ∧ Rel K T Γ (oSet b i O) (ρ.set i (some d)) (σ.set i (some v)) G H w ∧ IsM K Γ (oSet b i O) (ρ.set i (some d)) (σ.set i (some v)) G H fl vr dr := by
  cases h with
  | val h r => exact ⟨_, _, _, _, rfl, rfl, R.store h, r.stored R.len fun z => nomatch z⟩
  | new n io hp r => exact ⟨_, _, _, _, rfl, rfl, R.give n io, r.stored R.len fun _ => hp⟩
theorem PostS.bindM {Γ : Ctx} {f : Env → M (List D)} {k : List D → M Fl} {ρ : Env} {σ : L2.St} {G G1 H : Hp} {w : Wl} {Q1 : List V → Hp → Prop} {E : Ends} {K : PySem.W.Frag}
    (P : PostS K T Γ L O' Wx G (M.bind (f ρ) k w) E) (x1 : Hx G G1) (R : Rel K T Γ O1 ρ σ G1 H w)
    (hk : ∀ vs ds G2 H2 w2, Stp Γ.wl G1 H G2 H2 → Rel K T Γ O1 ρ σ G2 H2 w2 → IsM K Γ O1 ρ σ G2 H2 fl vs ds → PostS K T Γ L O' Wx G (k ds w2) E → Q1 vs H2) : tM K T O1 Wx fl f σ H Q1 := by
  refine ⟨Γ, ρ, G1, w, R, ?_⟩
  simp only [M.bind] at P
  cases e : f ρ w with
  | fail => rw [e] at P; exact P
  | exc c p w' => rw [e] at P; exact fun cls dd G' H' h1 h2 h3 => P cls dd σ G' H' (x1.trans h1.x) h2 h3
  | ok d w' =>
    rw [e] at P
    exact fun v G2 H2 hx R1 i1 _ => hk v d G2 H2 w' hx R1 i1 P
def parS2 (i j : Nat) (fr : Env → M (List D)) : Env → M Fl := fun ρ => M.bind (fr ρ) fun ds => match ds with
  | [d, e] => M.pure (.nx ((ρ.set i (some d)).set j (some e)))
  | _ => M.fail
theorem ds_par (i j : Nat) {b1 b2 : Bool} {x y : Str} {px py pt pt2 : Pos} {kt k2 : Nat} (hc : X.calm = true) (hN : X.N.Nodup) (ha : DM X T O1 Wx [b1, b2] [a, b] fr) (hs : SubL O1 O := by decide) (ho : O' = oSet b2 j (oSet b1 i O1) := by rfl)
    (hi : X.N[i]? = some x := by rfl) (hj : X.N[j]? = some y := by rfl) (hij : i ≠ j := by decide) (hx : X.env.scope.names.lookup x = some .local := by rfl) (hy : X.env.scope.names.lookup y = some .local := by rfl)
    (hw : swappedStores [.Tuple [.Name x px, .Name y py] kt pt] (.Tuple [a, b] k2 pt2) X.env = pure (some [x, y]) := by rfl) (hsw : swapsWithSole [.Tuple [.Name x px, .Name y py] kt pt] (.Tuple [a, b] k2 pt2) pos.line X.env = pure false := by rfl) :
    DS X T L O O' Wx (.Assign [.Tuple [.Name x px, .Name y py] kt pt] (.Tuple [a, b] k2 pt2) pos) (parS2 i j fr) :=
  ps_imp (ps_par hc hN hi hj hij hx hy ha hw hsw) fun E σ H ⟨Γ, ρ, G, w, R, P⟩ => by
    subst ho
    obtain ⟨G1, x1, R1⟩ := R.thaw hs
    refine PostS.bindM P x1 R1 fun vs ds G2 H2 w2 st R2 i2 P2 => ?_
    obtain ⟨v, d, vr, dr, rfl, rfl, R3, i3⟩ := R2.storeM (i := i) i2
    obtain ⟨v2, d2, vr2, dr2, rfl, rfl, R4, i4⟩ := R3.storeM (i := j) i3
    cases i4
    exact ⟨v, v2, rfl, P2 _ G2 H2 (x1.trans st.x) R4⟩
def parS3 (i j l : Nat) (fr : Env → M (List D)) : Env → M Fl := fun ρ => M.bind (fr ρ) fun ds => match ds with
  | [d, e, g] => M.pure (.nx (((ρ.set i (some d)).set j (some e)).set l (some g)))
  | _ => M.fail
theorem ds_par3 (i j l : Nat) {b1 b2 b3 : Bool} {x y z : Str} {px py pz pt pt2 : Pos} {kt k2 : Nat} (hc : X.calm = true) (hN : X.N.Nodup) (ha : DM X T O1 Wx [b1, b2, b3] [a, b, c] fr) (hs : SubL O1 O := by decide) (ho : O' = oSet b3 l (oSet b2 j (oSet b1 i O1)) := by rfl)
    (hi : X.N[i]? = some x := by rfl) (hj : X.N[j]? = some y := by rfl) (hl : X.N[l]? = some z := by rfl) (hij : i ≠ j := by decide) (hil : i ≠ l := by decide) (hjl : j ≠ l := by decide) (hx : X.env.scope.names.lookup x = some .local := by rfl) (hy : X.env.scope.names.lookup y = some .local := by rfl) (hz : X.env.scope.names.lookup z = some .local := by rfl)
    (hw : swappedStores [.Tuple [.Name x px, .Name y py, .Name z pz] kt pt] (.Tuple [a, b, c] k2 pt2) X.env = pure (some [x, y, z]) := by rfl) (hsw : swapsWithSole [.Tuple [.Name x px, .Name y py, .Name z pz] kt pt] (.Tuple [a, b, c] k2 pt2) pos.line X.env = pure false := by rfl) :
    DS X T L O O' Wx (.Assign [.Tuple [.Name x px, .Name y py, .Name z pz] kt pt] (.Tuple [a, b, c] k2 pt2) pos) (parS3 i j l fr) :=
  ps_imp (ps_par3 hc hN hi hj hl hij hil hjl hx hy hz ha hw hsw) fun E σ H ⟨Γ, ρ, G, w, R, P⟩ => by
    subst ho
    obtain ⟨G1, x1, R1⟩ := R.thaw hs
    refine PostS.bindM P x1 R1 fun vs ds G2 H2 w2 st R2 i2 P2 => ?_
    obtain ⟨v, d, vr, dr, rfl, rfl, R3, i3⟩ := R2.storeM (i := i) i2
    obtain ⟨v2, d2, vr2, dr2, rfl, rfl, R4, i4⟩ := R3.storeM (i := j) i3
    obtain ⟨v3, d3, vr3, dr3, rfl, rfl, R5, i5⟩ := R4.storeM (i := l) i4
    cases i5
    exact ⟨v, v2, v3, rfl, P2 _ G2 H2 (x1.trans st.x) R5⟩
/-! ## isinstance -/
inductive Ty where
  | non | bl | int | str | tup | lst | dct
def Ty.nm : Ty → String
  | .non => "NoneType"
  | .bl => "bool"
  | .int => "int"
  | .str => "str"
  | .tup => "tuple"
  | .lst => "list"
  | .dct => "dict"
def Ty.is : Ty → Ty → Bool
  | .bl, .int => true
  | .non, .non => true
  | .bl, .bl => true
  | .int, .int => true
  | .str, .str => true
  | .tup, .tup => true
  | .lst, .lst => true
  | .dct, .dct => true
  | _, _ => false
theorem kit_all (a b : Ty) : kitB a.nm b.nm = some (a.is b) := by
  cases a <;> cases b <;> decide +kernel
def tyD : D → Option Ty
  | .non => some .non
  | .bl _ => some .bl
  | .int _ => some .int
  | .str _ => some .str
  | .tup _ => some .tup
  | .lst _ => some .lst
  | .scr _ => some .lst
  | .dct _ _ => some .dct
  | .well => some .lst
  | _ => none
theorem ty_rel {Γ : Ctx} {ρ : Env} {σ : L2.St} {G H : Hp} {w : Wl} {v : V} {d : D} {t : Ty} (R : Rel X.K T Γ O ρ σ G H w) (i : Is X.K Γ.wl G v d) (h : tyD d = some t) : TyX X.K H v (.type t.nm) := by
  cases i <;> cases h
  · exact .base .non
  · exact .base (.bl _)
  · exact .base (.int _)
  · exact .base (.str _)
  · rename_i s l; exact .base (.tup (R.h.sub _ _ s))
  · rename_i s l; exact .base (.lst (R.h.sub _ _ s))
  · rename_i s l
    rcases R.h.sub.sqL s with (h | ⟨o, h⟩) | ⟨o, its, n, h1, h2, _⟩
    · exact .base (.lst h)
    · exact .base (.frz h)
    · exact .kList h1 h2
  · rename_i s k l; exact .base (.dK (R.h.sub _ _ s))
  · rename_i s k l; exact .base (.dT (R.h.sub _ _ s))
  · rename_i a h; exact .base (.lst (R.h.well a h).2)
def isiE (t : Ty) (f : Env → M D) : Env → M D := fun ρ => M.bind (f ρ) fun d => M.bind (optM (tyD d)) fun u => M.pure (.bl (u.is t))
/-- isinstance(e, t), t a built-in type -/
theorem de_isi (t : Ty) {x : Str} {p px : Pos} (hm : X.mg "isinstance" = none) (hm2 : X.mg x = none) (hv : bootBuiltins x = some (.type t.nm)) (he : DE X T O Wx e f) (hg : Gl X "isinstance" := by rfl) (hg2 : Gl X x := by rfl) (hn : x ≠ "__name__" := by decide) (hdb : (x == ("__debug__" : Str)) = false := by decide)
    (hs1 : starEach [e, .Name x px] X.env = (false, eval e X.env) :: starEach [.Name x px] X.env := by rfl) (hs2 : starEach [.Name x px] X.env = (false, eval (.Name x px) X.env) :: starEach [] X.env := by rfl) (hpl : (backTo pos (starEach [.Name x px] X.env)).any (·.1) = false := by rfl) :
    DE X T O Wx (.Call (.Name "isinstance" p) [e, .Name x px] [] pos) (isiE t f) :=
  pe_imp (pe_callB call_isi hg hm boot_isinstance' (pa_cons he (pa_cons (pe_bltn (v := .ty t.nm) hg2 hm2 hv rfl hn hdb) pa_nil hs2) hs1) (by decide) (by decide) hs1 hpl) fun σ H Q ⟨Γ, ρ, G, w, R, P⟩ => post_bind R P fun v d G1 H1 w1 st R1 i1 P1 => by
    cases q : tyD d with
    | none => rw [q] at P1; exact False.elim P1
    | some u =>
      rw [q] at P1
      exact ⟨v, .ty t.nm, _, _, u.is t, rfl, .ty _, ty_rel R1 i1 q, kit_ty (kit_all u t), Post.ok P1 R1 (.bl _)⟩
end
end Q

namespace Q
open PySem PySem.Spec PyProof.Rows L2
section
variable {X : Cx} {T : Tb} {L O O1 O2 O' xs : List Nat} {Wx : WX} {a b c e val : Expr} {es : List Expr} {f fa fb fk fv : Env → M D} {fr : Env → M (List D)} {pos p1 p2 p3 : Pos}
/-! ## tuple(range), list(range) -/
instance (a b : Int) : Decidable (RgOk a b) := by unfold RgOk; infer_instance
theorem IsL.rg {K : PySem.W.Frag} {wl : Option Addr} {G : Hp} (a b : Int) : IsL K wl G (rgV a b) (rngL a b) := by
  unfold rgV rngL
  generalize List.range (b - a).toNat = l
  induction l with
  | nil => exact .nil
  | cons n l ih => exact .cons (.int _) ih
def rg1M (mk : List D → D) : D → M D
  | .int n => if RgOk 0 n then M.pure (mk (rngL 0 n)) else M.fail
  | _ => M.fail
def rg2M (mk : List D → D) : D → D → M D
  | .int i, .int j => if RgOk i j then M.pure (mk (rngL i j)) else M.fail
  | _, _ => M.fail
theorem de_tupRg {p p0 : Pos} (hc : X.calm = true) (hm : X.mg "tuple" = none) (hm2 : X.mg "range" = none) (ha : DE X T O Wx a fa) (hg : Gl X "tuple" := by rfl) (hg2 : Gl X "range" := by rfl) (n1 : starEach [a] X.env = (false, eval a X.env) :: starEach [] X.env := by rfl)
    (n2 : starEach [.Call (.Name "range" p0) [a] [] p1] X.env = (false, eval (.Call (.Name "range" p0) [a] [] p1) X.env) :: starEach [] X.env := by rfl) : DE X T O Wx (.Call (.Name "tuple" p) [.Call (.Name "range" p0) [a] [] p1] [] pos) (fun ρ => M.bind (fa ρ) (rg1M .tup)) :=
  pe_imp (pe_tupRg hc hg hm (prg_1 hg2 hm2 ha n1) n2) fun σ H Q ⟨Γ, ρ, G, w, R, P⟩ => post_bind R P fun v d G1 H1 w1 st R1 i1 P1 => by
    cases i1 with
    | int n =>
      obtain ⟨h, P2⟩ := ifP P1
      exact ⟨n, rfl, h, fun q hq => Post.new P2 R1 hq noTup (.tup upd_same (IsL.rg 0 n))⟩
    | _ => exact False.elim P1
theorem df_lstRg {p p0 : Pos} (hc : X.calm = true) (hm : X.mg "list" = none) (hm2 : X.mg "range" = none) (ha : DE X T O Wx a fa) (hg : Gl X "list" := by rfl) (hg2 : Gl X "range" := by rfl) (n1 : starEach [a] X.env = (false, eval a X.env) :: starEach [] X.env := by rfl)
    (n2 : starEach [.Call (.Name "range" p0) [a] [] p1] X.env = (false, eval (.Call (.Name "range" p0) [a] [] p1) X.env) :: starEach [] X.env := by rfl) : DF X T O Wx (.Call (.Name "list" p) [.Call (.Name "range" p0) [a] [] p1] [] pos) (fun ρ => M.bind (fa ρ) (rg1M .lst)) :=
  pe_imp (pe_listRg hc hg hm (prg_1 hg2 hm2 ha n1) n2) fun σ H Q ⟨Γ, ρ, G, w, R, P⟩ => postN_bind R P fun v d G1 H1 w1 st R1 i1 P1 => by
    cases i1 with
    | int n =>
      obtain ⟨h, P2⟩ := ifN P1
      exact ⟨n, rfl, h, fun q hq => PostN.new P2 R1 hq noLst (.lst (IsL.rg 0 n))⟩
    | _ => exact False.elim P1
theorem dik_rng1 {tg : Expr} {p : Pos} (hm : X.mg "range" = none) (ha : DA X T O Wx [a] fr) (hg : Gl X "range" := by rfl) (hs : starEach [a] X.env = [(false, eval a X.env)] := by rfl) : DIK X T O Wx tg (.Call (.Name "range" p) [a] [] pos) (argE rng1D fr) :=
  pi_imp (pi_range1 hg hm ha hs) fun σ H Q ⟨Γ, ρ, G, w, R, P⟩ => post_bind R P fun v d G1 H1 w1 x1 R1 i1 P1 => by
    cases i1 with
    | nil => exact False.elim P1
    | cons i1 i2 =>
      cases i1 with
      | int j =>
        cases i2 with
        | nil =>
          obtain ⟨⟨h1, h2⟩, P2⟩ := ifP P1
          refine ⟨j, rfl, h1, h2, Post.ok P2 R1 fun G => ?_⟩
          unfold rngL
          rw [show j - 0 = j by omega]
          exact yields_rng
        | cons _ _ => exact False.elim P1
      | _ => exact False.elim P1
theorem dik_rng2 {tg : Expr} {p : Pos} (hm : X.mg "range" = none) (ha : DA X T O Wx [a, b] fr) (hg : Gl X "range" := by rfl) (hs : starEach [a, b] X.env = [(false, eval a X.env), (false, eval b X.env)] := by rfl) (hs2 : starEach [b] X.env = [(false, eval b X.env)] := by rfl) :
    DIK X T O Wx tg (.Call (.Name "range" p) [a, b] [] pos) (argE rng2D fr) :=
  pi_imp (pi_range2 hg hm ha hs hs2) fun σ H Q ⟨Γ, ρ, G, w, R, P⟩ => post_bind R P fun v d G1 H1 w1 x1 R1 i1 P1 => by
    cases i1 with
    | nil => exact False.elim P1
    | cons i1 i2 =>
      cases i1 with
      | int i =>
        cases i2 with
        | nil => exact False.elim P1
        | cons i2 i3 =>
          cases i2 with
          | int j =>
            cases i3 with
            | nil =>
              obtain ⟨⟨h1, h2, h3, h4⟩, P2⟩ := ifP P1
              exact ⟨i, j, rfl, ⟨h1, h2, h3, h4⟩, Post.ok P2 R1 fun G => yields_rng⟩
            | cons _ _ => exact False.elim P1
          | _ => exact False.elim P1
      | _ => exact False.elim P1
/-! ## slices -/
abbrev IsPt : IR (Option Int) (Option Int) := fun _ _ _ u d => u = d
def DO (X : Cx) (T : Tb) (O : List Nat) (Wx : WX) (e : Option Expr) (f : Env → M (Option Int)) : Prop := PO X e (tG X.K T O Wx IsPt f)
theorem do_none : DO X T O Wx none (fun _ => M.pure none) := ⟨fun pins s σ H Q I ⟨Γ, ρ, G, w, R, P⟩ => po_none.run pins s σ H Q I (Post.ok P R rfl)⟩
def partE (f : Env → M D) : Env → M (Option Int) := fun ρ => M.bind (f ρ) fun d => M.bind (intM d) fun i => M.pure (some i)
theorem do_some (h : DE X T O Wx e f) : DO X T O Wx (some e) (partE f) := ⟨fun pins s σ H Q I ⟨Γ, ρ, G, w, R, P⟩ => (po_some h).run pins s σ H Q I (post_bind R P fun v d G1 H1 w1 st R1 i1 P1 => by
  obtain ⟨n, rfl, rfl, P2⟩ := intM_ok (Pr := fun r => Post X.K T Γ O Wx ρ σ G1 H1 IsPt r Q) (fun z => z) i1 P1
  exact ⟨n, rfl, Post.ok P2 R1 rfl⟩)⟩
def cutL {α : Type} (xs : List α) (lo hi : Option Int) : List α := (xs.drop (HT.sIx xs.length 0 lo)).take (HT.sIx xs.length xs.length hi - HT.sIx xs.length 0 lo)
theorem IsL.cut {K : PySem.W.Frag} {wl : Option Addr} {G : Hp} {vs : List V} {ds : List D} (l : IsL K wl G vs ds) (lo hi : Option Int) : IsL K wl G (cutV vs lo hi) (cutL ds lo hi) := by
  unfold cutV cutL
  rw [l.length]
  exact (l.drop _).take _
def cutD (d : D) (lo hi : Option Int) : M D := match d with
  | .lst xs => M.pure (.lst (cutL xs lo hi))
  | .scr xs => M.pure (.lst (cutL xs lo hi))
  | .tup xs => M.pure (.tup (cutL xs lo hi))
  | .str s => if s.length ≤ sizeLine then M.pure (.str (cutS s lo hi)) else M.fail
  | _ => M.fail
def slE (f : Env → M D) (fl fh : Env → M (Option Int)) : Env → M D := fun ρ => M.bind (f ρ) fun d => M.bind (fl ρ) fun lo => M.bind (fh ρ) fun hi => cutD d lo hi
theorem de_sl {lo hi : Option Expr} {fl fh : Env → M (Option Int)} (h : DE X T O Wx e f) (hl : DO X T O Wx lo fl) (hh : DO X T O Wx hi fh) : DE X T O Wx (.Subscript e (.Slice lo hi none p2) pos) (slE f fl fh) :=
  pe_imp (pe_slice ((sl_list.or sl_tupA).or sl_str) h hl hh) fun σ H Q ⟨Γ, ρ, G, w, R, P⟩ => post_bind R P fun v d G1 H1 w1 s1 R1 i1 P1 => post_bind R1 P1 fun l l' G2 H2 w2 s2 R2 e2 P2 => post_bind R2 P2 fun u u' G3 H3 w3 s3 R3 e3 P3 => by
    obtain rfl : l = l' := e2
    obtain rfl : u = u' := e3
    have i1 := i1.mono (s2.x.trans s3.x)
    cases i1 with
    | lst s il => exact .inl (.inl ⟨_, _, rfl, SqL.of (R3.h.sub _ _ s), fun p hp => Post.new P3 R3 hp noLst (.lst upd_same ((il.cut l u).mono (hx_upd (R3.h.gnone hp))))⟩)
    | scr s il => exact .inl (.inl ⟨_, _, rfl, R3.h.sub.sqL s, fun p hp => Post.new P3 R3 hp noLst (.lst upd_same ((il.cut l u).mono (hx_upd (R3.h.gnone hp))))⟩)
    | @tup a vs ds s il =>
      refine .inl (.inr ⟨_, _, rfl, R3.h.sub.tq s, fun hw => ?_, fun _ p hp => Post.new P3 R3 hp noTup (.tup upd_same ((il.cut l u).mono (hx_upd (R3.h.gnone hp))))⟩)
      have e : cutL ds l u = ds := by
        unfold cutL
        rw [← il.length, hw.1, hw.2, List.drop_zero, Nat.sub_zero, il.length]
        exact List.take_length
      have P4 : Post X.K T Γ O Wx ρ σ G3 H3 IsV (.ok (.tup (cutL ds l u)) w3) Q := P3
      rw [e] at P4
      exact Post.ok P4 R3 (.tup s il)
    | str s =>
      obtain ⟨hz, P4⟩ := ifP P3
      exact .inr ⟨s, rfl, hz, Post.ok P4 R3 (.str _)⟩
    | _ => exact False.elim P3
/-- xs[lo::-1], any lower end -/
def pickL {α : Type} (xs : List α) (lo hi st : Option Int) : List α := (sliceRange (sliceBounds lo hi st xs.length).1 (sliceBounds lo hi st xs.length).2.1 (sliceBounds lo hi st xs.length).2.2).filterMap (xs[·]?)
theorem IsL.pick {K : PySem.W.Frag} {wl : Option Addr} {G : Hp} {vs : List V} {ds : List D} (l : IsL K wl G vs ds) : ∀ ix : List Nat, IsL K wl G (ix.filterMap (vs[·]?)) (ix.filterMap (ds[·]?))
  | [] => .nil
  | i :: ix => by
    rw [List.filterMap_cons, List.filterMap_cons]
    cases e : ds[i]? with
    | none =>
      have : vs[i]? = none := List.getElem?_eq_none_iff.mpr (by rw [l.length]; exact List.getElem?_eq_none_iff.mp e)
      rw [this]; exact IsL.pick l ix
    | some d =>
      obtain ⟨v, h1, h2⟩ := l.get e
      rw [h1]; exact .cons h2 (IsL.pick l ix)
theorem vals_pick {vs : List V} {us : List Value} (l : Vals vs us) : ∀ ix : List Nat, Vals (ix.filterMap (vs[·]?)) (ix.filterMap (us[·]?))
  | [] => .nil
  | i :: ix => by
    rw [List.filterMap_cons, List.filterMap_cons]
    cases e : vs[i]? with
    | none => rw [l.none_of e]; exact vals_pick l ix
    | some d =>
      obtain ⟨v, h1, h2⟩ := l.get e
      rw [h1]; exact .cons h2 (vals_pick l ix)
theorem pick_le {α : Type} (xs : List α) (lo : Option Int) : (pickL xs lo none (some (-1))).length ≤ xs.length := by
  unfold pickL
  refine Nat.le_trans (List.length_filterMap_le _ _) (sliceRange_length_le _ _ _ _ (fun h => absurd h (by show ¬ ((-1 : Int) > 0); decide)) fun _ => ?_)
  unfold sliceBounds
  cases lo with
  | none => dsimp only; simp
  | some i =>
    dsimp only
    simp only [Option.getD_some]
    rw [if_neg (by decide)]
    simp
    omega
def revM : D → Option Int → M D
  | .lst xs, lo => M.pure (.lst (pickL xs lo none (some (-1))))
  | _, _ => M.fail
theorem de_revSl {k : Nat} {lo : Option Expr} {fl : Env → M (Option Int)} (h : DE X T O Wx e f) (hl : DO X T O Wx lo fl) : DE X T O Wx (.Subscript e (.Slice lo none (some (.UnaryOp .USub (.Constant (.int 1) k p1) p2)) p3) pos) (fun ρ => M.bind (f ρ) fun d => M.bind (fl ρ) fun l => revM d l) := by
  refine ⟨fun pins s σ H Q I ⟨Γ, ρ, G, w, R, P⟩ => ?_⟩
  have q0 := post_bind (I := IsV) (Q1 := fun x H1 => tG X.K T O Wx IsPt fl σ H1 fun l H2 => ∃ a vs, x = .ref a ∧ SqL X.K H2 a vs ∧ ∀ p, H2 p = none → Q (.ref p) (upd H2 p (.lst (pickL vs l none (some (-1)))))) R P fun v d G1 H1 w1 s1 R1 i1 P1 => post_bind R1 P1 fun l l' G2 H2 w2 s2 R2 e2 P2 => by
    obtain rfl : l = l' := e2
    cases i1 with
    | @lst a vs ds s il =>
      have s' := s2.x _ _ s
      refine ⟨a, vs, rfl, SqL.of (R2.h.sub _ _ s'), fun p hp => Post.new P2 R2 hp noLst (.lst upd_same ?_)⟩
      have il := il.mono s2.x
      unfold pickL
      rw [il.length]
      exact (il.pick _).mono (hx_upd (R2.h.gnone hp))
    | _ => exact False.elim P2
  refine Subscript_ (thn (h.run pins s σ H _ I q0) fun v s1 ⟨x, H1, I1, r1, q1⟩ => ?_)
  have hst : PO X (some (.UnaryOp .USub (.Constant (.int 1) k p1) p2)) (tPart (tUn (rU fun i => .int (-i)) (tC (.int 1)))) := po_some (pe_un un_neg pe_int)
  refine wpAny_Slice (thn (hl.run pins s1 σ H1 _ I1 q1) fun vl s2 ⟨l, H2, I2, pl, a, vs, ex, hx, q2⟩ => ?_)
  subst ex
  cases r1
  refine thn (po_none.run pins s2 σ H2 (fun o H3 => o = none ∧ H3 = H2) I2 ⟨rfl, rfl⟩) fun vu s3 ⟨u, H3, I3, pu, eu, e3⟩ => ?_
  subst eu e3
  refine thn (hst.run pins s3 σ H3 (fun o H4 => o = some (-1) ∧ H4 = H3) I3 ⟨1, rfl, -1, rfl, rfl, rfl⟩) fun vz s4 ⟨o, H4, I4, pz, eo, e4⟩ => ?_
  subst eo e4
  have J : Inv X pins σ H4 { s4 with heap := s4.heap.push { cls := .type "slice", data := .fields #[vl, vu, vz] } } := I4.kept (t' := s4.toks) fun _ _ y => Heap.get?_push_of_some _ y
  obtain ⟨its, r, hL, hz⟩ := J.list hx
  have hn : its.length = vs.length := r.length.symm
  have fin : wpAny (model X.prog X.w) X.A (getItem (.ref a) (.ref s4.heap.objs.size)) (EP X pins σ Q) X.xe { s4 with heap := s4.heap.push { cls := .type "slice", data := .fields #[vl, vu, vz] } } := by
    refine wpAny_getItem_list_slice hL.isList (Heap.IsSliceOf.new _ vl vu vz) pl pu pz (by decide) ?_ (by rw [List.size_toArray, hn]; exact hz)
    have e : slicePick its.toArray l none (some (-1)) = (pickL its l none (some (-1))).toArray := by
      unfold slicePick pickL
      rw [List.size_toArray]
      simp only [List.getElem?_toArray]
    rw [e]
    refine ⟨.ref _, _, J.laid (t' := s4.toks) (o := .lst (pickL vs l none (some (-1)))) (fun _ _ y => Heap.get?_push_of_some _ y) (Nat.le_refl _) ?_, rfl, q2 _ (J.hok.fresh (Nat.le_refl _))⟩
    refine ⟨Nat.le_trans (pick_le vs l) hz, pickL its l none (some (-1)), 0, ?_, Heap.get?_push_size _ rfl⟩
    unfold pickL
    rw [hn]
    exact vals_pick r _
  exact tail_any (ops := [.ref a, .ref s4.heap.objs.size]) hL.isList.typeIs PySem.slot_list_getitem.lookup fin (by with_unfolding_all rfl)
end
end Q

namespace Q
open PySem PySem.Spec PyProof.Rows L2
/-! ## what is never reached -/
def deadS : Env → M Fl := fun _ => M.fail
theorem tS_dead {K : PySem.W.Frag} {T : Tb} {L O O' : List Nat} {Wx : WX} {D : Ends} {σ : L2.St} {H : Hp} : ¬ tS K T L O O' Wx deadS D σ H := fun ⟨Γ, ρ, G, w, R, P⟩ => P
section
variable {X : Cx} {T : Tb} {L O O1 O2 O' xs : List Nat} {Wx : WX} {a b c e val : Expr} {es : List Expr} {f fa fb fk fv : Env → M D} {fr : Env → M (List D)} {pos p1 p2 p3 : Pos} {st : Stmt}
theorem ds_dead : DS X T L O O' Wx st deadS := ⟨fun pins s σ H D I h => (tS_dead h).elim⟩
theorem de_dead : DE X T O Wx e (fun _ => M.fail) := ⟨fun pins s σ H Q I ⟨Γ, ρ, G, w, R, P⟩ => False.elim P⟩
/-! ## an object laid, then written -/
theorem Rel.pokeO {K : PySem.W.Frag} {Γ : Ctx} {ρ : Env} {σ : L2.St} {G H : Hp} {w : Wl} {p : Addr} {o o' : HO} {d d' : D} (R : Rel K T Γ O ρ σ G H w) (n : New Γ O ρ σ G H p o) (io : IsO K Γ.wl G o d) (ho : NoTbl o') (io' : IsO K Γ.wl G o' d') :
    Rel K T Γ O ρ σ G (upd H p o') w ∧ New Γ O ρ σ G (upd H p o') p o' := by
  have nl : ∀ {a : Addr} {x : HO}, G a = some x → a ≠ p := fun {a x} q z => by rw [z, n.g] at q; cases q
  refine ⟨⟨⟨fun a x q => by rw [upd_ne (nl q)]; exact R.h.sub _ _ q, R.h.nt, R.h.nw, R.h.g0, fun a x q y t => ?_, fun a q => ?_, fun a q => ?_, ?_, fun a us q => ?_⟩, R.len, R.fro, fun j f hj h => ?_, R.inj⟩, ⟨upd_same, n.g, n.b, n.w, ho, n.no⟩⟩
  · have z : a ≠ p := fun z => by rw [z, n.b] at q; cases q
    rw [upd_ne z]; exact R.h.keep _ _ q y t
  · have z : a ≠ p := fun z => by rw [z, upd_same] at q; cases q
    rw [upd_ne z] at q; exact R.h.mono _ q
  · obtain ⟨q1, q2⟩ := R.h.well a q
    have z : a ≠ p := fun z => n.w (by rw [q, z])
    rw [upd_ne z]; exact ⟨q1, q2⟩
  · intro u hu
    obtain ⟨ps, q1, q2⟩ := R.h.tabs u hu
    have z : u.1 ≠ p := fun z => by rw [z, n.at_] at q1; exact n.nt ps (Option.some.inj q1)
    refine ⟨ps, by rw [upd_ne z]; exact q1, q2.1, fun pos cv hc => ?_⟩
    obtain ⟨c, r1, r2⟩ := q2.2 pos cv hc
    have z2 : c ≠ p := fun z => by
      rw [z, n.at_] at r2
      have := Option.some.inj r2
      subst this
      cases io
    exact ⟨c, r1, by rw [upd_ne z2]; exact r2⟩
  · have z : a ≠ p := fun z => by rw [z, upd_same] at q; exact io'.nt us (Option.some.inj q)
    rw [upd_ne z] at q; exact R.h.tv _ _ q
  · obtain ⟨m, u, q1, q2, q3, q4, q5, q6⟩ := R.own j f hj h
    have z : m ≠ p := fun z => n.no j f hj h (by rw [q1, z])
    exact ⟨m, u, q1, q2, q3, q4, by rw [upd_ne z]; exact q5, q6⟩
/-- a stretch that ends with a write to the object laid at its start -/
theorem Stp.poke {wl : Option Addr} {G H G1 H1 : Hp} {p : Addr} {o : HO} (st : Stp wl G H G1 H1) (hp : H p = none) : Stp wl G H G1 (upd H1 p o) :=
  ⟨st.x, fun a u q q1 q2 => by
    have z : a ≠ p := fun z => by rw [z, hp] at q; cases q
    rw [upd_ne z]; exact st.kp _ _ q q1 q2, st.nw, fun a q => by
    by_cases z : a = p
    · subst z; exact hp
    · rw [upd_ne z] at q; exact st.mono _ q⟩
/-! ## dicts displayed -/
theorem df_dnewK : DF X T O Wx (.Dict [] [] pos) (fun _ => M.pure (.dct false [])) :=
  pe_imp pe_dnewK fun σ H Q ⟨Γ, ρ, G, w, R, P⟩ p hp => PostN.new P R hp noDK (.dK rfl .nil)
theorem df_dnewT : DF X T O Wx (.Dict [] [] pos) (fun _ => M.pure (.dct true [])) :=
  pe_imp pe_dnewT fun σ H Q ⟨Γ, ρ, G, w, R, P⟩ p hp => PostN.new P R hp noDT (.dT rfl .nil)
def tOneT (tk tv : TE) : TE := fun σ H Q => ∀ p, H p = none → tk σ (upd H p (.dT [])) fun x H1 => tv σ H1 fun y H2 => ∃ b q, x = .ref b ∧ H2 b = some (.tup (q.map kV)) ∧ H2 p = some (.dT []) ∧ Q (.ref p) (upd H2 p (.dT [(q, y)]))
theorem pe_oneT {k v : Expr} {tk tv : TE} (hu : X.A.units + 1 < cLine) (hk : PE X k tk) (hv : PE X v tv) : PE X (.Dict [some k] [v] pos) (tOneT tk tv) := by
  refine ⟨fun pins s σ H Q I q => ?_⟩
  have hn := I.hok.fresh (Nat.le_refl s.heap.objs.size)
  have I1 : Inv X pins σ (upd H s.heap.objs.size (.dT [])) { s with heap := s.heap.push { cls := .type "dict", data := .dict #[] } } := I.laid (t' := s.toks) (fun _ _ y => Heap.get?_push_of_some _ y) (Nat.le_refl _) (dt_empty s.heap I.big)
  rw [arm_eval_Dict, zip_pairTrees [some k] [v] X.env pos rfl rfl, dictDisplay_pairs _ (by intro z; cases z) (by show 1 < 17; decide)]
  refine wpAny_bind (wpAny_standAt (wpAny_bind ?_))
  refine wpAny_subDictH (knd := tupleKind (mixKind X.prog X.w)) (Q := fun d s' => wpAny (model X.prog X.w) X.A (pure (Value.ref d)) (EP X pins σ Q) X.xe s') (by show X.A.units + 1 ≤ cLine; omega) (by show 1 ≤ 15; decide) ?_
  refine pairTrees_cons_walk (thn (hk.run pins _ σ _ _ I1 (q _ hn)) fun u s1 ⟨x, H1, I2, r1, q1⟩ => thn (hv.run pins s1 σ H1 _ I2 q1) fun z s2 ⟨y, H2, I3, r2, b, ks, ex, hb, hp, q2⟩ => pairTrees_nil_walk ?_)
  subst ex
  obtain rfl : u = Value.ref b := r1
  obtain ⟨_, hd, xs, rx, dd⟩ := L2.dt_of I3.hok hp
  cases rx
  refine ⟨[(ks, b, z)], ⟨rfl, rfl, key_of I3.hok hb, trivial⟩, dd, fun h' tk dd' sb => wpAny_pure ⟨.ref s.heap.objs.size, _, ?_, rfl, q2⟩⟩
  have ne : b ≠ s.heap.objs.size := fun z => by rw [z, hp] at hb; cases hb
  refine d_write I3 (by rw [hp]; exact True.intro) sb (let ⟨o, _, _, hq, _⟩ := dd'; ⟨o, hq⟩) ?_
  have es : storedAllH ([] : List (List Key × Addr × Value)) [(ks, b, z)] = [(ks, b, z)] := by rfl
  rw [es] at dd'
  obtain ⟨o9, es9, ep9, g1, g2, g3, g4, _, g5⟩ := dd'
  exact ⟨by rw [sizeLine_eq]; show 1 ≤ 16777216; decide, hd, [(ks, b, z)], .cons ⟨rfl, by rw [upd_ne ne]; exact hb, r2⟩ .nil, o9, es9, ep9, g1, g2, g3, g4, g5⟩
def oneTE (fk fv : Env → M D) : Env → M D := fun ρ => M.bind (fk ρ) fun k => M.bind (fv ρ) fun v => if keyIn true k = true then M.pure (.dct true [(k, v)]) else M.fail
theorem df_oneT {k v : Expr} (hu : X.A.units + 64 < cLine) (hk : DE X T O Wx k fk) (hv : DE X T O Wx v fv) : DF X T O Wx (.Dict [some k] [v] pos) (oneTE fk fv) :=
  pe_imp (pe_oneT (by omega) hk hv) fun σ H Q ⟨Γ, ρ, G, w, R, P⟩ p hp => by
    obtain ⟨R0, n0, s0⟩ := R.lay hp (noDT (xs := [])) (fun _ z => nomatch z)
    refine ⟨Γ, ρ, G, w, R0, ?_⟩
    simp only [oneTE, M.bind] at P
    cases e1 : fk ρ w with
    | fail => rw [e1] at P; exact P
    | exc c p' w' => rw [e1] at P; exact fun cls dd G' H' st => P cls dd G' H' (s0.trans st)
    | ok d w1 =>
      rw [e1] at P
      intro x G1 H1 st1 R1 i1
      refine ⟨Γ, ρ, G1, w1, R1, ?_⟩
      dsimp only at P ⊢
      cases e2 : fv ρ w1 with
      | fail => rw [e2] at P; exact P
      | exc c p' w' => rw [e2] at P; exact fun cls dd G' H' st => P cls dd G' H' (s0.trans (st1.trans st))
      | ok d2 w2 =>
        rw [e2] at P
        intro y G2 H2 st2 R2 i2
        have P : PostN X.K T Γ O Wx ρ σ G H ((if keyIn true d = true then M.pure (.dct true [(d, d2)]) else M.fail) w2) Q := P
        obtain ⟨hk, P⟩ := ifN P
        have n2 := (n0.step st1).step st2
        rcases keyIn_rel R2.h.sub hk (i1.mono st2.x) with ⟨z, _⟩ | ⟨_, q, b, rfl, rfl, hb⟩
        · cases z
        · refine ⟨b, q, rfl, hb, n2.at_, ?_⟩
          have io : IsO X.K Γ.wl G2 (.dT [(q, y)]) (.dct true [(kT q, d2)]) := .dT rfl (.cons i2 .nil)
          obtain ⟨R3, n3⟩ := R2.pokeO n2 (IsO.dT (ds := []) rfl .nil) (noDT (xs := [(q, y)])) io
          exact P p _ G2 _ (Stp.poke (s0.trans (st1.trans st2)) hp) R3 n3 hp io
/-! ## list(d) -/
def keysM : D → M D
  | .dct false kvs => M.pure (.lst (kvs.map (·.1)))
  | .dct true kvs => M.pure (.lst (kvs.map (·.1)))
  | _ => M.fail
theorem keys_isL {K : PySem.W.Frag} {wl : Option Addr} {G H : Hp} (tv : ∀ a vs, H a = some (.tup vs) → G a = some (.tup vs)) : ∀ {kvs : List (List Key × V)} {bs : List Addr}, IsKeys H kvs bs → IsL K wl G (bs.map V.ref) (kvs.map fun p => kT p.1)
  | _, _, .nil => .nil
  | _, _, .cons h r => .cons (.tup (tv _ _ h) (IsL.ofKeys _)) (keys_isL tv r)
/-- list(name), the name owned, a dict -/
theorem df_listO (i : Nat) {x : Str} {p : Pos} (hc : X.calm = true) (hm : X.mg "list" = none) (hO : i ∈ O := by decide) (hN : X.N[i]? = some x := by rfl) (hv : Vis X.env.scope x := by first | exact Or.inl rfl | exact Or.inr (Or.inl rfl) | exact Or.inr (Or.inr rfl)) (hd : (x == ("__debug__" : Str)) = false := by decide)
    (hcd : (x == ("__classdict__" : Str)) = false := by decide) (hg : Gl X "list" := by rfl) (he : starEach [.Name x p1] X.env = (false, eval (.Name x p1) X.env) :: starEach [] X.env := by rfl) (hpl : (backTo pos (starEach ([] : List Expr) X.env)).any (·.1) = false := by rfl) :
    DF X T O Wx (.Call (.Name "list" p) [.Name x p1] [] pos) (fun ρ => M.bind (getV ρ i) keysM) :=
  pe_imp (pe_callTy (CallR.or (call_list_dK hc) (call_list_dT hc)) hg hm boot_list' (pa_cons (pv i hN hv hd hcd) pa_nil he) (by decide) (by decide) he hpl) fun σ H Q ⟨Γ, ρ, G, w, R, P⟩ => by
    have P1 : PostN X.K T Γ O Wx ρ σ G H (M.bind (getV ρ i) keysM w) Q := P
    simp only [getV, M.bind] at P1
    cases e : ρ[i]? with
    | none => rw [e] at P1; exact False.elim P1
    | some o =>
      cases o with
      | none => rw [e] at P1; exact False.elim P1
      | some d =>
        rw [e] at P1
        obtain ⟨l, o, h1, h2, h3, h4, h5, h6, h7⟩ := R.own i d hO e
        refine ⟨.ref l, h1, ?_⟩
        cases h7 with
        | lst il => exact False.elim P1
        | @dK kvs ds hk hl =>
          refine .inl ⟨l, kvs, rfl, h5, fun q hq => PostN.new P1 R hq noLst (.lst ?_)⟩
          rw [hk]
          have : ∀ kvs : List (Key × V), IsL X.K Γ.wl G (kvs.map fun kv => kV kv.1) (kvs.map fun p => kD p.1) := fun kvs => by
            induction kvs with
            | nil => exact .nil
            | cons p r ih => exact .cons (Is.ofKey _) ih
          exact this kvs
        | @dT kvs ds hk hl =>
          refine .inr ⟨l, kvs, rfl, .inl h5, fun q bs hq hb => PostN.new P1 R hq noLst (.lst ?_)⟩
          rw [hk]
          exact keys_isL R.h.tv hb
/-! ## in -/
def flV : D → Option V
  | .non => some .non
  | .bl b => some (.bl b)
  | .int i => some (.int i)
  | .str s => some (.str s)
  | _ => none
def flVs : List D → Option (List V)
  | [] => some []
  | d :: ds => match flV d, flVs ds with
    | some v, some vs => some (v :: vs)
    | _, _ => none
theorem flV_ok {K : PySem.W.Frag} {wl : Option Addr} {G : Hp} {v u : V} {d : D} (i : Is K wl G v d) (h : flV d = some u) : v = u ∧ flatV v = true := by
  cases i <;> cases h <;> exact ⟨rfl, rfl⟩
theorem flVs_ok {K : PySem.W.Frag} {wl : Option Addr} {G : Hp} : ∀ {vs us : List V} {ds : List D}, IsL K wl G vs ds → flVs ds = some us → vs = us ∧ vs.all flatV = true
  | _, _, _, .nil, h => by cases h; exact ⟨rfl, rfl⟩
  | _, us, d :: ds, .cons i l, h => by
    unfold flVs at h
    cases e1 : flV d with
    | none => rw [e1] at h; cases h
    | some v =>
      cases e2 : flVs ds with
      | none => rw [e1, e2] at h; cases h
      | some ws =>
        rw [e1, e2] at h
        cases h
        obtain ⟨rfl, f1⟩ := flV_ok i e1
        obtain ⟨rfl, f2⟩ := flVs_ok l e2
        exact ⟨rfl, by rw [List.all_cons, f1, f2]; rfl⟩
def inP : D → D → Option Bool
  | d, .str s => match d with
    | .str z => match z with
      | ⟨⟨[c]⟩⟩ => some (decide (c ∈ s.cps.toList))
      | _ => none
    | _ => none
  | d, .dct t kvs => if keyIn t d = true then some (lkpD kvs d).isSome else none
  | d, .lst xs => if shOk d = true ∧ shOk (.lst xs) = true then some ((D.pyL xs).any fun z => PyData.eqv z d.py) else none
  | d, .tup xs => match flV d, flVs xs with
    | some v, some vs => some (inV v vs)
    | _, _ => none
  | d, .ktp xs => match flV d, flVs xs with
    | some v, some vs => some (inV v vs)
    | _, _ => none
  | _, _ => none
def rInDc (neg : Bool) : R2 := fun x y H Q => ∃ a o, y = .ref a ∧ DGet H a x o ∧ Q (.bl (if neg then !o.isSome else o.isSome)) H
theorem op_inDc (hu : X.A.units + 1 < cLine) : OpR X (compareOp .In) (rInDc false) := fun pins s σ H x y v u Q I rx ry ⟨a, o, e, g, q⟩ => by
  subst e
  obtain rfl : u = Value.ref a := ry
  exact d_in hu I g rx fun s' I' => ⟨.bl o.isSome, H, I', rfl, q⟩
theorem op_ninDc (hu : X.A.units + 1 < cLine) : OpR X (compareOp .NotIn) (rInDc true) := fun pins s σ H x y v u Q I rx ry ⟨a, o, e, g, q⟩ => by
  subst e
  obtain rfl : u = Value.ref a := ry
  exact d_notIn hu I g rx fun s' I' => ⟨.bl (!o.isSome), H, I', rfl, q⟩
def rInA (K : PySem.W.Frag) : R2 := fun x y H Q => ((rInD K x y H Q ∨ rIn K false x y H Q) ∨ rInS x y H Q) ∨ rInDc false x y H Q
def rNinA (K : PySem.W.Frag) : R2 := fun x y H Q => ((rNotInD K x y H Q ∨ rIn K true x y H Q) ∨ rNotInS x y H Q) ∨ rInDc true x y H Q
theorem op_inA (hu : X.A.units + 65 < cLine) : OpR X (compareOp .In) (rInA X.K) := (((op_inD hu).or op_in_seq).or op_inS).or (op_inDc (by omega))
theorem op_ninA (hu : X.A.units + 65 < cLine) : OpR X (compareOp .NotIn) (rNinA X.K) := (((op_notInD hu).or op_notIn_seq).or op_notInS).or (op_ninDc (by omega))
theorem IsL.dpL {K : PySem.W.Frag} {wl : Option Addr} {G H : Hp} {vs : List V} {ds : List D} (e : Hx G H) (l : IsL K wl G vs ds) (h : D.pyOkL ds = true) : DpAll K H vs (D.pyL ds) := IsL.dp e l h
theorem inP_ok {Γ : Ctx} {ρ : Env} {σ : L2.St} {G H : Hp} {w : Wl} {x y : V} {d c : D} {b : Bool} (R : Rel X.K T Γ O ρ σ G H w) (i1 : Is X.K Γ.wl G x d) (i2 : IsX X.K Γ G H y c) (h : inP d c = some b) :
    (∀ Q : VK, Q (.bl b) H → rInA X.K x y H Q) ∧ ∀ Q : VK, Q (.bl (!b)) H → rNinA X.K x y H Q := by
  by_cases hl : ∃ ds, c = .lst ds
  · obtain ⟨ds, rfl⟩ := hl
    obtain ⟨a, vs, rfl, hH, l⟩ := i2.lst R.h.sub
    simp only [inP] at h
    split at h
    · rename_i z
      cases h
      obtain ⟨z1, z2⟩ := z
      have d1 := i1.dp R.h.sub (shOk_of z1).1
      have ok2 := shOk_of z2
      have d2 : Dp X.K H (.ref a) (.list (D.pyL ds)) := .lst (.inl (.inl hH)) (l.dpL R.h.sub (by simpa only [D.pyOk] using ok2.1))
      have s2 : SeqAt.shaped (.list (D.pyL ds)) = true := by have := ok2.2; simpa only [D.py] using this
      exact ⟨fun Q q => .inl (.inl (.inl ⟨_, _, d1, d2, (shOk_of z1).2, s2, q⟩)), fun Q q => .inl (.inl (.inl ⟨_, _, d1, d2, (shOk_of z1).2, s2, q⟩))⟩
    · cases h
  by_cases hd : ∃ t ds, c = .dct t ds
  · obtain ⟨t, ds, rfl⟩ := hd
    obtain ⟨a, o, rfl, hH, io⟩ := i2.dct R.h.sub
    simp only [inP] at h
    split at h
    · rename_i z
      cases h
      obtain ⟨r, g, ir⟩ := dget_rel R.h.sub hH io z i1
      have e : (lkpD ds d).isSome = r.isSome := by
        cases r <;> cases q : lkpD ds d <;> rw [q] at ir <;> first | rfl | exact False.elim ir
      rw [e]
      exact ⟨fun Q q => .inr ⟨a, r, rfl, g, q⟩, fun Q q => .inr ⟨a, r, rfl, g, q⟩⟩
    · cases h
  have i2 := i2.val (fun ds z => hl ⟨ds, z⟩) (fun t ds z => hd ⟨t, ds, z⟩)
  have seq : ∀ {a : Addr} {vs : List V} {ds : List D}, SqT X.K H a vs → IsL X.K Γ.wl G vs ds → (match flV d, flVs ds with
    | some v, some vs => some (inV v vs)
    | _, _ => none) = some b → (∀ Q : VK, Q (.bl b) H → rInA X.K x (.ref a) H Q) ∧ ∀ Q : VK, Q (.bl (!b)) H → rNinA X.K x (.ref a) H Q := fun {a vs ds} hs l h => by
    cases e1 : flV d with
    | none => rw [e1] at h; cases h
    | some v =>
      cases e2 : flVs ds with
      | none => rw [e1, e2] at h; cases h
      | some us =>
        rw [e1, e2] at h
        cases h
        obtain ⟨rfl, f1⟩ := flV_ok i1 e1
        obtain ⟨rfl, f2⟩ := flVs_ok l e2
        exact ⟨fun Q q => .inl (.inl (.inr ⟨a, _, rfl, .inr hs, f1, f2, q⟩)), fun Q q => .inl (.inl (.inr ⟨a, _, rfl, .inr hs, f1, f2, q⟩))⟩
  cases i2 with
  | str s =>
    cases i1 <;> first | cases h | skip
    rename_i z
    unfold inP at h
    dsimp only at h
    split at h
    · rename_i c
      cases h
      exact ⟨fun Q q => .inl (.inr ⟨c, s, rfl, rfl, q⟩), fun Q q => .inl (.inr ⟨c, s, rfl, rfl, q⟩)⟩
    · cases h
  | tup s l => exact seq (R.h.sub.tq s) l h
  | ktp s l => exact seq (R.h.sub.sqT s) l h
  | lst s l => exact absurd ⟨_, rfl⟩ hl
  | dK s k l => exact absurd ⟨_, _, rfl⟩ hd
  | dT s k l => exact absurd ⟨_, _, rfl⟩ hd
  | _ => cases d <;> cases h
def inM (neg : Bool) (d c : D) : M D := M.bind (optM (inP d c)) fun b => M.pure (.bl (if neg = true then !b else b))
theorem ok_in (hu : X.A.units + 64 < cLine) (hu2 : X.A.units + 65 < cLine) : OpOk X T (compareOp .In) (inM false) := ⟨_, op_inA hu2, fun Γ O Wx ρ σ G H w x y d e Q R i1 i2 P => by
  cases q : inP d e with
  | none => simp only [inM, q] at P; exact False.elim P
  | some b =>
    simp only [inM, q] at P
    exact (inP_ok R i1 (.inl i2) q).1 Q (Post.ok P R (.bl _))⟩
theorem ok_notin (hu : X.A.units + 64 < cLine) (hu2 : X.A.units + 65 < cLine) : OpOk X T (compareOp .NotIn) (inM true) := ⟨_, op_ninA hu2, fun Γ O Wx ρ σ G H w x y d e Q R i1 i2 P => by
  cases q : inP d e with
  | none => simp only [inM, q] at P; exact False.elim P
  | some b =>
    simp only [inM, q] at P
    exact (inP_ok R i1 (.inl i2) q).2 Q (Post.ok P R (.bl _))⟩
end
end Q

namespace Q
open PySem PySem.Spec PyProof.Rows L2
/-! ## the law's own call -/
abbrev scrO (us : List Value) : Obj := { cls := .type "list", data := .seq us.toArray }
abbrev tabO : Obj := { cls := .none, data := .fields #[] }
open Classical in
/-- what is tracked at the start: the script, unless it is one of the module's own objects, and the tables -/
noncomputable def H0 (K : PySem.W.Frag) (a : Addr) (us : List Value) (ns : List Int) (ts : List Addr) : Hp := fun b =>
  if b ∈ ts then some (.tbl #[]) else if b = a ∧ K.lookup a = none then some (.frz (scrO us) (.lst (ns.map V.int))) else none
section
variable {P : Program} {w : World} {K : PySem.W.Frag} {mg mb : Str → Option Value} {k : Nat} {f a : Addr} {cs : List (Addr × Addr)} {ts : List Addr} {T : Tb} {fd : FuncData} {x : Str} {g : List D → M D} {s : Shared} {us : List Value} {ns : List Int}
theorem H0_tab {b : Addr} (h : b ∈ ts) : H0 K a us ns ts b = some (.tbl #[]) := by unfold H0; rw [if_pos h]
theorem H0_or (b : Addr) : (b ∈ ts ∧ H0 K a us ns ts b = some (.tbl #[])) ∨ (b ∉ ts ∧ b = a ∧ K.lookup a = none ∧ H0 K a us ns ts b = some (.frz (scrO us) (.lst (ns.map V.int)))) ∨ (b ∉ ts ∧ H0 K a us ns ts b = none) := by
  unfold H0
  by_cases h1 : b ∈ ts
  · rw [if_pos h1]; exact .inl ⟨h1, rfl⟩
  · rw [if_neg h1]
    by_cases h2 : b = a ∧ K.lookup a = none
    · rw [if_pos h2]; exact .inr (.inl ⟨h1, h2.1, h2.2, rfl⟩)
    · rw [if_neg h2]; exact .inr (.inr ⟨h1, rfl⟩)
theorem lawG (inK : K.In s.heap) (gl : s.heap.Ns mainGlobals mg) (bn : s.heap.Ns builtinsNs mb) (bb : ∀ y : Str, y ≠ "__name__" → mb y = bootBuiltins y) (nl : s.heap.NoLimit) (gn : s.gens = #[])
    (t1 : ∀ p ∈ cs, s.heap.get? p.2 = some tabO) (t2 : ∀ p ∈ cs, K.lookup p.2 = none) (t3 : ∀ p ∈ cs, PySem.W.CodeHd s.heap p.1 p.2)
    (bm : ∃ (m : Addr) (ob : Obj), mg "__builtins__" = some (.ref m) ∧ m ≠ builtinsNs ∧ s.heap.get? m = some ob ∧ ob.cls = .type "module" ∧ ob.dict = some builtinsNs ∧ ob.data = .plain)
    (sc : s.heap.get? a = some (scrO us)) (ii : IntsAre us ns) (ln : ns.length ≤ sizeLine) (rm : Room k callerA) (hT : ∀ q ∈ T, q.1 ∈ cs.map (·.2))
    (F : ∀ base : Heap, K.In base → base.Ns mainGlobals mg → (∀ p ∈ cs, LamX.TabB base mg p.1 p.2) → FnG P w K mg base k f fd [x] (spD K T 1 g)) (bd : ∀ (s : Shared) (u : Value), BindsTo s fd ⟨[u], []⟩ [(x, u)])
    (res : ∃ w', g [.scr (ns.map D.int)] [] = .ok (.bl true) w') :
    codeAny (model P w) callerA (.call (.ref f) ⟨[.ref a], []⟩) (fun r s' => r = .ok (.ret (.bool true)) ∧ OldK s.heap s'.heap ∧ s'.os = s.os ∧ AllBare s'.gens) s := by
  generalize hts : cs.map (·.2) = ts at *
  have tabAt : ∀ {b : Addr}, b ∈ ts → s.heap.get? b = some tabO ∧ K.lookup b = none := fun {b} hb => by
    rw [← hts] at hb
    obtain ⟨p, hp, rfl⟩ := List.mem_map.mp hb
    exact ⟨t1 p hp, t2 p hp⟩
  have inT : ∀ {p : Addr × Addr}, p ∈ cs → p.2 ∈ ts := fun {p} hp => by rw [← hts]; exact List.mem_map.mpr ⟨p, hp, rfl⟩
  have aT : a ∉ ts := fun z => by
    have q := (tabAt z).1
    rw [sc] at q; cases q
  generalize hH : H0 K a us ns ts = H
  have three : ∀ b, (b ∈ ts ∧ H b = some (.tbl #[])) ∨ (b ∉ ts ∧ b = a ∧ K.lookup a = none ∧ H b = some (.frz (scrO us) (.lst (ns.map V.int)))) ∨ (b ∉ ts ∧ H b = none) := fun b => by subst hH; exact H0_or b
  have seen : SqL K H a (ns.map V.int) := by
    cases q : K.lookup a with
    | some o =>
      have q' := inK a o q
      rw [sc] at q'; cases q'
      exact .inr ⟨_, us.toArray, _, q, rfl, rfl, rfl, by rw [List.size_toArray, ii.length]; exact ln, by simpa using vals_ints ii⟩
    | none =>
      rcases three a with z | ⟨_, _, _, z⟩ | ⟨z1, z2⟩
      · exact absurd z.1 aT
      · exact .inl (.inr ⟨_, z⟩)
      · subst hH
        unfold H0 at z2
        rw [if_neg z1, if_pos ⟨rfl, q⟩] at z2; cases z2
  have hok : HOk P w H s.heap := fun b o hb => by
    rcases three b with ⟨z1, z2⟩ | ⟨_, rfl, _, z2⟩ | ⟨_, z2⟩
    · rw [z2] at hb; cases hb
      exact (tabAt z1).1
    · rw [z2] at hb; cases hb
      exact ⟨sc, by rw [List.length_map]; exact ln, us, _, vals_ints ii, sc⟩
    · rw [z2] at hb; cases hb
  have bare : ∀ {b : Addr} {o : Obj}, s.heap.get? b = some o → (∀ v n, o.data ≠ .seq v n) → o.data ≠ .fields #[] → H b = none := fun {b o} e n1 n2 => by
    rcases three b with ⟨z1, _⟩ | ⟨_, rfl, _, _⟩ | ⟨_, z2⟩
    · rw [(tabAt z1).1] at e; cases e
      exact absurd rfl n2
    · rw [sc] at e; cases e
      exact absurd rfl (n1 _ _)
    · exact z2
  have dicts : ∀ {b : Addr} {m : Str → Option Value}, s.heap.Ns b m → (hidT s.heap H).Ns b m := fun {b m} ⟨o, es, ep, e, d, r⟩ =>
    ⟨o, es, ep, hidT_get e (bare e (fun v n z => by rw [d] at z; cases z) fun z => by rw [d] at z; cases z), d, r⟩
  have own : K.In (hidT s.heap H) := fun b o e => hidT_get (inK b o e) (by
    rcases three b with ⟨z1, _⟩ | ⟨_, rfl, z, _⟩ | ⟨_, z2⟩
    · rw [(tabAt z1).2] at e; cases e
    · rw [z] at e; cases e
    · exact z2)
  have tb : ∀ p ∈ cs, LamX.TabB (hidT s.heap H) mg p.1 p.2 := fun p hp => by
    have at_ := t1 p hp
    refine ⟨?_, ?_, fun z => ?_⟩
    · obtain ⟨o, vs, file, tf, flags, tg, inF, text, tt, e1, r1, r2, rest⟩ := t3 p hp
      refine ⟨o, vs, file, tf, flags, tg, inF, text, tt, hidT_get e1 (bare e1 (fun v n z => by rw [r2] at z; cases z) fun z => ?_), r1, r2, rest⟩
      rw [r2] at z; cases z
      have := rest.1
      simp at this
    · obtain ⟨m, ob, b1, b2, b3, b4, b5, b6⟩ := bm
      refine ⟨m, ob, b1, b2, fun z => ?_, fun z => ?_, hidT_get b3 (bare b3 (fun v n z => by rw [b6] at z; cases z) fun z => by rw [b6] at z; cases z), b4, b5, b6⟩
      · obtain ⟨o, es, ep, e, d, _⟩ := gl
        rw [z, e] at b3; cases b3
        rw [d] at b6; cases b6
      · rw [z, at_] at b3; cases b3
        cases b6
    · obtain ⟨o, es, ep, e, d, _⟩ := gl
      rw [z, at_] at e; cases e
      cases d
  have mod : L2.Mod K mg (hidT s.heap H) := ⟨own, dicts gl, ⟨mb, dicts bn, bb⟩, let ⟨m, h1, h2⟩ := nl; ⟨m, dicts h1, h2⟩⟩
  have env : Env0 P w K mg (hidT s.heap H) callerA [] s H := ⟨rfl, mod, fun _ _ => of_hidT, Nat.le_of_eq (hidT_size _ _), trivial, fun b (hb : b ∈ ([] : List Addr)) => (nomatch hb), hok, .of_eq gn⟩
  obtain ⟨w', hg⟩ := res
  have sp : spD K T 1 g [.ref a] H (fun v _ => v = .bl true) (fun _ _ _ => False) := by
    classical
    refine ⟨none, fun b => if b ∈ ts then none else H b, [], [.scr (ns.map D.int)], ⟨fun b o e => ?_, fun b o e => ?_, fun b e => (nomatch e), fun q hq => NdefX.TabN.nil ?_, fun b vs e => ?_⟩, .cons (.scr ?_ (IsL.ints ns)) .nil, rfl, ?_⟩
    · by_cases z : b ∈ ts
      · rw [if_pos z] at e; cases e
      · rw [if_neg z] at e; exact e
    · by_cases z : b ∈ ts
      · rw [if_pos z] at e; cases e
      · rw [if_neg z] at e
        rcases three b with z1 | ⟨_, _, _, z2⟩ | ⟨_, z2⟩
        · exact absurd z1.1 z
        · rw [z2] at e; cases e; exact fun _ y => nomatch y
        · rw [z2] at e; cases e
    · rcases three q.1 with z | z | z
      · exact z.2
      · exact absurd (hT q hq) z.1
      · exact absurd (hT q hq) z.1
    · rcases three b with ⟨_, z2⟩ | ⟨_, _, _, z2⟩ | ⟨_, z2⟩ <;> (rw [z2] at e; cases e)
    · rcases seen with (z | ⟨o, z⟩) | z
      · exact .inl (.inl ((if_neg aT).trans z))
      · exact .inl (.inr ⟨o, (if_neg aT).trans z⟩)
      · exact .inr z
    · rw [hg]
      intro v G' H' _ i
      cases i; rfl
  refine codeAny_mono ((F _ own (dicts gl) tb).run callerA [] s H ⟨[.ref a], []⟩ [.ref a] [.ref a] _ _ rfl rm env (bd s (.ref a)) (.cons rfl .nil) sp) fun r s' h => ?_
  cases r with
  | error e => obtain ⟨_, _, _, _, _, _, _, _, _, _, _, _, z⟩ := h; exact z.elim
  | ok fl =>
    cases fl <;> first | exact False.elim h | skip
    rename_i u
    obtain ⟨v, H', os, ba, un, hok', r', q⟩ := h
    obtain rfl : v = .bl true := q
    obtain rfl : u = Value.bool true := r'
    have old : ∀ b o, b ∉ ts → s.heap.get? b = some o → s'.heap.get? b = some o := fun b o nb e => by
      rcases three b with z | ⟨_, rfl, _, z⟩ | ⟨_, z⟩
      · exact absurd z.1 nb
      · obtain ⟨e2, _⟩ := hok' b _ (un.frzs b _ _ z)
        rw [sc] at e; cases e
        exact e2
      · exact un.keep b o e z (fun y => nomatch (show b ∈ ([] : List Addr) from y)) (by simp)
    have more : ∀ b ∈ ts, ∃ m : Array Value, s'.heap.get? b = some { cls := .none, data := .fields m } := fun b hb => by
      rcases three b with ⟨_, z⟩ | ⟨z, _⟩ | ⟨z, _⟩
      · obtain ⟨m, y⟩ := un.tbls b #[] z
        exact ⟨_, hok' b _ y⟩
      · exact absurd hb z
      · exact absurd hb z
    refine ⟨rfl, ⟨fun b o e => ?_, fun b o e => ?_⟩, os, ba⟩
    · by_cases hb : b ∈ ts
      · obtain ⟨m, hm⟩ := more b hb
        rw [← hts] at hb
        obtain ⟨p, hp, rfl⟩ := List.mem_map.mp hb
        rw [t1 p hp] at e; cases e
        exact .inr (.inl ⟨((t3 p hp).tab (t1 p hp)).isCodeTable, rfl, #[], m, rfl, by rw [Array.empty_append]; exact hm⟩)
      · exact .inl (old b o hb e)
    · by_cases hb : b ∈ ts
      · obtain ⟨m, hm⟩ := more b hb
        exact ⟨_, hm⟩
      · exact ⟨o, old b o hb e⟩
end
/-- what the head must give -/
def LawD (l : PySem.W.OpenLaw) (w : World) (k n : Nat) (x : Str) (mg : Str → Option Value) (f : Addr) (h : Heap) : Prop :=
  ∃ (K : PySem.W.Frag) (fd : FuncData) (cs : List (Addr × Addr)) (T : Tb) (g : List D → M D), K.In h ∧ (∀ p ∈ cs, h.get? p.2 = some tabO) ∧ (∀ p ∈ cs, K.lookup p.2 = none) ∧ (∀ p ∈ cs, PySem.W.CodeHd h p.1 p.2) ∧ (∀ q ∈ T, q.1 ∈ cs.map (·.2)) ∧
    (∀ (s : Shared) (u : Value), BindsTo s fd ⟨[u], []⟩ [(x, u)]) ∧ (∀ ns : List Int, ns.length ≤ n → (∀ z ∈ ns, Builtin.Int.intBits z ≤ 1048576) → ∃ w', g [.scr (ns.map D.int)] [] = .ok (.bl true) w') ∧
    ∀ base : Heap, K.In base → base.Ns mainGlobals mg → (∀ p ∈ cs, LamX.TabB base mg p.1 p.2) → FnG l.prog w K mg base k f fd [x] (spD K T 1 g)
theorem walkG {l : PySem.W.OpenLaw} {n k : Nat} {q : Program} {loose : List Str} {XP : (Str → Option Value) → Heap → Prop} {YP : World → Heap → Prop} {d : DefRec} {x : Str}
    (hn : l.most = some n) (hn2 : n ≤ sizeLine) (hdf : d.params.defaults = []) (rm : Room k callerA)
    (F : ∀ (w : World) (mg : Str → Option Value) (f : Addr) (h : Heap), YP w h → h.Ns mainGlobals mg → mg d.name = some (.ref f) → LawD l w k n x mg f h) :
    PySem.W.WalkO q loose XP YP l.row.toRowW d [] (fun f vs => PySem.call f vs) := by
  refine Att.attach_callB hn hdf fun w s₀ s mg mb f o pm cd doc a us ns Gr Y ho hd hcd hmg sc ii hlen bits gn => ?_
  obtain ⟨K, fd, cs, T, g, inK, t1, t2, t3, hT, bd, res, F⟩ := F w mg f _ Y Gr.T.g hmg
  exact lawG inK Gr.T.g Gr.T.b Gr.T.builtins Gr.T.nolimit gn t1 t2 t3 Gr.T.bmain sc ii (Nat.le_trans hlen hn2) rm hT F bd (res ns hlen bits)
end Q

namespace Q
open PySem PySem.Spec PyProof.Rows L2
/-! ## defs that give a new object -/
/-- known to be new, seen from the heap at the entry -/
structure Fresh (wl : Option Addr) (G H H' : Hp) (p : Addr) (o : HO) : Prop where
  at_ : H' p = some o
  g : G p = none
  b : H p = none
  w : wl ≠ some p
  nt : NoTbl o
def PostFN (K : PySem.W.Frag) (T : Tb) (wl : Option Addr) (G H : Hp) (r : Out D) (Q : VK) (E : XK) : Prop :=
  match r with
  | .fail => False
  | .ok d w' => ∀ p o G' H', RelH T ⟨wl, G, H⟩ G' H' w' → Fresh wl G' H H' p o → IsO K wl G' o d → Q (.ref p) H'
  | .exc c p w' => ∀ cls dd G' H', RelH T ⟨wl, G, H⟩ G' H' w' → ExcIs K wl c p cls dd G' H' → E cls dd H'
def spN (K : PySem.W.Frag) (T : Tb) (n : Nat) (g : List D → M D) : Sp := fun vs H Q E => ∃ wl G w ds, EnterH T wl G H w ∧ IsL K wl G vs ds ∧ vs.length = n ∧ PostFN K T wl G H (g ds w) Q E
def PostSN (K : PySem.W.Frag) (T : Tb) (Γ : Ctx) (Wx : WX) (G : Hp) (r : Out Fl) (D : Ends) : Prop :=
  match r with
  | .exc c p w' => ∀ cls dd σ' G' H', Hx G G' → RelH T Γ G' H' w' → ExcIs K Γ.wl c p cls dd G' H' → Wx cls dd σ' H'
  | .ok (.rt d) w' => ∀ p o G' H', Hx G G' → RelH T Γ G' H' w' → Fresh Γ.wl G' Γ.B H' p o → IsO K Γ.wl G' o d → D.rt (.ref p) H'
  | _ => False
def tSN (K : PySem.W.Frag) (T : Tb) (O : List Nat) (Wx : WX) (f : Env → M Fl) : TS := fun D σ H => ∃ Γ ρ G w, Rel K T Γ O ρ σ G H w ∧ PostSN K T Γ Wx G (f ρ w) D
def DNs (X : Cx) (T : Tb) (O : List Nat) (Wx : WX) (st : List Stmt) (f : Env → M Fl) : Prop := PSs X st (tSN X.K T O Wx f)
section
variable {X : Cx} {T : Tb} {L O O1 O2 O' xs : List Nat} {Wx : WX} {a b c e val : Expr} {es : List Expr} {f fa fb : Env → M D} {fr : Env → M (List D)} {pos p1 p2 p3 : Pos} {st : Stmt} {rest : List Stmt} {k : Nat}
theorem PostSN.widen {K : PySem.W.Frag} {Γ : Ctx} {G G1 : Hp} {r : Out Fl} {D : Ends} (P : PostSN K T Γ Wx G r D) (x : Hx G G1) : PostSN K T Γ Wx G1 r D := by
  cases r with
  | fail => exact P
  | exc c p w' => exact fun cls dd σ' G' H' h => P cls dd σ' G' H' (x.trans h)
  | ok r w' =>
    cases r with
    | rt d => exact fun v o G' H' h => P v o G' H' (x.trans h)
    | _ => exact P
def seqN (f g : Env → M Fl) : Env → M Fl := fun ρ => M.bind (f ρ) fun r => match r with
  | .nx ρ' => g ρ'
  | _ => M.fail
theorem dns_cons {f g : Env → M Fl} (h1 : DS X T L O O1 Wx st f) (h2 : DNs X T O1 Wx rest g) : DNs X T O Wx (st :: rest) (seqN f g) := pss_imp (pss_cons h1 h2) fun D σ H ⟨Γ, ρ, G, w, R, P⟩ => by
  refine ⟨Γ, ρ, G, w, R, ?_⟩
  simp only [seqN, M.bind] at P
  cases e : f ρ w with
  | fail => rw [e] at P; exact P
  | exc c p w' => rw [e] at P; exact P
  | ok r w' =>
    rw [e] at P
    cases r with
    | nx ρ' => exact fun σ' G' H' x R' => ⟨Γ, ρ', G', w', R', PostSN.widen P x⟩
    | rt d => exact False.elim P
    | bk ρ' => exact False.elim P
    | ct ρ' => exact False.elim P
theorem dns_ret (h : DF X T O1 Wx a fa) (hs : SubL O1 O := by decide) : DNs X T O Wx [.Return (some a) pos] (retS fa) :=
  pss_imp (pss_one (ps_ret h)) fun D σ H ⟨Γ, ρ, G, w, R, P⟩ => by
    obtain ⟨G1, x1, R1⟩ := R.thaw hs
    refine ⟨Γ, ρ, G1, w, R1, ?_⟩
    simp only [retS, M.bind] at P
    cases q : fa ρ w with
    | fail => rw [q] at P; exact P
    | exc c p w' => rw [q] at P; exact fun cls dd G' H' st => P cls dd σ G' H' (x1.trans st.x)
    | ok d w' =>
      rw [q] at P
      exact fun p o G' H' st R' n hp io => P p o G' H' (x1.trans st.x) R'.h ⟨n.at_, n.g, n.b, n.w, n.nt⟩ io
def endN (r : Out Fl) : Out D := match r with
  | .exc c p w => .exc c p w
  | .ok (.rt d) w => .ok d w
  | _ => .fail
/-- a def on data that gives a new object -/
def fnN (n : Nat) (f : Env → M Fl) : List D → M D := fun ds w => endN (f (startE n ds) w)
theorem fnN_data {P : Program} {w : World} {K : PySem.W.Frag} {mg : Str → Option Value} {base : Heap} {f : Addr} {fd : FuncData} {fname qual : Str} {params : Arguments} {body : List Stmt} {scope : Scope} {dvs : List V} {kws : List (Str × V)} {N ps : List Str} {g : Env → M Fl} (F : FunD K fname qual params body scope dvs kws f fd) (S : FnScope N ps scope)
    (hbody : ∀ (cdv : Value) (A : Around) (outer : List PySem.Env) (s : Shared) (H : Hp) (E : XK), Ok k (bodyX P w K mg base N qual scope f cdv A outer s H E) →
      DNs (bodyX P w K mg base N qual scope f cdv A outer s H E) T [] (WxE E) body g) :
    FnG P w K mg base (k + 1) f fd ps (spN K T ps.length (fnN N.length g)) := by
  obtain ⟨oc, od, dV, kV, doc, pm, an, cdv, ct, osl, rfl, lk, hcd, _, _⟩ := F.ex
  refine fnG_of lk hcd S (fun vs H Q E ⟨wl, G, wv, ds, _, _, h, _⟩ => h) fun A outer s H vs Q E ok ⟨wl, G, wv, ds, en, l, hl, P1⟩ => ⟨_, hbody cdv A outer s H E ok, ?_⟩
  refine ⟨⟨wl, G, H⟩, startE N.length ds, G, wv, start_rel en l, ?_⟩
  have P2 : PostFN K T wl G H (endN (g (startE N.length ds) wv)) Q E := P1
  show PostSN K T ⟨wl, G, H⟩ (WxE E) G (g (startE N.length ds) wv) _
  cases e : g (startE N.length ds) wv with
  | fail => rw [e] at P2; exact P2
  | exc c p w' => rw [e] at P2; exact fun cls dd σ' G' H' _ r x => P2 cls dd G' H' r x
  | ok r w' =>
    rw [e] at P2
    cases r with
    | nx ρ' => exact False.elim P2
    | rt d => exact fun p o G' H' _ r n io => P2 p o G' H' r n io
    | bk ρ' => exact False.elim P2
    | ct ρ' => exact False.elim P2
/-- f(e, ..) of a def that gives a new object -/
theorem df_call {j : Nat} {x : Str} {p : Pos} {f : Addr} {fd : FuncData} {ps : List Str} {g : List D → M D} (F : FnG X.prog X.w X.K X.mg X.base k f fd ps (spN X.K T ps.length g)) (ok : Ok j X) (hk : k ≤ j) (tk : Takes X Wx) (hm : X.mg x = some (.ref f)) (kp : PySem.W.keepIn X.K (.ref f) = true) (hb : Binds X.K fd ps [])
    (ha : DA X T O Wx (e :: es) fr) (hg : Gl X x := by rfl) (hdb : (x == ("__debug__" : Str)) = false := by decide) (he : starEach (e :: es) X.env = (false, eval e X.env) :: starEach es X.env := by rfl) (hpl : (backTo pos (starEach es X.env)).any (·.1) = false := by rfl) :
    DF X T O Wx (.Call (.Name x p) (e :: es) [] pos) (argN ps.length g fr) := by
  refine ⟨fun pins s σ H Q I h => ?_⟩
  refine wpAny_Call_Name_kw (ld_glob I hg hm ?_ hdb)
  obtain ⟨Γ, ρ, G, w, R, Pq⟩ := h
  have q : tL X.K T O Wx fr σ H (fun vs H1 => spN X.K T ps.length g vs H1 Q (WE Wx σ)) := postN_bind R Pq fun vs ds G1 H1 w1 st R1 l P1 => by
    obtain ⟨hn, P2⟩ := ifN P1
    refine ⟨Γ.wl, G1, w1, ds, R1.h.enter, l, l.length.trans hn, ?_⟩
    cases e2 : g ds w1 with
    | fail => rw [e2] at P2; exact P2
    | ok d w' =>
      rw [e2] at P2
      intro p o G' H' r n io
      obtain ⟨R', st'⟩ := R1.after r
      refine P2 p o G' H' st' R' ⟨n.at_, n.g, R1.h.mono p n.b, n.w, n.nt, fun i d hi e3 z => ?_⟩ n.b io
      obtain ⟨l', o', q1, q2, q3, q4, q5, _⟩ := R1.own i d hi e3
      rw [z] at q1; cases q1
      rw [n.b] at q5; cases q5
    | exc c p w' =>
      rw [e2] at P2
      intro cls dd G' H' r z
      obtain ⟨R', st'⟩ := R1.after r
      exact P2 cls dd G' H' st' R'.h z
  refine PySem.W.callWith_K (h₀ := X.base) I.ok.mod.kin kp (thn (ha.run pos pins s σ H _ I q) ?_) he hpl
  rintro us s1 ⟨vs, H1, I1, rv, q1⟩
  refine ⟨I1.kIn, run_fnG F (ok.room.mono hk) ok.g tk ?_ I1 rv q1⟩
  have hl : us.length = ps.length := by rw [← rv.length]; exact F.len _ _ _ _ q1
  have := hb s1 us I1.kIn (by rw [List.append_nil]; exact hl)
  rw [List.append_nil] at this
  exact this
/-! ## f(a new list of whole numbers): the list is the well of that call -/
def wellM (g : List D → M D) (d : D) : M D := fun w => match d with
  | .lst xs => match intsD xs with
    | some ns => match g [.well] ns with
      | .ok (.bl b) _ => .ok (.bl b) w
      | _ => .fail
    | none => .fail
  | _ => .fail
theorem de_well {j : Nat} {x : Str} {p : Pos} {f : Addr} {fd : FuncData} {y : Str} {g : List D → M D} (F : FnG X.prog X.w X.K X.mg X.base k f fd [y] (spD X.K T 1 g)) (ok : Ok j X) (hk : k ≤ j) (tk : Takes X Wx) (hm : X.mg x = some (.ref f)) (kp : PySem.W.keepIn X.K (.ref f) = true) (hb : Binds X.K fd [y] [])
    (ha : DF X T O Wx e fa) (hg : Gl X x := by rfl) (hdb : (x == ("__debug__" : Str)) = false := by decide) (he : starEach [e] X.env = (false, eval e X.env) :: starEach [] X.env := by rfl) (hpl : (backTo pos (starEach ([] : List Expr) X.env)).any (·.1) = false := by rfl) :
    DE X T O Wx (.Call (.Name x p) [e] [] pos) (fun ρ => M.bind (fa ρ) (wellM g)) := by
  refine ⟨fun pins s σ H Q I h => ?_⟩
  refine wpAny_Call_Name_kw (ld_glob I hg hm ?_ hdb)
  obtain ⟨Γ, ρ, G, w, R, Pq⟩ := h
  have q : tN X.K T O Wx fa σ H (fun v H1 => spD X.K T 1 g [v] H1 Q (WE Wx σ)) := by
    refine ⟨Γ, ρ, G, w, R, ?_⟩
    simp only [M.bind] at Pq
    cases e1 : fa ρ w with
    | fail => rw [e1] at Pq; exact Pq
    | exc c p w' => rw [e1] at Pq; exact Pq
    | ok d w1 =>
      rw [e1] at Pq
      intro p o G1 H1 st R1 n hp io
      have P1 : Post X.K T Γ O Wx ρ σ G H IsV (wellM g d w1) Q := Pq
      cases io with
      | @lst vs ds il =>
        unfold wellM at P1
        cases e2 : intsD ds with
        | none => simp only [e2] at P1; exact False.elim P1
        | some ns =>
          simp only [e2] at P1
          have e3 := intsD_eq e2
          subst e3
          have e4 := il.ofInts
          subst e4
          refine ⟨some p, G1, ns, [.well], ⟨R1.h.sub, R1.h.nt, fun a z => ?_, R1.h.tabs, R1.h.tv⟩, .cons (.well rfl) .nil, rfl, ?_⟩
          · cases z
            exact ⟨n.g, n.at_⟩
          · cases e5 : g [.well] ns with
            | fail => rw [e5] at P1; exact False.elim P1
            | exc c p' w' => rw [e5] at P1; exact False.elim P1
            | ok d w' =>
              rw [e5] at P1
              intro v G' H' r i
              cases i with
              | bl b =>
                have ne : ∀ {a : Addr} {u : HO}, H a = some u → a ≠ p := fun {a u} q z => by rw [z, hp] at q; cases q
                have kp' : ∀ {a : Addr} {u : HO}, H a = some u → Γ.wl ≠ some a → NoTbl u → H' a = some u := fun {a u} q w1 nt => r.keep a u (st.kp a u q w1 nt) (fun z => ne q (Option.some.inj z).symm) nt
                have nw' : ∀ a, G' a ≠ none → G a ≠ none ∨ H a = none := fun a z => (r.nw a z).elim (fun y => st.nw a y) fun y => .inr (st.mono a y)
                have st' : Stp Γ.wl G H G' H' := ⟨st.x.trans r.g0, fun a u q w1 nt => kp' q w1 nt, nw', fun a z => st.mono a (r.mono a z)⟩
                have rh : RelH T Γ G' H' w1 := by
                  refine ⟨r.sub, r.nt, fun a z => ?_, R1.h.g0.trans r.g0, fun a u q w2 nt => ?_, fun a z => R1.h.mono a (r.mono a z), fun a z => ?_, r.tabs, r.tv⟩
                  · rcases r.nw a z with y | y
                    · exact R1.h.nw a y
                    · exact .inr (R1.h.mono a y)
                  · have h1 := R1.h.keep a u q w2 nt
                    have z : a ≠ p := fun z => by rw [z, n.b] at q; cases q
                    exact r.keep a u h1 (fun y => z (Option.some.inj y).symm) nt
                  · obtain ⟨h1, h2⟩ := R1.h.well a z
                    have y : a ≠ p := fun y => n.w (by rw [z, y])
                    refine ⟨?_, r.keep a _ h2 (fun q => y (Option.some.inj q).symm) noLst⟩
                    cases q : G' a with
                    | none => rfl
                    | some u =>
                      rcases r.nw a (by rw [q]; exact fun z => nomatch z) with v | v
                      · exact absurd h1 v
                      · have v : H1 a = none := v
                        rw [h2] at v; cases v
                exact P1 (.bl b) G' H' st' (R.slots' st' rh) (.bl b)
              | _ => exact False.elim P1
      | _ => exact False.elim P1
  refine PySem.W.callWith_K (h₀ := X.base) I.ok.mod.kin kp (thn ((pa_cons ha pa_nil he).run pos pins s σ H (fun vs H1 => spD X.K T 1 g vs H1 Q (WE Wx σ)) I q) ?_) he hpl
  rintro us s1 ⟨vs, H1, I1, rv, q1⟩
  refine ⟨I1.kIn, run_fnG F (ok.room.mono hk) ok.g tk ?_ I1 rv q1⟩
  have hl : us.length = 1 := by rw [← rv.length]; exact F.len _ _ _ _ q1
  have := hb s1 us I1.kIn (by rw [List.append_nil]; exact hl)
  rw [List.append_nil] at this
  exact this
end
end Q
namespace Q
open PySem PySem.Spec PyProof.Rows L2
/-! ## what bodies' contexts are -/
theorem Ok.u65 {k : Nat} {X : Cx} (o : Ok k X) : X.A.units + 65 < cLine := by have := o.room.un; omega
theorem Ok.blk {k : Nat} {X : Cx} {s : Shared} {H : Hp} {scope : Scope} {cenv : PySem.Env} {fp : List Addr} (o : Ok k X) : Ok k (X.blk s H scope cenv fp) := ⟨o.room, o.g⟩
section
variable {P : Program} {w : World} {K : PySem.W.Frag} {mg : Str → Option Value} {base : Heap} {N : List Str} {qual : Str} {scope : Scope} {f : Addr} {cdv : Value} {A : Around} {outer : List PySem.Env} {s : Shared} {H : Hp} {E : XK}
theorem tkB : Takes (bodyX P w K mg base N qual scope f cdv A outer s H E) (WxE E) := takes_of (X := bodyX P w K mg base N qual scope f cdv A outer s H E) rfl rfl rfl rfl
theorem psB : PassesOwn (model (bodyX P w K mg base N qual scope f cdv A outer s H E).prog (bodyX P w K mg base N qual scope f cdv A outer s H E).w) (bodyX P w K mg base N qual scope f cdv A outer s H E).A (bodyX P w K mg base N qual scope f cdv A outer s H E).env (bodyX P w K mg base N qual scope f cdv A outer s H E).xe := passes_of (X := bodyX P w K mg base N qual scope f cdv A outer s H E) rfl
end
section
variable {X : Cx} {T : Tb} {L O O1 O2 O' xs : List Nat} {Wx : WX} {pos : Pos}
theorem ds_breakL (hs : SubL L O := by decide) : DS X T L O O' Wx (.Break pos) (fun ρ => M.pure (.bk ρ)) := ps_imp ps_break fun D σ H ⟨Γ, ρ, G, w, R, P⟩ => by
  obtain ⟨G1, x1, R1⟩ := R.thaw hs
  exact P σ G1 H x1 R1
theorem ds_continueL (hs : SubL L O := by decide) : DS X T L O O' Wx (.Continue pos) (fun ρ => M.pure (.ct ρ)) := ps_imp ps_continue fun D σ H ⟨Γ, ρ, G, w, R, P⟩ => by
  obtain ⟨G1, x1, R1⟩ := R.thaw hs
  exact P σ G1 H x1 R1
end
abbrev vE (i : Nat) : Env → M D := fun ρ => getV ρ i
abbrev iE (i : Int) : Env → M D := fun _ => M.pure (.int i)
abbrev bE (i : Bool) : Env → M D := fun _ => M.pure (.bl i)
abbrev sE (i : Str) : Env → M D := fun _ => M.pure (.str i)
abbrev noE : Env → M D := fun _ => M.pure .non
abbrev ngE (f : Env → M D) : Env → M D := fun ρ => M.bind (f ρ) negD
abbrev mpE (f : Env → M D) (g : D → M D) : Env → M D := fun ρ => M.bind (f ρ) g
abbrev rvE (f : Env → M D) (fl : Env → M (Option Int)) : Env → M D := fun ρ => M.bind (f ρ) fun d => M.bind (fl ρ) fun l => revM d l
abbrev npE : Env → M (Option Int) := fun _ => M.pure none
abbrev bkS : Env → M Fl := fun ρ => M.pure (.bk ρ)
abbrev ctS : Env → M Fl := fun ρ => M.pure (.ct ρ)
abbrev rnS : Env → M Fl := fun _ => M.pure (.rt .non)
end Q

namespace Q
open PySem PySem.Spec PyProof.Rows L2
/-! ## runs -/
def Run {α : Type} (m : M α) (w : Wl) (P : α → Wl → Prop) : Prop := ∃ a w', m w = .ok a w' ∧ P a w'
theorem Run.pure {α : Type} {a : α} {w : Wl} {P : α → Wl → Prop} (h : P a w) : Run (M.pure a) w P := ⟨a, w, rfl, h⟩
theorem Run.bind {α β : Type} {m : M α} {f : α → M β} {w : Wl} {P : α → Wl → Prop} {P' : β → Wl → Prop} (h : Run m w P) (hf : ∀ a w', P a w' → Run (f a) w' P') : Run (M.bind m f) w P' := by
  obtain ⟨a, w', e, p⟩ := h
  obtain ⟨b, w2, e2, p2⟩ := hf a w' p
  exact ⟨b, w2, by simp only [M.bind, e, e2], p2⟩
theorem Run.imp {α : Type} {m : M α} {w : Wl} {P P' : α → Wl → Prop} (h : Run m w P) (hp : ∀ a w', P a w' → P' a w') : Run m w P' := by
  obtain ⟨a, w', e, p⟩ := h
  exact ⟨a, w', e, hp a w' p⟩
theorem Run.eq {α : Type} {m : M α} {w w' : Wl} {a : α} {P : α → Wl → Prop} (e : m w = .ok a w') (h : P a w') : Run m w P := ⟨a, w', e, h⟩
/-! ## evaluation, for simp -/
section
variable {α β γ : Type}
@[simp] theorem ev_pure_bind (a : α) (f : α → M β) : M.bind (M.pure a) f = f a := rfl
@[simp] theorem ev_fail_bind (f : α → M β) : M.bind (M.fail : M α) f = M.fail := rfl
@[simp] theorem ev_assoc (m : M α) (f : α → M β) (g : β → M γ) : M.bind (M.bind m f) g = M.bind m fun a => M.bind (f a) g := M.bind_assoc m f g
@[simp] theorem ev_pure (a : α) (w : Wl) : M.pure a w = .ok a w := rfl
@[simp] theorem ev_fail (w : Wl) : (M.fail : M α) w = .fail := rfl
end
section
variable {f g : Env → M Fl} {fa fb fc : Env → M D} {fr fk : Env → M (List D)} {ga gb : Env → M Bool} {ρ : Env} {w : Wl} {i : Nat} {d e : D} {ds es : List D}
@[simp] theorem ev_seqS : seqS f g ρ = M.bind (f ρ) fun r => match r with
  | .nx ρ' => g ρ'
  | r => M.pure r := rfl
@[simp] theorem ev_nilS : nilS ρ = M.pure (.nx ρ) := rfl
@[simp] theorem ev_ifS : ifS' ga f g ρ = M.bind (ga ρ) fun c => if c = true then f ρ else g ρ := rfl
@[simp] theorem ev_retS : retS fa ρ = M.bind (fa ρ) fun d => M.pure (.rt d) := rfl
@[simp] theorem ev_setS : setS i fa ρ = M.bind (fa ρ) fun d => M.pure (.nx (ρ.set i (some d))) := rfl
@[simp] theorem ev_setKS : setKS i fa ρ = M.bind (fa ρ) fun d => if d.atom = true then M.pure (.nx (ρ.set i (some d))) else M.fail := rfl
@[simp] theorem ev_dropS : dropS fa ρ = M.bind (fa ρ) fun _ => M.pure (.nx ρ) := rfl
@[simp] theorem ev_deadS : deadS ρ = M.fail := rfl
@[simp] theorem ev_asgS {h : D → Env → M Env} : asgS fa h ρ = M.bind (fa ρ) fun d => M.bind (noX (h d ρ)) fun ρ' => M.pure (.nx ρ') := rfl
@[simp] theorem ev_putWS : putWS i fa fb ρ = M.bind (fa ρ) fun v => M.bind (getW ρ i) fun _ => M.bind (fb ρ) fun k => M.bind (intM v) fun n => M.bind (intM k) fun j => M.bind (setWl j n) fun _ => M.pure (.nx ρ) := rfl
@[simp] theorem ev_putS : putS i fa fb ρ = M.bind (fa ρ) fun v => M.bind (getV ρ i) fun d => M.bind (fb ρ) fun k => M.bind (optM (setAt d k v)) fun d' => M.pure (.nx (ρ.set i (some d'))) := rfl
@[simp] theorem ev_augS {h : Int → Int → Int} : augS i h fa ρ = M.bind (getV ρ i) fun x => M.bind (intM x) fun n => M.bind (fa ρ) fun y => M.bind (intM y) fun m => M.pure (.nx (ρ.set i (some (.int (h n m))))) := rfl
@[simp] theorem ev_mutS {m : List D → List D → M (List D)} : mutS i m fr ρ = M.bind (getL ρ i) fun xs => M.bind (fr ρ) fun es => M.bind (m xs es) fun ys => M.pure (.nx (ρ.set i (some (.lst ys)))) := rfl
@[simp] theorem ev_parS2 {j : Nat} : parS2 i j fr ρ = M.bind (fr ρ) fun ds => match ds with
  | [d, e] => M.pure (.nx ((ρ.set i (some d)).set j (some e)))
  | _ => M.fail := rfl
@[simp] theorem ev_forS {fi : Env → M (List D)} {h : D → Env → M Env} : forS fi h f ρ = M.bind (fi ρ) fun items => forL h f items ρ := rfl
@[simp] theorem ev_bin2 {op : D → D → M D} : bin2 op fa fb ρ = M.bind (fa ρ) fun x => M.bind (fb ρ) fun y => op x y := rfl
@[simp] theorem ev_ixOE : ixOE i fb ρ = M.bind (getV ρ i) fun x => M.bind (fb ρ) fun y => ixX x y := rfl
@[simp] theorem ev_tst : tst fa ρ = M.bind (fa ρ) asB := rfl
@[simp] theorem ev_truT : truT fa ρ = M.bind (fa ρ) truD := rfl
@[simp] theorem ev_andT : andT ga gb ρ = M.bind (ga ρ) fun c => if c = true then gb ρ else M.pure false := rfl
@[simp] theorem ev_orT : orT ga gb ρ = M.bind (ga ρ) fun c => if c = true then M.pure true else gb ρ := rfl
@[simp] theorem ev_notT : notT ga ρ = M.bind (ga ρ) fun c => M.pure (!c) := rfl
@[simp] theorem ev_andE : andE fa fb ρ = M.bind (fa ρ) fun x => M.bind (asB x) fun c => if c = true then fb ρ else M.pure (.bl false) := rfl
@[simp] theorem ev_orE : orE fa fb ρ = M.bind (fa ρ) fun x => M.bind (asB x) fun c => if c = true then M.pure (.bl true) else fb ρ := rfl
@[simp] theorem ev_notE : notE fa ρ = M.bind (fa ρ) fun x => M.bind (asB x) fun c => M.pure (.bl (!c)) := rfl
@[simp] theorem ev_ifE : ifE ga fa fb ρ = M.bind (ga ρ) fun c => if c = true then fa ρ else fb ρ := rfl
@[simp] theorem ev_argE {α : Type} {h : List D → M α} : argE h fr ρ = M.bind (fr ρ) h := rfl
@[simp] theorem ev_argN {n : Nat} {h : List D → M D} : argN n h fr ρ = M.bind (fr ρ) fun ds => if ds.length = n then h ds else M.fail := rfl
@[simp] theorem ev_argK {n m : Nat} {ix : List Nat} {h : List D → M D} : argK n m ix h fr fk ρ = M.bind (fr ρ) fun ds => M.bind (fk ρ) fun es => if ds.length = n ∧ es.length = m ∧ (permL ix (ds ++ es)).length = ix.length then h (permL ix (ds ++ es)) else M.fail := rfl
@[simp] theorem ev_nilA : nilA ρ = M.pure [] := rfl
@[simp] theorem ev_consA : consA fa fr ρ = M.bind (fa ρ) fun x => M.bind (fr ρ) fun xs => M.pure (x :: xs) := rfl
@[simp] theorem ev_tupE : tupE fr ρ = M.bind (fr ρ) mkTup := rfl
@[simp] theorem ev_lstE : lstE fr ρ = M.bind (fr ρ) mkLst := rfl
@[simp] theorem ev_slE {fl fh : Env → M (Option Int)} : slE fa fl fh ρ = M.bind (fa ρ) fun d => M.bind (fl ρ) fun lo => M.bind (fh ρ) fun hi => cutD d lo hi := rfl
@[simp] theorem ev_partE : partE fa ρ = M.bind (fa ρ) fun d => M.bind (intM d) fun i => M.pure (some i) := rfl
@[simp] theorem ev_itE : itE fa ρ = M.bind (fa ρ) itemsD := rfl
@[simp] theorem ev_getV0 {x : D} {ρ : Env} : getV (some x :: ρ) 0 = M.pure x := rfl
@[simp] theorem ev_getV1 {x : Option D} {ρ : Env} : getV (x :: ρ) (i + 1) = getV ρ i := rfl
@[simp] theorem ev_getW0 {ρ : Env} : getW (some .well :: ρ) 0 = M.pure () := rfl
@[simp] theorem ev_getL0 {x : List D} {ρ : Env} : getL (some (.lst x) :: ρ) 0 = M.pure x := rfl
@[simp] theorem ev_getL1 {x : Option D} {ρ : Env} : getL (x :: ρ) (i + 1) = getL ρ i := rfl
@[simp] theorem ev_asB {b : Bool} : asB (.bl b) = M.pure b := rfl
@[simp] theorem ev_intM {b : Int} : intM (.int b) = M.pure b := rfl
@[simp] theorem ev_optM {α : Type} {b : α} : optM (some b) = M.pure b := rfl
@[simp] theorem ev_truB {b : Bool} : truD (.bl b) = M.pure b := rfl
@[simp] theorem ev_noX_bind {α β : Type} {m : M α} {h : α → M β} {w : Wl} : noX (M.bind m h) w = M.bind (noX m) (fun a => noX (h a)) w := by
  simp only [noX, M.bind]
  cases m w <;> rfl
@[simp] theorem ev_noX_bind' {α β : Type} {m : M α} {h : α → M β} : noX (M.bind m h) = M.bind (noX m) (fun a => noX (h a)) := by
  funext w; exact ev_noX_bind
@[simp] theorem ev_noX_pure {α : Type} {a : α} : noX (M.pure a) = M.pure a := rfl
@[simp] theorem ev_noX_fail {α : Type} : noX (M.fail : M α) = M.fail := rfl
@[simp] theorem ev_gNm : gNm i d ρ = M.pure (ρ.set i (some d)) := rfl
@[simp] theorem ev_gPutW : gPutW i fb d ρ = M.bind (getW ρ i) fun _ => M.bind (noX (fb ρ)) fun k => M.bind (intM d) fun n => M.bind (intM k) fun j => M.bind (setWl j n) fun _ => M.pure ρ := rfl
@[simp] theorem ev_gNil : gNil [] ρ = M.pure ρ := rfl
@[simp] theorem ev_gCons {h : D → Env → M Env} {hs : List D → Env → M Env} : gCons h hs (d :: ds) ρ = M.bind (h d ρ) (hs ds) := rfl
@[simp] theorem ev_gTup {n : Nat} {hs : List D → Env → M Env} : gTup n hs (.tup ds) ρ = if ds.length = n then hs ds ρ else M.fail := rfl
@[simp] theorem ev_forNil {h : D → Env → M Env} : forL h f [] ρ = M.pure (.nx ρ) := rfl
@[simp] theorem ev_forCons {h : D → Env → M Env} : forL h f (d :: ds) ρ = M.bind (noX (h d ρ)) fun ρ1 => M.bind (f ρ1) fun r => match r with
    | .nx ρ2 => forL h f ds ρ2
    | .ct ρ2 => forL h f ds ρ2
    | .bk ρ2 => M.pure (.nx ρ2)
    | .rt d => M.pure (.rt d) := rfl
@[simp] theorem ev_addI {a b : Int} : addD (.int a) (.int b) = M.pure (.int (a + b)) := rfl
@[simp] theorem ev_subI {a b : Int} : subD (.int a) (.int b) = M.pure (.int (a - b)) := rfl
@[simp] theorem ev_negI {a : Int} : negD (.int a) = M.pure (.int (-a)) := rfl
theorem ev_mulI {a b : Int} (h : CMul a b) : mulD (.int a) (.int b) = M.pure (.int (a * b)) := if_pos h
@[simp] theorem ev_mulR {a b : Int} (h1 : -18446744073709551616 < b) (h2 : b < 18446744073709551616) : mulD (.int a) (.int b) = M.pure (.int (a * b)) := ev_mulI (.inr ⟨h1, h2⟩)
@[simp] theorem ev_mulL {a b : Int} (h1 : -18446744073709551616 < a) (h2 : a < 18446744073709551616) : mulD (.int a) (.int b) = M.pure (.int (a * b)) := ev_mulI (.inl ⟨h1, h2⟩)
@[simp] theorem ev_modI {a b : Int} (h : 0 < b) : modD (.int a) (.int b) = M.pure (.int (a % b)) := if_pos h
@[simp] theorem ev_divI {a b : Int} (h : 0 < b) (h2 : b < 1073741824) : divD (.int a) (.int b) = M.pure (.int (a / b)) := if_pos ⟨h, h2⟩
@[simp] theorem ev_ltI {a b : Int} : ltD (.int a) (.int b) = M.pure (.bl (decide (a < b))) := rfl
@[simp] theorem ev_leI {a b : Int} : leD (.int a) (.int b) = M.pure (.bl (decide (a ≤ b))) := rfl
@[simp] theorem ev_gtI {a b : Int} : gtD (.int a) (.int b) = M.pure (.bl (decide (b < a))) := rfl
@[simp] theorem ev_geI {a b : Int} : geD (.int a) (.int b) = M.pure (.bl (decide (b ≤ a))) := rfl
@[simp] theorem ev_intD {a : Int} : intD [.int a] = M.pure (.int a) := rfl
@[simp] theorem ev_absD {a : Int} : absD [.int a] = M.pure (.int (if a < 0 then -a else a)) := rfl
@[simp] theorem ev_lenL {xs : List D} : lenD [.lst xs] = M.pure (.int (xs.length : Nat)) := rfl
@[simp] theorem ev_lenT {xs : List D} : lenD [.tup xs] = M.pure (.int (xs.length : Nat)) := rfl
@[simp] theorem ev_lenS {xs : List D} : lenD [.scr xs] = M.pure (.int (xs.length : Nat)) := rfl
@[simp] theorem ev_divmod {a b : Int} (h : 0 < b) (h2 : b < 1073741824) : divmodD [.int a, .int b] = M.pure (.tup [.int (a / b), .int (a % b)]) := if_pos ⟨h, h2⟩
@[simp] theorem ev_maxI {a b : Int} : maxD [.int a, .int b] = M.pure (.int (if b > a then b else a)) := rfl
@[simp] theorem ev_minI {a b : Int} : minD [.int a, .int b] = M.pure (.int (if b < a then b else a)) := rfl
@[simp] theorem ev_atomI {a : Int} : (D.int a).atom = true := rfl
@[simp] theorem ev_atomB {a : Bool} : (D.bl a).atom = true := rfl
@[simp] theorem ev_atomS {a : Str} : (D.str a).atom = true := rfl
@[simp] theorem ev_atomN : D.non.atom = true := rfl
@[simp] theorem ev_well0 {α : Type} {h : D → M α} {a b c : Int} : M.bind (ixX .well (.int 0)) h [a, b, c] = h (.int a) [a, b, c] := rfl
@[simp] theorem ev_well1 {α : Type} {h : D → M α} {a b c : Int} : M.bind (ixX .well (.int 1)) h [a, b, c] = h (.int b) [a, b, c] := rfl
@[simp] theorem ev_well2 {α : Type} {h : D → M α} {a b c : Int} : M.bind (ixX .well (.int 2)) h [a, b, c] = h (.int c) [a, b, c] := rfl
@[simp] theorem ev_set0 {α : Type} {h : Unit → M α} {a b c v : Int} : M.bind (setWl 0 v) h [a, b, c] = h () [v, b, c] := rfl
@[simp] theorem ev_set1 {α : Type} {h : Unit → M α} {a b c v : Int} : M.bind (setWl 1 v) h [a, b, c] = h () [a, v, c] := rfl
@[simp] theorem ev_set2 {α : Type} {h : Unit → M α} {a b c v : Int} : M.bind (setWl 2 v) h [a, b, c] = h () [a, b, v] := rfl
@[simp] theorem ev_set0' {a b c v : Int} : setWl 0 v [a, b, c] = .ok () [v, b, c] := rfl
end
@[simp] theorem ev_start {n : Nat} {ds : List D} : startE n ds = ds.map some ++ List.replicate (n - ds.length) none := rfl
@[simp] theorem ev_noX_set {k v : Int} : noX (setWl k v) = setWl k v := by
  funext w
  unfold noX setWl
  cases ixN w.length k <;> rfl
theorem fnM_run {n : Nat} {f : Env → M Fl} {ds : List D} {w : Wl} {P : D → Wl → Prop} (h : Run (f (startE n ds)) w fun r w' => match r with
  | .rt d => P d w'
  | .nx _ => P .non w'
  | _ => False) : Run (fnM n f ds) w P := by
  obtain ⟨r, w', e, p⟩ := h
  cases r with
  | nx ρ => exact ⟨.non, w', by simp only [fnM, e, endF], p⟩
  | rt d => exact ⟨d, w', by simp only [fnM, e, endF], p⟩
  | bk _ => exact p.elim
  | ct _ => exact p.elim
/-! ## the law's urn -/
def takeF : List D → M D := fnM 4 (seqS (ifS' (tst (bin2 gtD (bin2 ixX (vE 0) (iE 0)) (iE 0))) (seqS (asgS (argE divmodD (consA (bin2 ixX (vE 0) (iE 0)) (consA (vE 1) nilA))) (gTup 2 (gCons (gPutW 0 (iE 0)) (gCons (gNm 3) gNil))))
  (retS (vE 3))) nilS)
  (seqS (putWS 0 (bin2 addD (bin2 ixX (vE 0) (iE 2)) (iE 1)) (iE 2))
  (seqS (setKS 2 (bin2 modD (argE intD (consA (bin2 addD (bin2 mulD (bin2 ixX (vE 0) (iE 1)) (iE 40009)) (bin2 mulD (iE 15013) (bin2 ixX (vE 0) (iE 2)))) nilA)) (iE 2147483629)))
  (seqS (putWS 0 (bin2 modD (argE intD (consA (bin2 addD (bin2 mulD (vE 2) (bin2 addD (bin2 modD (argE intD (consA (vE 2) nilA)) (iE 5003)) (iE 30011))) (bin2 mulD (iE 3) (bin2 ixX (vE 0) (iE 2)))) nilA)) (iE 2147483629)) (iE 1))
  (retS (bin2 modD (argE intD (consA (bin2 divD (bin2 ixX (vE 0) (iE 1)) (iE 907)) nilA)) (vE 1)))))))
def Good (w : Wl) : Prop := ∃ a b c, w = [a, b, c]
theorem takeF_ok {w : Wl} {n : Int} (hw : Good w) (h0 : 0 < n) (h1 : n < 1073741824) : Run (takeF [.well, .int n]) w fun d w' => ∃ r : Int, d = .int r ∧ 0 ≤ r ∧ r < n ∧ Good w' := by
  obtain ⟨a, b, c, rfl⟩ := hw
  by_cases ha : 0 < a
  · refine fnM_run ⟨.rt (.int (a % n)), [a / n, b, c], ?_, _, rfl, Int.emod_nonneg _ (by omega), Int.emod_lt_of_pos _ h0, _, _, _, rfl⟩
    simp [h0, h1, ha]
  · have q1 : ∀ x : Int, -18446744073709551616 < x % 2147483629 := fun x => by have := Int.emod_nonneg x (b := 2147483629) (by decide); omega
    have q2 : ∀ x : Int, x % 2147483629 < 18446744073709551616 := fun x => by have := Int.emod_lt_of_pos x (b := 2147483629) (by decide); omega
    have e : ∃ (m : Int) (b' : Int), (seqS (ifS' (tst (bin2 gtD (bin2 ixX (vE 0) (iE 0)) (iE 0))) (seqS (asgS (argE divmodD (consA (bin2 ixX (vE 0) (iE 0)) (consA (vE 1) nilA))) (gTup 2 (gCons (gPutW 0 (iE 0)) (gCons (gNm 3) gNil)))) (retS (vE 3))) nilS)
      (seqS (putWS 0 (bin2 addD (bin2 ixX (vE 0) (iE 2)) (iE 1)) (iE 2))
      (seqS (setKS 2 (bin2 modD (argE intD (consA (bin2 addD (bin2 mulD (bin2 ixX (vE 0) (iE 1)) (iE 40009)) (bin2 mulD (iE 15013) (bin2 ixX (vE 0) (iE 2)))) nilA)) (iE 2147483629)))
      (seqS (putWS 0 (bin2 modD (argE intD (consA (bin2 addD (bin2 mulD (vE 2) (bin2 addD (bin2 modD (argE intD (consA (vE 2) nilA)) (iE 5003)) (iE 30011))) (bin2 mulD (iE 3) (bin2 ixX (vE 0) (iE 2)))) nilA)) (iE 2147483629)) (iE 1))
      (retS (bin2 modD (argE intD (consA (bin2 divD (bin2 ixX (vE 0) (iE 1)) (iE 907)) nilA)) (vE 1))))))) (startE 4 [.well, .int n]) [a, b, c] = .ok (.rt (.int (m % n))) [a, b', c + 1] := by
      simp [h0, h1, ha, q1, q2]
      exact ⟨_, rfl⟩
    obtain ⟨m, b', e⟩ := e
    exact fnM_run ⟨_, _, e, _, rfl, Int.emod_nonneg _ (by omega), Int.emod_lt_of_pos _ h0, _, _, _, rfl⟩
def ofF : List D → M D := fnM 2 (retS (bin2 ixX (vE 1) (argN 2 takeF (consA (vE 0) (consA (argE lenD (consA (vE 1) nilA)) nilA)))))
theorem atI_nat {α : Type} {xs : List α} {r : Int} (h0 : 0 ≤ r) (h1 : r < xs.length) : L2.atI xs r = some (xs[r.toNat]'(by omega)) := by
  unfold L2.atI ixN
  have e : ¬ r < 0 := by omega
  have e2 : r.toNat < xs.length := by omega
  simp [e, e2, h0, h1]
theorem ofF_ok {w : Wl} {xs : List D} (hw : Good w) (h0 : xs ≠ []) (h1 : xs.length < 1073741824) : Run (ofF [.well, .lst xs]) w fun d w' => d ∈ xs ∧ Good w' := by
  refine fnM_run ?_
  have hl : 0 < xs.length := List.length_pos_iff.mpr h0
  obtain ⟨d, w', e, r, rfl, r0, r1, g⟩ := takeF_ok hw (n := (xs.length : Nat)) (by omega) (by omega)
  simp
  refine Run.bind (P := fun a w2 => a = D.int r ∧ w2 = w') ⟨_, _, e, rfl, rfl⟩ fun a w2 ⟨e1, e2⟩ => ?_
  subst e1 e2
  have q : ixX (.lst xs) (.int r) = M.pure (xs[r.toNat]'(by omega)) := by
    show (match L2.atI xs r with | some d => M.pure d | none => M.fail) = _
    rw [atI_nat r0 r1]
  rw [q]
  exact ⟨_, w2, rfl, List.getElem_mem _, g⟩
@[simp] theorem ev_pow1015 : powD (.int 10) (.int 15) = M.pure (.int 1000000000000000) := by rfl
theorem cutL_map {α β : Type} (f : α → β) (xs : List α) (lo hi : Option Int) : cutL (xs.map f) lo hi = (cutL xs lo hi).map f := by
  unfold cutL
  rw [List.length_map, List.map_take, List.map_drop]
abbrev urnB : Env → M Fl := setKS 2 (bin2 modD (argE intD (consA (bin2 addD (bin2 addD (bin2 mulD (vE 2) (iE 50021)) (bin2 mulD (bin2 modD (argE intD (consA (vE 3) nilA)) (iE 2147483477)) (iE 13))) (iE 41)) nilA)) (iE 2147483629))
def urnF (k : Int) : List D → M D := fnN 5 (seqN (setKS 2 (bin2 addD (iE k) (bin2 mulD (iE 8111) (vE 1))))
  (seqN (forS (itE (slE (vE 0) npE (partE (iE 9)))) (gNm 3) urnB)
  (seqN (setS 4 (ifE (tst (bin2 ltD (vE 1) (argE lenD (consA (vE 0) nilA)))) (argE intD (consA (bin2 ixX (vE 0) (vE 1)) nilA)) (iE 0)))
  (seqN (setKS 2 (bin2 modD (argE intD (consA (bin2 addD (bin2 addD (bin2 mulD (vE 2) (iE 59)) (bin2 mulD (bin2 modD (argE intD (consA (vE 4) nilA)) (iE 2147483477)) (iE 30029))) (iE 5)) nilA)) (iE 2147483629)))
  (retS (lstE (consA (ifE (orT (tst (bin2 ltD (vE 4) (iE 0))) (tst (bin2 geD (vE 4) (bin2 powD (iE 10) (iE 15))))) (argE absD (consA (vE 4) nilA)) (iE 0)) (consA (vE 2) (consA (iE 0) nilA)))))))))
@[simp] theorem ev_seqN {f g : Env → M Fl} {ρ : Env} : seqN f g ρ = M.bind (f ρ) fun r => match r with
  | .nx ρ' => g ρ'
  | _ => M.fail := rfl
theorem urn_loop (s : D) (l : Int) (w : Wl) : ∀ (ns : List Int) (m : Int) (x : Option D), ∃ (m' : Int) (x' : Option D), forL (gNm 3) urnB (ns.map D.int) [some s, some (.int l), some (.int m), x, none] w = .ok (.nx [some s, some (.int l), some (.int m'), x', none]) w
  | [], m, x => ⟨m, x, rfl⟩
  | n :: ns, m, x => by
    obtain ⟨m', x', e⟩ := urn_loop s l w ns ((m * 50021 + n % 2147483477 * 13 + 41) % 2147483629) (some (.int n))
    refine ⟨m', x', ?_⟩
    rw [← e]
    simp
theorem urnF_ok (k : Int) (ns : List Int) (lap : Int) (h0 : 0 ≤ lap) (w : Wl) : ∃ a b c : Int, urnF k [.scr (ns.map D.int), .int lap] w = .ok (.lst [.int a, .int b, .int c]) w := by
  obtain ⟨m, x, e⟩ := urn_loop (.scr (ns.map D.int)) lap w (cutL ns none (some 9)) (k + 8111 * lap) none
  have own : ∃ o : Int, ifE (tst (bin2 ltD (vE 1) (argE lenD (consA (vE 0) nilA)))) (argE intD (consA (bin2 ixX (vE 0) (vE 1)) nilA)) (iE 0) [some (.scr (ns.map D.int)), some (.int lap), some (.int m), x, none] = M.pure (.int o) := by
    by_cases h : lap < ns.length
    · refine ⟨ns[lap.toNat]'(by omega), ?_⟩
      have q : ixX (.scr (ns.map D.int)) (.int lap) = M.pure (.int (ns[lap.toNat]'(by omega))) := by
        show (match L2.atI (ns.map D.int) lap with | some d => M.pure d | none => M.fail) = _
        rw [atI_map, atI_nat h0 h]; rfl
      simp [h, q]
    · exact ⟨0, by simp [h]⟩
  obtain ⟨o, eo⟩ := own
  have e1 : cutD (.scr (ns.map D.int)) none (some 9) = M.pure (.lst ((cutL ns none (some 9)).map D.int)) := by rw [← cutL_map]; rfl
  have go : ∃ a b c : Int, (seqN (setKS 2 (bin2 addD (iE k) (bin2 mulD (iE 8111) (vE 1))))
    (seqN (forS (itE (slE (vE 0) npE (partE (iE 9)))) (gNm 3) urnB)
    (seqN (setS 4 (ifE (tst (bin2 ltD (vE 1) (argE lenD (consA (vE 0) nilA)))) (argE intD (consA (bin2 ixX (vE 0) (vE 1)) nilA)) (iE 0)))
    (seqN (setKS 2 (bin2 modD (argE intD (consA (bin2 addD (bin2 addD (bin2 mulD (vE 2) (iE 59)) (bin2 mulD (bin2 modD (argE intD (consA (vE 4) nilA)) (iE 2147483477)) (iE 30029))) (iE 5)) nilA)) (iE 2147483629)))
    (retS (lstE (consA (ifE (orT (tst (bin2 ltD (vE 4) (iE 0))) (tst (bin2 geD (vE 4) (bin2 powD (iE 10) (iE 15))))) (argE absD (consA (vE 4) nilA)) (iE 0)) (consA (vE 2) (consA (iE 0) nilA)))))))))
      [some (.scr (ns.map D.int)), some (.int lap), none, none, none] w = .ok (.rt (.lst [.int a, .int b, .int c])) w := by
    have st : ∀ {α : Type} (h : Fl → M α), M.bind (forL (gNm 3) urnB ((cutL ns none (some 9)).map D.int) [some (.scr (ns.map D.int)), some (.int lap), some (.int (k + 8111 * lap)), none, none]) h w = h (.nx [some (.scr (ns.map D.int)), some (.int lap), some (.int m), x, none]) w := fun h => by
      simp only [M.bind, e]
    have ab : ∃ z : Int, ifE (orT (tst (bin2 ltD (vE 4) (iE 0))) (tst (bin2 geD (vE 4) (bin2 powD (iE 10) (iE 15))))) (argE absD (consA (vE 4) nilA)) (iE 0) [some (.scr (ns.map D.int)), some (.int lap), some (.int ((m * 59 + o % 2147483477 * 30029 + 5) % 2147483629)), x, some (.int o)] = M.pure (.int z) := by
      by_cases h1 : o < 0
      · exact ⟨_, by simp [h1]; rfl⟩
      · by_cases h2 : 1000000000000000 ≤ o
        · exact ⟨_, by simp [h1, h2]; rfl⟩
        · exact ⟨_, by simp [h1, h2]; rfl⟩
    obtain ⟨z, ez⟩ := ab
    refine ⟨z, (m * 59 + o % 2147483477 * 30029 + 5) % 2147483629, 0, ?_⟩
    simp [-ev_ifE, e1, st, eo, ez, mkLst, itemsD, sizeLine_eq]
  obtain ⟨a, b, c, e⟩ := go
  exact ⟨a, b, c, by show endN _ = _; rw [show startE 5 [D.scr (ns.map D.int), D.int lap] = [some (.scr (ns.map D.int)), some (.int lap), none, none, none] from rfl, e]; rfl⟩
/-! ## the law over its laps -/
def lawF (gu gr : List D → M D) (m : Int) : List D → M D := fnM 2 (retS (argE allD (consA (lcE [1] (argE rng1D (consA (argE maxD (consA (iE 1) (consA (argE minD (consA (argE lenD (consA (vE 0) nilA)) (consA (iE m) nilA))) nilA))) nilA)) (gNm 1) yesT (mpE (argN 2 gu (consA (vE 0) (consA (vE 1) nilA))) (wellM gr))) nilA)))
theorem rng1_if (j : Int) : rng1D [.int j] = if -(2 ^ 62) ≤ j ∧ j < 2 ^ 62 then M.pure (rngL 0 j) else M.fail := rfl
theorem rng1_nat (n : Nat) (h : n < 1000000) : rng1D [.int (n : Nat)] = M.pure ((List.range n).map fun i => D.int (0 + (i : Nat))) := by
  have q : -(2 ^ 62) ≤ ((n : Nat) : Int) ∧ ((n : Nat) : Int) < 2 ^ 62 := by
    have h62 : (2 : Int) ^ 62 = 4611686018427387904 := by decide
    rw [h62]
    constructor <;> omega
  rw [rng1_if, if_pos q]
  unfold rngL
  rw [show (((n : Nat) : Int) - 0).toNat = n by omega]
theorem lap_count {m l : Int} (hl : 0 ≤ l ∧ l ≤ 63) (hm : 0 ≤ m ∧ m < 1000) : ∃ n : Nat, (if (if m < l then m else l) > 1 then (if m < l then m else l) else 1) = (n : Int) ∧ n < 1000 := by
  by_cases h1 : m < l
  · by_cases h2 : m > 1
    · exact ⟨m.toNat, by rw [if_pos h1, if_pos h2]; omega, by omega⟩
    · exact ⟨1, by rw [if_pos h1, if_neg h2]; rfl, by omega⟩
  · by_cases h2 : l > 1
    · exact ⟨l.toNat, by rw [if_neg h1, if_pos h2]; omega, by omega⟩
    · exact ⟨1, by rw [if_neg h1, if_neg h2]; rfl, by omega⟩
theorem lawF_ok {gu gr : List D → M D} {m : Int} (hm : 0 ≤ m ∧ m < 1000) (ns : List Int) (hl : ns.length ≤ 63) (hu : ∀ lap : Int, 0 ≤ lap → ∃ a b c : Int, gu [.scr (ns.map D.int), .int lap] [] = .ok (.lst [.int a, .int b, .int c]) [])
    (hr : ∀ w, Good w → ∃ w', gr [.well] w = .ok (.bl true) w') : ∃ w', lawF gu gr m [.scr (ns.map D.int)] [] = .ok (.bl true) w' := by
  have turn : ∀ (x : Option D) (items : List Nat), lcL (gNm 1) yesT (mpE (argN 2 gu (consA (vE 0) (consA (vE 1) nilA))) (wellM gr)) [some (D.scr (ns.map D.int)), x] (items.map fun i => D.int (0 + (i : Nat))) [] = .ok (items.map fun _ => D.bl true) [] := fun x items => by
    induction items with
    | nil => rfl
    | cons i items ih =>
      obtain ⟨a, b, c, e⟩ := hu (0 + (i : Nat)) (by omega)
      obtain ⟨w', e2⟩ := hr [a, b, c] ⟨a, b, c, rfl⟩
      have one : (mpE (argN 2 gu (consA (vE 0) (consA (vE 1) nilA))) (wellM gr)) [some (D.scr (ns.map D.int)), some (D.int (0 + (i : Nat)))] [] = .ok (.bl true) [] := by
        have e3 : (argN 2 gu (consA (vE 0) (consA (vE 1) nilA))) [some (D.scr (ns.map D.int)), some (D.int (0 + (i : Nat)))] = gu [.scr (ns.map D.int), .int (0 + (i : Nat))] := by simp
        show M.bind _ _ [] = _
        rw [e3]
        simp only [M.bind, e, wellM, intsD, Option.map_some, e2]
      rw [List.map_cons, List.map_cons]
      show M.bind (noX (M.pure [some (D.scr (ns.map D.int)), some (D.int (0 + (i : Nat)))])) _ [] = _
      rw [ev_noX_pure, ev_pure_bind]
      show M.bind (noX (M.pure true)) _ [] = _
      rw [ev_noX_pure, ev_pure_bind, if_pos rfl]
      simp only [M.bind, noX, one, ih, M.pure]
  have cnt : ∃ n : Nat, (if (if m < (ns.length : Int) then m else (ns.length : Int)) > 1 then (if m < (ns.length : Int) then m else (ns.length : Int)) else 1) = (n : Int) ∧ n < 1000 := by
    have h0 : 0 ≤ (ns.length : Int) ∧ (ns.length : Int) ≤ 63 := by omega
    exact lap_count h0 hm
  obtain ⟨n, en, hn⟩ := cnt
  have er : rng1D [.int (n : Nat)] = M.pure ((List.range n).map fun i => D.int (0 + (i : Nat))) := rng1_nat n (by omega)
  have ea : allD [.lst ((List.range n).map fun _ => D.bl true)] = M.pure (.bl true) := by
    have : (List.range n).map (fun _ => D.bl true) = ((List.range n).map fun _ => true).map D.bl := by rw [List.map_map]; rfl
    rw [this]
    show (match blsD (List.map D.bl (List.map (fun _ => true) (List.range n))) with
      | some ns => M.pure (D.bl (ns.all id))
      | none => M.fail) = _
    rw [blsD_map]
    have : (List.map (fun _ => true) (List.range n)).all id = true := by simp
    show M.pure (D.bl ((List.map (fun _ => true) (List.range n)).all id)) = _
    rw [this]
  refine ⟨[], ?_⟩
  have hz : n ≤ sizeLine := by rw [sizeLine_eq]; omega
  have el : lcE [1] (argE rng1D (consA (argE maxD (consA (iE 1) (consA (argE minD (consA (argE lenD (consA (vE 0) nilA)) (consA (iE m) nilA))) nilA))) nilA)) (gNm 1) yesT (mpE (argN 2 gu (consA (vE 0) (consA (vE 1) nilA))) (wellM gr)) [some (D.scr (ns.map D.int)), none] [] = .ok (.lst ((List.range n).map fun _ => D.bl true)) [] := by
    have e0 : (argE rng1D (consA (argE maxD (consA (iE 1) (consA (argE minD (consA (argE lenD (consA (vE 0) nilA)) (consA (iE m) nilA))) nilA))) nilA)) [some (D.scr (ns.map D.int)), none] = M.pure ((List.range n).map fun i => D.int (0 + (i : Nat))) := by
      rw [← er, ← en]
      simp
    show M.bind _ _ [] = _
    rw [e0, ev_pure_bind, if_pos (by rw [List.length_map, List.length_range]; exact hz)]
    have := turn none (List.range n)
    show M.bind (lcL _ _ _ [some (D.scr (ns.map D.int)), none] _) _ [] = _
    simp only [M.bind, this, M.pure]
  show endF (retS _ [some (D.scr (ns.map D.int)), none] []) = _
  have e9 : argE allD (consA (lcE [1] (argE rng1D (consA (argE maxD (consA (iE 1) (consA (argE minD (consA (argE lenD (consA (vE 0) nilA)) (consA (iE m) nilA))) nilA))) nilA)) (gNm 1) yesT (mpE (argN 2 gu (consA (vE 0) (consA (vE 1) nilA))) (wellM gr))) nilA) [some (D.scr (ns.map D.int)), none] [] = .ok (.bl true) [] := by
    show M.bind (M.bind _ _) _ [] = _
    simp only [M.bind, el, ev_nilA, ev_pure, ea]
  show endF (M.bind _ _ []) = _
  simp only [M.bind, e9, M.pure, endF]
end Q

namespace Q
open PySem PySem.Spec PyProof.Rows L2
/-! ## told and due, by their texts -/
@[simp] theorem ev_repr {d : D} (h : repOk d = true) : reprD [d] = M.pure (.str d.py.shown) := if_pos h
@[simp] theorem ev_neS {s : Str} : neD (.str s) (.str s) = M.pure (.bl false) := by
  show M.pure (D.bl (!decide (s = s))) = _
  rw [decide_eq_true rfl]; rfl
@[simp] theorem ev_eqS {s : Str} : eqD (.str s) (.str s) = M.pure (.bl true) := by
  show M.pure (D.bl (decide (s = s))) = _
  rw [decide_eq_true rfl]
theorem ev_rep2 {x : D} : mulD (.lst [x]) (.int 2) = M.pure (.lst [x, x]) := by
  show (if -(2 ^ 63) ≤ (2 : Int) ∧ (2 : Int) < 2 ^ 63 ∧ [x].length * (2 : Int).toNat ≤ sizeLine then M.pure (D.lst (List.replicate (2 : Int).toNat [x]).flatten) else M.fail) = _
  rw [if_pos ⟨by decide, by decide, by rw [sizeLine_eq]; show 1 * 2 ≤ 16777216; decide⟩]
  rfl
theorem ev_mkLst {xs : List D} (h : xs.length ≤ 1000) : mkLst xs = M.pure (.lst xs) := if_pos (by rw [sizeLine_eq]; omega)
theorem ev_mkTup {xs : List D} (h : xs.length ≤ 1000) : mkTup xs = M.pure (.tup xs) := if_pos (by rw [sizeLine_eq]; omega)
theorem ev_ixL {xs : List D} {r : Int} (h0 : 0 ≤ r) (h1 : r < xs.length) : ixX (.lst xs) (.int r) = M.pure (xs[r.toNat]'(by omega)) := by
  show (match L2.atI xs r with | some d => M.pure d | none => M.fail) = _
  rw [atI_nat h0 h1]
theorem ev_ixT {xs : List D} {r : Int} (h0 : 0 ≤ r) (h1 : r < xs.length) : ixX (.tup xs) (.int r) = M.pure (xs[r.toNat]'(by omega)) := by
  show (match L2.atI xs r with | some d => M.pure d | none => M.fail) = _
  rw [atI_nat h0 h1]
end Q

namespace K65
open PySem PySem.Spec PyProof.Rows L2 Q
abbrev L := PySem.Challenge.rw_runwayrows_k65_whole_orders_that_move_fe
def top (i : Nat) : Stmt := L.prog.main.body.getD i (.Pass ⟨0, 0, 0, 0⟩)
def d_is_whole : List D → M D := fnM 1 (retS (andE (isiE .int (vE 0)) (notE (isiE .bl (vE 0)))))
def d_is_number : List D → M D := fnM 3 (seqS (ifS' (orT (notT (truT (argN 1 d_is_whole (consA (vE 0) nilA)))) (andT (tst (bin2 notND (vE 1) noE)) (tst (bin2 ltD (vE 0) (vE 1))))) (retS (bE false)) nilS)
  (retS (orE (bin2 isND (vE 2) noE) (bin2 leD (vE 0) (vE 2)))))
def d_check_number : List D → M D := fnM 3 (ifS' (notT (truT (argN 3 d_is_number (consA (vE 0) (consA (vE 1) (consA (vE 2) nilA)))))) deadS nilS)
def d_check_index : List D → M D := fnM 2 (seqS (dropS (argN 3 d_check_number (consA (vE 0) (consA (iE 0) (consA noE nilA)))))
  (ifS' (tst (bin2 geD (vE 0) (vE 1))) deadS nilS))
def d_without_one : List D → M D := fnM 3 (retS (argE tupleD (consA (lcE [2] (itE (vE 0)) (gNm 2) (tst (bin2 neD (vE 2) (vE 1))) (vE 2)) nilA)))
def d_next_from : List D → M D := fnM 5 (seqS (setKS 3 (bin2 subD (vE 0) (argE lenD (consA (vE 2) nilA))))
  (seqS (ifS' (tst (bin2 eqD (bin2 addD (bin2 ixX (vE 2) (iE 0)) (vE 1)) (vE 3))) (retS (lstE (consA (bin2 ixX (vE 2) (iE 0)) nilA))) nilS)
  (retS (lcE [4] (itE (vE 2)) (gNm 4) (tst (bin2 leD (bin2 subD (vE 4) (vE 1)) (vE 3))) (vE 4)))))
def d_states_by_place : List D → M D := fnM 7 (seqS (setS 2 (lstE (consA (lstE (consA (mpE (vE 0) (rg1M .tup)) nilA)) nilA)))
  (seqS (forS (argE rng1D (consA (vE 0) nilA)) (gNm 3) (seqS (setS 4 (fun _ => M.pure (.dct true [])))
  (seqS (forS (itE (ixOE 2 (ngE (iE 1)))) (gNm 5) (forS (itE (argN 3 d_next_from (consA (vE 0) (consA (vE 1) (consA (vE 5) nilA))))) (gNm 6) (putS 4 (bE true) (argN 2 d_without_one (consA (vE 5) (consA (vE 6) nilA))))))
  (mutS 2 appM (consA (mpE (vE 4) keysM) nilA)))))
  (retS (vE 2))))
def d_numbers_by_state : List D → M D := fnM 6 (seqS (setS 2 (oneTE (tupE nilA) (iE 1)))
  (seqS (forS (itE (rvE (argN 2 d_states_by_place (consA (vE 0) (consA (vE 1) nilA))) (partE (ngE (iE 2))))) (gNm 3) (forS (itE (vE 3)) (gNm 4) (putS 2 (argE sumD (consA (lcE [5] (itE (argN 3 d_next_from (consA (vE 0) (consA (vE 1) (consA (vE 4) nilA))))) (gNm 5) yesT (ixOE 2 (argN 2 d_without_one (consA (vE 4) (consA (vE 5) nilA))))) nilA)) (vE 4))))
  (retS (vE 2))))
def d_check_near : List D → M D := fnM 2 (seqS (dropS (argN 3 d_check_number (consA (vE 0) (consA (iE 1) (consA (iE 10) nilA)))))
  (dropS (argN 3 d_check_number (consA (vE 1) (consA (iE 0) (consA (iE 3) nilA))))))
def d_orders_number : List D → M D := fnM 2 (seqS (dropS (argN 2 d_check_near (consA (vE 0) (consA (vE 1) nilA))))
  (retS (bin2 ixX (argN 2 d_numbers_by_state (consA (vE 0) (consA (vE 1) nilA))) (mpE (vE 0) (rg1M .tup)))))
def d_order_at : List D → M D := fnM 10 (seqS (dropS (argN 2 d_check_near (consA (vE 0) (consA (vE 1) nilA))))
  (seqS (parS2 4 5 (consA (argN 2 d_numbers_by_state (consA (vE 0) (consA (vE 1) nilA))) (consA (mpE (vE 0) (rg1M .tup)) nilA)))
  (seqS (dropS (argN 2 d_check_index (consA (vE 2) (consA (bin2 ixX (vE 4) (vE 5)) nilA))))
  (seqS (parS2 6 7 (consA (lstE nilA) (consA (vE 2) nilA)))
  (seqS (forS (argE rng1D (consA (vE 0) nilA)) (gNm 3) (seqS (forS (itE (argN 3 d_next_from (consA (vE 0) (consA (vE 1) (consA (vE 5) nilA))))) (gNm 8) (seqS (setS 9 (bin2 ixX (vE 4) (argN 2 d_without_one (consA (vE 5) (consA (vE 8) nilA)))))
  (seqS (ifS' (tst (bin2 ltD (vE 7) (vE 9))) (seqS (mutS 6 appM (consA (vE 8) nilA))
  bkS) nilS)
  (augS 7 (fun i j => i - j) (vE 9)))))
  (setS 5 (argN 2 d_without_one (consA (vE 5) (consA (ixOE 6 (ngE (iE 1))) nilA))))))
  (retS (argE tupleD (consA (vE 6) nilA))))))))
def d__law_urn : List D → M D := fnN 5 (seqN (setKS 2 (bin2 addD (iE 654019) (bin2 mulD (iE 8111) (vE 1))))
  (seqN (forS (itE (slE (vE 0) npE (partE (iE 9)))) (gNm 3) (setKS 2 (bin2 modD (argE intD (consA (bin2 addD (bin2 addD (bin2 mulD (vE 2) (iE 50021)) (bin2 mulD (bin2 modD (argE intD (consA (vE 3) nilA)) (iE 2147483477)) (iE 13))) (iE 41)) nilA)) (iE 2147483629))))
  (seqN (setS 4 (ifE (tst (bin2 ltD (vE 1) (argE lenD (consA (vE 0) nilA)))) (argE intD (consA (bin2 ixX (vE 0) (vE 1)) nilA)) (iE 0)))
  (seqN (setKS 2 (bin2 modD (argE intD (consA (bin2 addD (bin2 addD (bin2 mulD (vE 2) (iE 59)) (bin2 mulD (bin2 modD (argE intD (consA (vE 4) nilA)) (iE 2147483477)) (iE 30029))) (iE 5)) nilA)) (iE 2147483629)))
  (retS (lstE (consA (ifE (orT (tst (bin2 ltD (vE 4) (iE 0))) (tst (bin2 geD (vE 4) (bin2 powD (iE 10) (iE 15))))) (argE absD (consA (vE 4) nilA)) (iE 0)) (consA (vE 2) (consA (iE 0) nilA)))))))))
def d__law_take : List D → M D := fnM 4 (seqS (ifS' (tst (bin2 gtD (bin2 ixX (vE 0) (iE 0)) (iE 0))) (seqS (asgS (argE divmodD (consA (bin2 ixX (vE 0) (iE 0)) (consA (vE 1) nilA))) (gTup 2 (gCons (gPutW 0 (iE 0)) (gCons (gNm 3) gNil))))
  (retS (vE 3))) nilS)
  (seqS (putWS 0 (bin2 addD (bin2 ixX (vE 0) (iE 2)) (iE 1)) (iE 2))
  (seqS (setKS 2 (bin2 modD (argE intD (consA (bin2 addD (bin2 mulD (bin2 ixX (vE 0) (iE 1)) (iE 40009)) (bin2 mulD (iE 15013) (bin2 ixX (vE 0) (iE 2)))) nilA)) (iE 2147483629)))
  (seqS (putWS 0 (bin2 modD (argE intD (consA (bin2 addD (bin2 mulD (vE 2) (bin2 addD (bin2 modD (argE intD (consA (vE 2) nilA)) (iE 5003)) (iE 30011))) (bin2 mulD (iE 3) (bin2 ixX (vE 0) (iE 2)))) nilA)) (iE 2147483629)) (iE 1))
  (retS (bin2 modD (argE intD (consA (bin2 divD (bin2 ixX (vE 0) (iE 1)) (iE 907)) nilA)) (vE 1)))))))
def d__law_of : List D → M D := fnM 2 (retS (bin2 ixX (vE 1) (argN 2 d__law_take (consA (vE 0) (consA (argE lenD (consA (vE 1) nilA)) nilA)))))
def d__law_orders : List D → M D := fnM 8 (seqS (setS 2 (lstE (consA (tupE nilA) nilA)))
  (seqS (forS (argE rng1D (consA (vE 0) nilA)) (gNm 3) (seqS (setS 4 (lstE nilA))
  (seqS (forS (itE (vE 2)) (gNm 5) (seqS (setS 6 (lcE [7] (argE rng2D (consA (argE maxD (consA (iE 0) (consA (bin2 subD (vE 3) (vE 1)) nilA))) (consA (argE minD (consA (vE 0) (consA (bin2 addD (bin2 addD (vE 3) (vE 1)) (iE 1)) nilA))) nilA))) (gNm 7) (tst (bin2 (inM true) (vE 7) (vE 5))) (vE 7)))
  (seqS (setS 6 (ifE (andT (tst (bin2 neD (vE 6) (lstE nilA))) (tst (bin2 eqD (bin2 ixX (vE 6) (iE 0)) (bin2 subD (vE 3) (vE 1))))) (lstE (consA (bin2 ixX (vE 6) (iE 0)) nilA)) (vE 6)))
  (setS 4 (bin2 addD (vE 4) (lcE [7] (itE (vE 6)) (gNm 7) yesT (bin2 addD (vE 5) (tupE (consA (vE 7) nilA)))))))))
  (setS 2 (vE 4)))))
  (retS (vE 2))))
def d__law_right : List D → M D := fnM 6 (seqS (forS (argE rng1D (consA (iE 3) nilA)) (gNm 1) (seqS (asgS (argN 2 d__law_of (consA (vE 0) (consA (lstE (consA (tupE (consA (iE 1) (consA (iE 3) nilA))) (consA (tupE (consA (iE 4) (consA (iE 3) nilA))) (consA (tupE (consA (iE 6) (consA (iE 2) nilA))) (consA (tupE (consA (iE 10) (consA (iE 1) nilA))) (consA (tupE (consA (iE 6) (consA (iE 3) nilA))) (consA (tupE (consA (iE 7) (consA (iE 2) nilA))) (consA (tupE (consA (iE 3) (consA (iE 0) nilA))) (consA (tupE (consA (iE 5) (consA (iE 2) nilA))) nilA))))))))) nilA))) (gTup 2 (gCons (gNm 2) (gCons (gNm 5) gNil))))
  (seqS (setS 2 (argN 2 d__law_of (consA (vE 0) (consA (lstE (consA (vE 2) (consA (bin2 addD (iE 1) (argN 2 d__law_take (consA (vE 0) (consA (vE 2) nilA)))) nilA))) nilA))))
  (seqS (setS 3 (argN 2 d__law_orders (consA (vE 2) (consA (vE 5) nilA))))
  (seqS (ifS' (tst (bin2 neD (argE reprD (consA (lstE (consA (argN 2 d_orders_number (consA (vE 2) (consA (vE 5) nilA))) (consA (argK 0 2 [1, 0] d_orders_number nilA (consA (vE 5) (consA (vE 2) nilA))) nilA))) nilA)) (argE reprD (consA (bin2 mulD (lstE (consA (argE lenD (consA (vE 3) nilA)) nilA)) (iE 2)) nilA)))) (retS (bE false)) nilS)
  (forS (itE (tupE (consA (iE 0) (consA (bin2 subD (argE lenD (consA (vE 3) nilA)) (iE 1)) (consA (argN 2 d__law_take (consA (vE 0) (consA (argE lenD (consA (vE 3) nilA)) nilA))) (consA (argN 2 d__law_take (consA (vE 0) (consA (argE lenD (consA (vE 3) nilA)) nilA))) nilA)))))) (gNm 4) (ifS' (tst (bin2 neD (argE reprD (consA (lstE (consA (argN 3 d_order_at (consA (vE 2) (consA (vE 5) (consA (vE 4) nilA)))) (consA (argK 0 3 [2, 1, 0] d_order_at nilA (consA (vE 4) (consA (vE 5) (consA (vE 2) nilA)))) nilA))) nilA)) (argE reprD (consA (bin2 mulD (lstE (consA (bin2 ixX (vE 3) (vE 4)) nilA)) (iE 2)) nilA)))) (retS (bE false)) nilS)))))))
  (retS (bE true)))
def d_law : List D → M D := fnM 2 (retS (argE allD (consA (lcE [1] (argE rng1D (consA (argE maxD (consA (iE 1) (consA (argE minD (consA (argE lenD (consA (vE 0) nilA)) (consA (iE 3) nilA))) nilA))) nilA)) (gNm 1) yesT (mpE (argN 2 d__law_urn (consA (vE 0) (consA (vE 1) nilA))) (wellM d__law_right))) nilA)))
structure Wd (K : PySem.W.Frag) (mg : Str → Option Value) where
  f_is_whole : Addr
  q_is_whole : FuncData
  F_is_whole : FunD K "is_whole" "is_whole" (defArgs (top 1)) (defBody (top 1)) (defScope (top 1)) [] [] f_is_whole q_is_whole
  g_is_whole : mg "is_whole" = some (.ref f_is_whole)
  f_is_number : Addr
  q_is_number : FuncData
  F_is_number : FunD K "is_number" "is_number" (defArgs (top 2)) (defBody (top 2)) (defScope (top 2)) [] [] f_is_number q_is_number
  g_is_number : mg "is_number" = some (.ref f_is_number)
  f_check_number : Addr
  q_check_number : FuncData
  F_check_number : FunD K "check_number" "check_number" (defArgs (top 9)) (defBody (top 9)) (defScope (top 9)) [] [] f_check_number q_check_number
  g_check_number : mg "check_number" = some (.ref f_check_number)
  f_check_index : Addr
  q_check_index : FuncData
  F_check_index : FunD K "check_index" "check_index" (defArgs (top 10)) (defBody (top 10)) (defScope (top 10)) [] [] f_check_index q_check_index
  g_check_index : mg "check_index" = some (.ref f_check_index)
  f_without_one : Addr
  q_without_one : FuncData
  F_without_one : FunD K "without_one" "without_one" (defArgs (top 12)) (defBody (top 12)) (defScope (top 12)) [] [] f_without_one q_without_one
  g_without_one : mg "without_one" = some (.ref f_without_one)
  f_next_from : Addr
  q_next_from : FuncData
  F_next_from : FunD K "next_from" "next_from" (defArgs (top 15)) (defBody (top 15)) (defScope (top 15)) [] [] f_next_from q_next_from
  g_next_from : mg "next_from" = some (.ref f_next_from)
  f_states_by_place : Addr
  q_states_by_place : FuncData
  F_states_by_place : FunD K "states_by_place" "states_by_place" (defArgs (top 16)) (defBody (top 16)) (defScope (top 16)) [] [] f_states_by_place q_states_by_place
  g_states_by_place : mg "states_by_place" = some (.ref f_states_by_place)
  f_numbers_by_state : Addr
  q_numbers_by_state : FuncData
  F_numbers_by_state : FunD K "numbers_by_state" "numbers_by_state" (defArgs (top 17)) (defBody (top 17)) (defScope (top 17)) [] [] f_numbers_by_state q_numbers_by_state
  g_numbers_by_state : mg "numbers_by_state" = some (.ref f_numbers_by_state)
  f_check_near : Addr
  q_check_near : FuncData
  F_check_near : FunD K "check_near" "check_near" (defArgs (top 18)) (defBody (top 18)) (defScope (top 18)) [] [] f_check_near q_check_near
  g_check_near : mg "check_near" = some (.ref f_check_near)
  f_orders_number : Addr
  q_orders_number : FuncData
  F_orders_number : FunD K "orders_number" "orders_number" (defArgs (top 19)) (defBody (top 19)) (defScope (top 19)) [] [] f_orders_number q_orders_number
  g_orders_number : mg "orders_number" = some (.ref f_orders_number)
  f_order_at : Addr
  q_order_at : FuncData
  F_order_at : FunD K "order_at" "order_at" (defArgs (top 20)) (defBody (top 20)) (defScope (top 20)) [] [] f_order_at q_order_at
  g_order_at : mg "order_at" = some (.ref f_order_at)
  f__law_urn : Addr
  q__law_urn : FuncData
  F__law_urn : FunD K "_law_urn" "_law_urn" (defArgs (top 22)) (defBody (top 22)) (defScope (top 22)) [] [] f__law_urn q__law_urn
  g__law_urn : mg "_law_urn" = some (.ref f__law_urn)
  f__law_take : Addr
  q__law_take : FuncData
  F__law_take : FunD K "_law_take" "_law_take" (defArgs (top 23)) (defBody (top 23)) (defScope (top 23)) [] [] f__law_take q__law_take
  g__law_take : mg "_law_take" = some (.ref f__law_take)
  f__law_of : Addr
  q__law_of : FuncData
  F__law_of : FunD K "_law_of" "_law_of" (defArgs (top 24)) (defBody (top 24)) (defScope (top 24)) [] [] f__law_of q__law_of
  g__law_of : mg "_law_of" = some (.ref f__law_of)
  f__law_orders : Addr
  q__law_orders : FuncData
  F__law_orders : FunD K "_law_orders" "_law_orders" (defArgs (top 25)) (defBody (top 25)) (defScope (top 25)) [] [] f__law_orders q__law_orders
  g__law_orders : mg "_law_orders" = some (.ref f__law_orders)
  f__law_right : Addr
  q__law_right : FuncData
  F__law_right : FunD K "_law_right" "_law_right" (defArgs (top 26)) (defBody (top 26)) (defScope (top 26)) [] [] f__law_right q__law_right
  g__law_right : mg "_law_right" = some (.ref f__law_right)
  f_law : Addr
  q_law : FuncData
  F_law : FunD K "law" "law" (defArgs (top 27)) (defBody (top 27)) (defScope (top 27)) [] [] f_law q_law
  g_law : mg "law" = some (.ref f_law)
  n_abs : mg "abs" = none
  n_all : mg "all" = none
  n_bool : mg "bool" = none
  n_divmod : mg "divmod" = none
  n_int : mg "int" = none
  n_isinstance : mg "isinstance" = none
  n_len : mg "len" = none
  n_list : mg "list" = none
  n_max : mg "max" = none
  n_min : mg "min" = none
  n_range : mg "range" = none
  n_repr : mg "repr" = none
  n_sum : mg "sum" = none
  n_tuple : mg "tuple" = none
  c_MOST_FLIGHTS : ∃ t, mg "MOST_FLIGHTS" = some (.int 10 t)
  c_MOST_MOVED : ∃ t, mg "MOST_MOVED" = some (.int 3 t)
section
variable {P : Program} {w : World} {K : PySem.W.Frag} {mg : Str → Option Value} {base : Heap} {T : Tb}
theorem b_is_whole (W : Wd K mg) : Binds K W.q_is_whole ["value"] [] := W.F_is_whole.bindsN fun _ _ _ _ _ _ us hl => match us, hl with | [_], _ => rfl
theorem b_is_number (W : Wd K mg) : Binds K W.q_is_number ["value", "low", "high"] [] := W.F_is_number.bindsN fun _ _ _ _ _ _ us hl => match us, hl with | [_, _, _], _ => rfl
theorem b_check_number (W : Wd K mg) : Binds K W.q_check_number ["value", "low", "high"] [] := W.F_check_number.bindsN fun _ _ _ _ _ _ us hl => match us, hl with | [_, _, _], _ => rfl
theorem b_check_index (W : Wd K mg) : Binds K W.q_check_index ["value", "many"] [] := W.F_check_index.bindsN fun _ _ _ _ _ _ us hl => match us, hl with | [_, _], _ => rfl
theorem b_without_one (W : Wd K mg) : Binds K W.q_without_one ["left", "index"] [] := W.F_without_one.bindsN fun _ _ _ _ _ _ us hl => match us, hl with | [_, _], _ => rfl
theorem b_next_from (W : Wd K mg) : Binds K W.q_next_from ["many", "most", "left"] [] := W.F_next_from.bindsN fun _ _ _ _ _ _ us hl => match us, hl with | [_, _, _], _ => rfl
theorem b_states_by_place (W : Wd K mg) : Binds K W.q_states_by_place ["many", "most"] [] := W.F_states_by_place.bindsN fun _ _ _ _ _ _ us hl => match us, hl with | [_, _], _ => rfl
theorem b_numbers_by_state (W : Wd K mg) : Binds K W.q_numbers_by_state ["many", "most"] [] := W.F_numbers_by_state.bindsN fun _ _ _ _ _ _ us hl => match us, hl with | [_, _], _ => rfl
theorem b_check_near (W : Wd K mg) : Binds K W.q_check_near ["many", "most"] [] := W.F_check_near.bindsN fun _ _ _ _ _ _ us hl => match us, hl with | [_, _], _ => rfl
theorem b_orders_number (W : Wd K mg) : Binds K W.q_orders_number ["many", "most"] [] := W.F_orders_number.bindsN fun _ _ _ _ _ _ us hl => match us, hl with | [_, _], _ => rfl
theorem b_order_at (W : Wd K mg) : Binds K W.q_order_at ["many", "most", "index"] [] := W.F_order_at.bindsN fun _ _ _ _ _ _ us hl => match us, hl with | [_, _, _], _ => rfl
theorem b__law_urn (W : Wd K mg) : Binds K W.q__law_urn ["script", "lap"] [] := W.F__law_urn.bindsN fun _ _ _ _ _ _ us hl => match us, hl with | [_, _], _ => rfl
theorem b__law_take (W : Wd K mg) : Binds K W.q__law_take ["urn", "many"] [] := W.F__law_take.bindsN fun _ _ _ _ _ _ us hl => match us, hl with | [_, _], _ => rfl
theorem b__law_of (W : Wd K mg) : Binds K W.q__law_of ["urn", "some"] [] := W.F__law_of.bindsN fun _ _ _ _ _ _ us hl => match us, hl with | [_, _], _ => rfl
theorem b__law_orders (W : Wd K mg) : Binds K W.q__law_orders ["many", "most"] [] := W.F__law_orders.bindsN fun _ _ _ _ _ _ us hl => match us, hl with | [_, _], _ => rfl
theorem b__law_right (W : Wd K mg) : Binds K W.q__law_right ["urn"] [] := W.F__law_right.bindsN fun _ _ _ _ _ _ us hl => match us, hl with | [_], _ => rfl
theorem b_law (W : Wd K mg) : Binds K W.q_law ["script"] [] := W.F_law.bindsN fun _ _ _ _ _ _ us hl => match us, hl with | [_], _ => rfl
theorem kb_orders_number_0 (W : Wd K mg) : KwB K W.q_orders_number ["many", "most"] ["most", "many"] 0 [1, 0] := kwB_of W.F_orders_number fun _ _ _ _ _ _ us ws h1 h2 => match us, ws, h1, h2 with | [], [_, _], _, _ => rfl
theorem kb_order_at_1 (W : Wd K mg) : KwB K W.q_order_at ["many", "most", "index"] ["index", "most", "many"] 0 [2, 1, 0] := kwB_of W.F_order_at fun _ _ _ _ _ _ us ws h1 h2 => match us, ws, h1, h2 with | [], [_, _, _], _, _ => rfl
theorem s_is_whole : FnScope ["value"] ["value"] (defScope (top 1)) := ⟨rfl, rfl, rfl, by decide +kernel, rfl, by decide +kernel, by decide +kernel⟩
theorem w_is_whole (W : Wd K mg) : FnG P w K mg base 1 W.f_is_whole W.q_is_whole ["value"] (spD K T 1 d_is_whole) := by
  have nd := s_is_whole.nd
  exact fnG_data (O := []) W.F_is_whole s_is_whole fun cdv A outer s H E ok => (dss_one (ds_ret (O1 := []) (de_and (de_isi .int W.n_isinstance W.n_int boot_int' (de_var 0)) (de_one (de_not (de_isi .bl W.n_isinstance W.n_bool boot_bool' (de_var 0)))))))
theorem s_is_number : FnScope ["value", "low", "high"] ["value", "low", "high"] (defScope (top 2)) := ⟨rfl, rfl, rfl, by decide +kernel, rfl, by decide +kernel, by decide +kernel⟩
theorem w_is_number (W : Wd K mg) : FnG P w K mg base 2 W.f_is_number W.q_is_number ["value", "low", "high"] (spD K T 3 d_is_number) := by
  have nd := s_is_number.nd
  exact fnG_data (O := []) W.F_is_number s_is_number fun cdv A outer s H E ok => (dss_cons (O1 := []) (ds_if (O1 := []) (O' := []) (dt_w (dw_or (dt_not (dt_tru (de_call (w_is_whole W) ok (by decide) tkB W.g_is_whole W.F_is_whole.kp (b_is_whole W) (da_cons (de_var 0) da_nil)))) (dw_or1 (dt_w (dw_and (dt_cmp ok_isnot (de_var 1) de_non) (dw_and1 (dt_cmp ok_lt (de_var 0) (de_var 1)))))))) (dss_one (ds_ret (O1 := []) de_bl)) dss_nil)
      (dss_one (ds_ret (O1 := []) (de_or (de_cmp ok_is (de_var 2) de_non) (de_one (de_cmp ok_le (de_var 0) (de_var 2)))))))
theorem s_check_number : FnScope ["value", "low", "high"] ["value", "low", "high"] (defScope (top 9)) := ⟨rfl, rfl, rfl, by decide +kernel, rfl, by decide +kernel, by decide +kernel⟩
theorem w_check_number (W : Wd K mg) : FnG P w K mg base 3 W.f_check_number W.q_check_number ["value", "low", "high"] (spD K T 3 d_check_number) := by
  have nd := s_check_number.nd
  exact fnG_data (O := []) W.F_check_number s_check_number fun cdv A outer s H E ok => (dss_one (ds_if (O1 := []) (O' := []) (dt_not (dt_tru (de_call (w_is_number W) ok (by decide) tkB W.g_is_number W.F_is_number.kp (b_is_number W) (da_cons (de_var 0) (da_cons (de_var 1) (da_cons (de_var 2) da_nil)))))) (dss_one ds_dead) dss_nil))
theorem s_check_index : FnScope ["value", "many"] ["value", "many"] (defScope (top 10)) := ⟨rfl, rfl, rfl, by decide +kernel, rfl, by decide +kernel, by decide +kernel⟩
theorem w_check_index (W : Wd K mg) : FnG P w K mg base 4 W.f_check_index W.q_check_index ["value", "many"] (spD K T 2 d_check_index) := by
  have nd := s_check_index.nd
  exact fnG_data (O := []) W.F_check_index s_check_index fun cdv A outer s H E ok => (dss_cons (O1 := []) (ds_expr (O1 := []) (de_call (w_check_number W) ok (by decide) tkB W.g_check_number W.F_check_number.kp (b_check_number W) (da_cons (de_var 0) (da_cons de_int (da_cons de_non da_nil)))))
      (dss_one (ds_if (O1 := []) (O' := []) (dt_cmp ok_ge (de_var 0) (de_var 1)) (dss_one ds_dead) dss_nil)))
theorem s_without_one : FnScope ["left", "index", "each"] ["left", "index"] (defScope (top 12)) := ⟨rfl, rfl, rfl, by decide +kernel, rfl, by decide +kernel, by decide +kernel⟩
theorem w_without_one (W : Wd K mg) : FnG P w K mg base 1 W.f_without_one W.q_without_one ["left", "index"] (spD K T 2 d_without_one) := by
  have nd := s_without_one.nd
  exact fnG_data (O := []) W.F_without_one s_without_one fun cdv A outer s H E ok => (dss_one (ds_ret (O1 := []) (de_callTy ok_tuple W.n_tuple boot_tuple' (da_cons (de_new (df_lc (own := [("each", 2)]) rfl nd (di_seq (de_var 0)) (blkOk_by (by rfl)) (fun _ _ _ _ _ => (dg_name 2 nd)) (fun _ _ _ _ _ => (dts_one (dt_cmp (ok_ne ok.blk.u64) (de_var 2) (de_var 1)))) (fun _ _ _ _ _ => (de_var 2)))) da_nil))))
theorem s_next_from : FnScope ["many", "most", "left", "place", "index"] ["many", "most", "left"] (defScope (top 15)) := ⟨rfl, rfl, rfl, by decide +kernel, rfl, by decide +kernel, by decide +kernel⟩
theorem w_next_from (W : Wd K mg) : FnG P w K mg base 1 W.f_next_from W.q_next_from ["many", "most", "left"] (spD K T 3 d_next_from) := by
  have nd := s_next_from.nd
  exact fnG_data (O := []) W.F_next_from s_next_from fun cdv A outer s H E ok => (dss_cons (O1 := []) (ds_setK (O1 := []) (O' := []) 3 nd (de_op ok_sub (de_var 0) (de_callB ok_len W.n_len boot_len' (da_cons (de_var 2) da_nil))))
      (dss_cons (O1 := []) (ds_if (O1 := []) (O' := []) (dt_cmp (ok_eq ok.u64) (de_op ok_add (de_at ok.u64 (de_var 2) de_int) (de_var 1)) (de_var 3)) (dss_one (ds_ret (O1 := []) (de_new (df_lst (da_cons (de_at ok.u64 (de_var 2) de_int) da_nil))))) dss_nil)
      (dss_one (ds_ret (O1 := []) (de_new (df_lc (own := [("index", 4)]) rfl nd (di_seq (de_var 2)) (blkOk_by (by rfl)) (fun _ _ _ _ _ => (dg_name 4 nd)) (fun _ _ _ _ _ => (dts_one (dt_cmp ok_le (de_op ok_sub (de_var 4) (de_var 1)) (de_var 3)))) (fun _ _ _ _ _ => (de_var 4))))))))
theorem s_states_by_place : FnScope ["many", "most", "found", "_", "later", "left", "index"] ["many", "most"] (defScope (top 16)) := ⟨rfl, rfl, rfl, by decide +kernel, rfl, by decide +kernel, by decide +kernel⟩
theorem w_states_by_place (W : Wd K mg) : FnG P w K mg base 2 W.f_states_by_place W.q_states_by_place ["many", "most"] (spD K T 2 d_states_by_place) := by
  have nd := s_states_by_place.nd
  exact fnG_data (O := []) W.F_states_by_place s_states_by_place fun cdv A outer s H E ok => (dss_cons (O1 := [2]) (ds_setF (O1 := []) (O' := [2]) 2 nd (df_lst (da_cons (de_new (df_lst (da_cons (de_tupRg rfl W.n_tuple W.n_range (de_var 0)) da_nil))) da_nil)))
      (dss_cons (O1 := [2]) (ds_forK (O1 := []) (O := [2]) (O2 := [2]) (xs := [3]) psB rfl (dik_rng1 W.n_range (da_cons (de_var 0) da_nil)) (dg_name 3 nd) (dss_less (O1 := [4, 2]) (dss_cons (O1 := [4, 2]) (ds_setF (O1 := [2]) (O' := [4, 2]) 4 nd df_dnewT)
      (dss_cons (O1 := [4, 2]) (ds_for (O := [4, 2]) (O2 := [4, 2]) (xs := [5]) psB rfl (di_seq (de_atO 2 ok.u64 (de_neg de_int))) (dg_name 5 nd) (dss_one (ds_for (O := [4, 2]) (O2 := [4, 2]) (xs := [6]) psB rfl (di_seq (de_call (w_next_from W) ok (by decide) tkB W.g_next_from W.F_next_from.kp (b_next_from W) (da_cons (de_var 0) (da_cons (de_var 1) (da_cons (de_var 5) da_nil))))) (dg_name 6 nd) (dss_one (ds_put (O1 := [4, 2]) 4 ok.u64 de_bl (de_call (w_without_one W) ok (by decide) tkB W.g_without_one W.F_without_one.kp (b_without_one W) (da_cons (de_var 5) (da_cons (de_var 6) da_nil))))))))
      (dss_one (ds_mut (O1 := [4, 2]) 2 PySem.F.slot_list_append PySem.F.type_list_append mt_append mu_append (da_cons (de_new (df_listO 4 rfl W.n_list)) da_nil)))))))
      (dss_one (ds_ret (O1 := []) (de_var 2)))))
theorem s_numbers_by_state : FnScope ["many", "most", "found", "states", "left", "index"] ["many", "most"] (defScope (top 17)) := ⟨rfl, rfl, rfl, by decide +kernel, rfl, by decide +kernel, by decide +kernel⟩
theorem w_numbers_by_state (W : Wd K mg) : FnG P w K mg base 3 W.f_numbers_by_state W.q_numbers_by_state ["many", "most"] (spD K T 2 d_numbers_by_state) := by
  have nd := s_numbers_by_state.nd
  exact fnG_data (O := []) W.F_numbers_by_state s_numbers_by_state fun cdv A outer s H E ok => (dss_cons (O1 := [2]) (ds_setF (O1 := []) (O' := [2]) 2 nd (df_oneT ok.u64 (de_tup da_nil) de_int))
      (dss_cons (O1 := [2]) (ds_for (O := [2]) (O2 := [2]) (xs := [3]) psB rfl (di_seq (de_revSl (de_call (w_states_by_place W) ok (by decide) tkB W.g_states_by_place W.F_states_by_place.kp (b_states_by_place W) (da_cons (de_var 0) (da_cons (de_var 1) da_nil))) (do_some (de_neg de_int)))) (dg_name 3 nd) (dss_one (ds_for (O := [2]) (O2 := [2]) (xs := [4]) psB rfl (di_seq (de_var 3)) (dg_name 4 nd) (dss_one (ds_put (O1 := [2]) 2 ok.u64 (de_callB (ok_sum rfl) W.n_sum boot_sum' (da_cons (de_new (df_lc (own := [("index", 5)]) rfl nd (di_seq (de_call (w_next_from W) ok (by decide) tkB W.g_next_from W.F_next_from.kp (b_next_from W) (da_cons (de_var 0) (da_cons (de_var 1) (da_cons (de_var 4) da_nil))))) (blkOk_by (by rfl)) (fun _ _ _ _ _ => (dg_name 5 nd)) (fun _ _ _ _ _ => dts_nil) (fun _ _ _ _ _ => (de_atO 2 ok.blk.u64 (de_call (w_without_one W) ok.blk (by decide) L2.takes0 W.g_without_one W.F_without_one.kp (b_without_one W) (da_cons (de_var 4) (da_cons (de_var 5) da_nil))))))) da_nil)) (de_var 4))))))
      (dss_one (ds_ret (O1 := []) (de_var 2)))))
theorem s_check_near : FnScope ["many", "most"] ["many", "most"] (defScope (top 18)) := ⟨rfl, rfl, rfl, by decide +kernel, rfl, by decide +kernel, by decide +kernel⟩
theorem w_check_near (W : Wd K mg) : FnG P w K mg base 4 W.f_check_near W.q_check_near ["many", "most"] (spD K T 2 d_check_near) := by
  have nd := s_check_near.nd
  exact fnG_data (O := []) W.F_check_near s_check_near fun cdv A outer s H E ok => (dss_cons (O1 := []) (ds_expr (O1 := []) (de_call (w_check_number W) ok (by decide) tkB W.g_check_number W.F_check_number.kp (b_check_number W) (da_cons (de_var 0) (da_cons de_int (da_cons (de_globI (W.c_MOST_FLIGHTS)) da_nil)))))
      (dss_one (ds_expr (O1 := []) (de_call (w_check_number W) ok (by decide) tkB W.g_check_number W.F_check_number.kp (b_check_number W) (da_cons (de_var 1) (da_cons de_int (da_cons (de_globI (W.c_MOST_MOVED)) da_nil)))))))
theorem s_orders_number : FnScope ["many", "most"] ["many", "most"] (defScope (top 19)) := ⟨rfl, rfl, rfl, by decide +kernel, rfl, by decide +kernel, by decide +kernel⟩
theorem w_orders_number (W : Wd K mg) : FnG P w K mg base 5 W.f_orders_number W.q_orders_number ["many", "most"] (spD K T 2 d_orders_number) := by
  have nd := s_orders_number.nd
  exact fnG_data (O := []) W.F_orders_number s_orders_number fun cdv A outer s H E ok => (dss_cons (O1 := []) (ds_expr (O1 := []) (de_call (w_check_near W) ok (by decide) tkB W.g_check_near W.F_check_near.kp (b_check_near W) (da_cons (de_var 0) (da_cons (de_var 1) da_nil))))
      (dss_one (ds_ret (O1 := []) (de_at ok.u64 (de_call (w_numbers_by_state W) ok (by decide) tkB W.g_numbers_by_state W.F_numbers_by_state.kp (b_numbers_by_state W) (da_cons (de_var 0) (da_cons (de_var 1) da_nil))) (de_tupRg rfl W.n_tuple W.n_range (de_var 0))))))
theorem s_order_at : FnScope ["many", "most", "index", "_", "numbers", "left", "found", "rest", "each", "behind"] ["many", "most", "index"] (defScope (top 20)) := ⟨rfl, rfl, rfl, by decide +kernel, rfl, by decide +kernel, by decide +kernel⟩
theorem w_order_at (W : Wd K mg) : FnG P w K mg base 5 W.f_order_at W.q_order_at ["many", "most", "index"] (spD K T 3 d_order_at) := by
  have nd := s_order_at.nd
  exact fnG_data (O := []) W.F_order_at s_order_at fun cdv A outer s H E ok => (dss_cons (O1 := []) (ds_expr (O1 := []) (de_call (w_check_near W) ok (by decide) tkB W.g_check_near W.F_check_near.kp (b_check_near W) (da_cons (de_var 0) (da_cons (de_var 1) da_nil))))
      (dss_cons (O1 := []) (ds_par (O1 := []) (O' := []) 4 5 rfl nd (dm_val (de_call (w_numbers_by_state W) ok (by decide) tkB W.g_numbers_by_state W.F_numbers_by_state.kp (b_numbers_by_state W) (da_cons (de_var 0) (da_cons (de_var 1) da_nil))) (dm_val (de_tupRg rfl W.n_tuple W.n_range (de_var 0)) dm_nil)))
      (dss_cons (O1 := []) (ds_expr (O1 := []) (de_call (w_check_index W) ok (by decide) tkB W.g_check_index W.F_check_index.kp (b_check_index W) (da_cons (de_var 2) (da_cons (de_at ok.u64 (de_var 4) (de_var 5)) da_nil))))
      (dss_cons (O1 := [6]) (ds_par (O1 := []) (O' := [6]) 6 7 rfl nd (dm_new (df_lst da_nil) (dm_val (de_var 2) dm_nil)))
      (dss_cons (O1 := [6]) (ds_forK (O1 := []) (O := [6]) (O2 := [6]) (xs := [3]) psB rfl (dik_rng1 W.n_range (da_cons (de_var 0) da_nil)) (dg_name 3 nd) (dss_cons (O1 := [6]) (ds_for (O := [6]) (O2 := [6]) (xs := [8]) psB rfl (di_seq (de_call (w_next_from W) ok (by decide) tkB W.g_next_from W.F_next_from.kp (b_next_from W) (da_cons (de_var 0) (da_cons (de_var 1) (da_cons (de_var 5) da_nil))))) (dg_name 8 nd) (dss_cons (O1 := [6]) (ds_set (O1 := [6]) (O' := [6]) 9 nd (de_at ok.u64 (de_var 4) (de_call (w_without_one W) ok (by decide) tkB W.g_without_one W.F_without_one.kp (b_without_one W) (da_cons (de_var 5) (da_cons (de_var 8) da_nil)))))
      (dss_cons (O1 := [6]) (ds_if (O1 := []) (O' := [6]) (dt_cmp ok_lt (de_var 7) (de_var 9)) (dss_cons (O1 := [6]) (ds_mut (O1 := [6]) 6 PySem.F.slot_list_append PySem.F.type_list_append mt_append mu_append (da_cons (de_var 8) da_nil))
      (dss_one ds_breakL)) dss_nil)
      (dss_one (ds_aug (O1 := []) 7 nd ip_sub (de_var 9))))))
      (dss_one (ds_set (O1 := [6]) (O' := [6]) 5 nd (de_call (w_without_one W) ok (by decide) tkB W.g_without_one W.F_without_one.kp (b_without_one W) (da_cons (de_var 5) (da_cons (de_atO 6 ok.u64 (de_neg de_int)) da_nil)))))))
      (dss_one (ds_ret (O1 := []) (de_callTy ok_tuple W.n_tuple boot_tuple' (da_cons (de_var 6) da_nil)))))))))
theorem s__law_urn : FnScope ["script", "lap", "mixed", "cell", "own"] ["script", "lap"] (defScope (top 22)) := ⟨rfl, rfl, rfl, by decide +kernel, rfl, by decide +kernel, by decide +kernel⟩
theorem w__law_urn (W : Wd K mg) : FnG P w K mg base 1 W.f__law_urn W.q__law_urn ["script", "lap"] (spN K T 2 d__law_urn) := by
  have nd := s__law_urn.nd
  exact fnN_data W.F__law_urn s__law_urn fun cdv A outer s H E ok => (dns_cons (L := []) (O1 := []) (ds_setK (O1 := []) (O' := []) 2 nd (de_op ok_add de_int (de_op ok_mul de_int (de_var 1))))
      (dns_cons (L := []) (O1 := []) (ds_for (O := []) (O2 := []) (xs := [3]) psB rfl (di_seq (de_sl (de_var 0) do_none (do_some de_int))) (dg_name 3 nd) (dss_one (ds_setK (O1 := []) (O' := []) 2 nd (de_op ok_mod (de_callTy ok_int W.n_int boot_int' (da_cons (de_op ok_add (de_op ok_add (de_op ok_mul (de_var 2) de_int) (de_op ok_mul (de_op ok_mod (de_callTy ok_int W.n_int boot_int' (da_cons (de_var 3) da_nil)) de_int) de_int)) de_int) da_nil)) de_int))))
      (dns_cons (L := []) (O1 := []) (ds_set (O1 := []) (O' := []) 4 nd (de_if (dt_cmp ok_lt (de_var 1) (de_callB ok_len W.n_len boot_len' (da_cons (de_var 0) da_nil))) (de_callTy ok_int W.n_int boot_int' (da_cons (de_at ok.u64 (de_var 0) (de_var 1)) da_nil)) de_int))
      (dns_cons (L := []) (O1 := []) (ds_setK (O1 := []) (O' := []) 2 nd (de_op ok_mod (de_callTy ok_int W.n_int boot_int' (da_cons (de_op ok_add (de_op ok_add (de_op ok_mul (de_var 2) de_int) (de_op ok_mul (de_op ok_mod (de_callTy ok_int W.n_int boot_int' (da_cons (de_var 4) da_nil)) de_int) de_int)) de_int) da_nil)) de_int))
      (dns_ret (O1 := []) (df_lst (da_cons (de_if (dt_w (dw_or (dt_cmp ok_lt (de_var 4) de_int) (dw_or1 (dt_cmp ok_ge (de_var 4) (de_op ok_pow de_int de_int))))) (de_callB ok_abs W.n_abs boot_abs' (da_cons (de_var 4) da_nil)) de_int) (da_cons (de_var 2) (da_cons de_int da_nil)))))))))
theorem s__law_take : FnScope ["urn", "many", "stir", "figure"] ["urn", "many"] (defScope (top 23)) := ⟨rfl, rfl, rfl, by decide +kernel, rfl, by decide +kernel, by decide +kernel⟩
theorem w__law_take (W : Wd K mg) : FnG P w K mg base 1 W.f__law_take W.q__law_take ["urn", "many"] (spD K T 2 d__law_take) := by
  have nd := s__law_take.nd
  exact fnG_data (O := []) W.F__law_take s__law_take fun cdv A outer s H E ok => (dss_cons (O1 := []) (ds_if (O1 := []) (O' := []) (dt_cmp ok_gt (de_at ok.u64 (de_var 0) de_int) de_int) (dss_cons (O1 := []) (ds_asg (O1 := []) (O' := []) (xs := [3]) (de_callB ok_divmod W.n_divmod boot_divmod' (da_cons (de_at ok.u64 (de_var 0) de_int) (da_cons (de_var 1) da_nil))) (dg_tup rfl (dgs_cons (dg_putW 0 de_int (fun h => h)) (dgs_cons (dg_name 3 nd) dgs_nil))))
      (dss_one (ds_ret (O1 := []) (de_var 3)))) dss_nil)
      (dss_cons (O1 := []) (ds_putW (O1 := []) 0 (de_op ok_add (de_at ok.u64 (de_var 0) de_int) de_int) de_int)
      (dss_cons (O1 := []) (ds_setK (O1 := []) (O' := []) 2 nd (de_op ok_mod (de_callTy ok_int W.n_int boot_int' (da_cons (de_op ok_add (de_op ok_mul (de_at ok.u64 (de_var 0) de_int) de_int) (de_op ok_mul de_int (de_at ok.u64 (de_var 0) de_int))) da_nil)) de_int))
      (dss_cons (O1 := []) (ds_putW (O1 := []) 0 (de_op ok_mod (de_callTy ok_int W.n_int boot_int' (da_cons (de_op ok_add (de_op ok_mul (de_var 2) (de_op ok_add (de_op ok_mod (de_callTy ok_int W.n_int boot_int' (da_cons (de_var 2) da_nil)) de_int) de_int)) (de_op ok_mul de_int (de_at ok.u64 (de_var 0) de_int))) da_nil)) de_int) de_int)
      (dss_one (ds_ret (O1 := []) (de_op ok_mod (de_callTy ok_int W.n_int boot_int' (da_cons (de_op ok_div (de_at ok.u64 (de_var 0) de_int) de_int) da_nil)) (de_var 1))))))))
theorem s__law_of : FnScope ["urn", "some"] ["urn", "some"] (defScope (top 24)) := ⟨rfl, rfl, rfl, by decide +kernel, rfl, by decide +kernel, by decide +kernel⟩
theorem w__law_of (W : Wd K mg) : FnG P w K mg base 2 W.f__law_of W.q__law_of ["urn", "some"] (spD K T 2 d__law_of) := by
  have nd := s__law_of.nd
  exact fnG_data (O := []) W.F__law_of s__law_of fun cdv A outer s H E ok => (dss_one (ds_ret (O1 := []) (de_at ok.u64 (de_var 1) (de_call (w__law_take W) ok (by decide) tkB W.g__law_take W.F__law_take.kp (b__law_take W) (da_cons (de_var 0) (da_cons (de_callB ok_len W.n_len boot_len' (da_cons (de_var 1) da_nil)) da_nil))))))
theorem s__law_orders : FnScope ["many", "most", "found", "place", "longer", "row", "near", "k"] ["many", "most"] (defScope (top 25)) := ⟨rfl, rfl, rfl, by decide +kernel, rfl, by decide +kernel, by decide +kernel⟩
theorem w__law_orders (W : Wd K mg) : FnG P w K mg base 1 W.f__law_orders W.q__law_orders ["many", "most"] (spD K T 2 d__law_orders) := by
  have nd := s__law_orders.nd
  exact fnG_data (O := []) W.F__law_orders s__law_orders fun cdv A outer s H E ok => (dss_cons (O1 := []) (ds_set (O1 := []) (O' := []) 2 nd (de_new (df_lst (da_cons (de_tup da_nil) da_nil))))
      (dss_cons (O1 := []) (ds_forK (O1 := []) (O := []) (O2 := []) (xs := [3]) psB rfl (dik_rng1 W.n_range (da_cons (de_var 0) da_nil)) (dg_name 3 nd) (dss_cons (O1 := []) (ds_set (O1 := []) (O' := []) 4 nd (de_new (df_lst da_nil)))
      (dss_cons (O1 := []) (ds_for (O := []) (O2 := []) (xs := [5]) psB rfl (di_seq (de_var 2)) (dg_name 5 nd) (dss_cons (O1 := []) (ds_setLc (O1 := []) (O' := []) 6 (own := [("k", 7)]) rfl nd (di_rng2 W.n_range (da_cons (de_callB (ok_max rfl) W.n_max boot_max' (da_cons de_int (da_cons (de_op ok_sub (de_var 3) (de_var 1)) da_nil))) (da_cons (de_callB (ok_min rfl) W.n_min boot_min' (da_cons (de_var 0) (da_cons (de_op ok_add (de_op ok_add (de_var 3) (de_var 1)) de_int) da_nil))) da_nil))) (blkOk_by (by rfl)) (fun _ _ _ _ _ => (dg_name 7 nd)) (fun _ _ _ _ _ => (dts_one (dt_cmp (ok_notin ok.blk.u64 ok.blk.u65) (de_var 7) (de_var 5)))) (fun _ _ _ _ _ => (de_var 7)))
      (dss_cons (O1 := []) (ds_set (O1 := []) (O' := []) 6 nd (de_if (dt_w (dw_and (dt_cmp (ok_ne ok.u64) (de_var 6) (de_new (df_lst da_nil))) (dw_and1 (dt_cmp (ok_eq ok.u64) (de_at ok.u64 (de_var 6) de_int) (de_op ok_sub (de_var 3) (de_var 1)))))) (de_new (df_lst (da_cons (de_at ok.u64 (de_var 6) de_int) da_nil))) (de_var 6)))
      (dss_one (ds_set (O1 := []) (O' := []) 4 nd (de_op ok_add (de_var 4) (de_new (df_lc (own := [("k", 7)]) rfl nd (di_seq (de_var 6)) (blkOk_by (by rfl)) (fun _ _ _ _ _ => (dg_name 7 nd)) (fun _ _ _ _ _ => dts_nil) (fun _ _ _ _ _ => (de_op ok_add (de_var 5) (de_tup (da_cons (de_var 7) da_nil))))))))))))
      (dss_one (ds_set (O1 := []) (O' := []) 2 nd (de_var 4))))))
      (dss_one (ds_ret (O1 := []) (de_var 2)))))
theorem s__law_right : FnScope ["urn", "turn", "many", "rows", "at", "most"] ["urn"] (defScope (top 26)) := ⟨rfl, rfl, rfl, by decide +kernel, rfl, by decide +kernel, by decide +kernel⟩
theorem w__law_right (W : Wd K mg) : FnG P w K mg base 6 W.f__law_right W.q__law_right ["urn"] (spD K T 1 d__law_right) := by
  have nd := s__law_right.nd
  exact fnG_data (O := []) W.F__law_right s__law_right fun cdv A outer s H E ok => (dss_cons (O1 := []) (ds_forK (O1 := []) (O := []) (O2 := []) (xs := [1]) psB rfl (dik_rng1 W.n_range (da_cons de_int da_nil)) (dg_name 1 nd) (dss_cons (O1 := []) (ds_asg (O1 := []) (O' := []) (xs := [2, 5]) (de_call (w__law_of W) ok (by decide) tkB W.g__law_of W.F__law_of.kp (b__law_of W) (da_cons (de_var 0) (da_cons (de_new (df_lst (da_cons (de_tup (da_cons de_int (da_cons de_int da_nil))) (da_cons (de_tup (da_cons de_int (da_cons de_int da_nil))) (da_cons (de_tup (da_cons de_int (da_cons de_int da_nil))) (da_cons (de_tup (da_cons de_int (da_cons de_int da_nil))) (da_cons (de_tup (da_cons de_int (da_cons de_int da_nil))) (da_cons (de_tup (da_cons de_int (da_cons de_int da_nil))) (da_cons (de_tup (da_cons de_int (da_cons de_int da_nil))) (da_cons (de_tup (da_cons de_int (da_cons de_int da_nil))) da_nil)))))))))) da_nil))) (dg_tup rfl (dgs_cons (dg_name 2 nd) (dgs_cons (dg_name 5 nd) dgs_nil))))
      (dss_cons (O1 := []) (ds_set (O1 := []) (O' := []) 2 nd (de_call (w__law_of W) ok (by decide) tkB W.g__law_of W.F__law_of.kp (b__law_of W) (da_cons (de_var 0) (da_cons (de_new (df_lst (da_cons (de_var 2) (da_cons (de_op ok_add de_int (de_call (w__law_take W) ok (by decide) tkB W.g__law_take W.F__law_take.kp (b__law_take W) (da_cons (de_var 0) (da_cons (de_var 2) da_nil)))) da_nil)))) da_nil))))
      (dss_cons (O1 := []) (ds_set (O1 := []) (O' := []) 3 nd (de_call (w__law_orders W) ok (by decide) tkB W.g__law_orders W.F__law_orders.kp (b__law_orders W) (da_cons (de_var 2) (da_cons (de_var 5) da_nil))))
      (dss_cons (O1 := []) (ds_if (O1 := []) (O' := []) (dt_cmp (ok_ne ok.u64) (de_callB (ok_repr ok) W.n_repr boot_repr' (da_cons (de_new (df_lst (da_cons (de_call (w_orders_number W) ok (by decide) tkB W.g_orders_number W.F_orders_number.kp (b_orders_number W) (da_cons (de_var 2) (da_cons (de_var 5) da_nil))) (da_cons (de_callK0 ["most", "many"] [1, 0] (w_orders_number W) ok (by decide) tkB W.g_orders_number W.F_orders_number.kp (kb_orders_number_0 W) rfl (dk_cons (de_var 5) (dk_cons (de_var 2) dk_nil))) da_nil)))) da_nil)) (de_callB (ok_repr ok) W.n_repr boot_repr' (da_cons (de_op ok_mul (de_new (df_lst (da_cons (de_callB ok_len W.n_len boot_len' (da_cons (de_var 3) da_nil)) da_nil))) de_int) da_nil))) (dss_one (ds_ret (O1 := []) de_bl)) dss_nil)
      (dss_one (ds_for (O := []) (O2 := []) (xs := [4]) psB rfl (di_seq (de_tup (da_cons de_int (da_cons (de_op ok_sub (de_callB ok_len W.n_len boot_len' (da_cons (de_var 3) da_nil)) de_int) (da_cons (de_call (w__law_take W) ok (by decide) tkB W.g__law_take W.F__law_take.kp (b__law_take W) (da_cons (de_var 0) (da_cons (de_callB ok_len W.n_len boot_len' (da_cons (de_var 3) da_nil)) da_nil))) (da_cons (de_call (w__law_take W) ok (by decide) tkB W.g__law_take W.F__law_take.kp (b__law_take W) (da_cons (de_var 0) (da_cons (de_callB ok_len W.n_len boot_len' (da_cons (de_var 3) da_nil)) da_nil))) da_nil)))))) (dg_name 4 nd) (dss_one (ds_if (O1 := []) (O' := []) (dt_cmp (ok_ne ok.u64) (de_callB (ok_repr ok) W.n_repr boot_repr' (da_cons (de_new (df_lst (da_cons (de_call (w_order_at W) ok (by decide) tkB W.g_order_at W.F_order_at.kp (b_order_at W) (da_cons (de_var 2) (da_cons (de_var 5) (da_cons (de_var 4) da_nil)))) (da_cons (de_callK0 ["index", "most", "many"] [2, 1, 0] (w_order_at W) ok (by decide) tkB W.g_order_at W.F_order_at.kp (kb_order_at_1 W) rfl (dk_cons (de_var 4) (dk_cons (de_var 5) (dk_cons (de_var 2) dk_nil)))) da_nil)))) da_nil)) (de_callB (ok_repr ok) W.n_repr boot_repr' (da_cons (de_op ok_mul (de_new (df_lst (da_cons (de_at ok.u64 (de_var 3) (de_var 4)) da_nil))) de_int) da_nil))) (dss_one (ds_ret (O1 := []) de_bl)) dss_nil)))))))))
      (dss_one (ds_ret (O1 := []) de_bl)))
theorem s_law : FnScope ["script", "lap"] ["script"] (defScope (top 27)) := ⟨rfl, rfl, rfl, by decide +kernel, rfl, by decide +kernel, by decide +kernel⟩
theorem w_law (W : Wd K mg) : FnG P w K mg base 7 W.f_law W.q_law ["script"] (spD K T 1 d_law) := by
  have nd := s_law.nd
  exact fnG_data (O := []) W.F_law s_law fun cdv A outer s H E ok => (dss_one (ds_ret (O1 := []) (de_callB (ok_all rfl) W.n_all boot_all' (da_cons (de_new (df_lc (own := [("lap", 1)]) rfl nd (di_rng1 W.n_range (da_cons (de_callB (ok_max rfl) W.n_max boot_max' (da_cons de_int (da_cons (de_callB (ok_min rfl) W.n_min boot_min' (da_cons (de_callB ok_len W.n_len boot_len' (da_cons (de_var 0) da_nil)) (da_cons de_int da_nil))) da_nil))) da_nil)) (blkOk_by (by rfl)) (fun _ _ _ _ _ => (dg_name 1 nd)) (fun _ _ _ _ _ => dts_nil) (fun _ _ _ _ _ => (de_well (w__law_right W) ok.blk (by decide) L2.takes0 W.g__law_right W.F__law_right.kp (b__law_right W) (df_call (w__law_urn W) ok.blk (by decide) L2.takes0 W.g__law_urn W.F__law_urn.kp (b__law_urn W) (da_cons (de_var 0) (da_cons (de_var 1) da_nil))))))) da_nil))))
end
def dD (i : Nat) (n : Str) : He.DefD := ⟨(n, none), n, n, defArgs (top i), defBody (top i), defScope (top i), [], []⟩
def fn : List He.DefD := [dD 1 "is_whole", dD 2 "is_number", dD 9 "check_number", dD 10 "check_index", dD 12 "without_one", dD 15 "next_from", dD 16 "states_by_place", dD 17 "numbers_by_state", dD 18 "check_near", dD 19 "orders_number", dD 20 "order_at", dD 22 "_law_urn", dD 23 "_law_take", dD 24 "_law_of", dD 25 "_law_orders", dD 26 "_law_right", dD 27 "law"]
def fa : List He.Fa := [.glo "is_whole", .glo "is_number", .glo "check_number", .glo "check_index", .glo "without_one", .glo "next_from", .glo "states_by_place", .glo "numbers_by_state", .glo "check_near", .glo "orders_number", .glo "order_at", .glo "_law_urn", .glo "_law_take", .glo "_law_of", .glo "_law_orders", .glo "_law_right", .glo "law", .free "abs", .free "all", .free "bool", .free "divmod", .free "int", .free "isinstance", .free "len", .free "list", .free "max", .free "min", .free "range", .free "repr", .free "sum", .free "tuple", .int "MOST_FLIGHTS" 10, .int "MOST_MOVED" 3]
def loose : List Str := ["is_whole", "is_number", "RunwayError", "InvalidNumber", "OutOfRange", "MOST_FLIGHTS", "check_number", "check_index", "without_one", "MOST_MOVED", "next_from", "states_by_place", "numbers_by_state", "check_near", "orders_number", "order_at", "_law_urn", "_law_take", "_law_of", "_law_orders", "_law_right"]
abbrev R : PySem.W.OpenRow := PySem.W.OpenLaw.row L
abbrev hk : PySem.W.Hook := He.hookX 4 fa fn [] [] (fun _ => true)
def ob (s : PySem.W.SharedT) : He.AlX := He.obsX 4 fa fn [] [] (fun _ => true) (HandSHeadRun.getT s)
theorem ob_eq (s : PySem.W.SharedT) : ob s = hk.obs s.abs := He.obsX_eq (HandSHeadRun.getT_eq s)
theorem run (w : World) : HandSHeadRun.RunEq R (PySem.W.view R.prog [27]) hk ob 3000 loose w := by
  intro os
  kernel_rfl
theorem facts {K : PySem.W.Frag} {h : Heap} {mg : Str → Option Value} (X : K.In h) (G : h.Ns mainGlobals mg) (c : He.SaysD fa fn K) : Nonempty (Wd K mg) := by
  obtain ⟨q0, F0⟩ := c.def_ 0 (d := dD 1 "is_whole") rfl
  obtain ⟨q1, F1⟩ := c.def_ 1 (d := dD 2 "is_number") rfl
  obtain ⟨q2, F2⟩ := c.def_ 2 (d := dD 9 "check_number") rfl
  obtain ⟨q3, F3⟩ := c.def_ 3 (d := dD 10 "check_index") rfl
  obtain ⟨q4, F4⟩ := c.def_ 4 (d := dD 12 "without_one") rfl
  obtain ⟨q5, F5⟩ := c.def_ 5 (d := dD 15 "next_from") rfl
  obtain ⟨q6, F6⟩ := c.def_ 6 (d := dD 16 "states_by_place") rfl
  obtain ⟨q7, F7⟩ := c.def_ 7 (d := dD 17 "numbers_by_state") rfl
  obtain ⟨q8, F8⟩ := c.def_ 8 (d := dD 18 "check_near") rfl
  obtain ⟨q9, F9⟩ := c.def_ 9 (d := dD 19 "orders_number") rfl
  obtain ⟨q10, F10⟩ := c.def_ 10 (d := dD 20 "order_at") rfl
  obtain ⟨q11, F11⟩ := c.def_ 11 (d := dD 22 "_law_urn") rfl
  obtain ⟨q12, F12⟩ := c.def_ 12 (d := dD 23 "_law_take") rfl
  obtain ⟨q13, F13⟩ := c.def_ 13 (d := dD 24 "_law_of") rfl
  obtain ⟨q14, F14⟩ := c.def_ 14 (d := dD 25 "_law_orders") rfl
  obtain ⟨q15, F15⟩ := c.def_ 15 (d := dD 26 "_law_right") rfl
  obtain ⟨q16, F16⟩ := c.def_ 16 (d := dD 27 "law") rfl
  exact ⟨{
    f_is_whole := He.fAd K ("is_whole", none), q_is_whole := q0, F_is_whole := F0, g_is_whole := He.glo_ok X G (c.fact 0 (f := .glo "is_whole") rfl)
    f_is_number := He.fAd K ("is_number", none), q_is_number := q1, F_is_number := F1, g_is_number := He.glo_ok X G (c.fact 1 (f := .glo "is_number") rfl)
    f_check_number := He.fAd K ("check_number", none), q_check_number := q2, F_check_number := F2, g_check_number := He.glo_ok X G (c.fact 2 (f := .glo "check_number") rfl)
    f_check_index := He.fAd K ("check_index", none), q_check_index := q3, F_check_index := F3, g_check_index := He.glo_ok X G (c.fact 3 (f := .glo "check_index") rfl)
    f_without_one := He.fAd K ("without_one", none), q_without_one := q4, F_without_one := F4, g_without_one := He.glo_ok X G (c.fact 4 (f := .glo "without_one") rfl)
    f_next_from := He.fAd K ("next_from", none), q_next_from := q5, F_next_from := F5, g_next_from := He.glo_ok X G (c.fact 5 (f := .glo "next_from") rfl)
    f_states_by_place := He.fAd K ("states_by_place", none), q_states_by_place := q6, F_states_by_place := F6, g_states_by_place := He.glo_ok X G (c.fact 6 (f := .glo "states_by_place") rfl)
    f_numbers_by_state := He.fAd K ("numbers_by_state", none), q_numbers_by_state := q7, F_numbers_by_state := F7, g_numbers_by_state := He.glo_ok X G (c.fact 7 (f := .glo "numbers_by_state") rfl)
    f_check_near := He.fAd K ("check_near", none), q_check_near := q8, F_check_near := F8, g_check_near := He.glo_ok X G (c.fact 8 (f := .glo "check_near") rfl)
    f_orders_number := He.fAd K ("orders_number", none), q_orders_number := q9, F_orders_number := F9, g_orders_number := He.glo_ok X G (c.fact 9 (f := .glo "orders_number") rfl)
    f_order_at := He.fAd K ("order_at", none), q_order_at := q10, F_order_at := F10, g_order_at := He.glo_ok X G (c.fact 10 (f := .glo "order_at") rfl)
    f__law_urn := He.fAd K ("_law_urn", none), q__law_urn := q11, F__law_urn := F11, g__law_urn := He.glo_ok X G (c.fact 11 (f := .glo "_law_urn") rfl)
    f__law_take := He.fAd K ("_law_take", none), q__law_take := q12, F__law_take := F12, g__law_take := He.glo_ok X G (c.fact 12 (f := .glo "_law_take") rfl)
    f__law_of := He.fAd K ("_law_of", none), q__law_of := q13, F__law_of := F13, g__law_of := He.glo_ok X G (c.fact 13 (f := .glo "_law_of") rfl)
    f__law_orders := He.fAd K ("_law_orders", none), q__law_orders := q14, F__law_orders := F14, g__law_orders := He.glo_ok X G (c.fact 14 (f := .glo "_law_orders") rfl)
    f__law_right := He.fAd K ("_law_right", none), q__law_right := q15, F__law_right := F15, g__law_right := He.glo_ok X G (c.fact 15 (f := .glo "_law_right") rfl)
    f_law := He.fAd K ("law", none), q_law := q16, F_law := F16, g_law := He.glo_ok X G (c.fact 16 (f := .glo "law") rfl)
    n_abs := He.free_ok X G (c.fact 17 (f := .free "abs") rfl)
    n_all := He.free_ok X G (c.fact 18 (f := .free "all") rfl)
    n_bool := He.free_ok X G (c.fact 19 (f := .free "bool") rfl)
    n_divmod := He.free_ok X G (c.fact 20 (f := .free "divmod") rfl)
    n_int := He.free_ok X G (c.fact 21 (f := .free "int") rfl)
    n_isinstance := He.free_ok X G (c.fact 22 (f := .free "isinstance") rfl)
    n_len := He.free_ok X G (c.fact 23 (f := .free "len") rfl)
    n_list := He.free_ok X G (c.fact 24 (f := .free "list") rfl)
    n_max := He.free_ok X G (c.fact 25 (f := .free "max") rfl)
    n_min := He.free_ok X G (c.fact 26 (f := .free "min") rfl)
    n_range := He.free_ok X G (c.fact 27 (f := .free "range") rfl)
    n_repr := He.free_ok X G (c.fact 28 (f := .free "repr") rfl)
    n_sum := He.free_ok X G (c.fact 29 (f := .free "sum") rfl)
    n_tuple := He.free_ok X G (c.fact 30 (f := .free "tuple") rfl)
    c_MOST_FLIGHTS := He.int_ok X G (c.fact 31 (f := .int "MOST_FLIGHTS" 10) rfl)
    c_MOST_MOVED := He.int_ok X G (c.fact 32 (f := .int "MOST_MOVED" 3) rfl)
  }⟩
end K65

namespace K65
open PySem PySem.Spec PyProof.Rows L2 Q
def rowsOf (many most : Int) : List D := match d__law_orders [.int many, .int most] [] with
  | .ok (.lst xs) _ => xs
  | _ => []
structure PairP (w : Wl) (m k : Int) : Prop where
  rows : d__law_orders [.int m, .int k] w = .ok (.lst (rowsOf m k)) w
  num : d_orders_number [.int m, .int k] w = .ok (.int ((rowsOf m k).length : Nat)) w
  at_ : (List.range (rowsOf m k).length).map (fun i => d_order_at [.int m, .int k, .int (i : Nat)] w) = (rowsOf m k).map (fun r => Out.ok r w)
def rowOk (r : D) : Bool := repOk (.lst [r, r])
def pairB (m k : Int) : Bool := decide (0 < (rowsOf m k).length) && (decide ((rowsOf m k).length < 1000) && (repOk (.lst [.int ((rowsOf m k).length : Nat), .int ((rowsOf m k).length : Nat)]) && (rowsOf m k).all rowOk))
theorem p_1_3 (w : Wl) : PairP w 1 3 := ⟨by kernel_rfl, by kernel_rfl, by kernel_rfl⟩
theorem b_1_3 : pairB 1 3 = true := by kernel_rfl
theorem p_2_3 (w : Wl) : PairP w 2 3 := ⟨by kernel_rfl, by kernel_rfl, by kernel_rfl⟩
theorem b_2_3 : pairB 2 3 = true := by kernel_rfl
theorem p_3_3 (w : Wl) : PairP w 3 3 := ⟨by kernel_rfl, by kernel_rfl, by kernel_rfl⟩
theorem b_3_3 : pairB 3 3 = true := by kernel_rfl
theorem p_4_3 (w : Wl) : PairP w 4 3 := ⟨by kernel_rfl, by kernel_rfl, by kernel_rfl⟩
theorem b_4_3 : pairB 4 3 = true := by kernel_rfl
theorem p_5_3 (w : Wl) : PairP w 5 3 := ⟨by kernel_rfl, by kernel_rfl, by kernel_rfl⟩
theorem b_5_3 : pairB 5 3 = true := by kernel_rfl
theorem p_6_3 (w : Wl) : PairP w 6 3 := ⟨by kernel_rfl, by kernel_rfl, by kernel_rfl⟩
theorem b_6_3 : pairB 6 3 = true := by kernel_rfl
theorem p_1_2 (w : Wl) : PairP w 1 2 := ⟨by kernel_rfl, by kernel_rfl, by kernel_rfl⟩
theorem b_1_2 : pairB 1 2 = true := by kernel_rfl
theorem p_2_2 (w : Wl) : PairP w 2 2 := ⟨by kernel_rfl, by kernel_rfl, by kernel_rfl⟩
theorem b_2_2 : pairB 2 2 = true := by kernel_rfl
theorem p_3_2 (w : Wl) : PairP w 3 2 := ⟨by kernel_rfl, by kernel_rfl, by kernel_rfl⟩
theorem b_3_2 : pairB 3 2 = true := by kernel_rfl
theorem p_4_2 (w : Wl) : PairP w 4 2 := ⟨by kernel_rfl, by kernel_rfl, by kernel_rfl⟩
theorem b_4_2 : pairB 4 2 = true := by kernel_rfl
theorem p_5_2 (w : Wl) : PairP w 5 2 := ⟨by kernel_rfl, by kernel_rfl, by kernel_rfl⟩
theorem b_5_2 : pairB 5 2 = true := by kernel_rfl
theorem p_6_2 (w : Wl) : PairP w 6 2 := ⟨by kernel_rfl, by kernel_rfl, by kernel_rfl⟩
theorem b_6_2 : pairB 6 2 = true := by kernel_rfl
theorem p_7_2 (w : Wl) : PairP w 7 2 := ⟨by kernel_rfl, by kernel_rfl, by kernel_rfl⟩
theorem b_7_2 : pairB 7 2 = true := by kernel_rfl
theorem p_1_1 (w : Wl) : PairP w 1 1 := ⟨by kernel_rfl, by kernel_rfl, by kernel_rfl⟩
theorem b_1_1 : pairB 1 1 = true := by kernel_rfl
theorem p_2_1 (w : Wl) : PairP w 2 1 := ⟨by kernel_rfl, by kernel_rfl, by kernel_rfl⟩
theorem b_2_1 : pairB 2 1 = true := by kernel_rfl
theorem p_3_1 (w : Wl) : PairP w 3 1 := ⟨by kernel_rfl, by kernel_rfl, by kernel_rfl⟩
theorem b_3_1 : pairB 3 1 = true := by kernel_rfl
theorem p_4_1 (w : Wl) : PairP w 4 1 := ⟨by kernel_rfl, by kernel_rfl, by kernel_rfl⟩
theorem b_4_1 : pairB 4 1 = true := by kernel_rfl
theorem p_5_1 (w : Wl) : PairP w 5 1 := ⟨by kernel_rfl, by kernel_rfl, by kernel_rfl⟩
theorem b_5_1 : pairB 5 1 = true := by kernel_rfl
theorem p_6_1 (w : Wl) : PairP w 6 1 := ⟨by kernel_rfl, by kernel_rfl, by kernel_rfl⟩
theorem b_6_1 : pairB 6 1 = true := by kernel_rfl
theorem p_7_1 (w : Wl) : PairP w 7 1 := ⟨by kernel_rfl, by kernel_rfl, by kernel_rfl⟩
theorem b_7_1 : pairB 7 1 = true := by kernel_rfl
theorem p_8_1 (w : Wl) : PairP w 8 1 := ⟨by kernel_rfl, by kernel_rfl, by kernel_rfl⟩
theorem b_8_1 : pairB 8 1 = true := by kernel_rfl
theorem p_9_1 (w : Wl) : PairP w 9 1 := ⟨by kernel_rfl, by kernel_rfl, by kernel_rfl⟩
theorem b_9_1 : pairB 9 1 = true := by kernel_rfl
theorem p_10_1 (w : Wl) : PairP w 10 1 := ⟨by kernel_rfl, by kernel_rfl, by kernel_rfl⟩
theorem b_10_1 : pairB 10 1 = true := by kernel_rfl
theorem p_1_0 (w : Wl) : PairP w 1 0 := ⟨by kernel_rfl, by kernel_rfl, by kernel_rfl⟩
theorem b_1_0 : pairB 1 0 = true := by kernel_rfl
theorem p_2_0 (w : Wl) : PairP w 2 0 := ⟨by kernel_rfl, by kernel_rfl, by kernel_rfl⟩
theorem b_2_0 : pairB 2 0 = true := by kernel_rfl
theorem p_3_0 (w : Wl) : PairP w 3 0 := ⟨by kernel_rfl, by kernel_rfl, by kernel_rfl⟩
theorem b_3_0 : pairB 3 0 = true := by kernel_rfl
end K65

namespace K65
open PySem PySem.Spec PyProof.Rows L2 Q
theorem take_eq : d__law_take = takeF := rfl
theorem of_eq : d__law_of = ofF := rfl
theorem urn_eq : d__law_urn = urnF 654019 := rfl
theorem law_eq : d_law = lawF d__law_urn d__law_right 3 := rfl
def turnB : Q.Env → M Fl := (seqS (asgS (argN 2 d__law_of (consA (vE 0) (consA (lstE (consA (tupE (consA (iE 1) (consA (iE 3) nilA))) (consA (tupE (consA (iE 4) (consA (iE 3) nilA))) (consA (tupE (consA (iE 6) (consA (iE 2) nilA))) (consA (tupE (consA (iE 10) (consA (iE 1) nilA))) (consA (tupE (consA (iE 6) (consA (iE 3) nilA))) (consA (tupE (consA (iE 7) (consA (iE 2) nilA))) (consA (tupE (consA (iE 3) (consA (iE 0) nilA))) (consA (tupE (consA (iE 5) (consA (iE 2) nilA))) nilA))))))))) nilA))) (gTup 2 (gCons (gNm 2) (gCons (gNm 5) gNil))))
  (seqS (setS 2 (argN 2 d__law_of (consA (vE 0) (consA (lstE (consA (vE 2) (consA (bin2 addD (iE 1) (argN 2 d__law_take (consA (vE 0) (consA (vE 2) nilA)))) nilA))) nilA))))
  (seqS (setS 3 (argN 2 d__law_orders (consA (vE 2) (consA (vE 5) nilA))))
  (seqS (ifS' (tst (bin2 neD (argE reprD (consA (lstE (consA (argN 2 d_orders_number (consA (vE 2) (consA (vE 5) nilA))) (consA (argK 0 2 [1, 0] d_orders_number nilA (consA (vE 5) (consA (vE 2) nilA))) nilA))) nilA)) (argE reprD (consA (bin2 mulD (lstE (consA (argE lenD (consA (vE 3) nilA)) nilA)) (iE 2)) nilA)))) (retS (bE false)) nilS)
  (forS (itE (tupE (consA (iE 0) (consA (bin2 subD (argE lenD (consA (vE 3) nilA)) (iE 1)) (consA (argN 2 d__law_take (consA (vE 0) (consA (argE lenD (consA (vE 3) nilA)) nilA))) (consA (argN 2 d__law_take (consA (vE 0) (consA (argE lenD (consA (vE 3) nilA)) nilA))) nilA)))))) (gNm 4) (ifS' (tst (bin2 neD (argE reprD (consA (lstE (consA (argN 3 d_order_at (consA (vE 2) (consA (vE 5) (consA (vE 4) nilA)))) (consA (argK 0 3 [2, 1, 0] d_order_at nilA (consA (vE 4) (consA (vE 5) (consA (vE 2) nilA)))) nilA))) nilA)) (argE reprD (consA (bin2 mulD (lstE (consA (bin2 ixX (vE 3) (vE 4)) nilA)) (iE 2)) nilA)))) (retS (bE false)) nilS))))))
theorem right_eq : d__law_right = fnM 6 (seqS (forS (argE rng1D (consA (iE 3) nilA)) (gNm 1) turnB)
  (retS (bE true))) := rfl
def PairIn (m k : Int) : Prop := (k = 3 ∧ 1 ≤ m ∧ m ≤ 6) ∨ (k = 2 ∧ 1 ≤ m ∧ m ≤ 7) ∨ (k = 1 ∧ 1 ≤ m ∧ m ≤ 10) ∨ (k = 0 ∧ 1 ≤ m ∧ m ≤ 3)
theorem pair_all {m k : Int} (h : PairIn m k) : (∀ w, PairP w m k) ∧ pairB m k = true := by
  rcases h with ⟨rfl, h1, h2⟩ | ⟨rfl, h1, h2⟩ | ⟨rfl, h1, h2⟩ | ⟨rfl, h1, h2⟩
  · have : m = 1 ∨ m = 2 ∨ m = 3 ∨ m = 4 ∨ m = 5 ∨ m = 6 := by omega
    rcases this with rfl | rfl | rfl | rfl | rfl | rfl
    · exact ⟨p_1_3, b_1_3⟩
    · exact ⟨p_2_3, b_2_3⟩
    · exact ⟨p_3_3, b_3_3⟩
    · exact ⟨p_4_3, b_4_3⟩
    · exact ⟨p_5_3, b_5_3⟩
    · exact ⟨p_6_3, b_6_3⟩
  · have : m = 1 ∨ m = 2 ∨ m = 3 ∨ m = 4 ∨ m = 5 ∨ m = 6 ∨ m = 7 := by omega
    rcases this with rfl | rfl | rfl | rfl | rfl | rfl | rfl
    · exact ⟨p_1_2, b_1_2⟩
    · exact ⟨p_2_2, b_2_2⟩
    · exact ⟨p_3_2, b_3_2⟩
    · exact ⟨p_4_2, b_4_2⟩
    · exact ⟨p_5_2, b_5_2⟩
    · exact ⟨p_6_2, b_6_2⟩
    · exact ⟨p_7_2, b_7_2⟩
  · have : m = 1 ∨ m = 2 ∨ m = 3 ∨ m = 4 ∨ m = 5 ∨ m = 6 ∨ m = 7 ∨ m = 8 ∨ m = 9 ∨ m = 10 := by omega
    rcases this with rfl | rfl | rfl | rfl | rfl | rfl | rfl | rfl | rfl | rfl
    · exact ⟨p_1_1, b_1_1⟩
    · exact ⟨p_2_1, b_2_1⟩
    · exact ⟨p_3_1, b_3_1⟩
    · exact ⟨p_4_1, b_4_1⟩
    · exact ⟨p_5_1, b_5_1⟩
    · exact ⟨p_6_1, b_6_1⟩
    · exact ⟨p_7_1, b_7_1⟩
    · exact ⟨p_8_1, b_8_1⟩
    · exact ⟨p_9_1, b_9_1⟩
    · exact ⟨p_10_1, b_10_1⟩
  · have : m = 1 ∨ m = 2 ∨ m = 3 := by omega
    rcases this with rfl | rfl | rfl
    · exact ⟨p_1_0, b_1_0⟩
    · exact ⟨p_2_0, b_2_0⟩
    · exact ⟨p_3_0, b_3_0⟩
@[simp] theorem ev_vE {i : Nat} {ρ : Q.Env} : vE i ρ = getV ρ i := rfl
def tops : List D := [D.tup [D.int 1, D.int 3], D.tup [D.int 4, D.int 3], D.tup [D.int 6, D.int 2], D.tup [D.int 10, D.int 1], D.tup [D.int 6, D.int 3], D.tup [D.int 7, D.int 2], D.tup [D.int 3, D.int 0], D.tup [D.int 5, D.int 2]]
theorem tops_ok {a : D} (h : a ∈ tops) : ∃ m k : Int, a = .tup [.int m, .int k] ∧ 0 < m ∧ m < 100 ∧ ∀ n : Int, 1 ≤ n → n ≤ m → PairIn n k := by
  simp only [tops, List.mem_cons, List.not_mem_nil, or_false] at h
  rcases h with rfl | rfl | rfl | rfl | rfl | rfl | rfl | rfl
  · exact ⟨1, 3, rfl, by omega, by omega, fun n h1 h2 => .inl ⟨rfl, by omega, by omega⟩⟩
  · exact ⟨4, 3, rfl, by omega, by omega, fun n h1 h2 => .inl ⟨rfl, by omega, by omega⟩⟩
  · exact ⟨6, 2, rfl, by omega, by omega, fun n h1 h2 => .inr (.inl ⟨rfl, by omega, by omega⟩)⟩
  · exact ⟨10, 1, rfl, by omega, by omega, fun n h1 h2 => .inr (.inr (.inl ⟨rfl, by omega, by omega⟩))⟩
  · exact ⟨6, 3, rfl, by omega, by omega, fun n h1 h2 => .inl ⟨rfl, by omega, by omega⟩⟩
  · exact ⟨7, 2, rfl, by omega, by omega, fun n h1 h2 => .inr (.inl ⟨rfl, by omega, by omega⟩)⟩
  · exact ⟨3, 0, rfl, by omega, by omega, fun n h1 h2 => .inr (.inr (.inr ⟨rfl, by omega, by omega⟩))⟩
  · exact ⟨5, 2, rfl, by omega, by omega, fun n h1 h2 => .inr (.inl ⟨rfl, by omega, by omega⟩)⟩
theorem at_run {m k : Int} (h : PairIn m k) (w : Wl) {r : Int} (h0 : 0 ≤ r) (h1 : r < (rowsOf m k).length) : d_order_at [.int m, .int k, .int r] w = .ok ((rowsOf m k)[r.toNat]'(by omega)) w := by
  have e := ((pair_all h).1 w).at_
  have lt : r.toNat < (rowsOf m k).length := by omega
  have q := congrArg (fun l => l[r.toNat]?) e
  simp only [List.getElem?_map, List.getElem?_range lt, List.getElem?_eq_getElem lt, Option.map_some, Option.some.injEq] at q
  rw [← q]
  have : ((r.toNat : Nat) : Int) = r := by omega
  rw [this]
theorem run_of {α : Type} {m : M α} {w w1 : Wl} {a : α} {P : α → Wl → Prop} (e : m w = .ok a w1) (h : P a w1) : Run m w P := ⟨a, w1, e, h⟩
def inB : Q.Env → M Fl := ifS'
          (tst
            (bin2 neD
              (argE reprD
                (consA
                  (lstE
                    (consA (argN 3 d_order_at (consA (vE 2) (consA (vE 5) (consA (vE 4) nilA))))
                      (consA (argK 0 3 [2, 1, 0] d_order_at nilA (consA (vE 4) (consA (vE 5) (consA (vE 2) nilA))))
                        nilA)))
                  nilA))
              (argE reprD (consA (bin2 mulD (lstE (consA (bin2 ixX (vE 3) (vE 4)) nilA)) (iE 2)) nilA))))
          (retS (bE false)) nilS
theorem inner_ok {n k : Int} (h : PairIn n k) (hb : (rowsOf n k).all rowOk = true) (x1 : Option D) (w : Wl) : ∀ (is : List Int) (x4 : Option D), (∀ i ∈ is, 0 ≤ i ∧ i < (rowsOf n k).length) → ∃ x, forL (gNm 4) inB (is.map D.int) [some D.well, x1, some (D.int n), some (D.lst (rowsOf n k)), x4, some (D.int k)] w = .ok (.nx [some D.well, x1, some (D.int n), some (D.lst (rowsOf n k)), x, some (D.int k)]) w
  | [], x4, _ => ⟨x4, rfl⟩
  | i :: is, x4, hi => by
    obtain ⟨h0, h1⟩ := hi i List.mem_cons_self
    obtain ⟨x, e⟩ := inner_ok h hb x1 w is (some (.int i)) fun j hj => hi j (List.mem_cons_of_mem _ hj)
    refine ⟨x, ?_⟩
    have ea : d_order_at [.int n, .int k, .int i] = M.pure ((rowsOf n k)[i.toNat]'(by omega)) := funext fun w => at_run h w h0 h1
    have ex : ixX (.lst (rowsOf n k)) (.int i) = M.pure ((rowsOf n k)[i.toNat]'(by omega)) := ev_ixL h0 h1
    have er : repOk (.lst [(rowsOf n k)[i.toNat]'(by omega), (rowsOf n k)[i.toNat]'(by omega)]) = true := List.all_eq_true.mp hb _ (List.getElem_mem _)
    have p1 : permL [2, 1, 0] [D.int i, D.int k, D.int n] = [D.int n, D.int k, D.int i] := rfl
    have one : inB [some D.well, x1, some (D.int n), some (D.lst (rowsOf n k)), some (.int i), some (D.int k)] = M.pure (.nx [some D.well, x1, some (D.int n), some (D.lst (rowsOf n k)), some (.int i), some (D.int k)]) := by
      unfold inB
      simp [ea, ex, er, p1, ev_rep2, ev_mkLst]
    rw [List.map_cons, ev_forCons]
    have z : noX (gNm 4 (D.int i) [some D.well, x1, some (D.int n), some (D.lst (rowsOf n k)), x4, some (D.int k)]) = M.pure [some D.well, x1, some (D.int n), some (D.lst (rowsOf n k)), some (.int i), some (D.int k)] := rfl
    rw [z, ev_pure_bind, one, ev_pure_bind]
    exact e
theorem turn_ok (x1 x2 x3 x4 x5 : Option D) (w : Wl) (hw : Good w) : Run (turnB [some .well, x1, x2, x3, x4, x5]) w fun r w' => Good w' ∧ ∃ y1 y2 y3 y4 y5, r = .nx [some .well, y1, y2, y3, y4, y5] := by
  unfold turnB
  simp only [of_eq, take_eq]
  simp [ev_mkTup, ev_mkLst]
  refine Run.bind (ofF_ok hw (by simp) (by simp)) fun a w1 ⟨ha, hw1⟩ => ?_
  obtain ⟨m, k, rfl, m0, m1, hp⟩ := tops_ok ha
  simp
  refine Run.bind (takeF_ok hw1 m0 (by omega)) fun a w2 ⟨r, e, r0, r1, hw2⟩ => ?_
  subst e
  simp
  refine Run.bind (ofF_ok hw2 (by simp) (by simp)) fun a w3 ⟨ha, hw3⟩ => ?_
  have : ∃ n : Int, a = .int n ∧ 1 ≤ n ∧ n ≤ m := by
    simp only [List.mem_cons, List.not_mem_nil, or_false] at ha
    rcases ha with rfl | rfl
    · exact ⟨m, rfl, by omega, by omega⟩
    · exact ⟨1 + r, rfl, by omega, by omega⟩
  obtain ⟨n, rfl, n1, n2⟩ := this
  have hpn := hp n n1 n2
  obtain ⟨P, B⟩ := pair_all hpn
  try simp
  refine Run.bind (run_of (P := fun a w4 => a = .lst (rowsOf n k) ∧ w4 = w3) (P w3).rows ⟨rfl, rfl⟩) fun a w4 ⟨e1, e2⟩ => ?_
  subst e1 e2
  have len0 : 0 < (rowsOf n k).length ∧ (rowsOf n k).length < 1000 ∧ repOk (.lst [.int ((rowsOf n k).length : Nat), .int ((rowsOf n k).length : Nat)]) = true ∧ (rowsOf n k).all rowOk = true := by
    simpa [pairB] using B
  obtain ⟨l0, l1, rep1, rep2⟩ := len0
  have pn : (d_orders_number [.int n, .int k]) = M.pure (.int ((rowsOf n k).length : Nat)) := funext fun w => (P w).num
  have p1 : permL [1, 0] [D.int k, D.int n] = [D.int n, D.int k] := rfl
  simp [pn, p1, rep1, ev_rep2]
  have lz : ((rowsOf n k).length : Int) < 1073741824 := by omega
  refine Run.bind (takeF_ok hw3 (by omega) lz) fun a w5 ⟨r2, e, r20, r21, hw5⟩ => ?_
  subst e
  try simp
  refine Run.bind (takeF_ok hw5 (by omega) lz) fun a w6 ⟨r3, e, r30, r31, hw6⟩ => ?_
  subst e
  have it : itemsD (D.tup [D.int 0, D.int (((rowsOf n k).length : Int) - 1), D.int r2, D.int r3]) = M.pure ([0, ((rowsOf n k).length : Int) - 1, r2, r3].map D.int) := rfl
  rw [it, ev_pure_bind]
  obtain ⟨x, e⟩ := inner_ok hpn rep2 x1 w6 [0, ((rowsOf n k).length : Int) - 1, r2, r3] x4 (by
    intro i hi
    simp only [List.mem_cons, List.not_mem_nil, or_false] at hi
    rcases hi with rfl | rfl | rfl | rfl <;> omega)
  exact ⟨_, w6, e, hw6, _, _, _, _, _, rfl⟩
theorem right_ok (w : Wl) (hw : Good w) : ∃ w', d__law_right [.well] w = .ok (.bl true) w' := by
  have loop : ∀ (items : List Int) (x1 x2 x3 x4 x5 : Option D) (w : Wl), Good w → ∃ w' y1 y2 y3 y4 y5, forL (gNm 1) turnB (items.map D.int) [some .well, x1, x2, x3, x4, x5] w = .ok (.nx [some .well, y1, y2, y3, y4, y5]) w' := by
    intro items
    induction items with
    | nil => intro x1 x2 x3 x4 x5 w _; exact ⟨w, x1, x2, x3, x4, x5, rfl⟩
    | cons i items ih =>
      intro x1 x2 x3 x4 x5 w hw
      obtain ⟨r, w1, e, hw1, y1, y2, y3, y4, y5, rfl⟩ := turn_ok (some (.int i)) x2 x3 x4 x5 w hw
      obtain ⟨w', z1, z2, z3, z4, z5, e2⟩ := ih y1 y2 y3 y4 y5 w1 hw1
      refine ⟨w', z1, z2, z3, z4, z5, ?_⟩
      rw [List.map_cons, ev_forCons]
      have z : noX (gNm 1 (D.int i) [some .well, x1, x2, x3, x4, x5]) = M.pure [some .well, some (.int i), x2, x3, x4, x5] := rfl
      rw [z, ev_pure_bind]
      simp only [M.bind, e]
      exact e2
  obtain ⟨w', y1, y2, y3, y4, y5, e⟩ := loop [0, 1, 2] none none none none none w hw
  rw [right_eq]
  refine ⟨w', ?_⟩
  have e' : forL (gNm 1) turnB [D.int 0, D.int 1, D.int 2] [some .well, none, none, none, none, none] w = .ok (.nx [some .well, y1, y2, y3, y4, y5]) w' := e
  have er : rng1D [.int 3] = M.pure [D.int 0, D.int 1, D.int 2] := rng1_nat 3 (by decide)
  show endF _ = _
  simp [er, -ev_forCons]
  simp only [M.bind, e']
  rfl
theorem plain (ns : List Int) (hl : ns.length ≤ 63) (_ : ∀ z ∈ ns, Builtin.Int.intBits z ≤ 1048576) : ∃ w', d_law [.scr (ns.map D.int)] [] = .ok (.bl true) w' := by
  rw [law_eq]
  exact lawF_ok ⟨by decide, by decide⟩ ns hl (fun lap h0 => by rw [urn_eq]; exact urnF_ok 654019 ns lap h0 []) right_ok
end K65

open PySem PySem.W PySem.Calls PyProof.Rows
theorem PySem.Challenge.cw_runwayrows_k65_whole_orders_that_move_fe_holds : PySem.Challenge.rw_runwayrows_k65_whole_orders_that_move_fe.Holds := by
  w_on; o_law
  refine HandSHeadRun.head_any (r := OpenLaw.row PySem.Challenge.rw_runwayrows_k65_whole_orders_that_move_fe) (q := view (OpenLaw.row PySem.Challenge.rw_runwayrows_k65_whole_orders_that_move_fe).prog [27]) (H := K65.hk) (ob := K65.ob) (M := 3000) (loose := K65.loose) (d := HandSHeadRun.topDef (OpenLaw.row PySem.Challenge.rw_runwayrows_k65_whole_orders_that_move_fe).prog 27) (kwd := []) K65.ob_eq
    (by kernel_rfl) (fun s => by kernel_rfl) K65.run (by kernel_rfl) (by kernel_rfl) (by kernel_rfl) (by rfl) (by first | assumption | decide +kernel) (by decide +kernel) ⟨rfl, rfl, rfl, rfl, rfl, by decide +kernel⟩ ?hw ?hc
  case hw => w_witness2
  case hc =>
    refine Q.walkG (l := PySem.Challenge.rw_runwayrows_k65_whole_orders_that_move_fe) (n := 63) (k := 7) (x := "script") rfl (by decide) (by kernel_rfl) ⟨rfl, by decide, by decide⟩ ?F
    intro w mg fa h Y G hmg0
    obtain ⟨K, KX, c⟩ := Y
    have hmg : mg ("law" : PySem.Str) = some (.ref fa) := by
      have e : (HandSHeadRun.topDef (OpenLaw.row PySem.Challenge.rw_runwayrows_k65_whole_orders_that_move_fe).prog 27).name = ("law" : PySem.Str) := by kernel_rfl
      rw [← e]
      exact hmg0
    obtain ⟨W⟩ := K65.facts KX G c.t.d
    have e : W.f_law = fa := by
      have q := W.g_law
      rw [hmg] at q
      cases q; rfl
    refine ⟨K, W.q_law, [], [], K65.d_law, KX, fun p hp => (nomatch hp), fun p hp => (nomatch hp), fun p hp => (nomatch hp), fun p hp => (nomatch hp), ?_, K65.plain, fun base _ _ _ => e ▸ K65.w_law W⟩
    exact fun s v => L2.FunD.bindsA (ps := ["script"]) W.F_law (fun _ _ _ _ _ _ us hl => match us, hl with | [_], _ => rfl) s [v] rfl
