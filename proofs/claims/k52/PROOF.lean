import PyProof.Rows.All
import Wide.All
import OpenK.AllK
import Wide.FinOn
import HandS.ForMost
import HandS.RaiseMore
import HandS.Wide
import PyProof.ReprRoads
import PyProof.Rows.RuleB_pow
import KE.IntTextLaws
import HandS.More
import HandS.Finally
import HandS.Property
import HandS.Style
import HandS.FStr
import HandS.Steps
import PyProof.NeKinds
import HandS.Codes
import HandS.DictComp
import HandS.MakeKwOnly
import PyProof.ZipIter
import HandS.ExcInit
import HandS.TryMany
import HandS.ExcField
import HandS.WordsExc
import HandS.ExcIs
import HandS.FltList
import HandS.Strs
import PySem.Challenge.RW_paidinparts_k52_texts_of_sums
set_option Elab.async false
set_option linter.all false
set_option maxRecDepth 100000
set_option maxHeartbeats 4000000
namespace PV
open PySem L2

/-! ### values without addresses -/
inductive Va where
  | non | bl (b : Bool) | int (i : Int) | str (x : Str)
  | lst (l : List Va) | tup (l : List Va) | dic (l : List (Key × Va))
  | cel (n : Nat) | scr (l : List Int)
inductive Cell where
  | lst (l : List Va) | dic (l : List (Key × Va)) | ins (c : Nat) (fs : List (Str × Va))
structure Store where
  c : Nat → Option Cell
  nx : Nat
def Store.put (M : Store) (n : Nat) (x : Cell) : Store := ⟨fun m => if m = n then some x else M.c m, M.nx⟩
def Store.del (M : Store) (n : Nat) : Store := ⟨fun m => if m = n then none else M.c m, M.nx⟩
def Store.new (M : Store) (x : Cell) : Store := ⟨fun m => if m = M.nx then some x else M.c m, M.nx + 1⟩
structure Sig where
  K : PySem.W.Frag
  CA : Nat → Addr

mutual
inductive VR (G : Sig) (R : Hp) (ρ : List Addr) : Va → V → Prop
  | non : VR G R ρ .non .non
  | bl (b : Bool) : VR G R ρ (.bl b) (.bl b)
  | int (i : Int) : VR G R ρ (.int i) (.int i)
  | str (x : Str) : VR G R ρ (.str x) (.str x)
  | lst {a : Addr} {l : List Va} {vs : List V} : R a = some (.lst vs) → l.length ≤ sizeLine → VRs G R ρ l vs → VR G R ρ (.lst l) (.ref a)
  | tup {a : Addr} {l : List Va} {vs : List V} : R a = some (.tup vs) → l.length ≤ sizeLine → VRs G R ρ l vs → VR G R ρ (.tup l) (.ref a)
  | dic {a : Addr} {l : List (Key × Va)} {vs : List (Key × V)} : R a = some (.dK vs) → l.length ≤ sizeLine → VRk G R ρ l vs → VR G R ρ (.dic l) (.ref a)
  | cel {n : Nat} {a : Addr} : ρ[n]? = some a → VR G R ρ (.cel n) (.ref a)
  | scr {a : Addr} {l : List Int} : SqL G.K R a (l.map V.int) → l.length ≤ sizeLine → VR G R ρ (.scr l) (.ref a)
inductive VRs (G : Sig) (R : Hp) (ρ : List Addr) : List Va → List V → Prop
  | nil : VRs G R ρ [] []
  | cons {x : Va} {v : V} {l : List Va} {vs : List V} : VR G R ρ x v → VRs G R ρ l vs → VRs G R ρ (x :: l) (v :: vs)
inductive VRk (G : Sig) (R : Hp) (ρ : List Addr) : List (Key × Va) → List (Key × V) → Prop
  | nil : VRk G R ρ [] []
  | cons {k : Key} {x : Va} {v : V} {l : List (Key × Va)} {vs : List (Key × V)} : VR G R ρ x v → VRk G R ρ l vs → VRk G R ρ ((k, x) :: l) ((k, v) :: vs)
end
inductive VRf (G : Sig) (R : Hp) (ρ : List Addr) : List (Str × Va) → List (Str × V) → Prop
  | nil : VRf G R ρ [] []
  | cons {k : Str} {x : Va} {v : V} {l : List (Str × Va)} {vs : List (Str × V)} : VR G R ρ x v → VRf G R ρ l vs → VRf G R ρ ((k, x) :: l) ((k, v) :: vs)

def CelR (G : Sig) (R : Hp) (ρ : List Addr) (H : Hp) (a : Addr) : Cell → Prop
  | .lst l => ∃ vs, H a = some (.lst vs) ∧ l.length ≤ sizeLine ∧ VRs G R ρ l vs
  | .dic l => ∃ vs, H a = some (.dK vs) ∧ l.length ≤ sizeLine ∧ VRk G R ρ l vs
  | .ins c l => ∃ dx vs, H a = some (.ins (G.CA c) dx vs) ∧ VRf G R ρ l vs

structure Wd (G : Sig) (R : Hp) (ρ : List Addr) (M : Store) (H : Hp) : Prop where
  sub : ∀ a o, R a = some o → H a = some o
  len : ρ.length = M.nx
  cel : ∀ (n : Nat) (x : Cell), M.c n = some x → ∃ a, ρ[n]? = some a ∧ R a = none ∧ CelR G R ρ H a x
  inj : ∀ (n m : Nat) (a : Addr) (x y : Cell), M.c n = some x → M.c m = some y → ρ[n]? = some a → ρ[m]? = some a → n = m
  al : ∀ a, a ∈ ρ → H a ≠ none

structure Ext (R : Hp) (ρ : List Addr) (H : Hp) (R' : Hp) (ρ' : List Addr) (H' : Hp) : Prop where
  reg : ∀ a o, R a = some o → R' a = some o
  cls : ∃ τ, ρ' = ρ ++ τ ∧ ∀ a ∈ τ, H a = none
  keep : ∀ a o, H a = some o → a ∉ ρ → H' a = some o
  dom : ∀ a, H a ≠ none → H' a ≠ none
  nreg : ∀ a, R a = none → R' a ≠ none → H a = none ∨ a ∈ ρ

theorem Ext.refl {R : Hp} {ρ : List Addr} {H : Hp} : Ext R ρ H R ρ H := ⟨fun _ _ h => h, ⟨[], by simp, by simp⟩, fun _ _ h _ => h, fun _ h => h, fun _ h n => absurd h n⟩
theorem Ext.trans {R R1 R2 : Hp} {ρ ρ1 ρ2 : List Addr} {H H1 H2 : Hp} (a : Ext R ρ H R1 ρ1 H1) (b : Ext R1 ρ1 H1 R2 ρ2 H2) : Ext R ρ H R2 ρ2 H2 := by
  obtain ⟨τ, e1, f1⟩ := a.cls
  obtain ⟨τ', e2, f2⟩ := b.cls
  refine ⟨fun x o h => b.reg x o (a.reg x o h), ⟨τ ++ τ', by rw [e2, e1, List.append_assoc], fun x hx => ?_⟩, fun x o h n => ?_, fun x h => b.dom x (a.dom x h), fun x h n => ?_⟩
  · rcases List.mem_append.mp hx with h | h
    · exact f1 x h
    · by_cases q : H x = none
      · exact q
      · exact absurd (f2 x h) (a.dom x q)
  · refine b.keep x o (a.keep x o h n) fun hm => ?_
    rw [e1] at hm
    rcases List.mem_append.mp hm with z | z
    · exact n z
    · rw [f1 x z] at h
      cases h
  · by_cases q : R1 x = none
    · rcases b.nreg x q n with z | z
      · left
        by_cases y : H x = none
        · exact y
        · exact absurd z (a.dom x y)
      · rw [e1] at z
        rcases List.mem_append.mp z with z | z
        · exact .inr z
        · exact .inl (f1 x z)
    · exact a.nreg x h q
theorem Ext.get {R R' : Hp} {ρ ρ' : List Addr} {H H' : Hp} (e : Ext R ρ H R' ρ' H') {n : Nat} {a : Addr} (h : ρ[n]? = some a) : ρ'[n]? = some a := by
  obtain ⟨τ, q, _⟩ := e.cls
  rw [q, List.getElem?_append_left (List.getElem?_eq_some_iff.mp h).1]
  exact h

/-- what a datum leans on only grows -/
structure Gr (R : Hp) (ρ : List Addr) (R' : Hp) (ρ' : List Addr) : Prop where
  reg : ∀ a o, R a = some o → R' a = some o
  get : ∀ (n : Nat) (a : Addr), ρ[n]? = some a → ρ'[n]? = some a
theorem Ext.gr {R R' : Hp} {ρ ρ' : List Addr} {H H' : Hp} (e : Ext R ρ H R' ρ' H') : Gr R ρ R' ρ' := ⟨e.reg, fun _ _ h => e.get h⟩
theorem Gr.refl {R : Hp} {ρ : List Addr} : Gr R ρ R ρ := ⟨fun _ _ h => h, fun _ _ h => h⟩
theorem Gr.trans {R R1 R2 : Hp} {ρ ρ1 ρ2 : List Addr} (a : Gr R ρ R1 ρ1) (b : Gr R1 ρ1 R2 ρ2) : Gr R ρ R2 ρ2 := ⟨fun x o h => b.reg x o (a.reg x o h), fun n x h => b.get n x (a.get n x h)⟩
theorem sqL_mono {K : PySem.W.Frag} {R R' : Hp} (h : ∀ a o, R a = some o → R' a = some o) {a : Addr} {vs : List V} (q : SqL K R a vs) : SqL K R' a vs := by
  rcases q with (q | ⟨o, q⟩) | q
  · exact .inl (.inl (h _ _ q))
  · exact .inl (.inr ⟨o, h _ _ q⟩)
  · exact .inr q

section
variable {G : Sig} {R R' : Hp} {ρ ρ' : List Addr}
mutual
theorem VR.mono (g : Gr R ρ R' ρ') : ∀ {x : Va} {v : V}, VR G R ρ x v → VR G R' ρ' x v
  | _, _, .non => .non
  | _, _, .bl b => .bl b
  | _, _, .int i => .int i
  | _, _, .str x => .str x
  | _, _, .lst h z r => .lst (g.reg _ _ h) z (VRs.mono g r)
  | _, _, .tup h z r => .tup (g.reg _ _ h) z (VRs.mono g r)
  | _, _, .dic h z r => .dic (g.reg _ _ h) z (VRk.mono g r)
  | _, _, .cel h => .cel (g.get _ _ h)
  | _, _, .scr h z => .scr (sqL_mono g.reg h) z
theorem VRs.mono (g : Gr R ρ R' ρ') : ∀ {l : List Va} {vs : List V}, VRs G R ρ l vs → VRs G R' ρ' l vs
  | _, _, .nil => .nil
  | _, _, .cons h t => .cons (VR.mono g h) (VRs.mono g t)
theorem VRk.mono (g : Gr R ρ R' ρ') : ∀ {l : List (Key × Va)} {vs : List (Key × V)}, VRk G R ρ l vs → VRk G R' ρ' l vs
  | _, _, .nil => .nil
  | _, _, .cons h t => .cons (VR.mono g h) (VRk.mono g t)
end
theorem VRf.mono (g : Gr R ρ R' ρ') : ∀ {l : List (Str × Va)} {vs : List (Str × V)}, VRf G R ρ l vs → VRf G R' ρ' l vs
  | _, _, .nil => .nil
  | _, _, .cons h t => .cons (VR.mono g h) (VRf.mono g t)
theorem VRs.length : ∀ {l : List Va} {vs : List V}, VRs G R ρ l vs → l.length = vs.length
  | _, _, .nil => rfl
  | _, _, .cons _ t => by simp [VRs.length t]
theorem VRk.length : ∀ {l : List (Key × Va)} {vs : List (Key × V)}, VRk G R ρ l vs → l.length = vs.length
  | _, _, .nil => rfl
  | _, _, .cons _ t => by simp [VRk.length t]
theorem VRs.get : ∀ {l : List Va} {vs : List V} {i : Nat} {x : Va}, VRs G R ρ l vs → l[i]? = some x → ∃ v, vs[i]? = some v ∧ VR G R ρ x v
  | _, _, _, _, .nil, e => by simp at e
  | _, _, 0, _, .cons h _, e => by simp at e; subst e; exact ⟨_, rfl, h⟩
  | _, _, i + 1, x, .cons _ t, e => by
    obtain ⟨v, h1, h2⟩ := VRs.get (i := i) (x := x) t (by simpa using e)
    exact ⟨v, by simpa using h1, h2⟩
theorem VRs.getV : ∀ {l : List Va} {vs : List V} {i : Nat} {v : V}, VRs G R ρ l vs → vs[i]? = some v → ∃ x, l[i]? = some x ∧ VR G R ρ x v
  | _, _, _, _, .nil, e => by simp at e
  | _, _, 0, _, .cons h _, e => by simp at e; subst e; exact ⟨_, rfl, h⟩
  | _, _, i + 1, x, .cons _ t, e => by
    obtain ⟨v, h1, h2⟩ := VRs.getV (i := i) (v := x) t (by simpa using e)
    exact ⟨v, by simpa using h1, h2⟩
theorem VRs.set {x : Va} {v : V} (r : VR G R ρ x v) : ∀ {l : List Va} {vs : List V} (i : Nat), VRs G R ρ l vs → VRs G R ρ (l.set i x) (vs.set i v)
  | _, _, _, .nil => .nil
  | _, _, 0, .cons _ t => .cons r t
  | _, _, i + 1, .cons q t => .cons q (VRs.set r i t)
theorem VRs.append : ∀ {l m : List Va} {us vs : List V}, VRs G R ρ l us → VRs G R ρ m vs → VRs G R ρ (l ++ m) (us ++ vs)
  | _, _, _, _, .nil, s => s
  | _, _, _, _, .cons r t, s => .cons r (VRs.append t s)
theorem VRs.take : ∀ {l : List Va} {vs : List V} (n : Nat), VRs G R ρ l vs → VRs G R ρ (l.take n) (vs.take n)
  | _, _, 0, _ => .nil
  | _, _, _ + 1, .nil => .nil
  | _, _, n + 1, .cons r t => .cons r (VRs.take n t)
theorem VRs.drop : ∀ {l : List Va} {vs : List V} (n : Nat), VRs G R ρ l vs → VRs G R ρ (l.drop n) (vs.drop n)
  | _, _, 0, r => r
  | _, _, _ + 1, .nil => .nil
  | _, _, n + 1, .cons _ t => VRs.drop n t
theorem VRs.reverse : ∀ {l : List Va} {vs : List V}, VRs G R ρ l vs → VRs G R ρ l.reverse vs.reverse
  | _, _, .nil => .nil
  | _, _, .cons r t => by
    rw [List.reverse_cons, List.reverse_cons]
    exact VRs.append (VRs.reverse t) (.cons r .nil)
theorem VRs.eraseIdx : ∀ {l : List Va} {vs : List V} (n : Nat), VRs G R ρ l vs → VRs G R ρ (l.eraseIdx n) (vs.eraseIdx n)
  | _, _, _, .nil => .nil
  | _, _, 0, .cons _ t => t
  | _, _, n + 1, .cons r t => .cons r (VRs.eraseIdx n t)
theorem VRs.dropLast : ∀ {l : List Va} {vs : List V}, VRs G R ρ l vs → VRs G R ρ l.dropLast vs.dropLast
  | _, _, .nil => .nil
  | _, _, .cons r .nil => .nil
  | _, _, .cons r (.cons q t) => .cons r (VRs.dropLast (.cons q t))
theorem VRs.ints : ∀ (ns : List Int), VRs G R ρ (ns.map Va.int) (ns.map V.int)
  | [] => .nil
  | n :: ns => .cons (.int n) (VRs.ints ns)
end

/-! ### the slots -/
abbrev SL := List (Option Va)
structure SR (G : Sig) (R : Hp) (ρ : List Addr) (s : SL) (σ : St) : Prop where
  len : s.length = σ.length
  at_ : ∀ (i : Nat) (x : Va), s[i]? = some (some x) → ∃ v, σ[i]? = some (some v) ∧ VR G R ρ x v
theorem SR.mono {G : Sig} {R R' : Hp} {ρ ρ' : List Addr} (g : Gr R ρ R' ρ') {s : SL} {σ : St} (h : SR G R ρ s σ) : SR G R' ρ' s σ :=
  ⟨h.len, fun i x e => let ⟨v, a, b⟩ := h.at_ i x e; ⟨v, a, b.mono g⟩⟩
theorem SR.set {G : Sig} {R : Hp} {ρ : List Addr} {s : SL} {σ : St} (h : SR G R ρ s σ) (i : Nat) {x : Va} {v : V} (r : VR G R ρ x v) : SR G R ρ (s.set i (some x)) (σ.set i (some v)) := by
  refine ⟨by simp [h.len], fun j y e => ?_⟩
  by_cases hij : i = j
  · subst hij
    rw [List.getElem?_set] at e ⊢
    by_cases hl : i < s.length
    · simp [hl] at e
      subst e
      exact ⟨v, by simp [h.len ▸ hl], r⟩
    · simp [hl] at e
  · rw [List.getElem?_set_ne hij] at e ⊢
    exact h.at_ j y e
theorem SR.unset {G : Sig} {R : Hp} {ρ : List Addr} {s : SL} {σ : St} (h : SR G R ρ s σ) (i : Nat) (q : Option V) : SR G R ρ (s.set i none) (σ.set i q) := by
  refine ⟨by simp [h.len], fun j y e => ?_⟩
  by_cases hij : i = j
  · subst hij
    rw [List.getElem?_set] at e
    by_cases hl : i < s.length
    · simp [hl] at e
    · simp [hl] at e
  · rw [List.getElem?_set_ne hij] at e ⊢
    exact h.at_ j y e

/-! ### what comes out -/
inductive Out where
  | val (v : Va) | exc (c : Nat) (v : Va)
abbrev Res := Option (Out × Store)
abbrev SE := SL → Store → Res
def bindO (r : Res) (k : Va → Store → Res) : Res := match r with
  | none => none
  | some (.val v, M) => k v M
  | some (.exc c v, M) => some (.exc c v, M)
@[simp] theorem bindO_val (v : Va) (M : Store) (k : Va → Store → Res) : bindO (some (.val v, M)) k = k v M := rfl
@[simp] theorem bindO_exc (c : Nat) (v : Va) (M : Store) (k : Va → Store → Res) : bindO (some (.exc c v, M)) k = some (.exc c v, M) := rfl
@[simp] theorem bindO_none (k : Va → Store → Res) : bindO none k = none := rfl
theorem bindO_assoc (r : Res) (k k' : Va → Store → Res) : bindO (bindO r k) k' = bindO r fun v M => bindO (k v M) k' := by
  rcases r with _ | ⟨_ | _, _⟩ <;> rfl

def PostX (G : Sig) (R : Hp) (ρ : List Addr) (H : Hp) (M : Store) (E : XK) (c : Nat) (x : Va) : Prop :=
  ∀ R' ρ' H' d v, Ext R ρ H R' ρ' H' → Wd G R' ρ' M H' → H' d = some (.xd [("value", v)]) → VR G R' ρ' x v → E (.ref (G.CA c)) (some d) H'
/-- the end, for a value -/
def Gives (G : Sig) (R : Hp) (ρ : List Addr) (H : Hp) (M : Store) (x : Va) (Q : VK) : Prop :=
  ∀ R' ρ' H' v, Ext R ρ H R' ρ' H' → Wd G R' ρ' M H' → VR G R' ρ' x v → Q v H'
def Post (G : Sig) (R : Hp) (ρ : List Addr) (H : Hp) (r : Res) (Q : VK) (E : XK) : Prop := match r with
  | none => False
  | some (.val x, M) => Gives G R ρ H M x Q
  | some (.exc c x, M) => PostX G R ρ H M E c x
theorem Post.ext {G : Sig} {R R' : Hp} {ρ ρ' : List Addr} {H H' : Hp} {r : Res} {Q : VK} {E : XK} (e : Ext R ρ H R' ρ' H') (p : Post G R ρ H r Q E) : Post G R' ρ' H' r Q E := by
  rcases r with _ | ⟨x | ⟨c, x⟩, M⟩
  · exact p
  · exact fun R2 ρ2 H2 v e2 w r => p R2 ρ2 H2 v (e.trans e2) w r
  · exact fun R2 ρ2 H2 d v e2 w h r => p R2 ρ2 H2 d v (e.trans e2) w h r
theorem Gives.ext {G : Sig} {R R' : Hp} {ρ ρ' : List Addr} {H H' : Hp} {M : Store} {x : Va} {Q : VK} (e : Ext R ρ H R' ρ' H') (p : Gives G R ρ H M x Q) : Gives G R' ρ' H' M x Q :=
  fun R2 ρ2 H2 v e2 w r => p R2 ρ2 H2 v (e.trans e2) w r

/-- an expression's reading by its value -/
def tE (G : Sig) (E : XK) (ev : SE) : TE := fun σ H Q => ∃ R ρ s M, Wd G R ρ M H ∧ SR G R ρ s σ ∧ Post G R ρ H (ev s M) Q E
/-- an argument list's: the values as a tuple -/
def PostA (G : Sig) (R : Hp) (ρ : List Addr) (H : Hp) (r : Res) (Q : List V → Hp → Prop) (E : XK) : Prop := match r with
  | none => False
  | some (.val (.tup l), M) => ∀ R' ρ' H' vs, Ext R ρ H R' ρ' H' → Wd G R' ρ' M H' → VRs G R' ρ' l vs → Q vs H'
  | some (.val _, _) => False
  | some (.exc c x, M) => PostX G R ρ H M E c x
def tA (G : Sig) (E : XK) (ev : SE) : TA := fun σ H Q => ∃ R ρ s M, Wd G R ρ M H ∧ SR G R ρ s σ ∧ PostA G R ρ H (ev s M) Q E
/-- a test's: a value True or False -/
def PostT (G : Sig) (R : Hp) (ρ : List Addr) (H : Hp) (r : Res) (Q : Bool → Hp → Prop) (E : XK) : Prop := match r with
  | none => False
  | some (.val (.bl b), M) => ∀ R' ρ' H', Ext R ρ H R' ρ' H' → Wd G R' ρ' M H' → Q b H'
  | some (.val _, _) => False
  | some (.exc c x, M) => PostX G R ρ H M E c x
def tT (G : Sig) (E : XK) (ev : SE) : TT := fun σ H Q => ∃ R ρ s M, Wd G R ρ M H ∧ SR G R ρ s σ ∧ PostT G R ρ H (ev s M) Q E
theorem PostX.ext {G : Sig} {R R' : Hp} {ρ ρ' : List Addr} {H H' : Hp} {M : Store} {c : Nat} {x : Va} {E : XK} (e : Ext R ρ H R' ρ' H') (p : PostX G R ρ H M E c x) : PostX G R' ρ' H' M E c x :=
  fun R2 ρ2 H2 d v e2 w h r => p R2 ρ2 H2 d v (e.trans e2) w h r

section
variable {X : Cx} {e : Expr} {es : List Expr} {st : Stmt} {sts : List Stmt}
theorem pe_imp {t t' : TE} (h : PE X e t) (i : ∀ σ H Q, t' σ H Q → t σ H Q) : PE X e t' := ⟨fun p s σ H Q I q => h.run p s σ H Q I (i σ H Q q)⟩
theorem pt_imp {t t' : TT} (h : PT X e t) (i : ∀ σ H Q, t' σ H Q → t σ H Q) : PT X e t' := ⟨fun p s σ H Q I q => h.run p s σ H Q I (i σ H Q q)⟩
theorem pw_imp {t t' : TT} (h : PW X e t) (i : ∀ σ H Q, t' σ H Q → t σ H Q) : PW X e t' := ⟨fun w p s σ H Q I q => h.run w p s σ H Q I (i σ H Q q)⟩
theorem pa_imp {t t' : TA} (h : PA X es t) (i : ∀ σ H Q, t' σ H Q → t σ H Q) : PA X es t' := ⟨fun w p s σ H Q I q => h.run w p s σ H Q I (i σ H Q q)⟩
theorem ps_imp {t t' : TS} (h : PS X st t) (i : ∀ D σ H, t' D σ H → t D σ H) : PS X st t' := ⟨fun p s σ H D I q => h.run p s σ H D I (i D σ H q)⟩
theorem pss_imp {t t' : TS} (h : PSs X sts t) (i : ∀ D σ H, t' D σ H → t D σ H) : PSs X sts t' := ⟨fun p s σ H D I q => h.run p s σ H D I (i D σ H q)⟩
theorem pi_imp {tg : Expr} {t t' : TI} (h : PI X tg e t) (i : ∀ σ H Q, t' σ H Q → t σ H Q) : PI X tg e t' := ⟨fun p s σ H Q I q => h.run p s σ H Q I (i σ H Q q)⟩
end

section
variable {G : Sig} {E : XK} {σ : St} {H : Hp}
/-- first a, then what hangs on its value -/
theorem tE_bind {ea : SE} {k : Va → SE} {P : SE → St → Hp → Prop} {Q' : VK}
    (h : ∃ R ρ s M, Wd G R ρ M H ∧ SR G R ρ s σ ∧ ∃ r, r = bindO (ea s M) (fun v M1 => k v s M1) ∧ r ≠ none ∧
      (∀ c x M', r = some (.exc c x, M') → PostX G R ρ H M' E c x) ∧
      (∀ va M1, ea s M = some (.val va, M1) → ∀ R' ρ' H' v, Ext R ρ H R' ρ' H' → Wd G R' ρ' M1 H' → VR G R' ρ' va v → Q' v H')) : tE G E ea σ H Q' := by
  obtain ⟨R, ρ, s, M, w, sr, r, er, hn, hx, hv⟩ := h
  refine ⟨R, ρ, s, M, w, sr, ?_⟩
  rcases q : ea s M with _ | ⟨x | ⟨c, x⟩, M1⟩
  · rw [q] at er
    exact absurd er hn
  · exact fun R' ρ' H' v => hv x M1 q R' ρ' H' v
  · rw [q] at er
    exact hx c x M1 er
theorem bindE {ea : SE} {k : Va → SE} {Q Q' : VK} (h : tE G E (fun s M => bindO (ea s M) fun v M1 => k v s M1) σ H Q)
    (hk : ∀ R ρ s M H1 va v, Wd G R ρ M H1 → SR G R ρ s σ → VR G R ρ va v → Post G R ρ H1 (k va s M) Q E → Q' v H1) : tE G E ea σ H Q' := by
  obtain ⟨R, ρ, s, M, w, sr, p⟩ := h
  refine ⟨R, ρ, s, M, w, sr, ?_⟩
  show Post G R ρ H (ea s M) Q' E
  replace p : Post G R ρ H (bindO (ea s M) fun v M1 => k v s M1) Q E := p
  rcases q : ea s M with _ | ⟨x | ⟨c, x⟩, M1⟩ <;> rw [q] at p
  · exact p
  · exact fun R' ρ' H' v e w' r => hk R' ρ' s M1 H' x v w' (sr.mono e.gr) r (p.ext e)
  · exact p
theorem bindEA {ea : SE} {k : Va → SE} {Q : List V → Hp → Prop} {Q' : VK} (h : tA G E (fun s M => bindO (ea s M) fun v M1 => k v s M1) σ H Q)
    (hk : ∀ R ρ s M H1 va v, Wd G R ρ M H1 → SR G R ρ s σ → VR G R ρ va v → PostA G R ρ H1 (k va s M) Q E → Q' v H1) : tE G E ea σ H Q' := by
  obtain ⟨R, ρ, s, M, w, sr, p⟩ := h
  refine ⟨R, ρ, s, M, w, sr, ?_⟩
  show Post G R ρ H (ea s M) Q' E
  replace p : PostA G R ρ H (bindO (ea s M) fun v M1 => k v s M1) Q E := p
  rcases q : ea s M with _ | ⟨x | ⟨c, x⟩, M1⟩ <;> rw [q] at p
  · exact p
  · refine fun R' ρ' H' v e w' r => hk R' ρ' s M1 H' x v w' (sr.mono e.gr) r ?_
    rw [bindO_val] at p
    rcases z : k x s M1 with _ | ⟨y | ⟨c, y⟩, M2⟩ <;> rw [z] at p
    · exact p
    · cases y <;> first | exact p | skip
      exact fun R2 ρ2 H2 vs e2 w2 r2 => p R2 ρ2 H2 vs (e.trans e2) w2 r2
    · exact PostX.ext e p
  · exact p
end
end PV

set_option Elab.async false
set_option linter.all false
set_option maxRecDepth 100000
set_option maxHeartbeats 4000000
namespace PV
open PySem L2

section
variable {G : Sig} {R R' : Hp} {ρ ρ' : List Addr} {M : Store} {H : Hp} {p a : Addr} {o : HO}
theorem Wd.nonR (w : Wd G R ρ M H) (h : H a = none) : R a = none := by
  cases q : R a with
  | none => rfl
  | some x => rw [w.sub a x q] at h; cases h
theorem celR_mono {x : Cell} {H' : Hp} (g : Gr R ρ R' ρ') (h : CelR G R ρ H a x) (e : ∀ u, H a = some u → H' a = some u) : CelR G R' ρ' H' a x := by
  cases x with
  | lst l => obtain ⟨vs, h1, h2, h3⟩ := h; exact ⟨vs, e _ h1, h2, h3.mono g⟩
  | dic l => obtain ⟨vs, h1, h2, h3⟩ := h; exact ⟨vs, e _ h1, h2, h3.mono g⟩
  | ins c l => obtain ⟨dx, vs, h1, h3⟩ := h; exact ⟨dx, vs, e _ h1, h3.mono g⟩
theorem celR_some {x : Cell} (h : CelR G R ρ H a x) : H a ≠ none := by
  cases x with
  | lst l => obtain ⟨vs, h1, h2⟩ := h; rw [h1]; simp
  | dic l => obtain ⟨vs, h1, h2⟩ := h; rw [h1]; simp
  | ins c l => obtain ⟨dx, vs, h1, h2⟩ := h; rw [h1]; simp
/-- the heap alone grows -/
theorem Wd.heap {H' : Hp} (w : Wd G R ρ M H) (k : ∀ a o, H a = some o → H' a = some o) : Wd G R ρ M H' :=
  ⟨fun a o h => k a o (w.sub a o h), w.len, fun n x h => let ⟨a, e, r, c⟩ := w.cel n x h; ⟨a, e, r, celR_mono Gr.refl c fun u q => k _ _ q⟩, w.inj, fun a h n => by
    cases q : H a with
    | none => exact w.al a h q
    | some o => rw [k a o q] at n; cases n⟩
theorem alloc_frz (w : Wd G R ρ M H) (hp : H p = none) : Ext R ρ H (upd R p o) ρ (upd H p o) ∧ Wd G (upd R p o) ρ M (upd H p o) := by
  have kR : ∀ a u, R a = some u → upd R p o a = some u := fun a u h => by rw [upd_ne (ne_of_none (w.sub a u h) hp)]; exact h
  have kH : ∀ a u, H a = some u → upd H p o a = some u := fun a u h => by rw [upd_ne (ne_of_none h hp)]; exact h
  refine ⟨⟨kR, ⟨[], by simp, by simp⟩, fun a u h _ => kH a u h, fun a h => ?_, fun a h n => ?_⟩, ⟨fun a u h => ?_, w.len, fun n x h => ?_, w.inj, fun a h n => ?_⟩⟩
  · cases q : H a with
    | none => exact absurd q h
    | some u => rw [kH a u q]; simp
  · by_cases e : a = p
    · subst e; exact .inl hp
    · rw [upd_ne e] at n; exact absurd h n
  · by_cases e : a = p
    · subst e; rw [upd_same] at h ⊢; exact h
    · rw [upd_ne e] at h ⊢; exact w.sub a u h
  · obtain ⟨a, e, r, c⟩ := w.cel n x h
    have ne : a ≠ p := fun z => celR_some c (by rw [z]; exact hp)
    exact ⟨a, e, by rw [upd_ne ne]; exact r, celR_mono ⟨kR, fun _ _ q => q⟩ c fun u q => kH _ _ q⟩
  · cases q : H a with
    | none => exact w.al a h q
    | some o => rw [kH a o q] at n; cases n
theorem alloc_cel {x : Cell} (w : Wd G R ρ M H) (hp : H p = none) (hx : CelR G R ρ (upd H p o) p x) : Ext R ρ H R (ρ ++ [p]) (upd H p o) ∧ Wd G R (ρ ++ [p]) (M.new x) (upd H p o) ∧ (ρ ++ [p])[M.nx]? = some p := by
  have kH : ∀ a u, H a = some u → upd H p o a = some u := fun a u h => by rw [upd_ne (ne_of_none h hp)]; exact h
  have gr : Gr R ρ R (ρ ++ [p]) := ⟨fun _ _ h => h, fun n a h => by rw [List.getElem?_append_left (List.getElem?_eq_some_iff.mp h).1]; exact h⟩
  have gp : (ρ ++ [p])[M.nx]? = some p := by rw [← w.len]; simp
  have bnd : ∀ n y, M.c n = some y → ∃ b, ρ[n]? = some b ∧ b ≠ p ∧ n ≠ M.nx := fun n y h => by
    obtain ⟨b, e, r, c⟩ := w.cel n y h
    refine ⟨b, e, fun z => celR_some c (by rw [z]; exact hp), fun z => ?_⟩
    have := (List.getElem?_eq_some_iff.mp e).1
    have := w.len
    omega
  refine ⟨⟨fun _ _ h => h, ⟨[p], rfl, fun b hb => by rw [List.mem_singleton.mp hb]; exact hp⟩, fun a u h _ => kH a u h, fun a h => ?_, fun a h n => absurd h n⟩, ⟨fun a u h => kH a u (w.sub a u h), by simp [Store.new, w.len], fun n y h => ?_, fun n m b y z h1 h2 e1 e2 => ?_, fun a h n => ?_⟩, gp⟩
  · cases q : H a with
    | none => exact absurd q h
    | some u => rw [kH a u q]; simp
  · by_cases e : n = M.nx
    · subst e
      have h' : (if M.nx = M.nx then some x else M.c M.nx) = some y := h
      rw [if_pos rfl] at h'
      cases h'
      exact ⟨p, gp, w.nonR hp, celR_mono gr hx fun u q => q⟩
    · have h' : (if n = M.nx then some x else M.c n) = some y := h
      rw [if_neg e] at h'
      obtain ⟨b, e1, r, c⟩ := w.cel n y h'
      exact ⟨b, gr.get n b e1, r, celR_mono gr c fun u q => kH _ _ q⟩
  · have h1' : (if n = M.nx then some x else M.c n) = some y := h1
    have h2' : (if m = M.nx then some x else M.c m) = some z := h2
    by_cases q1 : n = M.nx <;> by_cases q2 : m = M.nx
    · rw [q1, q2]
    · rw [if_neg q2] at h2'
      obtain ⟨b', e', ne, _⟩ := bnd m z h2'
      rw [gr.get m b' e'] at e2
      cases e2
      rw [q1, gp] at e1
      cases e1
      exact absurd rfl ne
    · rw [if_neg q1] at h1'
      obtain ⟨b', e', ne, _⟩ := bnd n y h1'
      rw [gr.get n b' e'] at e1
      cases e1
      rw [q2, gp] at e2
      cases e2
      exact absurd rfl ne
    · rw [if_neg q1] at h1'
      rw [if_neg q2] at h2'
      obtain ⟨b1, e1', _⟩ := bnd n y h1'
      obtain ⟨b2, e2', _⟩ := bnd m z h2'
      rw [gr.get n b1 e1'] at e1
      rw [gr.get m b2 e2'] at e2
      cases e1
      cases e2
      exact w.inj n m b y z h1' h2' e1' e2'
  · rcases List.mem_append.mp h with h | h
    · cases q : H a with
      | none => exact w.al a h q
      | some o => rw [kH a o q] at n; cases n
    · rw [List.mem_singleton.mp h, upd_same] at n
      cases n
theorem write_cel {n : Nat} {x y : Cell} (w : Wd G R ρ M H) (hn : M.c n = some x) (ha : ρ[n]? = some a) (hy : CelR G R ρ (upd H a o) a y) : Ext R ρ H R ρ (upd H a o) ∧ Wd G R ρ (M.put n y) (upd H a o) := by
  obtain ⟨a', e', ra, ca⟩ := w.cel n x hn
  rw [ha] at e'
  cases e'
  refine ⟨⟨fun _ _ h => h, ⟨[], by simp, by simp⟩, fun b u h nb => ?_, fun b h => ?_, fun b h n => absurd h n⟩, ⟨fun b u h => ?_, w.len, fun m z h => ?_, fun m k b y' z h1 h2 e1 e2 => ?_, fun b h n => ?_⟩⟩
  · rw [upd_ne]
    · exact h
    · rintro rfl
      exact nb (List.mem_of_getElem? ha)
  · by_cases e : b = a
    · subst e; rw [upd_same]; simp
    · rw [upd_ne e]; exact h
  · rw [upd_ne]
    · exact w.sub b u h
    · rintro rfl
      rw [ra] at h
      cases h
  · have h' : (if m = n then some y else M.c m) = some z := h
    by_cases e : m = n
    · subst e
      rw [if_pos rfl] at h'
      cases h'
      exact ⟨a, ha, ra, hy⟩
    · rw [if_neg e] at h'
      obtain ⟨b, e1, r, c⟩ := w.cel m z h'
      have ne : b ≠ a := fun q => e (w.inj m n a z x h' hn (q ▸ e1) ha)
      exact ⟨b, e1, r, celR_mono Gr.refl c fun u q => by rw [upd_ne ne]; exact q⟩
  · have h1' : (if m = n then some y else M.c m) = some y' := h1
    have h2' : (if k = n then some y else M.c k) = some z := h2
    have f : ∀ j w', (if j = n then some y else M.c j) = some w' → ∃ w'', M.c j = some w'' := fun j w' q => by
      by_cases e : j = n
      · subst e; exact ⟨x, hn⟩
      · rw [if_neg e] at q; exact ⟨_, q⟩
    obtain ⟨u1, f1⟩ := f m y' h1'
    obtain ⟨u2, f2⟩ := f k z h2'
    exact w.inj m k b u1 u2 f1 f2 e1 e2
  · by_cases e : b = a
    · subst e; rw [upd_same] at n; cases n
    · rw [upd_ne e] at n; exact w.al b h n
theorem freeze_cel {n : Nat} {x : Cell} (w : Wd G R ρ M H) (hn : M.c n = some x) (ha : ρ[n]? = some a) (ho : H a = some o) : Ext R ρ H (upd R a o) ρ H ∧ Wd G (upd R a o) ρ (M.del n) H := by
  obtain ⟨a', e', ra, ca⟩ := w.cel n x hn
  rw [ha] at e'
  cases e'
  have kR : ∀ b u, R b = some u → upd R a o b = some u := fun b u h => by
    rw [upd_ne]
    · exact h
    · rintro rfl
      rw [ra] at h
      cases h
  have f : ∀ j w', (M.del n).c j = some w' → j ≠ n ∧ M.c j = some w' := fun j w' q => by
    have q' : (if j = n then Option.none else M.c j) = some w' := q
    by_cases e : j = n
    · rw [if_pos e] at q'; cases q'
    · rw [if_neg e] at q'; exact ⟨e, q'⟩
  refine ⟨⟨kR, ⟨[], by simp, by simp⟩, fun b u h _ => h, fun b h => h, fun b h n => ?_⟩, ⟨fun b u h => ?_, w.len, fun m z h => ?_, fun m k b y' z h1 h2 e1 e2 => ?_, w.al⟩⟩
  · by_cases e : b = a
    · subst e; exact .inr (List.mem_of_getElem? ha)
    · rw [upd_ne e] at n; exact absurd h n
  · by_cases e : b = a
    · subst e; rw [upd_same] at h; rw [ho]; exact h
    · rw [upd_ne e] at h; exact w.sub b u h
  · obtain ⟨nm, h'⟩ := f m z h
    obtain ⟨b, e1, r, c⟩ := w.cel m z h'
    have ne : b ≠ a := fun q => nm (w.inj m n a z x h' hn (q ▸ e1) ha)
    exact ⟨b, e1, by rw [upd_ne ne]; exact r, celR_mono ⟨kR, fun _ _ q => q⟩ c fun u q => q⟩
  · exact w.inj m k b y' z (f m y' h1).2 (f k z h2).2 e1 e2
end

/-! ### reading lists, tuples, dicts -/
def lstOf (M : Store) : Va → Option (List Va)
  | .lst l => some l
  | .scr l => some (l.map Va.int)
  | .cel n => match M.c n with
    | some (.lst l) => some l
    | _ => none
  | _ => none
/-- a list that is no script -/
def ownOf (M : Store) : Va → Option (List Va)
  | .lst l => some l
  | .cel n => match M.c n with
    | some (.lst l) => some l
    | _ => none
  | _ => none
def tupOf : Va → Option (List Va)
  | .tup l => some l
  | _ => none
def seqOf (M : Store) (x : Va) : Option (List Va) := match x with
  | .tup l => some l
  | _ => lstOf M x
def dicOf (M : Store) : Va → Option (List (Key × Va))
  | .dic l => some l
  | .cel n => match M.c n with
    | some (.dic l) => some l
    | _ => none
  | _ => none
section
variable {G : Sig} {R R' : Hp} {ρ ρ' : List Addr} {M : Store} {H : Hp} {x : Va} {v : V}
theorem own_read {l : List Va} (w : Wd G R ρ M H) (r : VR G R ρ x v) (h : ownOf M x = some l) : ∃ a vs, v = .ref a ∧ H a = some (.lst vs) ∧ VRs G R ρ l vs ∧ l.length ≤ sizeLine := by
  cases r with
  | lst e z q => cases h; exact ⟨_, _, rfl, w.sub _ _ e, q, z⟩
  | @cel n _ e =>
    replace h : (match M.c n with | some (.lst l) => some l | _ => none) = some l := h
    split at h
    · rename_i q1 q2
      cases h
      obtain ⟨a, e1, _, vs, e2, z, q⟩ := w.cel _ _ q2
      rw [e] at e1
      cases e1
      exact ⟨_, vs, rfl, e2, q, z⟩
    · cases h
  | _ => cases h
theorem lst_read {l : List Va} (w : Wd G R ρ M H) (r : VR G R ρ x v) (h : lstOf M x = some l) : ∃ a vs, v = .ref a ∧ SqL G.K H a vs ∧ VRs G R ρ l vs ∧ l.length ≤ sizeLine := by
  cases r with
  | lst e z q => cases h; exact ⟨_, _, rfl, .of (w.sub _ _ e), q, z⟩
  | cel e =>
    have h' : ownOf M (.cel _) = some l := h
    obtain ⟨a, vs, e1, e2, q, z⟩ := own_read w (.cel e) h'
    exact ⟨a, vs, e1, .of e2, q, z⟩
  | scr e z => cases h; exact ⟨_, _, rfl, sqL_mono w.sub e, VRs.ints _, by rw [List.length_map]; exact z⟩
  | _ => cases h
theorem tup_read {l : List Va} (w : Wd G R ρ M H) (r : VR G R ρ x v) (h : tupOf x = some l) : ∃ a vs, v = .ref a ∧ H a = some (.tup vs) ∧ VRs G R ρ l vs ∧ l.length ≤ sizeLine := by
  cases r with
  | tup e z q => cases h; exact ⟨_, _, rfl, w.sub _ _ e, q, z⟩
  | _ => cases h
theorem dic_read {l : List (Key × Va)} (w : Wd G R ρ M H) (r : VR G R ρ x v) (h : dicOf M x = some l) : ∃ a vs, v = .ref a ∧ H a = some (.dK vs) ∧ VRk G R ρ l vs ∧ l.length ≤ sizeLine := by
  cases r with
  | dic e z q => cases h; exact ⟨_, _, rfl, w.sub _ _ e, q, z⟩
  | @cel n _ e =>
    replace h : (match M.c n with | some (.dic l) => some l | _ => none) = some l := h
    split at h
    · rename_i q1 q2
      cases h
      obtain ⟨a, e1, _, vs, e2, z, q⟩ := w.cel _ _ q2
      rw [e] at e1
      cases e1
      exact ⟨_, vs, rfl, e2, q, z⟩
    · cases h
  | _ => cases h
/-- either -/
theorem seq_read {l : List Va} (w : Wd G R ρ M H) (r : VR G R ρ x v) (h : seqOf M x = some l) : ∃ a vs, v = .ref a ∧ (SqL G.K H a vs ∨ SqT G.K H a vs) ∧ VRs G R ρ l vs ∧ l.length ≤ sizeLine := by
  cases x with
  | tup l' =>
    obtain ⟨a, vs, e1, e2, q, z⟩ := tup_read w r h
    exact ⟨a, vs, e1, .inr (.of e2), q, z⟩
  | _ =>
    obtain ⟨a, vs, e1, e2, q, z⟩ := lst_read w r h
    exact ⟨a, vs, e1, .inl e2, q, z⟩
end

/-! ### from one part to the next -/
section
variable {G : Sig} {E : XK} {σ : St} {H : Hp} {R : Hp} {ρ : List Addr} {s : SL} {M : Store}
theorem stepE {ea : SE} {k : Va → Store → Res} {Q Q' : VK} (w : Wd G R ρ M H) (sr : SR G R ρ s σ) (p : Post G R ρ H (bindO (ea s M) k) Q E)
    (hk : ∀ R' ρ' M' H' va v, Ext R ρ H R' ρ' H' → Wd G R' ρ' M' H' → SR G R' ρ' s σ → VR G R' ρ' va v → Post G R' ρ' H' (k va M') Q E → Q' v H') : tE G E ea σ H Q' := by
  refine ⟨R, ρ, s, M, w, sr, ?_⟩
  rcases q : ea s M with _ | ⟨x | ⟨c, x⟩, M1⟩ <;> rw [q] at p
  · exact p
  · exact fun R' ρ' H' v e w' r => hk R' ρ' M1 H' x v e w' (sr.mono e.gr) r (p.ext e)
  · exact p
theorem stepA {ea : SE} {k : List Va → Store → Res} {Q : VK} {Q' : List V → Hp → Prop} (w : Wd G R ρ M H) (sr : SR G R ρ s σ)
    (p : Post G R ρ H (bindO (ea s M) fun t M1 => match t with | .tup l => k l M1 | _ => none) Q E)
    (hk : ∀ R' ρ' M' H' l vs, Ext R ρ H R' ρ' H' → Wd G R' ρ' M' H' → SR G R' ρ' s σ → VRs G R' ρ' l vs → Post G R' ρ' H' (k l M') Q E → Q' vs H') : tA G E ea σ H Q' := by
  refine ⟨R, ρ, s, M, w, sr, ?_⟩
  rcases q : ea s M with _ | ⟨x | ⟨c, x⟩, M1⟩ <;> rw [q] at p
  · exact p
  · cases x <;> first | exact p | skip
    exact fun R' ρ' H' vs e w' r => hk R' ρ' M1 H' _ vs e w' (sr.mono e.gr) r (Post.ext e p)
  · exact p
theorem stepT {ea : SE} {k : Bool → Store → Res} {Q : VK} {Q' : Bool → Hp → Prop} (w : Wd G R ρ M H) (sr : SR G R ρ s σ)
    (p : Post G R ρ H (bindO (ea s M) fun t M1 => match t with | .bl b => k b M1 | _ => none) Q E)
    (hk : ∀ R' ρ' M' H' b, Ext R ρ H R' ρ' H' → Wd G R' ρ' M' H' → SR G R' ρ' s σ → Post G R' ρ' H' (k b M') Q E → Q' b H') : tT G E ea σ H Q' := by
  refine ⟨R, ρ, s, M, w, sr, ?_⟩
  rcases q : ea s M with _ | ⟨x | ⟨c, x⟩, M1⟩ <;> rw [q] at p
  · exact p
  · cases x <;> first | exact p | skip
    exact fun R' ρ' H' e w' => hk R' ρ' M1 H' _ e w' (sr.mono e.gr) (Post.ext e p)
  · exact p
end

/-! ### the forms of expressions -/
def evVar (i : Nat) : SE := fun s M => match s[i]? with
  | some (some v) => some (.val v, M)
  | _ => none
def evC (v : Va) : SE := fun _ M => some (.val v, M)
def ev1 (g : Store → Va → Option Va) (ea : SE) : SE := fun s M => bindO (ea s M) fun va M1 => match g M1 va with
  | some r => some (.val r, M1)
  | none => none
def ev2 (g : Store → Va → Va → Option Va) (ea eb : SE) : SE := fun s M => bindO (ea s M) fun va M1 => bindO (eb s M1) fun vb M2 => match g M2 va vb with
  | some r => some (.val r, M2)
  | none => none
def evNil : SE := fun _ M => some (.val (.tup []), M)
def evCons (e r : SE) : SE := fun s M => bindO (e s M) fun v M1 => bindO (r s M1) fun t M2 => match t with
  | .tup l => some (.val (.tup (v :: l)), M2)
  | _ => none
/-- with a list of arguments -/
def evL (k : List Va → Store → Res) (ea : SE) : SE := fun s M => bindO (ea s M) fun t M1 => match t with
  | .tup l => k l M1
  | _ => none
def kTup (l : List Va) (M : Store) : Res := if l.length ≤ sizeLine then some (.val (.tup l), M) else none
def kLst (l : List Va) (M : Store) : Res := if l.length ≤ sizeLine then some (.val (.lst l), M) else none
def kNew (l : List Va) (M : Store) : Res := if l.length ≤ sizeLine then some (.val (.cel M.nx), M.new (.lst l)) else none
def kPure (g : Store → List Va → Option Va) (l : List Va) (M : Store) : Res := match g M l with
  | some r => some (.val r, M)
  | none => none
/-- a method: the object, then the arguments -/
def evM (k : Va → List Va → Store → Res) (eo ea : SE) : SE := fun s M => bindO (eo s M) fun o M1 => bindO (ea s M1) fun t M2 => match t with
  | .tup l => k o l M2
  | _ => none
def evIf (t a b : SE) : SE := fun s M => bindO (t s M) fun c M1 => match c with
  | .bl true => a s M1
  | .bl false => b s M1
  | _ => none
def evAnd (a b : SE) : SE := fun s M => bindO (a s M) fun c M1 => match c with
  | .bl true => b s M1
  | .bl false => some (.val (.bl false), M1)
  | _ => none
def evOr (a b : SE) : SE := fun s M => bindO (a s M) fun c M1 => match c with
  | .bl true => some (.val (.bl true), M1)
  | .bl false => b s M1
  | _ => none
def evNot (a : SE) : SE := fun s M => bindO (a s M) fun c M1 => match c with
  | .bl b => some (.val (.bl (!b)), M1)
  | _ => none
/-- a list cell becomes a datum -/
def frzO (r : Res) : Res := match r with
  | some (.val (.cel n), M) => match M.c n with
    | some (.lst l) => some (.val (.lst l), M.del n)
    | some (.dic l) => some (.val (.dic l), M.del n)
    | _ => some (.val (.cel n), M)
  | r => r
def evFrz (a : SE) : SE := fun s M => frzO (a s M)
/-- a chain of two comparisons -/
def evChain (g g' : Store → Va → Va → Option Va) (ea eb ec : SE) : SE := fun s M => bindO (ea s M) fun va M1 => bindO (eb s M1) fun vb M2 => match g M2 va vb with
  | some (.bl true) => bindO (ec s M2) fun vc M3 => match g' M3 vb vc with
    | some (.bl b) => some (.val (.bl b), M3)
    | _ => none
  | some (.bl false) => some (.val (.bl false), M2)
  | _ => none

/-! ### what an operation, a call, a method gives -/
def Op1 (G : Sig) (r : V → Hp → VK → Prop) (g : Store → Va → Option Va) : Prop := ∀ R ρ M H x va res (Q : VK), Wd G R ρ M H → VR G R ρ va x → g M va = some res → Gives G R ρ H M res Q → r x H Q
def Op2 (G : Sig) (r : R2) (g : Store → Va → Va → Option Va) : Prop := ∀ R ρ M H x y va vb res (Q : VK), Wd G R ρ M H → VR G R ρ va x → VR G R ρ vb y → g M va vb = some res → Gives G R ρ H M res Q → r x y H Q
def OpL (G : Sig) (r : List V → Hp → VK → Prop) (k : List Va → Store → Res) : Prop := ∀ R ρ M H xs l (Q : VK) (E : XK), Wd G R ρ M H → VRs G R ρ l xs → Post G R ρ H (k l M) Q E → r xs H Q
def OpM (G : Sig) (T : String) (r : V → List V → Hp → VK → Prop) (k : Va → List Va → Store → Res) : Prop := ∀ R ρ M H x xs o l (Q : VK) (E : XK), Wd G R ρ M H → VR G R ρ o x → VRs G R ρ l xs → Post G R ρ H (k o l M) Q E → r x xs H Q
/-- the object's type is right -/
def TyM (G : Sig) (T : String) (k : Va → List Va → Store → Res) : Prop := ∀ R ρ M H x o, Wd G R ρ M H → VR G R ρ o x → (∀ l M', k o l M' = none) ∨ tyV G.K T x H
theorem gives_now {G : Sig} {R : Hp} {ρ : List Addr} {M : Store} {H : Hp} {x : Va} {v : V} {Q : VK} (w : Wd G R ρ M H) (r : VR G R ρ x v) (g : Gives G R ρ H M x Q) : Q v H := g R ρ H v Ext.refl w r
theorem gives_tup {G : Sig} {R : Hp} {ρ : List Addr} {M : Store} {H : Hp} {l : List Va} {vs : List V} {p : Addr} {Q : VK} (w : Wd G R ρ M H) (r : VRs G R ρ l vs) (z : l.length ≤ sizeLine) (g : Gives G R ρ H M (.tup l) Q) (hp : H p = none) : Q (.ref p) (upd H p (.tup vs)) := by
  obtain ⟨e, w'⟩ := alloc_frz (o := .tup vs) w hp
  exact g _ _ _ _ e w' (.tup upd_same z (r.mono e.gr))
theorem gives_lst {G : Sig} {R : Hp} {ρ : List Addr} {M : Store} {H : Hp} {l : List Va} {vs : List V} {p : Addr} {Q : VK} (w : Wd G R ρ M H) (r : VRs G R ρ l vs) (z : l.length ≤ sizeLine) (g : Gives G R ρ H M (.lst l) Q) (hp : H p = none) : Q (.ref p) (upd H p (.lst vs)) := by
  obtain ⟨e, w'⟩ := alloc_frz (o := .lst vs) w hp
  exact g _ _ _ _ e w' (.lst upd_same z (r.mono e.gr))
theorem gives_dic {G : Sig} {R : Hp} {ρ : List Addr} {M : Store} {H : Hp} {l : List (Key × Va)} {vs : List (Key × V)} {p : Addr} {Q : VK} (w : Wd G R ρ M H) (r : VRk G R ρ l vs) (z : l.length ≤ sizeLine) (g : Gives G R ρ H M (.dic l) Q) (hp : H p = none) : Q (.ref p) (upd H p (.dK vs)) := by
  obtain ⟨e, w'⟩ := alloc_frz (o := .dK vs) w hp
  exact g _ _ _ _ e w' (.dic upd_same z (r.mono e.gr))
theorem gives_new {G : Sig} {R : Hp} {ρ : List Addr} {M : Store} {H : Hp} {l : List Va} {vs : List V} {p : Addr} {Q : VK} (w : Wd G R ρ M H) (r : VRs G R ρ l vs) (z : l.length ≤ sizeLine) (g : Gives G R ρ H (M.new (.lst l)) (.cel M.nx) Q) (hp : H p = none) : Q (.ref p) (upd H p (.lst vs)) := by
  obtain ⟨e, w', h⟩ := alloc_cel (o := .lst vs) (x := .lst l) w hp ⟨vs, upd_same, z, r⟩
  exact g _ _ _ _ e w' (.cel h)

section
variable {X : Cx} {G : Sig} {E : XK} {a b c : Expr} {es : List Expr} {ea eb ec : SE} {pos : Pos}
theorem qv (i : Nat) {x : Str} (hN : X.N[i]? = some x := by rfl) (hv : Vis X.env.scope x := by first | exact Or.inl rfl | exact Or.inr (Or.inl rfl) | exact Or.inr (Or.inr rfl)) (hd : (x == ("__debug__" : Str)) = false := by decide)
    (hcd : (x == ("__classdict__" : Str)) = false := by decide) : PE X (.Name x pos) (tE G E (evVar i)) := by
  refine pe_imp (pe_var hN hv hd hcd) fun σ H Q ⟨R, ρ, s, M, w, sr, p⟩ => ?_
  unfold evVar at p
  rcases q : s[i]? with _ | _ | v <;> rw [q] at p
  · exact False.elim p
  · exact False.elim p
  · obtain ⟨u, h1, h2⟩ := sr.at_ i v q
    exact ⟨u, h1, gives_now w h2 p⟩
theorem qc_int {i j} : PE X (.Constant (.int i) j pos) (tE G E (evC (.int i))) := pe_imp pe_int fun σ H Q ⟨R, ρ, s, M, w, sr, p⟩ => gives_now w (.int i) p
theorem qc_bl {i j} : PE X (.Constant (.bool i) j pos) (tE G E (evC (.bl i))) := pe_imp pe_bl fun σ H Q ⟨R, ρ, s, M, w, sr, p⟩ => gives_now w (.bl i) p
theorem qc_str {i j} : PE X (.Constant (.str i) j pos) (tE G E (evC (.str i))) := pe_imp pe_str fun σ H Q ⟨R, ρ, s, M, w, sr, p⟩ => gives_now w (.str i) p
theorem qc_non {j} : PE X (.Constant .none j pos) (tE G E (evC .non)) := pe_imp pe_non fun σ H Q ⟨R, ρ, s, M, w, sr, p⟩ => gives_now w .non p
/-- a module's constant: a text or an int -/
theorem qg_str {x z : Str} {t : Tok} (hg : Gl X x) (hm : X.mg x = some (.str z t)) (hd : (x == ("__debug__" : Str)) = false := by decide) : PE X (.Name x pos) (tE G E (evC (.str z))) :=
  pe_imp (pe_glob (v := .str z) hg hm ⟨t, rfl⟩ hd) fun σ H Q ⟨R, ρ, s, M, w, sr, p⟩ => gives_now w (.str z) p
theorem qg_int {x : Str} {z : Int} {t : Tok} (hg : Gl X x) (hm : X.mg x = some (.int z t)) (hd : (x == ("__debug__" : Str)) = false := by decide) : PE X (.Name x pos) (tE G E (evC (.int z))) :=
  pe_imp (pe_glob (v := .int z) hg hm ⟨t, rfl⟩ hd) fun σ H Q ⟨R, ρ, s, M, w, sr, p⟩ => gives_now w (.int z) p

theorem qg_strE {x z : Str} (hg : Gl X x) (hm : ∃ t, X.mg x = some (.str z t)) (hd : (x == ("__debug__" : Str)) = false := by decide) : PE X (.Name x pos) (tE G E (evC (.str z))) := by
  obtain ⟨t, h⟩ := hm
  exact qg_str hg h hd
theorem qg_intE {x : Str} {z : Int} (hg : Gl X x) (hm : ∃ t, X.mg x = some (.int z t)) (hd : (x == ("__debug__" : Str)) = false := by decide) : PE X (.Name x pos) (tE G E (evC (.int z))) := by
  obtain ⟨t, h⟩ := hm
  exact qg_int hg h hd
theorem two {r : R2} {g : Store → Va → Va → Option Va} (hs : Op2 G r g) {σ : St} {H : Hp} {Q : VK} (h : tE G E (ev2 g ea eb) σ H Q) : tOp r (tE G E ea) (tE G E eb) σ H Q := by
  obtain ⟨R, ρ, s, M, w, sr, p⟩ := h
  refine stepE w sr p fun R1 ρ1 M1 H1 va v e1 w1 sr1 r1 p1 => ?_
  refine stepE w1 sr1 p1 fun R2 ρ2 M2 H2 vb u e2 w2 sr2 r2 p2 => ?_
  cases q : g M2 va vb with
  | none => rw [q] at p2; exact False.elim p2
  | some res => rw [q] at p2; exact hs R2 ρ2 M2 H2 v u va vb res Q w2 (r1.mono e2.gr) r2 q p2
theorem q_op {op : Operator} {r : R2} {g : Store → Va → Va → Option Va} (ho : OpR X (binaryOp op) r) (hs : Op2 G r g) (ha : PE X a (tE G E ea)) (hb : PE X b (tE G E eb)) : PE X (.BinOp a op b pos) (tE G E (ev2 g ea eb)) :=
  pe_imp (pe_op ho ha hb) fun σ H Q h => two hs h
theorem q_cmp {op : CmpOp} {r : R2} {g : Store → Va → Va → Option Va} (ho : OpR X (compareOp op) r) (hs : Op2 G r g) (ha : PE X a (tE G E ea)) (hb : PE X b (tE G E eb)) (hm : behindInMarks op b = false) : PE X (.Compare a [op] [b] pos) (tE G E (ev2 g ea eb)) :=
  pe_imp (pe_cmpR ho ha hb hm) fun σ H Q h => two hs h
theorem q_ix {r : R2} {g : Store → Va → Va → Option Va} (ho : IxR X r) (hs : Op2 G r g) (ha : PE X a (tE G E ea)) (hb : PE X b (tE G E eb)) (hm : PlainIx b := by exact fun _ _ => rfl) : PE X (.Subscript a b pos) (tE G E (ev2 g ea eb)) :=
  pe_imp (pe_ix ho ha hb hm) fun σ H Q h => two hs h
theorem q_un {op : UnaryOp} {r : V → Hp → VK → Prop} {g : Store → Va → Option Va} (ho : UnR X (unaryOp op) r) (hs : Op1 G r g) (ha : PE X a (tE G E ea)) : PE X (.UnaryOp op a pos) (tE G E (ev1 g ea)) :=
  pe_imp (pe_un ho ha) fun σ H Q ⟨R, ρ, s, M, w, sr, p⟩ => stepE w sr p fun R1 ρ1 M1 H1 va v e1 w1 sr1 r1 p1 => by
    cases q : g M1 va with
    | none => rw [q] at p1; exact False.elim p1
    | some res => rw [q] at p1; exact hs R1 ρ1 M1 H1 v va res Q w1 r1 q p1

/-! #### arguments, displays -/
theorem qa_nil : PA X [] (tA G E evNil) := pa_imp pa_nil fun σ H Q ⟨R, ρ, s, M, w, sr, p⟩ => p R ρ H [] Ext.refl w .nil
theorem qa_cons (ha : PE X a (tE G E ea)) (hr : PA X es (tA G E eb)) (hs : starEach (a :: es) X.env = (false, eval a X.env) :: starEach es X.env := by rfl) : PA X (a :: es) (tA G E (evCons ea eb)) :=
  pa_imp (pa_cons ha hr hs) fun σ H Q ⟨R, ρ, s, M, w, sr, p⟩ => by
    refine ⟨R, ρ, s, M, w, sr, ?_⟩
    replace p : PostA G R ρ H (bindO (ea s M) fun v M1 => bindO (eb s M1) fun t M2 => match t with | .tup l => some (.val (.tup (v :: l)), M2) | _ => none) Q E := p
    rcases q : ea s M with _ | ⟨x | ⟨c, x⟩, M1⟩ <;> rw [q] at p
    · exact p
    · intro R1 ρ1 H1 v e1 w1 r1
      refine ⟨R1, ρ1, s, M1, w1, sr.mono e1.gr, ?_⟩
      rw [bindO_val] at p
      rcases q2 : eb s M1 with _ | ⟨y | ⟨c, y⟩, M2⟩ <;> rw [q2] at p
      · exact p
      · cases y <;> first | exact p | skip
        intro R2 ρ2 H2 vs e2 w2 r2
        exact p R2 ρ2 H2 (v :: vs) (e1.trans e2) w2 (.cons (r1.mono e2.gr) r2)
      · exact PostX.ext e1 p
    · exact p
theorem q_tup {k} (h : PA X es (tA G E ea)) : PE X (.Tuple es k pos) (tE G E (evL kTup ea)) :=
  pe_imp (pe_tup h) fun σ H Q ⟨R, ρ, s, M, w, sr, p⟩ => stepA w sr p fun R1 ρ1 M1 H1 l vs e1 w1 sr1 r1 p1 => by
    unfold kTup at p1
    split at p1
    · rename_i hz
      exact ⟨by rw [← r1.length]; exact hz, fun q hq => gives_tup w1 r1 hz p1 hq⟩
    · exact False.elim p1
theorem q_lst (h : PA X es (tA G E ea)) : PE X (.List es pos) (tE G E (evL kLst ea)) :=
  pe_imp (pe_lst h) fun σ H Q ⟨R, ρ, s, M, w, sr, p⟩ => stepA w sr p fun R1 ρ1 M1 H1 l vs e1 w1 sr1 r1 p1 => by
    unfold kLst at p1
    split at p1
    · rename_i hz
      exact ⟨by rw [← r1.length]; exact hz, fun q hq => gives_lst w1 r1 hz p1 hq⟩
    · exact False.elim p1
/-- a list that will change -/
theorem q_lstC (h : PA X es (tA G E ea)) : PE X (.List es pos) (tE G E (evL kNew ea)) :=
  pe_imp (pe_lst h) fun σ H Q ⟨R, ρ, s, M, w, sr, p⟩ => stepA w sr p fun R1 ρ1 M1 H1 l vs e1 w1 sr1 r1 p1 => by
    unfold kNew at p1
    split at p1
    · rename_i hz
      exact ⟨by rw [← r1.length]; exact hz, fun q hq => gives_new w1 r1 hz p1 hq⟩
    · exact False.elim p1
theorem q_frz (h : PE X a (tE G E ea)) : PE X a (tE G E (evFrz ea)) :=
  pe_imp h fun σ H Q ⟨R, ρ, s, M, w, sr, p⟩ => by
    refine ⟨R, ρ, s, M, w, sr, ?_⟩
    unfold evFrz at p
    rcases q : ea s M with _ | ⟨x | ⟨c, x⟩, M1⟩ <;> rw [q] at p
    · exact p
    · cases x <;> first | exact p | skip
      rename_i n
      unfold frzO at p
      dsimp only at p
      cases q2 : M1.c n with
      | none => rw [q2] at p; exact p
      | some y =>
        rw [q2] at p
        cases y with
        | ins c l => exact p
        | lst l =>
          intro R1 ρ1 H1 v e1 w1 r1
          obtain ⟨b, eb, rb, vs, hb, z, rv⟩ := w1.cel n _ q2
          cases r1 with
          | cel e' =>
            rw [e'] at eb
            cases eb
            obtain ⟨e2, w2⟩ := freeze_cel w1 q2 e' hb
            exact p _ _ _ _ (e1.trans e2) w2 (.lst upd_same z (rv.mono e2.gr))
        | dic l =>
          intro R1 ρ1 H1 v e1 w1 r1
          obtain ⟨b, eb, rb, vs, hb, z, rv⟩ := w1.cel n _ q2
          cases r1 with
          | cel e' =>
            rw [e'] at eb
            cases eb
            obtain ⟨e2, w2⟩ := freeze_cel w1 q2 e' hb
            exact p _ _ _ _ (e1.trans e2) w2 (.dic upd_same z (rv.mono e2.gr))
    · exact p

/-! #### calls of what is built in -/
variable {x : Str} {p' : Pos} {id T : String} {r : List V → Hp → VK → Prop} {k : List Va → Store → Res}
theorem q_callB (hc : CallR X (.builtin id) r) (hs : OpL G r k) (hg : Gl X x) (hm : X.mg x = none) (hv : bootBuiltins x = some (.builtin id)) (ha : PA X (a :: es) (tA G E ea)) (hn : x ≠ "__name__" := by decide) (hdb : (x == ("__debug__" : Str)) = false := by decide)
    (he : starEach (a :: es) X.env = (false, eval a X.env) :: starEach es X.env := by rfl) (hpl : (backTo pos (starEach es X.env)).any (·.1) = false := by rfl) : PE X (.Call (.Name x p') (a :: es) [] pos) (tE G E (evL k ea)) :=
  pe_imp (pe_callB hc hg hm hv ha hn hdb he hpl) fun σ H Q ⟨R, ρ, s, M, w, sr, p⟩ => stepA w sr p fun R1 ρ1 M1 H1 l vs e1 w1 sr1 r1 p1 => hs R1 ρ1 M1 H1 vs l Q E w1 r1 p1
theorem q_callTy (hc : CallR X (.type T) r) (hs : OpL G r k) (hg : Gl X x) (hm : X.mg x = none) (hv : bootBuiltins x = some (.type T)) (ha : PA X (a :: es) (tA G E ea)) (hn : x ≠ "__name__" := by decide) (hdb : (x == ("__debug__" : Str)) = false := by decide)
    (he : starEach (a :: es) X.env = (false, eval a X.env) :: starEach es X.env := by rfl) (hpl : (backTo pos (starEach es X.env)).any (·.1) = false := by rfl) : PE X (.Call (.Name x p') (a :: es) [] pos) (tE G E (evL k ea)) :=
  pe_imp (pe_callTy hc hg hm hv ha hn hdb he hpl) fun σ H Q ⟨R, ρ, s, M, w, sr, p⟩ => stepA w sr p fun R1 ρ1 M1 H1 l vs e1 w1 sr1 r1 p1 => hs R1 ρ1 M1 H1 vs l Q E w1 r1 p1

/-! #### tests -/
theorem toT {σ : St} {H : Hp} {Q : Bool → Hp → Prop} (h : tT G E ea σ H Q) : tE G E ea σ H fun x H1 => ∃ k, x = .bl k ∧ Q k H1 := by
  obtain ⟨R, ρ, s, M, w, sr, p⟩ := h
  refine ⟨R, ρ, s, M, w, sr, ?_⟩
  rcases q : ea s M with _ | ⟨x | ⟨c, x⟩, M1⟩ <;> rw [q] at p
  · exact p
  · cases x <;> first | exact False.elim p | skip
    intro R1 ρ1 H1 v e1 w1 r1
    cases r1
    exact ⟨_, rfl, p R1 ρ1 H1 e1 w1⟩
  · exact p
theorem qt_cmp {op : CmpOp} {r : R2} {g : Store → Va → Va → Option Va} (ho : OpR X (compareOp op) r) (hs : Op2 G r g) (ha : PE X a (tE G E ea)) (hb : PE X b (tE G E eb)) (hm : behindInMarks op b = false) : PT X (.Compare a [op] [b] pos) (tT G E (ev2 g ea eb)) :=
  pt_imp (pt_cmpR ho ha hb hm) fun σ H Q h => two hs (toT h)
theorem qt_val (ha : PE X a (tE G E ea)) (he : ∀ whole, isTrue a X.env whole = (do let v ← whole; standAt a.pos; holding [v] (truthy v)) := by intro _; rfl) : PT X a (tT G E ea) :=
  pt_imp (pt_val ha he) fun σ H Q h => toT h
def truO (M : Store) : Va → Option Bool
  | .non => some false
  | .bl b => some b
  | .int i => some (i != 0)
  | .str z => if z.length ≤ sizeLine then some ((z.length : Int) != 0) else none
  | .dic l => some (!l.isEmpty)
  | x => (seqOf M x).map fun l => !l.isEmpty
def evTru (a : SE) : SE := ev1 (fun M x => (truO M x).map Va.bl) a
theorem VRs.isEmpty {R : Hp} {ρ : List Addr} : ∀ {l : List Va} {vs : List V}, VRs G R ρ l vs → l.isEmpty = vs.isEmpty
  | _, _, .nil => rfl
  | _, _, .cons _ _ => rfl
theorem VRk.isEmpty {R : Hp} {ρ : List Addr} : ∀ {l : List (Key × Va)} {vs : List (Key × V)}, VRk G R ρ l vs → l.isEmpty = vs.isEmpty
  | _, _, .nil => rfl
  | _, _, .cons _ _ => rfl
theorem tru_of {R : Hp} {ρ : List Addr} {M : Store} {H : Hp} {x : Va} {v : V} {k : Bool} (w : Wd G R ρ M H) (r : VR G R ρ x v) (h : truO M x = some k) : TruV G.K v H k := by
  have sq : ∀ l, seqOf M x = some l → k = !l.isEmpty → TruV G.K v H k := fun l h1 h2 => by
    obtain ⟨a, vs, rfl, q, rv, _⟩ := seq_read w r h1
    rw [rv.isEmpty] at h2
    rcases q with q | q
    · exact .inl ⟨vs, q, h2⟩
    · exact .inr (.inl ⟨vs, q, h2⟩)
  have sq' : (seqOf M x).map (fun l => !l.isEmpty) = some k → TruV G.K v H k := fun h => by
    cases q : seqOf M x with
    | none => rw [q] at h; cases h
    | some l => rw [q] at h; cases h; exact sq l q rfl
  cases r with
  | non => cases h; rfl
  | bl b => cases h; rfl
  | int i => cases h; rfl
  | str z =>
    replace h : (if z.length ≤ sizeLine then some ((z.length : Int) != 0) else none) = some k := h
    by_cases hz : z.length ≤ sizeLine
    · rw [if_pos hz] at h; cases h; exact ⟨hz, rfl⟩
    · rw [if_neg hz] at h; cases h
  | dic e z q => cases h; exact .inr (.inr ⟨_, w.sub _ _ e, by rw [q.isEmpty]⟩)
  | lst e z q => exact sq' h
  | tup e z q => exact sq' h
  | cel e => exact sq' h
  | scr e z => exact sq' h
theorem qt_tru (hK : X.K = G.K) (ha : PE X a (tE G E ea)) (he : ∀ whole, isTrue a X.env whole = (do let v ← whole; standAt a.pos; holding [v] (truthy v)) := by intro _; rfl) : PT X a (tT G E (evTru ea)) :=
  pt_imp (pt_truth ha he) fun σ H Q ⟨R, ρ, s, M, w, sr, p⟩ => by
    replace p : PostT G R ρ H (bindO (ea s M) fun va M1 => match (truO M1 va).map Va.bl with | some r => some (.val r, M1) | none => none) Q E := p
    refine ⟨R, ρ, s, M, w, sr, ?_⟩
    rcases q : ea s M with _ | ⟨x | ⟨c, x⟩, M1⟩ <;> rw [q] at p
    · exact p
    · rw [bindO_val] at p
      intro R1 ρ1 H1 v e1 w1 r1
      cases q2 : truO M1 x with
      | none => rw [q2] at p; exact False.elim p
      | some k =>
        rw [q2] at p
        exact ⟨k, by rw [hK]; exact tru_of w1 r1 q2, p R1 ρ1 H1 e1 w1⟩
    · exact p
theorem stepTT {σ : St} {H : Hp} {R : Hp} {ρ : List Addr} {s : SL} {M : Store} {k : Bool → Store → Res} {Q Q' : Bool → Hp → Prop} (w : Wd G R ρ M H) (sr : SR G R ρ s σ)
    (p : PostT G R ρ H (bindO (ea s M) fun t M1 => match t with | .bl b => k b M1 | _ => none) Q E)
    (hk : ∀ R' ρ' M' H' b, Ext R ρ H R' ρ' H' → Wd G R' ρ' M' H' → SR G R' ρ' s σ → PostT G R' ρ' H' (k b M') Q E → Q' b H') : tT G E ea σ H Q' := by
  refine ⟨R, ρ, s, M, w, sr, ?_⟩
  rcases q : ea s M with _ | ⟨x | ⟨c, x⟩, M1⟩ <;> rw [q] at p
  · exact p
  · cases x <;> first | exact p | skip
    rename_i b
    refine fun R' ρ' H' e w' => hk R' ρ' M1 H' b e w' (sr.mono e.gr) ?_
    replace p : PostT G R ρ H (k b M1) Q E := p
    rcases z : k b M1 with _ | ⟨y | ⟨c, y⟩, M2⟩ <;> rw [z] at p
    · exact p
    · cases y <;> first | exact p | skip
      exact fun R2 ρ2 H2 e2 w2 => p R2 ρ2 H2 (e.trans e2) w2
    · exact PostX.ext e p
  · exact p
theorem and_eq {s : SL} {M : Store} : evAnd ea eb s M = bindO (ea s M) fun t M1 => match t with | .bl b => (fun b M1 => if b = true then eb s M1 else some (.val (.bl false), M1)) b M1 | _ => none := by
  unfold evAnd; congr 1; funext c M1; cases c <;> try rfl
  rename_i b; cases b <;> rfl
theorem or_eq {s : SL} {M : Store} : evOr ea eb s M = bindO (ea s M) fun t M1 => match t with | .bl b => (fun b M1 => if b = true then some (.val (.bl true), M1) else eb s M1) b M1 | _ => none := by
  unfold evOr; congr 1; funext c M1; cases c <;> try rfl
  rename_i b; cases b <;> rfl
theorem if_eq {s : SL} {M : Store} : evIf ec ea eb s M = bindO (ec s M) fun t M1 => match t with | .bl b => (fun b M1 => if b = true then ea s M1 else eb s M1) b M1 | _ => none := by
  unfold evIf; congr 1; funext c M1; cases c <;> try rfl
  rename_i b; cases b <;> rfl
variable {rest : List Expr}
theorem qw_and1 (ha : PT X a (tT G E ea)) : PW X (.BoolOp .And [a] pos) (tT G E ea) := pw_and1 ha
theorem qw_or1 (ha : PT X a (tT G E ea)) : PW X (.BoolOp .Or [a] pos) (tT G E ea) := pw_or1 ha
theorem qw_and (ha : PT X a (tT G E ea)) (hb : PW X (.BoolOp .And (b :: rest) pos) (tT G E eb)) : PW X (.BoolOp .And (a :: b :: rest) pos) (tT G E (evAnd ea eb)) :=
  pw_imp (pw_and ha hb) fun σ H Q ⟨R, ρ, s, M, w, sr, p⟩ => by
    rw [and_eq] at p
    refine stepTT w sr p fun R1 ρ1 M1 H1 b e1 w1 sr1 p1 => ?_
    cases b with
    | true => exact iteT ⟨R1, ρ1, s, M1, w1, sr1, p1⟩
    | false => exact iteF (p1 R1 ρ1 H1 Ext.refl w1)
theorem qw_or (ha : PT X a (tT G E ea)) (hb : PW X (.BoolOp .Or (b :: rest) pos) (tT G E eb)) : PW X (.BoolOp .Or (a :: b :: rest) pos) (tT G E (evOr ea eb)) :=
  pw_imp (pw_or ha hb) fun σ H Q ⟨R, ρ, s, M, w, sr, p⟩ => by
    rw [or_eq] at p
    refine stepTT w sr p fun R1 ρ1 M1 H1 b e1 w1 sr1 p1 => ?_
    cases b with
    | true => exact iteT (p1 R1 ρ1 H1 Ext.refl w1)
    | false => exact iteF ⟨R1, ρ1, s, M1, w1, sr1, p1⟩
theorem qt_pw {e : SE} (h : PW X a (tT G E e)) : PT X a (tT G E e) := h.pt
theorem qt_not (ha : PT X a (tT G E ea)) : PT X (.UnaryOp .Not a pos) (tT G E (evNot ea)) :=
  pt_imp (pt_not ha) fun σ H Q ⟨R, ρ, s, M, w, sr, p⟩ => stepTT (k := fun b M1 => some (.val (.bl (!b)), M1)) w sr p fun R1 ρ1 M1 H1 b e1 w1 sr1 p1 => p1 R1 ρ1 H1 Ext.refl w1
theorem q_if (hc : PT X c (tT G E ec)) (ha : PE X a (tE G E ea)) (hb : PE X b (tE G E eb)) : PE X (.IfExp c a b pos) (tE G E (evIf ec ea eb)) :=
  pe_imp (pe_ifExp hc ha hb) fun σ H Q ⟨R, ρ, s, M, w, sr, p⟩ => by
    rw [if_eq] at p
    refine stepT w sr p fun R1 ρ1 M1 H1 b e1 w1 sr1 p1 => ?_
    cases b with
    | true => exact iteT ⟨R1, ρ1, s, M1, w1, sr1, p1⟩
    | false => exact iteF ⟨R1, ρ1, s, M1, w1, sr1, p1⟩
/-- and, or, not as values (truth values) -/
theorem q_one {op} {e : SE} (h : PE X a (tE G E e)) : PE X (.BoolOp op [a] pos) (tE G E e) := pe_one h
theorem q_and (ha : PE X a (tE G E ea)) (hb : PE X (.BoolOp .And (b :: rest) pos) (tE G E eb)) : PE X (.BoolOp .And (a :: b :: rest) pos) (tE G E (evAnd ea eb)) :=
  pe_imp (pe_and ha hb) fun σ H Q ⟨R, ρ, s, M, w, sr, p⟩ => stepE w sr p fun R1 ρ1 M1 H1 va v e1 w1 sr1 r1 p1 => by
    cases r1 <;> first | exact False.elim p1 | skip
    rename_i b
    refine ⟨b, rfl, ?_⟩
    cases b with
    | true => exact iteT ⟨R1, ρ1, s, M1, w1, sr1, p1⟩
    | false => exact iteF (p1 R1 ρ1 H1 _ Ext.refl w1 (.bl false))
theorem q_or (ha : PE X a (tE G E ea)) (hb : PE X (.BoolOp .Or (b :: rest) pos) (tE G E eb)) : PE X (.BoolOp .Or (a :: b :: rest) pos) (tE G E (evOr ea eb)) :=
  pe_imp (pe_or ha hb) fun σ H Q ⟨R, ρ, s, M, w, sr, p⟩ => stepE w sr p fun R1 ρ1 M1 H1 va v e1 w1 sr1 r1 p1 => by
    cases r1 <;> first | exact False.elim p1 | skip
    rename_i b
    refine ⟨b, rfl, ?_⟩
    cases b with
    | true => exact iteT (p1 R1 ρ1 H1 _ Ext.refl w1 (.bl true))
    | false => exact iteF ⟨R1, ρ1, s, M1, w1, sr1, p1⟩
theorem q_not (ha : PE X a (tE G E ea)) : PE X (.UnaryOp .Not a pos) (tE G E (evNot ea)) :=
  pe_imp (pe_not ha) fun σ H Q ⟨R, ρ, s, M, w, sr, p⟩ => stepE w sr p fun R1 ρ1 M1 H1 va v e1 w1 sr1 r1 p1 => by
    cases r1 <;> first | exact False.elim p1 | skip
    rename_i b
    exact ⟨b, rfl, p1 R1 ρ1 H1 _ Ext.refl w1 (.bl _)⟩
end
end PV

set_option Elab.async false
set_option linter.all false
set_option maxRecDepth 100000
set_option maxHeartbeats 4000000
namespace PV
open PySem L2

/-! ### statements -/
inductive Fl where
  | nx | ret (v : Va) | bk | ct | exc (c : Nat) (v : Va)
abbrev RS := Option (Fl × SL × Store)
abbrev SS := SL → Store → RS
def Nxt (G : Sig) (R : Hp) (ρ : List Addr) (H : Hp) (s : SL) (M : Store) (k : St → Hp → Prop) : Prop :=
  ∀ R' ρ' H' σ', Ext R ρ H R' ρ' H' → Wd G R' ρ' M H' → SR G R' ρ' s σ' → k σ' H'
def PostS (G : Sig) (R : Hp) (ρ : List Addr) (H : Hp) (r : RS) (D : Ends) (E : XK) : Prop := match r with
  | none => False
  | some (.nx, s, M) => Nxt G R ρ H s M D.nx
  | some (.ret x, _, M) => Gives G R ρ H M x D.rt
  | some (.bk, s, M) => Nxt G R ρ H s M D.bk
  | some (.ct, s, M) => Nxt G R ρ H s M D.ct
  | some (.exc c x, _, M) => PostX G R ρ H M E c x
def tS (G : Sig) (E : XK) (es : SS) : TS := fun D σ H => ∃ R ρ s M, Wd G R ρ M H ∧ SR G R ρ s σ ∧ PostS G R ρ H (es s M) D E
section
variable {G : Sig} {E : XK} {σ : St} {H H' : Hp} {R R' : Hp} {ρ ρ' : List Addr} {s : SL} {M : Store} {D : Ends}
theorem Nxt.ext {k : St → Hp → Prop} (e : Ext R ρ H R' ρ' H') (p : Nxt G R ρ H s M k) : Nxt G R' ρ' H' s M k := fun R2 ρ2 H2 σ2 e2 w r => p R2 ρ2 H2 σ2 (e.trans e2) w r
theorem PostS.ext {r : RS} (e : Ext R ρ H R' ρ' H') (p : PostS G R ρ H r D E) : PostS G R' ρ' H' r D E := by
  rcases r with _ | ⟨_ | x | _ | _ | ⟨c, x⟩, s, M⟩
  · exact p
  · exact Nxt.ext e p
  · exact Gives.ext e p
  · exact Nxt.ext e p
  · exact Nxt.ext e p
  · exact PostX.ext e p
theorem nxt_now {k : St → Hp → Prop} (w : Wd G R ρ M H) (sr : SR G R ρ s σ) (p : Nxt G R ρ H s M k) : k σ H := p R ρ H σ Ext.refl w sr
end
/-- first an expression -/
def sE (e : SE) (k : Va → SS) : SS := fun s M => match e s M with
  | none => none
  | some (.val v, M1) => k v s M1
  | some (.exc c v, M1) => some (.exc c v, s, M1)
def sNx : SS := fun s M => some (.nx, s, M)
def sBk : SS := fun s M => some (.bk, s, M)
def sCt : SS := fun s M => some (.ct, s, M)
def sNever : SS := fun _ _ => none
def sRetN : SS := fun s M => some (.ret .non, s, M)
def sRet (e : SE) : SS := sE e fun v s M => some (.ret v, s, M)
def sSet (i : Nat) (e : SE) : SS := sE e fun v s M => some (.nx, s.set i (some v), M)
def sDrop (e : SE) : SS := sE e fun _ s M => some (.nx, s, M)
def sIf (t : SE) (a b : SS) : SS := sE t fun v s M => match v with
  | .bl true => a s M
  | .bl false => b s M
  | _ => none
def sSeq (a b : SS) : SS := fun s M => match a s M with
  | some (.nx, s1, M1) => b s1 M1
  | r => r
/-- an operation in place, a value into a target: what they do to the store -/
abbrev Tgt := Va → SL → Store → Option SL
def tgName (i : Nat) : Tgt := fun v s _ => some (s.set i (some v))
def tgAll : List Tgt → List Va → SL → Store → Option SL
  | [], [], s, _ => some s
  | t :: ts, v :: vs, s, M => match t v s M with
    | some s1 => tgAll ts vs s1 M
    | none => none
  | _, _, _, _ => none
def tgTup (ts : List Tgt) : Tgt := fun v s M => match tupOf v with
  | some l => tgAll ts l s M
  | none => none
def sAsg (e : SE) (t : Tgt) : SS := sE e fun v s M => match t v s M with
  | some s1 => some (.nx, s1, M)
  | none => none
/-- o[i] = e -/
def sSub (e eo ei : SE) (g : Va → Va → Va → Store → Option Store) : SS := sE e fun v s M => sE eo (fun o s M => sE ei (fun i s M => match g o i v M with
  | some M1 => some (.nx, s, M1)
  | none => none) s M) s M
/-- o.f = e -/
def putA (f : Str) (v : Va) : List (Str × Va) → List (Str × Va)
  | [] => [(f, v)]
  | (g, u) :: r => if g = f then (g, v) :: r else (g, u) :: putA f v r

section
variable {G : Sig} {E : XK} {σ : St} {H : Hp} {R : Hp} {ρ : List Addr} {s : SL} {M : Store} {D : Ends}
theorem stepS {ea : SE} {k : Va → SS} {Q' : VK} (w : Wd G R ρ M H) (sr : SR G R ρ s σ) (p : PostS G R ρ H (sE ea k s M) D E)
    (hk : ∀ R' ρ' M' H' va v, Ext R ρ H R' ρ' H' → Wd G R' ρ' M' H' → SR G R' ρ' s σ → VR G R' ρ' va v → PostS G R' ρ' H' (k va s M') D E → Q' v H') : tE G E ea σ H Q' := by
  refine ⟨R, ρ, s, M, w, sr, ?_⟩
  unfold sE at p
  rcases q : ea s M with _ | ⟨x | ⟨c, x⟩, M1⟩ <;> rw [q] at p
  · exact p
  · exact fun R' ρ' H' v e w' r => hk R' ρ' M1 H' x v e w' (sr.mono e.gr) r (p.ext e)
  · exact p
theorem stepST {ea : SE} {k : Bool → SS} {Q' : Bool → Hp → Prop} (w : Wd G R ρ M H) (sr : SR G R ρ s σ) (p : PostS G R ρ H (sE ea (fun v s M => match v with | .bl b => k b s M | _ => none) s M) D E)
    (hk : ∀ R' ρ' M' H' b, Ext R ρ H R' ρ' H' → Wd G R' ρ' M' H' → SR G R' ρ' s σ → PostS G R' ρ' H' (k b s M') D E → Q' b H') : tT G E ea σ H Q' := by
  refine ⟨R, ρ, s, M, w, sr, ?_⟩
  unfold sE at p
  rcases q : ea s M with _ | ⟨x | ⟨c, x⟩, M1⟩ <;> rw [q] at p
  · exact p
  · cases x <;> first | exact p | skip
    exact fun R' ρ' H' e w' => hk R' ρ' M1 H' _ e w' (sr.mono e.gr) (PostS.ext e p)
  · exact p
end

section
variable {X : Cx} {G : Sig} {E : XK} {a b c : Expr} {es : List Expr} {st : Stmt} {sts : List Stmt} {ea eb ec : SE} {sa sb : SS} {pos : Pos}
theorem qss_nil : PSs X [] (tS G E sNx) := pss_imp pss_nil fun D σ H ⟨R, ρ, s, M, w, sr, p⟩ => nxt_now w sr p
theorem qss_one (h : PS X st (tS G E sa)) : PSs X [st] (tS G E sa) := pss_one h
theorem qss_cons (h1 : PS X st (tS G E sa)) (h2 : PSs X sts (tS G E sb)) : PSs X (st :: sts) (tS G E (sSeq sa sb)) :=
  pss_imp (pss_cons h1 h2) fun D σ H ⟨R, ρ, s, M, w, sr, p⟩ => by
    refine ⟨R, ρ, s, M, w, sr, ?_⟩
    unfold sSeq at p
    rcases q : sa s M with _ | ⟨_ | x | _ | _ | ⟨c, x⟩, s1, M1⟩ <;> rw [q] at p
    · exact p
    · exact fun R1 ρ1 H1 σ1 e1 w1 r1 => ⟨R1, ρ1, s1, M1, w1, r1, PostS.ext e1 p⟩
    · exact p
    · exact p
    · exact p
    · exact p
theorem qs_pass : PS X (.Pass pos) (tS G E sNx) := ps_imp ps_pass fun D σ H ⟨R, ρ, s, M, w, sr, p⟩ => nxt_now w sr p
theorem qs_break : PS X (.Break pos) (tS G E sBk) := ps_imp ps_break fun D σ H ⟨R, ρ, s, M, w, sr, p⟩ => nxt_now w sr p
theorem qs_continue : PS X (.Continue pos) (tS G E sCt) := ps_imp ps_continue fun D σ H ⟨R, ρ, s, M, w, sr, p⟩ => nxt_now w sr p
theorem qs_doc {x j pos'} : PS X (.Expr (.Constant (.str x) j pos) pos') (tS G E sNx) := ps_imp ps_doc fun D σ H ⟨R, ρ, s, M, w, sr, p⟩ => nxt_now w sr p
theorem qs_never : PS X st (tS G E sNever) := ps_imp ps_never fun D σ H ⟨R, ρ, s, M, w, sr, p⟩ => p
theorem qs_ret (ha : PE X a (tE G E ea)) : PS X (.Return (some a) pos) (tS G E (sRet ea)) :=
  ps_imp (ps_ret ha) fun D σ H ⟨R, ρ, s, M, w, sr, p⟩ => stepS (Q' := D.rt) w sr p fun R1 ρ1 M1 H1 va v e1 w1 sr1 r1 p1 => gives_now w1 r1 p1
theorem qs_retN : PS X (.Return none pos) (tS G E sRetN) := ps_imp ps_retN fun D σ H ⟨R, ρ, s, M, w, sr, p⟩ => gives_now w .non p
theorem qs_expr (ha : PE X a (tE G E ea)) (hs : swapsWith a none pos.line X.env = pure false := by rfl) : PS X (.Expr a pos) (tS G E (sDrop ea)) :=
  ps_imp (ps_expr ha hs) fun D σ H ⟨R, ρ, s, M, w, sr, p⟩ => stepS w sr p fun R1 ρ1 M1 H1 va v e1 w1 sr1 r1 p1 => nxt_now w1 sr1 p1
theorem qs_set {i : Nat} {x : Str} {pos' : Pos} (hN : X.N.Nodup) (hi : X.N[i]? = some x) (hx : Loc X.env.scope x) (he : PE X a (tE G E ea)) (hs : swapsWith a (some (.Name x pos')) pos.line X.env = pure false := by rfl)
    (hf : X.fn x = true ∨ X.env.scope.names.lookup x = some .local := by first | exact .inl rfl | exact .inr rfl | assumption) : PS X (.Assign [.Name x pos'] a pos) (tS G E (sSet i ea)) :=
  ps_imp (ps_set hN hi hx he hs hf) fun D σ H ⟨R, ρ, s, M, w, sr, p⟩ => stepS w sr p fun R1 ρ1 M1 H1 va v e1 w1 sr1 r1 p1 => nxt_now w1 (sr1.set i r1) p1
theorem qs_if {xs ys : List Stmt} (hc : PT X c (tT G E ec)) (ha : PSs X xs (tS G E sa)) (hb : PSs X ys (tS G E sb)) : PS X (.If c xs ys pos) (tS G E (sIf ec sa sb)) :=
  ps_imp (ps_if hc ha hb) fun D σ H ⟨R, ρ, s, M, w, sr, p⟩ => by
    have e0 : sIf ec sa sb = sE ec fun v s M => match v with | .bl b => (fun b s M => if b = true then sa s M else sb s M) b s M | _ => none := by
      unfold sIf
      congr 1
      funext v s M
      cases v <;> try rfl
      rename_i b
      cases b <;> rfl
    rw [e0] at p
    refine stepST w sr p fun R1 ρ1 M1 H1 b e1 w1 sr1 p1 => ?_
    cases b with
    | true => exact iteT ⟨R1, ρ1, s, M1, w1, sr1, p1⟩
    | false => exact iteF ⟨R1, ρ1, s, M1, w1, sr1, p1⟩

/-! #### targets -/
/-- what a target does; ix: the slots that it may change -/
def TgSim (G : Sig) (g : TG) (t : Tgt) (ix : List Nat) : Prop := ∀ R ρ M H s s' σ va v (k : St → Hp → Prop), Wd G R ρ M H → SR G R ρ s σ → VR G R ρ va v → t va s M = some s' →
  (∀ σ', SR G R ρ s' σ' → σ'.length = σ.length → (∀ j, j ∉ ix → σ'[j]? = σ[j]?) → k σ' H) → g v σ H k
def TgSims (G : Sig) (g : TGs) (t : List Tgt) (ix : List Nat) : Prop := ∀ R ρ M H s s' σ l vs (k : St → Hp → Prop), Wd G R ρ M H → SR G R ρ s σ → VRs G R ρ l vs → tgAll t l s M = some s' →
  (∀ σ', SR G R ρ s' σ' → σ'.length = σ.length → (∀ j, j ∉ ix → σ'[j]? = σ[j]?) → k σ' H) → g vs σ H k
structure QG (X : Cx) (G : Sig) (tg : Expr) (g : TG) (t : Tgt) (ix : List Nat) : Prop where
  pg : PG X tg g
  sim : TgSim G g t ix
structure QGs (X : Cx) (G : Sig) (tg : List Expr) (g : TGs) (t : List Tgt) (ix : List Nat) : Prop where
  pg : PGs X tg g
  sim : TgSims G g t ix
theorem qg_name {i : Nat} {x : Str} (hN : X.N.Nodup) (hi : X.N[i]? = some x) (hx : Loc X.env.scope x) (hf : X.fn x = true ∨ X.env.scope.names.lookup x = some .local := by first | exact .inl rfl | exact .inr rfl | assumption) : QG X G (.Name x pos) (gName i) (tgName i) [i] :=
  ⟨pg_name hN hi hx hf, fun R ρ M H s s' σ va v k w sr r h q => by
    cases h
    refine q _ (sr.set i r) (by simp) fun j hj => ?_
    rw [List.getElem?_set_ne]
    rintro rfl
    exact hj (by simp)⟩
theorem qgs_nil : QGs X G [] gNil [] [] :=
  ⟨pgs_nil, fun R ρ M H s s' σ l vs k w sr r h q => by
    cases r with
    | nil => cases h; exact ⟨rfl, q σ sr rfl fun _ _ => rfl⟩
    | cons _ _ => cases h⟩
theorem qgs_cons {t : Tgt} {ts : List Tgt} {g1 : TG} {g2 : TGs} {ix ixs : List Nat} (h1 : QG X G a g1 t ix) (h2 : QGs X G es g2 ts ixs) (hs : (assignEach (a :: es) X.env).map (·.2) = assign a X.env :: (assignEach es X.env).map (·.2) := by rfl) : QGs X G (a :: es) (gCons g1 g2) (t :: ts) (ix ++ ixs) := by
  obtain ⟨p1, s1⟩ := h1
  obtain ⟨p2, s2⟩ := h2
  refine ⟨pgs_cons p1 p2 hs, fun R ρ M H s s' σ l vs k w sr r h q => ?_⟩
  cases r with
  | nil => cases h
  | cons r rs =>
    rename_i x v l vs
    unfold tgAll at h
    cases e : t x s M with
    | none => rw [e] at h; cases h
    | some s2' =>
      rw [e] at h
      refine ⟨v, vs, rfl, s1 R ρ M H s s2' σ x v _ w sr r e fun σ1 sr1 l1 k1 => ?_⟩
      refine s2 R ρ M H s2' s' σ1 l vs _ w sr1 rs h fun σ2 sr2 l2 k2 => ?_
      refine q σ2 sr2 (l2.trans l1) fun j hj => ?_
      rw [List.mem_append, not_or] at hj
      exact (k2 j hj.2).trans (k1 j hj.1)
theorem qg_tup {ts : List Tgt} {g : TGs} {ix : List Nat} {k : Nat} {n : Nat} (hc : X.calm = true) (h : QGs X G es g ts ix) (hl : ts.length = n := by rfl) (hn : (assignEach es X.env).length = n := by rfl) (hst : (assignEach es X.env).findIdx? (·.1) = none := by rfl) : QG X G (.Tuple es k pos) (gTup X.K n g) (tgTup ts) ix := by
  obtain ⟨p, sm⟩ := h
  refine ⟨pg_tup hc p hn hst, fun R ρ M H s s' σ va v k w sr r h q => ?_⟩
  have hlen : ∀ (ts : List Tgt) (l : List Va) (s : SL) (s' : SL), tgAll ts l s M = some s' → l.length = ts.length := by
    intro ts
    induction ts with
    | nil =>
      intro l s s' h
      cases l with
      | nil => rfl
      | cons _ _ => cases h
    | cons t ts ih =>
      intro l s s' h
      cases l with
      | nil => cases h
      | cons x l =>
        unfold tgAll at h
        cases e : t x s M with
        | none => rw [e] at h; cases h
        | some s1 => rw [e] at h; simp [ih l s1 s' h]
  unfold tgTup at h
  cases e : tupOf va with
  | none => rw [e] at h; cases h
  | some l =>
    rw [e] at h
    obtain ⟨a, vs, rfl, ha, rv, _⟩ := tup_read w r e
    exact ⟨a, vs, rfl, .of ha, by rw [← rv.length, hlen ts l s s' h, hl], sm R ρ M H s s' σ l vs k w sr rv h q⟩
theorem qs_asg {t : Tgt} {g : TG} {ix : List Nat} (he : PE X a (tE G E ea)) (hg : QG X G b g t ix) (hs : swapsWithSole [b] a pos.line X.env = pure false := by rfl) (hw : swappedStores [b] a X.env = pure none := by rfl)
    (h1 : (assignEach [b] X.env).map (·.2) = [assign b X.env] := by rfl) : PS X (.Assign [b] a pos) (tS G E (sAsg ea t)) := by
  obtain ⟨pg, sm⟩ := hg
  refine ps_imp (ps_asg he pg hs hw h1) fun D σ H ⟨R, ρ, s, M, w, sr, p⟩ => stepS w sr p fun R1 ρ1 M1 H1 va v e1 w1 sr1 r1 p1 => ?_
  cases q : t va s M1 with
  | none => rw [q] at p1; exact False.elim p1
  | some s1 => rw [q] at p1; exact sm R1 ρ1 M1 H1 s s1 σ va v _ w1 sr1 r1 q fun σ' sr' _ _ => nxt_now w1 sr' p1
/-- o[i] = v -/
def SubSim (G : Sig) (t : TSet) (g : Va → Va → Va → Store → Option Store) : Prop := ∀ R ρ M M' H o i x vo vi v (k : Hp → Prop), Wd G R ρ M H → VR G R ρ vo o → VR G R ρ vi i → VR G R ρ v x → g vo vi v M = some M' →
  (∀ H', Ext R ρ H R ρ H' → Wd G R ρ M' H' → k H') → t o i x H k
theorem qs_sub {t : TSet} {g : Va → Va → Va → Store → Option Store} {p2 : Pos} (hs : PSet X t) (sm : SubSim G t g) (he : PE X a (tE G E ea)) (ho : PE X b (tE G E eb)) (hi : PE X c (tE G E ec))
    (ha : ∀ v, assign (.Subscript b c p2) X.env v = (do
      let ov ← holding [v] (eval b X.env)
      let iv ← holding [v, ov] (eval c X.env)
      standAt p2
      holding [v, ov, iv] (setItem ov iv v)
      release [v, ov, iv] []) := by intro _; rfl)
    (hs1 : swapsWithSole [.Subscript b c p2] a pos.line X.env = pure false := by rfl) (hw : swappedStores [.Subscript b c p2] a X.env = pure none := by rfl)
    (h1 : (assignEach [.Subscript b c p2] X.env).map (·.2) = [assign (.Subscript b c p2) X.env] := by rfl) : PS X (.Assign [.Subscript b c p2] a pos) (tS G E (sSub ea eb ec g)) :=
  ps_imp (ps_asg he (pg_sub ho hi hs ha) hs1 hw h1) fun D σ H ⟨R, ρ, s, M, w, sr, p⟩ => stepS w sr p fun R1 ρ1 M1 H1 va v e1 w1 sr1 r1 p1 =>
    stepS w1 sr1 p1 fun R2 ρ2 M2 H2 vo o e2 w2 sr2 r2 p2 => stepS w2 sr2 p2 fun R3 ρ3 M3 H3 vi i e3 w3 sr3 r3 p3 => by
      cases q : g vo vi va M3 with
      | none => rw [q] at p3; exact False.elim p3
      | some M4 =>
        rw [q] at p3
        exact sm R3 ρ3 M3 M4 H3 o i v vo vi va _ w3 (r2.mono e3.gr) r3 (r1.mono (e2.trans e3).gr) q fun H' e4 w4 => nxt_now w4 sr3 (Nxt.ext e4 p3)
end

/-! ### what is walked -/
inductive OutI where
  | it (l : List Va) (chk : Store → Prop) | exc (c : Nat) (v : Va)
abbrev SI := SL → Store → Option (OutI × Store)
def ItSim (G : Sig) (R0 : Hp) (ρ0 : List Addr) (J : It) (l : List Va) (chk : Store → Prop) : Prop := ∀ R ρ M H, Gr R0 ρ0 R ρ → Wd G R ρ M H → chk M →
  (∀ (i : Nat) (x : Va), l[i]? = some x → J.go i H ∧ ∀ v H', J.yld i H v H' → ∃ R', Ext R ρ H R' ρ H' ∧ Wd G R' ρ M H' ∧ VR G R' ρ x v) ∧ ∀ i : Nat, l.length ≤ i → J.stop i H
def PostI (G : Sig) (R : Hp) (ρ : List Addr) (H : Hp) (r : Option (OutI × Store)) (k : It → Hp → Prop) (E : XK) : Prop := match r with
  | none => False
  | some (.it l chk, M) => ∀ R' ρ' H' J, Ext R ρ H R' ρ' H' → Wd G R' ρ' M H' → l.length ≤ sizeLine → ItSim G R' ρ' J l chk → k J H'
  | some (.exc c x, M) => PostX G R ρ H M E c x
def tI (G : Sig) (E : XK) (src : SI) : TI := fun σ H k => ∃ R ρ s M, Wd G R ρ M H ∧ SR G R ρ s σ ∧ PostI G R ρ H (src s M) k E
noncomputable section
open Classical
def loopF (chk : Store → Prop) (tg : Tgt) (body : SS) : List Va → SS
  | [], s, M => if chk M then some (.nx, s, M) else none
  | x :: xs, s, M => if chk M then (match tg x s M with
    | none => none
    | some s1 => match body s1 M with
      | some (.nx, s2, M2) => loopF chk tg body xs s2 M2
      | some (.ct, s2, M2) => loopF chk tg body xs s2 M2
      | some (.bk, s2, M2) => some (.nx, s2, M2)
      | r => r) else none
def sFor (src : SI) (tg : Tgt) (body : SS) : SS := fun s M => match src s M with
  | none => none
  | some (.it l chk, M1) => loopF chk tg body l s M1
  | some (.exc c v, M1) => some (.exc c v, s, M1)
def wipeI (s : SL) : List Nat → SL
  | [] => s
  | v :: vs => (wipeI s vs).set v none
def compL (chk : Store → Prop) (tg : Tgt) (tt te : SE) (sw : SL) : List Va → Store → Option (List Va × Store)
  | [], M => if chk M then some ([], M) else none
  | x :: xs, M => if chk M then (match tg x sw M with
    | none => none
    | some s1 => match tt s1 M with
      | some (.val (.bl true), M1) => (match te s1 M1 with
        | some (.val y, M2) => (match compL chk tg tt te sw xs M2 with
          | some (ys, M3) => some (y :: ys, M3)
          | none => none)
        | _ => none)
      | some (.val (.bl false), M1) => compL chk tg tt te sw xs M1
      | _ => none) else none
def evLc (src : SI) (tg : Tgt) (tt te : SE) (vs : List Nat) : SE := fun s M => match src s M with
  | none => none
  | some (.it l chk, M1) => (match compL chk tg tt te (wipeI s vs) l M1 with
    | some (ys, M2) => some (.val (.lst ys), M2)
    | none => none)
  | some (.exc c v, M1) => some (.exc c v, M1)
/-- the new list as one that will change -/
def evLcC (src : SI) (tg : Tgt) (tt te : SE) (vs : List Nat) : SE := fun s M => match src s M with
  | none => none
  | some (.it l chk, M1) => (match compL chk tg tt te (wipeI s vs) l M1 with
    | some (ys, M2) => some (.val (.cel M2.nx), M2.new (.lst ys))
    | none => none)
  | some (.exc c v, M1) => some (.exc c v, M1)
end
def evYes : SE := fun _ M => some (.val (.bl true), M)
/-- over a list, a tuple as it stands -/
def itL (e : SE) : SI := fun s M => match e s M with
  | none => none
  | some (.val v, M1) => (match lstOf M1 v with
    | some l => some (.it l (fun M => lstOf M v = some l), M1)
    | none => none)
  | some (.exc c v, M1) => some (.exc c v, M1)
def itT (e : SE) : SI := fun s M => match e s M with
  | none => none
  | some (.val v, M1) => (match tupOf v with
    | some l => some (.it l (fun _ => True), M1)
    | none => none)
  | some (.exc c v, M1) => some (.exc c v, M1)
def itR1 (e : SE) : SI := fun s M => match e s M with
  | some (.val (.tup [.int n]), M1) => if n ≤ 100000 ∧ -(2 ^ 62) ≤ n then some (.it ((List.range n.toNat).map fun (i : Nat) => Va.int i) (fun _ => True), M1) else none
  | some (.exc c v, M1) => some (.exc c v, M1)
  | _ => none
def itR2 (e : SE) : SI := fun s M => match e s M with
  | some (.val (.tup [.int lo, .int n]), M1) => if n - lo ≤ 100000 ∧ -(2 ^ 62) ≤ lo ∧ lo < 2 ^ 62 ∧ -(2 ^ 62) ≤ n ∧ n < 2 ^ 62 then some (.it ((List.range (n - lo).toNat).map fun (i : Nat) => Va.int (lo + i)) (fun _ => True), M1) else none
  | some (.exc c v, M1) => some (.exc c v, M1)
  | _ => none
def itS (e : SE) : SI := fun s M => match e s M with
  | some (.val (.str z), M1) => if z.length ≤ sizeLine then some (.it (z.cps.toList.map fun c => Va.str ⟨#[c]⟩) (fun _ => True), M1) else none
  | some (.exc c v, M1) => some (.exc c v, M1)
  | _ => none

section
variable {X : Cx} {G : Sig} {E : XK} {a b c tg : Expr} {es : List Expr} {ea eb ec : SE} {pos : Pos}
theorem qi_list (hK : X.K = G.K) (ha : PE X a (tE G E ea)) : PI X tg a (tI G E (itL ea)) :=
  pi_imp (pi_list ha) fun σ H Q ⟨R, ρ, s, M, w, sr, p⟩ => by
    refine ⟨R, ρ, s, M, w, sr, ?_⟩
    unfold itL at p
    rcases q : ea s M with _ | ⟨x | ⟨c, x⟩, M1⟩ <;> rw [q] at p
    · exact p
    · intro R1 ρ1 H1 v e1 w1 r1
      dsimp only at p
      cases q2 : lstOf M1 x with
      | none => rw [q2] at p; exact False.elim p
      | some l =>
        rw [q2] at p
        obtain ⟨ad, vs, rfl, hv, rv, hz⟩ := lst_read w1 r1 q2
        refine ⟨ad, rfl, ⟨vs, by rw [hK]; exact hv⟩, p R1 ρ1 H1 (Itl X.K ad) e1 w1 hz fun R2 ρ2 M2 H2 g2 w2 ck => ?_⟩
        obtain ⟨ad', vs', e', hv', rv', _⟩ := lst_read w2 (r1.mono g2) ck
        cases e'
        rw [hK]
        refine ⟨fun i y hy => ?_, fun i hi => ⟨vs', hv', by rw [← rv'.length]; exact hi⟩⟩
        obtain ⟨u, hu, ru⟩ := rv'.get hy
        refine ⟨⟨vs', u, hv', hu⟩, fun v H' ⟨e3, h3⟩ => ?_⟩
        subst e3
        have := h3 vs' hv'
        rw [hu] at this
        cases this
        exact ⟨R2, Ext.refl, w2, ru⟩
    · exact p
theorem qi_tup (hK : X.K = G.K) (ha : PE X a (tE G E ea)) : PI X tg a (tI G E (itT ea)) :=
  pi_imp (pi_tup ha) fun σ H Q ⟨R, ρ, s, M, w, sr, p⟩ => by
    refine ⟨R, ρ, s, M, w, sr, ?_⟩
    unfold itT at p
    rcases q : ea s M with _ | ⟨x | ⟨c, x⟩, M1⟩ <;> rw [q] at p
    · exact p
    · intro R1 ρ1 H1 v e1 w1 r1
      dsimp only at p
      cases q2 : tupOf x with
      | none => rw [q2] at p; exact False.elim p
      | some l =>
        rw [q2] at p
        obtain ⟨ad, vs, rfl, hv, rv, hz⟩ := tup_read w1 r1 q2
        refine ⟨ad, rfl, ⟨vs, .of hv⟩, p R1 ρ1 H1 (Itt X.K ad) e1 w1 hz fun R2 ρ2 M2 H2 g2 w2 ck => ?_⟩
        obtain ⟨ad', vs', e', hv', rv', _⟩ := tup_read w2 (r1.mono g2) q2
        cases e'
        refine ⟨fun i y hy => ?_, fun i hi => ⟨vs', .of hv', by rw [← rv'.length]; exact hi⟩⟩
        obtain ⟨u, hu, ru⟩ := rv'.get hy
        refine ⟨⟨vs', u, .of hv', hu⟩, fun v H' ⟨e3, h3⟩ => ?_⟩
        subst e3
        have := h3 vs' (.of hv')
        rw [hu] at this
        cases this
        exact ⟨R2, Ext.refl, w2, ru⟩
    · exact p
theorem rng_sim {R ρ} {lo : Int} {n : Nat} : ItSim G R ρ (Itr lo n) ((List.range n).map fun (i : Nat) => Va.int (lo + i)) (fun _ => True) := fun R2 ρ2 M2 H2 g2 w2 _ => by
  refine ⟨fun i x hx => ?_, fun i hi => by show n ≤ i; simpa using hi⟩
  rw [List.getElem?_map] at hx
  by_cases hi : i < n
  · rw [List.getElem?_range hi] at hx
    cases hx
    refine ⟨hi, fun v H' ⟨e3, h3⟩ => ?_⟩
    subst e3 h3
    exact ⟨R2, Ext.refl, w2, .int _⟩
  · rw [List.getElem?_eq_none (by simpa using hi)] at hx
    cases hx
theorem line100 : (100000 : Nat) ≤ sizeLine := by decide
theorem qi_range1 {p' : Pos} (hg : Gl X "range") (hm : X.mg "range" = none) (ha : PA X [a] (tA G E ea)) (hs : starEach [a] X.env = [(false, eval a X.env)] := by rfl) : PI X tg (.Call (.Name "range" p') [a] [] pos) (tI G E (itR1 ea)) :=
  pi_imp (pi_range1 hg hm ha hs) fun σ H Q ⟨R, ρ, s, M, w, sr, p⟩ => by
    refine ⟨R, ρ, s, M, w, sr, ?_⟩
    unfold itR1 at p
    rcases q : ea s M with _ | ⟨x | ⟨c, x⟩, M1⟩ <;> rw [q] at p
    · exact p
    · cases x <;> first | exact False.elim p | skip
      rename_i l
      intro R1 ρ1 H1 vs e1 w1 r1
      cases r1 with
      | nil => exact False.elim p
      | cons r1 rs =>
        cases rs with
        | cons _ _ => cases r1 <;> exact False.elim p
        | nil =>
          cases r1 <;> first | exact False.elim p | skip
          rename_i n
          dsimp only at p
          by_cases hz : n ≤ 100000 ∧ -(2 ^ 62) ≤ n
          · rw [if_pos hz] at p
            refine ⟨n, rfl, hz.2, by omega, ?_⟩
            have e0 : ((List.range n.toNat).map fun (i : Nat) => Va.int i) = (List.range n.toNat).map fun (i : Nat) => Va.int (0 + i) := by simp
            rw [e0] at p
            exact p R1 ρ1 H1 _ e1 w1 (by simp; have := line100; omega) rng_sim
          · rw [if_neg hz] at p; exact False.elim p
    · exact p
theorem qi_range2 {p' : Pos} (hg : Gl X "range") (hm : X.mg "range" = none) (ha : PA X [a, b] (tA G E ea)) (hs : starEach [a, b] X.env = [(false, eval a X.env), (false, eval b X.env)] := by rfl) (hs2 : starEach [b] X.env = [(false, eval b X.env)] := by rfl) : PI X tg (.Call (.Name "range" p') [a, b] [] pos) (tI G E (itR2 ea)) :=
  pi_imp (pi_range2 hg hm ha hs hs2) fun σ H Q ⟨R, ρ, s, M, w, sr, p⟩ => by
    refine ⟨R, ρ, s, M, w, sr, ?_⟩
    unfold itR2 at p
    rcases q : ea s M with _ | ⟨x | ⟨c, x⟩, M1⟩ <;> rw [q] at p
    · exact p
    · cases x <;> first | exact False.elim p | skip
      rename_i l
      intro R1 ρ1 H1 vs e1 w1 r1
      cases r1 with
      | nil => exact False.elim p
      | cons r1 rs =>
        cases rs with
        | nil => cases r1 <;> exact False.elim p
        | cons r2 rs =>
          cases rs with
          | cons _ _ => cases r1 <;> cases r2 <;> exact False.elim p
          | nil =>
            cases r1 <;> first | exact False.elim p | skip
            cases r2 <;> first | exact False.elim p | skip
            rename_i lo n
            dsimp only at p
            by_cases hz : n - lo ≤ 100000 ∧ -(2 ^ 62) ≤ lo ∧ lo < 2 ^ 62 ∧ -(2 ^ 62) ≤ n ∧ n < 2 ^ 62
            · rw [if_pos hz] at p
              exact ⟨lo, n, rfl, hz.2, p R1 ρ1 H1 _ e1 w1 (by simp; have := line100; omega) rng_sim⟩
            · rw [if_neg hz] at p; exact False.elim p
    · exact p
end

/-! ### for -/
section
variable {X : Cx} {G : Sig} {E : XK} {a b c tg : Expr} {es : List Expr} {ea eb ec : SE} {sb : SS} {pos : Pos}
theorem qs_for {iter : Expr} {body : List Stmt} {src : SI} {t : Tgt} {g : TG} {ix : List Nat} (hp : PassesOwn (model X.prog X.w) X.A X.env X.xe) (hc : X.calm = true) (hi : PI X tg iter (tI G E src)) (hg : QG X G tg g t ix) (hb : PSs X body (tS G E sb))
    (hs : ∀ x, foldedSetIterable iter X.env x = pure x := by intro _; rfl) : PS X (.For tg iter body [] pos) (tS G E (sFor src t sb)) := by
  obtain ⟨pg, sm⟩ := hg
  refine ps_imp (ps_for hp hc hi pg hb hs) fun D σ H ⟨R, ρ, s, M, w, sr, p⟩ => ?_
  refine ⟨R, ρ, s, M, w, sr, ?_⟩
  unfold sFor at p
  rcases q : src s M with _ | ⟨⟨l, chk⟩ | ⟨c, x⟩, M1⟩ <;> rw [q] at p
  · exact p
  · intro R1 ρ1 H1 J e1 w1 hz js
    refine ⟨fun i m σ' H' => ∃ R' ρ' s' M', m = l.length - i ∧ i ≤ l.length ∧ Gr R1 ρ1 R' ρ' ∧ Wd G R' ρ' M' H' ∧ SR G R' ρ' s' σ' ∧ PostS G R' ρ' H' (loopF chk t sb (l.drop i) s' M') D E,
      ⟨l.length, R1, ρ1, s, M1, rfl, Nat.zero_le _, Gr.refl, w1, sr.mono e1.gr, PostS.ext e1 p⟩, ?_⟩
    rintro i m σ' H' ⟨R', ρ', s', M', rfl, hi, g', w', sr', p'⟩
    by_cases hlt : i < l.length
    · have ed : l.drop i = l[i] :: l.drop (i + 1) := List.drop_eq_getElem_cons hlt
      rw [ed] at p'
      unfold loopF at p'
      by_cases ck : chk M'
      · rw [if_pos ck] at p'
        obtain ⟨go, _⟩ := js R' ρ' M' H' g' w' ck
        obtain ⟨go, yld⟩ := go i l[i] (by simp [hlt])
        refine .inr ⟨go, fun σ2 H2 => ∃ R2 ρ2 s2 M2, Gr R1 ρ1 R2 ρ2 ∧ Wd G R2 ρ2 M2 H2 ∧ SR G R2 ρ2 s2 σ2 ∧ PostS G R2 ρ2 H2 (loopF chk t sb (l.drop (i + 1)) s2 M2) D E,
          fun σ2 H2 ⟨R2, ρ2, s2, M2, g2, w2, sr2, p2⟩ => ⟨l.length - (i + 1), by omega, R2, ρ2, s2, M2, rfl, hlt, g2, w2, sr2, p2⟩, fun v H2 hy => ?_⟩
        obtain ⟨R2, e2, w2, r2⟩ := yld v H2 hy
        cases q3 : t l[i] s' M' with
        | none => rw [q3] at p'; exact False.elim p'
        | some s3 =>
          rw [q3] at p'
          refine sm R2 ρ' M' H2 s' s3 σ' l[i] v _ w2 (sr'.mono e2.gr) r2 q3 fun σ3 sr3 _ _ => ?_
          refine ⟨R2, ρ', s3, M', w2, sr3, ?_⟩
          dsimp only at p'
          rcases q4 : sb s3 M' with _ | ⟨_ | x | _ | _ | ⟨c, x⟩, s4, M4⟩ <;> rw [q4] at p'
          · exact p'
          · exact fun R5 ρ5 H5 σ5 e5 w5 sr5 => ⟨R5, ρ5, s4, M4, (g'.trans e2.gr).trans e5.gr, w5, sr5, PostS.ext (e2.trans e5) p'⟩
          · exact Gives.ext e2 p'
          · exact Nxt.ext e2 p'
          · exact fun R5 ρ5 H5 σ5 e5 w5 sr5 => ⟨R5, ρ5, s4, M4, (g'.trans e2.gr).trans e5.gr, w5, sr5, PostS.ext (e2.trans e5) p'⟩
          · exact PostX.ext e2 p'
      · rw [if_neg ck] at p'; exact False.elim p'
    · have e0 : i = l.length := by omega
      subst e0
      rw [List.drop_length] at p'
      unfold loopF at p'
      by_cases ck : chk M'
      · rw [if_pos ck] at p'
        obtain ⟨_, stop⟩ := js R' ρ' M' H' g' w' ck
        exact .inl ⟨stop _ (Nat.le_refl _), nxt_now w' sr' p'⟩
      · rw [if_neg ck] at p'; exact False.elim p'
  · exact p

/-! ### list comprehensions -/
theorem wipe_get (σ : St) (j : Nat) : ∀ vs : List Nat, j ∉ vs → (wipe σ vs)[j]? = σ[j]?
  | [], _ => rfl
  | v :: vs, h => by
    rw [List.mem_cons, not_or] at h
    unfold wipe
    rw [List.getElem?_set_ne (fun e => h.1 e.symm), wipe_get σ j vs h.2]
theorem wipe_in (σ : St) (j : Nat) (hj : j < σ.length) : ∀ vs : List Nat, j ∈ vs → (wipe σ vs)[j]? = some none
  | v :: vs, h => by
    unfold wipe
    by_cases e : v = j
    · subst e
      rw [List.getElem?_set_self (by rw [wipe_length]; exact hj)]
    · rw [List.getElem?_set_ne e]
      rcases List.mem_cons.mp h with z | z
      · exact absurd z.symm e
      · exact wipe_in σ j hj vs z
theorem wipe_same {σ σ' : St} {vs : List Nat} (hl : σ'.length = σ.length) (h : ∀ j, j ∉ vs → σ'[j]? = σ[j]?) : wipe σ' vs = wipe σ vs := by
  apply List.ext_getElem?
  intro j
  by_cases hj : j ∈ vs
  · by_cases hlt : j < σ.length
    · rw [wipe_in σ' j (by rw [hl]; exact hlt) vs hj, wipe_in σ j hlt vs hj]
    · rw [List.getElem?_eq_none (by rw [wipe_length]; omega), List.getElem?_eq_none (by rw [wipe_length]; omega)]
  · rw [wipe_get σ' j vs hj, wipe_get σ j vs hj, h j hj]
theorem SR.wipe {R : Hp} {ρ : List Addr} {s : SL} {σ : St} (h : SR G R ρ s σ) : ∀ vs : List Nat, SR G R ρ (wipeI s vs) (L2.wipe σ vs)
  | [] => h
  | v :: vs => by
    unfold wipeI L2.wipe
    exact (SR.wipe h vs).unset v none
theorem Wd.other {R : Hp} {ρ : List Addr} {M : Store} {H : Hp} {D : Addr} {o : HO} (w : Wd G R ρ M H) (h1 : R D = none) (h2 : D ∉ ρ) : Wd G R ρ M (upd H D o) := by
  refine ⟨fun a u h => ?_, w.len, fun n x h => ?_, w.inj, fun a h => by rw [upd_ne (fun e => h2 (by rw [← e]; exact h))]; exact w.al a h⟩
  · rw [upd_ne (fun e => by subst e; rw [h1] at h; cases h)]
    exact w.sub a u h
  · obtain ⟨a, e, r, c⟩ := w.cel n x h
    refine ⟨a, e, r, celR_mono Gr.refl c fun u q => ?_⟩
    rw [upd_ne (fun z => h2 (by rw [← z]; exact List.mem_of_getElem? e))]
    exact q
theorem Wd.take {R : Hp} {ρ : List Addr} {M : Store} {H : Hp} {D : Addr} {o : HO} (w : Wd G R ρ M H) (h0 : H D = some o) (h1 : R D = none) (h2 : D ∉ ρ) : Wd G (upd R D o) ρ M H := by
  have kR : ∀ a u, R a = some u → upd R D o a = some u := fun a u h => by
    rw [upd_ne (fun e => by subst e; rw [h1] at h; cases h)]
    exact h
  refine ⟨fun a u h => ?_, w.len, fun n x h => ?_, w.inj, w.al⟩
  · by_cases e : a = D
    · subst e; rw [upd_same] at h; rw [h0]; exact h
    · rw [upd_ne e] at h; exact w.sub a u h
  · obtain ⟨a, e, r, c⟩ := w.cel n x h
    exact ⟨a, e, by rw [upd_ne (fun z => h2 (by rw [← z]; exact List.mem_of_getElem? e))]; exact r, celR_mono ⟨kR, fun _ _ q => q⟩ c fun u q => q⟩
theorem Ext.heapNew {R : Hp} {ρ : List Addr} {H : Hp} {p : Addr} {o : HO} (hp : H p = none) : Ext R ρ H R ρ (upd H p o) :=
  ⟨fun _ _ h => h, ⟨[], by simp, by simp⟩, fun a u h _ => by rw [upd_ne (ne_of_none h hp)]; exact h, fun a h => by
    by_cases e : a = p
    · subst e; rw [upd_same]; simp
    · rw [upd_ne e]; exact h, fun a h n => absurd h n⟩
/-- an object that was not there at the start changes -/
theorem Ext.mut {R R' : Hp} {ρ ρ' : List Addr} {H H' : Hp} {p : Addr} {o : HO} (e : Ext R ρ H R' ρ' H') (hp : H p = none) : Ext R ρ H R' ρ' (upd H' p o) :=
  ⟨e.reg, e.cls, fun a u h n => by rw [upd_ne (ne_of_none h hp)]; exact e.keep a u h n, fun a h => by
    by_cases z : a = p
    · subst z; rw [upd_same]; simp
    · rw [upd_ne z]; exact e.dom a h, e.nreg⟩
theorem Ext.take {R R' : Hp} {ρ ρ' : List Addr} {H H' : Hp} {p : Addr} {o : HO} (e : Ext R ρ H R' ρ' H') (hp : H p = none) (hr : R' p = none) : Ext R ρ H (upd R' p o) ρ' H' :=
  ⟨fun a u h => by
    have := e.reg a u h
    rw [upd_ne (fun z => by subst z; rw [hr] at this; cases this)]
    exact this, e.cls, e.keep, e.dom, fun a h n => by
    by_cases z : a = p
    · subst z; exact .inl hp
    · rw [upd_ne z] at n; exact e.nreg a h n⟩
theorem Ext.apart {R R' : Hp} {ρ ρ' : List Addr} {H H' : Hp} {D : Addr} {o : HO} (e : Ext R ρ H R' ρ' H') (h0 : H D = some o) (h1 : R D = none) (h2 : D ∉ ρ) : R' D = none ∧ D ∉ ρ' ∧ H' D = some o := by
  refine ⟨?_, ?_, e.keep D o h0 h2⟩
  · cases q : R' D with
    | none => rfl
    | some u =>
      rcases e.nreg D h1 (by rw [q]; simp) with z | z
      · rw [h0] at z; cases z
      · exact absurd z h2
  · obtain ⟨τ, q, f⟩ := e.cls
    rw [q]
    intro hm
    rcases List.mem_append.mp hm with z | z
    · exact h2 z
    · have := f D z
      rw [h0] at this
      cases this

/-- the core: after the walk, the list stands at D -/
theorem lc_walk {t : Tgt} {tt te : SE} {vs ix : List Nat} {g : TG} (sm : TgSim G g t ix) (hix : ∀ i ∈ ix, i ∈ vs) {σ : St} {R1 : Hp} {ρ1 : List Addr} {M1 M2 : Store} {H1 : Hp} {s : SL} {J : It} {l ys : List Va} {chk : Store → Prop} {Q : VK} {D : Addr}
    (w1 : Wd G R1 ρ1 M1 H1) (sr : SR G R1 ρ1 s σ) (hz : l.length ≤ sizeLine) (js : ItSim G R1 ρ1 J l chk) (hcomp : compL chk t tt te (wipeI s vs) l M1 = some (ys, M2)) (hD : H1 D = none)
    (fin : ∀ R' ρ' H' acc, Ext R1 ρ1 H1 R' ρ' H' → Wd G R' ρ' M2 H' → H' D = some (.lst acc) → R' D = none → D ∉ ρ' → VRs G R' ρ' ys acc → ys.length ≤ sizeLine → Q (.ref D) H') :
    ∃ W : Nat → Nat → Hp → Prop, (∃ m, W 0 m (upd H1 D (.lst []))) ∧ ∀ i m H, W i m H →
      (J.stop i H ∧ Q (.ref D) H) ∨ (J.go i H ∧ ∃ Nx : Hp → Prop, (∀ H', Nx H' → ∃ m', m' < m ∧ W (i + 1) m' H') ∧ ∀ x H', J.yld i H x H' → g x (wipe σ vs) H' fun σ2 H2 => wipe σ2 vs = wipe σ vs ∧ tT G E tt σ2 H2 fun b H3 =>
        if b = true then tE G E te σ2 H3 fun y H4 => ∃ acc, H4 D = some (.lst acc) ∧ acc.length < sizeLine ∧ Nx (upd H4 D (.lst (acc ++ [y]))) else Nx H3) := by
  have nD : D ∉ ρ1 → True := fun _ => trivial
  have rD : R1 D = none := w1.nonR hD
  have pD : ∀ n x, M1.c n = some x → ρ1[n]? ≠ some D := fun n x h z => by
    obtain ⟨a, e, _, c⟩ := w1.cel n x h
    rw [z] at e
    cases e
    exact celR_some c hD
  refine ⟨fun i m Hc => ∃ R' ρ' M' acc accI rest, m = l.length - i ∧ i ≤ l.length ∧ Ext R1 ρ1 H1 R' ρ' Hc ∧ Wd G R' ρ' M' Hc ∧ Hc D = some (.lst acc) ∧ VRs G R' ρ' accI acc ∧ R' D = none ∧ (D ∉ ρ') ∧
    compL chk t tt te (wipeI s vs) (l.drop i) M' = some (rest, M2) ∧ accI ++ rest = ys ∧ accI.length ≤ i, ?_, ?_⟩
  · refine ⟨l.length, R1, ρ1, M1, [], [], ys, rfl, Nat.zero_le _, Ext.heapNew hD, ?_, upd_same, .nil, rD, ?_, hcomp, rfl, Nat.zero_le _⟩
    · exact w1.heap fun a o h => by rw [upd_ne (ne_of_none h hD)]; exact h
    · exact fun hm => w1.al D hm hD
  · rintro i m Hc ⟨R', ρ', M', acc, accI, rest, rfl, hi, e', w', hDc, ra, rDn, nDr, hc, hy, hal⟩
    by_cases hlt : i < l.length
    · have ed : l.drop i = l[i] :: l.drop (i + 1) := List.drop_eq_getElem_cons hlt
      rw [ed] at hc
      unfold compL at hc
      by_cases ck : chk M'
      · rw [if_pos ck] at hc
        obtain ⟨go, _⟩ := js R' ρ' M' Hc e'.gr w' ck
        obtain ⟨go, yld⟩ := go i l[i] (by simp [hlt])
        refine .inr ⟨go, fun H2 => ∃ R2 ρ2 M3 acc accI rest, Ext R1 ρ1 H1 R2 ρ2 H2 ∧ Wd G R2 ρ2 M3 H2 ∧ H2 D = some (.lst acc) ∧ VRs G R2 ρ2 accI acc ∧ R2 D = none ∧ (D ∉ ρ2) ∧
          compL chk t tt te (wipeI s vs) (l.drop (i + 1)) M3 = some (rest, M2) ∧ accI ++ rest = ys ∧ accI.length ≤ i + 1, fun H2 ⟨R2, ρ2, M3, acc, accI, rest, q⟩ => ⟨l.length - (i + 1), by omega, R2, ρ2, M3, acc, accI, rest, rfl, hlt, q⟩, fun x H2 hyl => ?_⟩
        obtain ⟨R2, e2, w2, r2⟩ := yld x H2 hyl
        obtain ⟨rD2, nD2, hD2⟩ := e2.apart hDc rDn nDr
        cases q3 : t l[i] (wipeI s vs) M' with
        | none => rw [q3] at hc; cases hc
        | some s3 =>
          rw [q3] at hc
          have srw : SR G R2 ρ' (wipeI s vs) (wipe σ vs) := (SR.wipe (sr.mono (e'.gr.trans e2.gr)) vs)
          refine sm R2 ρ' M' H2 (wipeI s vs) s3 (wipe σ vs) l[i] x _ w2 srw r2 q3 fun σ3 sr3 hl3 hk3 => ⟨?_, ?_⟩
          · have z1 : wipe σ3 vs = wipe (wipe σ vs) vs := wipe_same hl3 fun j hj => hk3 j fun z => hj (hix j z)
            rw [z1]
            exact wipe_same (wipe_length σ vs) fun j hj => wipe_get σ j vs hj
          · dsimp only at hc
            rcases q4 : tt s3 M' with _ | ⟨y | ⟨c, y⟩, M4⟩ <;> rw [q4] at hc
            · cases hc
            · cases y <;> first | (cases hc; done) | skip
              rename_i bb
              refine ⟨R2, ρ', s3, M', w2, sr3, ?_⟩
              rw [q4]
              intro R5 ρ5 H5 e5 w5
              obtain ⟨rD5, nD5, hD5⟩ := e5.apart hD2 rD2 nD2
              cases bb with
              | false =>
                refine iteF ?_
                exact ⟨R5, ρ5, M4, acc, accI, rest, (e'.trans e2).trans e5, w5, hD5, ra.mono (e2.trans e5).gr, rD5, nD5, hc, hy, Nat.le_succ_of_le hal⟩
              | true =>
                refine iteT ?_
                dsimp only at hc
                rcases q6 : te s3 M4 with _ | ⟨y | ⟨c, y⟩, M6⟩ <;> rw [q6] at hc
                · cases hc
                · refine ⟨R5, ρ5, s3, M4, w5, sr3.mono e5.gr, ?_⟩
                  rw [q6]
                  intro R7 ρ7 H7 v e7 w7 r7
                  obtain ⟨rD7, nD7, hD7⟩ := e7.apart hD5 rD5 nD5
                  dsimp only at hc
                  rcases q8 : compL chk t tt te (wipeI s vs) (l.drop (i + 1)) M6 with _ | ⟨ys8, M8⟩ <;> rw [q8] at hc
                  · cases hc
                  · cases hc
                    have eall := ((e'.trans e2).trans e5).trans e7
                    refine ⟨acc, hD7, ?_, R7, ρ7, M6, acc ++ [v], accI ++ [y], ys8, eall.mut hD, w7.other rD7 nD7, upd_same, VRs.append (ra.mono ((e2.trans e5).trans e7).gr) (.cons r7 .nil), rD7, nD7, q8, by rw [← hy]; simp, by simp; omega⟩
                    rw [← ra.length]
                    omega
                · cases hc
            · cases hc
      · rw [if_neg ck] at hc; cases hc
    · have e0 : i = l.length := by omega
      subst e0
      rw [List.drop_length] at hc
      unfold compL at hc
      by_cases ck : chk M'
      · rw [if_pos ck] at hc
        cases hc
        obtain ⟨_, stop⟩ := js R' ρ' _ Hc e'.gr w' ck
        rw [List.append_nil] at hy
        subst hy
        exact .inl ⟨stop _ (Nat.le_refl _), fin R' ρ' Hc acc e' w' hDc rDn nDr ra (by omega)⟩
      · rw [if_neg ck] at hc; cases hc
end
end PV

set_option Elab.async false
set_option linter.all false
set_option maxRecDepth 100000
set_option maxHeartbeats 4000000
namespace PV
open PySem L2
open PyProof.Rows

section
variable {X : Cx} {G : Sig} {E E2 : XK} {a b c tg elt iter : Expr} {es ifs : List Expr} {st : Stmt} {sts : List Stmt} {ea eb ec : SE} {sa sb : SS} {pos : Pos}
theorem qts_nil : PTs X [] (tT G E evYes) := ⟨fun pins s σ H Q I ⟨R, ρ, s', M, w, sr, p⟩ => pts_nil.run pins s σ H Q I (p R ρ H Ext.refl w)⟩
theorem qts_one (h : PT X a (tT G E ea)) : PTs X [a] (tT G E ea) := pts_one h
variable {src : SI} {t : Tgt} {tt te : SE} {ix : List Nat} {g : TG} {scope : Scope} {own : List (Str × Nat)}
theorem lc_frz {σ : L2.St} {H : Hp} {Q : VK} (sm : TgSim G g t ix) (hix : ∀ i ∈ ix, i ∈ own.map (·.2)) (h : tE G E (evLc src t tt te (own.map (·.2))) σ H Q) : tLc (tI G E src) g (tT G E2 tt) (tE G E2 te) (own.map (·.2)) σ H Q := by
  obtain ⟨R, ρ, s, M, w, sr, p⟩ := h
  refine ⟨R, ρ, s, M, w, sr, ?_⟩
  unfold evLc at p
  rcases q : src s M with _ | ⟨⟨l, chk⟩ | ⟨c, x⟩, M1⟩ <;> rw [q] at p
  · exact p
  · intro R1 ρ1 H1 J e1 w1 hz js D hD
    dsimp only at p
    rcases q2 : compL chk t tt te (wipeI s (own.map (·.2))) l M1 with _ | ⟨ys, M2⟩ <;> rw [q2] at p
    · exact False.elim p
    · refine lc_walk sm hix w1 (sr.mono e1.gr) hz js q2 hD fun R' ρ' H' acc e' w' hDc rDn nDr ra hzy => ?_
      exact p (upd R' D (.lst acc)) ρ' H' (.ref D) (e1.trans (e'.take hD rDn)) (w'.take hDc rDn nDr) (.lst upd_same hzy (ra.mono ⟨fun a o q => by rw [upd_ne (fun z => by subst z; rw [rDn] at q; cases q)]; exact q, fun _ _ q => q⟩))
  · exact p
theorem lc_new {σ : L2.St} {H : Hp} {Q : VK} (sm : TgSim G g t ix) (hix : ∀ i ∈ ix, i ∈ own.map (·.2)) (h : tE G E (evLcC src t tt te (own.map (·.2))) σ H Q) : tLc (tI G E src) g (tT G E2 tt) (tE G E2 te) (own.map (·.2)) σ H Q := by
  obtain ⟨R, ρ, s, M, w, sr, p⟩ := h
  refine ⟨R, ρ, s, M, w, sr, ?_⟩
  unfold evLcC at p
  rcases q : src s M with _ | ⟨⟨l, chk⟩ | ⟨c, x⟩, M1⟩ <;> rw [q] at p
  · exact p
  · intro R1 ρ1 H1 J e1 w1 hz js D hD
    dsimp only at p
    rcases q2 : compL chk t tt te (wipeI s (own.map (·.2))) l M1 with _ | ⟨ys, M2⟩ <;> rw [q2] at p
    · exact False.elim p
    · refine lc_walk sm hix w1 (sr.mono e1.gr) hz js q2 hD fun R' ρ' H' acc e' w' hDc rDn nDr ra hzy => ?_
      have gp : (ρ' ++ [D])[M2.nx]? = some D := by rw [← w'.len]; simp
      have gr : Gr R' ρ' R' (ρ' ++ [D]) := ⟨fun _ _ h => h, fun n a h => by rw [List.getElem?_append_left (List.getElem?_eq_some_iff.mp h).1]; exact h⟩
      have e2 : Ext R1 ρ1 H1 R' (ρ' ++ [D]) H' := by
        obtain ⟨τ, z, f⟩ := e'.cls
        refine ⟨e'.reg, ⟨τ ++ [D], by rw [z, List.append_assoc], fun x hx => ?_⟩, e'.keep, e'.dom, e'.nreg⟩
        rcases List.mem_append.mp hx with h | h
        · exact f x h
        · rw [List.mem_singleton.mp h]; exact hD
      have w2 : Wd G R' (ρ' ++ [D]) (M2.new (.lst ys)) H' := by
        have old : ∀ n x, n ≠ M2.nx → (M2.new (.lst ys)).c n = some x → M2.c n = some x := fun n x hn h => by
          have h' : (if n = M2.nx then some (Cell.lst ys) else M2.c n) = some x := h
          rw [if_neg hn] at h'
          exact h'
        have neD : ∀ n x a, M2.c n = some x → (ρ' ++ [D])[n]? = some a → a ≠ D := fun n x a h e z => by
          obtain ⟨b, e2, _, _⟩ := w'.cel n x h
          rw [gr.get n b e2] at e
          cases e
          exact nDr (by rw [← z]; exact List.mem_of_getElem? e2)
        refine ⟨w'.sub, by simp [Store.new, w'.len], fun n x h => ?_, fun n m b x y h1 h2 f1 f2 => ?_, fun a h => ?_⟩
        · by_cases e : n = M2.nx
          · subst e
            have h' : (if M2.nx = M2.nx then some (Cell.lst ys) else M2.c M2.nx) = some x := h
            rw [if_pos rfl] at h'
            cases h'
            exact ⟨D, gp, rDn, acc, hDc, hzy, ra.mono gr⟩
          · obtain ⟨b, e1, r, c⟩ := w'.cel n x (old n x e h)
            exact ⟨b, gr.get n b e1, r, celR_mono gr c fun u q => q⟩
        · by_cases q1 : n = M2.nx <;> by_cases q2 : m = M2.nx
          · rw [q1, q2]
          · rw [q1, gp] at f1
            cases f1
            exact absurd rfl (neD m y _ (old m y q2 h2) f2)
          · rw [q2, gp] at f2
            cases f2
            exact absurd rfl (neD n x _ (old n x q1 h1) f1)
          · have h1' := old n x q1 h1
            have h2' := old m y q2 h2
            obtain ⟨b1, g1, _⟩ := w'.cel n x h1'
            obtain ⟨b2, g2, _⟩ := w'.cel m y h2'
            rw [gr.get n b1 g1] at f1
            rw [gr.get m b2 g2] at f2
            cases f1
            cases f2
            exact w'.inj n m b x y h1' h2' g1 g2
        · rcases List.mem_append.mp h with h | h
          · exact w'.al a h
          · rw [List.mem_singleton.mp h, hDc]; simp
      exact p R' (ρ' ++ [D]) H' (.ref D) (e1.trans e2) w2 (.cel gp)
  · exact p
theorem q_lc (hc : X.calm = true) (hN : X.N.Nodup) (hi : PI X tg iter (tI G E src)) (ok : BlkOk X.N X.env.scope scope own)
    (hg : ∀ (s : Shared) (H : Hp) (C : Addr) (cl : List (Str × Addr)) (fp : List Addr), QG (X.blk s H scope (compEnvC scope cl C X.env) fp) G tg g t ix)
    (ht : ∀ (s : Shared) (H : Hp) (C : Addr) (cl : List (Str × Addr)) (fp : List Addr), PTs (X.blk s H scope (compEnvC scope cl C X.env) fp) ifs (tT G E2 tt))
    (he : ∀ (s : Shared) (H : Hp) (C : Addr) (cl : List (Str × Addr)) (fp : List Addr), PE (X.blk s H scope (compEnvC scope cl C X.env) fp) elt (tE G E2 te))
    (hix : ∀ i ∈ ix, i ∈ own.map (·.2) := by decide) (hs : ∀ x, foldedSetIterable iter X.env x = pure x := by intro _; rfl) :
    PE X (.ListComp elt [⟨tg, iter, ifs, 0⟩] scope pos) (tE G E (evLc src t tt te (own.map (·.2)))) :=
  ⟨fun pins s σ H Q I h => (pe_lc hc hN hi ok (fun s H C cl fp => (hg s H C cl fp).pg) ht he hs).run pins s σ H Q I (lc_frz (hg s H 0 [] []).sim hix h)⟩
theorem q_lcC (hc : X.calm = true) (hN : X.N.Nodup) (hi : PI X tg iter (tI G E src)) (ok : BlkOk X.N X.env.scope scope own)
    (hg : ∀ (s : Shared) (H : Hp) (C : Addr) (cl : List (Str × Addr)) (fp : List Addr), QG (X.blk s H scope (compEnvC scope cl C X.env) fp) G tg g t ix)
    (ht : ∀ (s : Shared) (H : Hp) (C : Addr) (cl : List (Str × Addr)) (fp : List Addr), PTs (X.blk s H scope (compEnvC scope cl C X.env) fp) ifs (tT G E2 tt))
    (he : ∀ (s : Shared) (H : Hp) (C : Addr) (cl : List (Str × Addr)) (fp : List Addr), PE (X.blk s H scope (compEnvC scope cl C X.env) fp) elt (tE G E2 te))
    (hix : ∀ i ∈ ix, i ∈ own.map (·.2) := by decide) (hs : ∀ x, foldedSetIterable iter X.env x = pure x := by intro _; rfl) :
    PE X (.ListComp elt [⟨tg, iter, ifs, 0⟩] scope pos) (tE G E (evLcC src t tt te (own.map (·.2)))) :=
  ⟨fun pins s σ H Q I h => (pe_lc hc hN hi ok (fun s H C cl fp => (hg s H C cl fp).pg) ht he hs).run pins s σ H Q I (lc_new (hg s H 0 [] []).sim hix h)⟩
theorem qs_setLc {i : Nat} {y : Str} {py spos : Pos} (hc : X.calm = true) (hN : X.N.Nodup) (hy : X.N[i]? = some y) (hyl : X.env.scope.names.lookup y = some .local)
    (hsw : swapsWith (.ListComp elt [⟨tg, iter, ifs, 0⟩] scope pos) (some (.Name y py)) spos.line X.env = pure true) (hi : PI X tg iter (tI G E src)) (ok : BlkOk X.N X.env.scope scope own)
    (hg : ∀ (s : Shared) (H : Hp) (C : Addr) (cl : List (Str × Addr)) (fp : List Addr), QG (X.blk s H scope (compEnvC scope cl C X.env) fp) G tg g t ix)
    (ht : ∀ (s : Shared) (H : Hp) (C : Addr) (cl : List (Str × Addr)) (fp : List Addr), PTs (X.blk s H scope (compEnvC scope cl C X.env) fp) ifs (tT G E2 tt))
    (he : ∀ (s : Shared) (H : Hp) (C : Addr) (cl : List (Str × Addr)) (fp : List Addr), PE (X.blk s H scope (compEnvC scope cl C X.env) fp) elt (tE G E2 te))
    (hix : ∀ i ∈ ix, i ∈ own.map (·.2) := by decide) (hs : ∀ x, foldedSetIterable iter X.env x = pure x := by intro _; rfl) :
    PS X (.Assign [.Name y py] (.ListComp elt [⟨tg, iter, ifs, 0⟩] scope pos) spos) (tS G E (sSet i (evLc src t tt te (own.map (·.2))))) :=
  ⟨fun pins s0 σ H D I ⟨R, ρ, s, M, w, sr, p⟩ => (ps_setLc hc hN hy hyl hsw hi ok (fun s H C cl fp => (hg s H C cl fp).pg) ht he hs).run pins s0 σ H D I (lc_frz (hg s0 H 0 [] []).sim hix
    (stepS (Q' := fun x H1 => gName i x σ H1 D.nx) w sr p fun R1 ρ1 M1 H1 va v e1 w1 sr1 r1 p1 => nxt_now w1 (sr1.set i r1) p1))⟩
theorem qs_setLcC {i : Nat} {y : Str} {py spos : Pos} (hc : X.calm = true) (hN : X.N.Nodup) (hy : X.N[i]? = some y) (hyl : X.env.scope.names.lookup y = some .local)
    (hsw : swapsWith (.ListComp elt [⟨tg, iter, ifs, 0⟩] scope pos) (some (.Name y py)) spos.line X.env = pure true) (hi : PI X tg iter (tI G E src)) (ok : BlkOk X.N X.env.scope scope own)
    (hg : ∀ (s : Shared) (H : Hp) (C : Addr) (cl : List (Str × Addr)) (fp : List Addr), QG (X.blk s H scope (compEnvC scope cl C X.env) fp) G tg g t ix)
    (ht : ∀ (s : Shared) (H : Hp) (C : Addr) (cl : List (Str × Addr)) (fp : List Addr), PTs (X.blk s H scope (compEnvC scope cl C X.env) fp) ifs (tT G E2 tt))
    (he : ∀ (s : Shared) (H : Hp) (C : Addr) (cl : List (Str × Addr)) (fp : List Addr), PE (X.blk s H scope (compEnvC scope cl C X.env) fp) elt (tE G E2 te))
    (hix : ∀ i ∈ ix, i ∈ own.map (·.2) := by decide) (hs : ∀ x, foldedSetIterable iter X.env x = pure x := by intro _; rfl) :
    PS X (.Assign [.Name y py] (.ListComp elt [⟨tg, iter, ifs, 0⟩] scope pos) spos) (tS G E (sSet i (evLcC src t tt te (own.map (·.2))))) :=
  ⟨fun pins s0 σ H D I ⟨R, ρ, s, M, w, sr, p⟩ => (ps_setLc hc hN hy hyl hsw hi ok (fun s H C cl fp => (hg s H C cl fp).pg) ht he hs).run pins s0 σ H D I (lc_new (hg s0 H 0 [] []).sim hix
    (stepS (Q' := fun x H1 => gName i x σ H1 D.nx) w sr p fun R1 ρ1 M1 H1 va v e1 w1 sr1 r1 p1 => nxt_now w1 (sr1.set i r1) p1))⟩
end

/-! ### defs -/
abbrev FM := List Va → Store → Res
def kFn (n : Nat) (f : FM) : FM := fun l M => if l.length = n then f l M else none
def spI (G : Sig) (n : Nat) (f : FM) : Sp := fun vs H Q E => vs.length = n ∧ ∃ R ρ M l, Wd G R ρ M H ∧ VRs G R ρ l vs ∧ Post G R ρ H (f l M) Q E0
def startI (n : Nat) (l : List Va) : SL := l.map some ++ List.replicate (n - l.length) none
def endF (r : RS) : Res := match r with
  | some (.nx, _, M) => some (.val .non, M)
  | some (.ret v, _, M) => some (.val v, M)
  | some (.exc c v, _, M) => some (.exc c v, M)
  | _ => none
def runF (n : Nat) (es : SS) : FM := fun l M => endF (es (startI n l) M)
theorem sr_start {G : Sig} {R : Hp} {ρ : List Addr} {N : List Str} {l : List Va} {vs : List V} (r : VRs G R ρ l vs) : SR G R ρ (startI N.length l) (L2.start N vs) := by
  have hl := r.length
  refine ⟨by unfold startI L2.start; simp [hl], fun i x e => ?_⟩
  unfold startI at e
  unfold L2.start
  by_cases hi : i < l.length
  · rw [List.getElem?_append_left (by simpa using hi), List.getElem?_map] at e
    cases q : l[i]? with
    | none => rw [q] at e; cases e
    | some y =>
      rw [q] at e
      cases e
      obtain ⟨v, h1, h2⟩ := r.get q
      exact ⟨v, by rw [List.getElem?_append_left (by simp; omega), List.getElem?_map, h1]; rfl, h2⟩
  · rw [List.getElem?_append_right (by simpa using hi), List.getElem?_replicate] at e
    split at e <;> cases e
theorem post_end {G : Sig} {R : Hp} {ρ : List Addr} {H : Hp} {r : RS} {Q : VK} {E : XK} (h : Post G R ρ H (endF r) Q E) : PostS G R ρ H r { nx := fun _ H' => Q .non H', rt := Q } E := by
  rcases r with _ | ⟨_ | x | _ | _ | ⟨c, x⟩, s, M⟩
  · exact h
  · exact fun R' ρ' H' σ' e w sr => h R' ρ' H' .non e w .non
  · exact h
  · exact False.elim h
  · exact False.elim h
  · exact h
theorem spI_imp {G : Sig} {n : Nat} {f f' : FM} (h : ∀ l M r, f' l M = some r → f l M = some r) : ∀ vs H Q E, spI G n f' vs H Q E → spI G n f vs H Q E := fun vs H Q E ⟨hl, R, ρ, M, l, w, r, p⟩ => by
  refine ⟨hl, R, ρ, M, l, w, r, ?_⟩
  cases q : f' l M with
  | none => rw [q] at p; exact False.elim p
  | some x => rw [q] at p; rw [h l M x q]; exact p
/-! ### a def's promise where no repr is under way (the guards are known) -/
structure FnG (P : Program) (w : World) (K : PySem.W.Frag) (mg : Str → Option Value) (base : Heap) (CX : CXT) (k : Nat) (f : Addr) (fd : FuncData) (ps : List Str) (sp : Sp) : Prop where
  arity : ∀ vs H Q E, sp vs H Q E → vs.length = ps.length
  go : ∀ (A : Around), Room k A → A.guards = some [] →
    ∀ (outer : List Env) (s : Shared) (H : Hp), Env0 P w K mg base A outer s H →
    ∀ (args : Args) (us : List Value) (vs : List V), BindsTo s fd args (ps.zip us) → Vals vs us →
    ∀ (Q : VK) (E : XK), sp vs H Q E → codeAny (model P w) A (.call (.ref f) args) (CR CX outer P w H s Q E) s
section
variable {P : Program} {w : World} {K : PySem.W.Frag} {mg : Str → Option Value} {base : Heap} {G : Sig} {CX : CXT}
theorem FnG.mono {j k : Nat} {f : Addr} {fd : FuncData} {ps : List Str} {sp : Sp} (F : FnG P w K mg base CX j f fd ps sp) (h : j ≤ k) : FnG P w K mg base CX k f fd ps sp :=
  ⟨F.arity, fun A r g => F.go A (r.mono h) g⟩
theorem FnG.imp {k : Nat} {f : Addr} {fd : FuncData} {ps : List Str} {sp sp' : Sp} (F : FnG P w K mg base CX k f fd ps sp) (h : ∀ vs H Q E, sp' vs H Q E → sp vs H Q E) : FnG P w K mg base CX k f fd ps sp' :=
  ⟨fun vs H Q E q => F.arity vs H Q E (h vs H Q E q), fun A r g outer s H e args us vs b v Q E q => F.go A r g outer s H e args us vs b v Q E (h vs H Q E q)⟩
theorem fnG_of {x qual : Str} {st : Stmt} {f : Addr} {fd : FuncData} {N ps : List Str} {k : Nat} {sp : Sp} (F : Fun K x qual st f fd) (S : FnScope N ps (defScope st)) (ar : ∀ vs H Q E, sp vs H Q E → vs.length = ps.length)
    (body : ∀ (cdv : Value) (A : Around) (outer : List Env) (s : Shared) (H : Hp) (vs : List V) (Q : VK) (E : XK), Room k (A.deeper (envOfC qual (defScope st) s.heap.objs.size f cdv)) → A.guards = some [] → sp vs H Q E →
      ∃ t, PSs (cxOf CX P w K mg base N qual (defScope st) f cdv A outer s H E) (defBody st) t ∧ t { nx := fun _ H' => Q .non H', rt := Q } (L2.start N vs) H) :
    FnG P w K mg base CX (k + 1) f fd ps sp := by
  obtain ⟨oc, od, kV, doc, pm, an, cdv, ct, osl, rfl, lk, hcd⟩ := F.ex
  refine ⟨ar, fun A rm gd outer s H e0 args us vs bt rv Q E q => ?_⟩
  have arl := ar vs H Q E q
  have kh : K.In s.heap := e0.mod.kin.keeps fun b o z => (e0.bs b o z).1
  have nl : s.heap.NoLimit := e0.mod.nolimit.keeps fun b o z => (e0.bs b o z).1
  refine codeAny_call_function rm.depth (kh _ _ lk) rfl S.co S.gen rfl (PySem.W.codeRec_of kh hcd) (bt _ _ _ _ ?_)
  refine wpAny_newFunctionEnv_cells S.kind (fun ⟨n, v⟩ hm => ?_) fun env he s1 ic => ?_
  · have hp := (List.of_mem_zip hm).1
    rcases S.par n hp with z | z
    · exact .inl z
    · exact .inr ⟨z, PySem.W.cellsFrom_some _ _ _ (.inl z)⟩
  · subst he
    refine ⟨nl.keeps ic.toInCall.keep, codeAny_func ?_⟩
    obtain ⟨t, pt, tt⟩ := body cdv A outer s H vs Q E (rm.deeper _) gd q
    have J := inv_start (CX := CX) (E := E) S rm.hd e0 arl rv ic
    refine wpAny_mono (pt.run [] s1 (L2.start N vs) H _ J tt) (fun fl s' z => ?_) fun _ _ z => z
    match fl, z with
    | .next, ⟨_, H', J', q'⟩ => exact ⟨.non, H', J'.os, J'.bare, J'.base, J'.hok, rfl, q'⟩
    | .ret u, ⟨v, _, H', J', rv', q'⟩ => exact ⟨v, H', J'.os, J'.bare, J'.base, J'.hok, rv', q'⟩
    | .brk, ⟨_, _, _, q'⟩ => exact q'.elim
    | .cont, ⟨_, _, _, q'⟩ => exact q'.elim
/-- a def that raises nothing, by the value of its body -/
theorem ok_fn {x qual : Str} {st : Stmt} {f : Addr} {fd : FuncData} {N ps : List Str} {k : Nat} {es : SS} (F : Fun K x qual st f fd) (S : FnScope N ps (defScope st))
    (hb : ∀ (cdv : Value) (A : Around) (outer : List Env) (s : Shared) (H : Hp) (E : XK), Room k (A.deeper (envOfC qual (defScope st) s.heap.objs.size f cdv)) → A.guards = some [] →
      PSs (cxOf CX0 P w K mg base N qual (defScope st) f cdv A outer s H E).nox (defBody st) (tS G E0 es)) : FnG P w K mg base CX0 (k + 1) f fd ps (spI G ps.length (runF N.length es)) :=
  fnG_of F S (fun vs H Q E h => h.1) fun cdv A outer s H vs Q E hr hg ⟨hl, R, ρ, M, l, wd, r, p⟩ =>
    ⟨_, (hb cdv A outer s H E hr hg).nox, R, ρ, startI N.length l, M, wd, sr_start r, post_end p⟩
end
section
variable {X : Cx} {G : Sig} {E : XK} {a o : Expr} {es : List Expr} {ea eo : SE} {pos p' apos : Pos} {k : Nat} {f C : Addr} {fd : FuncData} {ps : List Str} {x m : Str} {n : Nat} {fM : FM} {sp : Sp} {CX : CXT} {ta : TE} {t : TA} {dvs : List V} {ds : List Value}
theorem run_fnG {pins : List (Addr × Obj)} {σ : L2.St} {H : Hp} {s : Shared} {Q : VK} {us : List Value} {vs : List V} (F : FnG X.prog X.w X.K X.mg X.base CX k f fd ps sp) (hr : Room k X.A) (hgd : X.A.guards = some []) (hb : Binds X.K fd ps ds) (hd : Vals dvs ds)
    (hx : Passes CX X E) (I : Inv X pins σ H s) (rv : Vals vs us) (h : sp (vs ++ dvs) H Q E) : wpAny (model X.prog X.w) X.A (call (.ref f) us) (EP X pins σ Q) X.xe s := by
  have r2 := rv.append hd
  have bt := hb s us I.kIn (r2.length ▸ F.arity _ _ _ _ h)
  refine wpAny_call (codeAny_mono (F.go X.A hr hgd X.stack s H I.env0 _ _ _ bt r2 Q E h) fun r s' z => ?_)
  match r, z with
  | .error e, z => exact hx pins σ H s e s' I z
  | .ok (.ret u), z => exact I.after z
  | .ok .next, z => exact False.elim z
  | .ok .brk, z => exact False.elim z
  | .ok .cont, z => exact False.elim z
theorem pe_callG (F : FnG X.prog X.w X.K X.mg X.base CX k f fd ps sp) (hr : Room k X.A) (hgd : X.A.guards = some []) (hg : Gl X x) (hm : X.mg x = some (.ref f)) (hk : PySem.W.keepIn X.K (.ref f) = true) (hb : Binds X.K fd ps ds) (hd : Vals dvs ds) (hx : Passes CX X E)
    (ha : PA X (a :: es) t) (hdb : (x == ("__debug__" : Str)) = false := by decide) (he : starEach (a :: es) X.env = (false, eval a X.env) :: starEach es X.env := by rfl) (hpl : (backTo pos (starEach es X.env)).any (·.1) = false := by rfl) :
    PE X (.Call (.Name x p') (a :: es) [] pos) (tCall sp dvs E t) :=
  ⟨fun pins s σ H Q I h => wpAny_Call_Name_kw (ld_glob I hg hm (PySem.W.callWith_K (h₀ := X.base) I.ok.mod.kin hk
    (thn (ha.run pos pins s σ H _ I h) fun _ _ ⟨_, _, I1, r, q⟩ => ⟨I1.kIn, run_fnG F hr hgd hb hd hx I1 r q⟩) he hpl) hdb)⟩
theorem pe_callG0 (F : FnG X.prog X.w X.K X.mg X.base CX k f fd ps sp) (hr : Room k X.A) (hgd : X.A.guards = some []) (hg : Gl X x) (hm : X.mg x = some (.ref f)) (hk : PySem.W.keepIn X.K (.ref f) = true) (hb : Binds X.K fd ps ds) (hd : Vals dvs ds) (hx : Passes CX X E)
    (hdb : (x == ("__debug__" : Str)) = false := by decide) : PE X (.Call (.Name x p') [] [] pos) (tCall sp dvs E tNil) :=
  ⟨fun pins s σ H Q I h => wpAny_Call_Name_kw (ld_glob I hg hm (PySem.W.callWith_K0 I.kIn hk (run_fnG (us := []) F hr hgd hb hd hx I .nil h)) hdb)⟩
theorem q_fn (F : FnG X.prog X.w X.K X.mg X.base CX0 k f fd ps (spI G n fM)) (hr : Room k X.A) (hgd : X.A.guards = some []) (hg : Gl X x) (hm : X.mg x = some (.ref f)) (hk : PySem.W.keepIn X.K (.ref f) = true) (hb : Binds X.K fd ps [])
    (ha : PA X (a :: es) (tA G E0 ea)) (hdb : (x == ("__debug__" : Str)) = false := by decide) (he : starEach (a :: es) X.env = (false, eval a X.env) :: starEach es X.env := by rfl) (hpl : (backTo pos (starEach es X.env)).any (·.1) = false := by rfl) :
    PE X (.Call (.Name x p') (a :: es) [] pos) (tE G E0 (evL (kFn n fM) ea)) :=
  pe_imp (pe_callG F hr hgd hg hm hk hb .nil pass0 ha hdb he hpl) fun σ H Q ⟨R, ρ, s, M, w, sr, p⟩ => stepA w sr p fun R1 ρ1 M1 H1 l vs e1 w1 sr1 r1 p1 => by
    unfold kFn at p1
    by_cases hl : l.length = n
    · rw [if_pos hl] at p1
      exact ⟨by rw [List.append_nil, ← r1.length]; exact hl, R1, ρ1, M1, l, w1, by rw [List.append_nil]; exact r1, p1⟩
    · rw [if_neg hl] at p1; exact False.elim p1
theorem q_fn0 (F : FnG X.prog X.w X.K X.mg X.base CX0 k f fd ps (spI G 0 fM)) (hr : Room k X.A) (hgd : X.A.guards = some []) (hg : Gl X x) (hm : X.mg x = some (.ref f)) (hk : PySem.W.keepIn X.K (.ref f) = true) (hb : Binds X.K fd ps [])
    (hdb : (x == ("__debug__" : Str)) = false := by decide) : PE X (.Call (.Name x p') [] [] pos) (tE G E0 (evL (kFn 0 fM) evNil)) :=
  pe_imp (pe_callG0 F hr hgd hg hm hk hb .nil pass0 hdb) fun σ H Q ⟨R, ρ, s, M, w, sr, p⟩ => ⟨rfl, R, ρ, M, [], w, .nil, p⟩
end

/-! ### the law's end -/
/-- the law's call, its promise by value -/
theorem law_end {P : Program} {w : World} {K : PySem.W.Frag} {mg mb : Str → Option Value} {k : Nat} {fa a : Addr} {fd : FuncData} {x : Str} {s : Shared} {vs : List Value} {ns : List Int} {CA : Nat → Addr} {f : FM} {M' : Store}
    (kin : K.In s.heap) (gl : s.heap.Ns mainGlobals mg) (bl : s.heap.Ns builtinsNs mb) (blt : ∀ x : Str, x ≠ "__name__" → mb x = bootBuiltins x) (nl : s.heap.NoLimit) (md : ∃ mm, s.heap.Ns sysModules mm) (ng : s.gens = #[])
    (ha : s.heap.get? a = some { cls := .type "list", data := .seq vs.toArray }) (hi : IntsAre vs ns) (hz : ns.length ≤ sizeLine) (rm : Room k callerA)
    (F : ∀ base : Heap, K.In base → base.Ns mainGlobals mg → (∃ mm, base.Ns sysModules mm) → FnG P w K mg base CX0 k fa fd [x] (spI ⟨K, CA⟩ 1 f)) (bt : ∀ (s : Shared) (u : Value), BindsTo s fd ⟨[u], []⟩ [(x, u)])
    (hf : f [.scr ns] ⟨fun _ => none, 0⟩ = some (.val (.bl true), M')) :
    codeAny (model P w) callerA (.call (.ref fa) ⟨[.ref a], []⟩) (fun r s' => r = .ok (.ret (.bool true)) ∧ OldK s.heap s'.heap ∧ s'.os = s.os ∧ AllBare s'.gens) s := by
  have rv : Vals (ns.map V.int) vs := L2.vals_ints hi
  have main : ∀ H : Hp, SqL K H a (ns.map V.int) → HOk P w H s.heap → (∀ b u, H b = some u → b = a ∧ K.lookup a = none ∧ ∃ o xs, u = .frz o (.lst xs)) →
      codeAny (model P w) callerA (.call (.ref fa) ⟨[.ref a], []⟩) (fun r s' => r = .ok (.ret (.bool true)) ∧ OldK s.heap s'.heap ∧ s'.os = s.os ∧ AllBare s'.gens) s := by
    intro H sq ok only
    have un : ∀ {b : Addr} {o : Obj}, s.heap.get? b = some o → (b = a → K.lookup a ≠ none ∨ ∃ es ep, o.data = .dict es ep) → (hidT s.heap H).get? b = some o := fun {b o} e h => by
      refine hidT_get e ?_
      cases q : H b with
      | none => rfl
      | some u =>
        obtain ⟨rfl, z, _⟩ := only b u q
        rcases h rfl with h | ⟨es, ep, d⟩
        · exact absurd z h
        · rw [ha] at e
          cases e
          cases d
    have ns' : ∀ {b : Addr} {m : Str → Option Value}, s.heap.Ns b m → (hidT s.heap H).Ns b m := fun ⟨o, es, ep, e, d, r⟩ => ⟨o, es, ep, un e fun _ => .inr ⟨es, ep, d⟩, d, r⟩
    have kin' : K.In (hidT s.heap H) := fun b o e => un (kin b o e) fun z => .inl (by rw [← z, e]; simp)
    have nl' : (hidT s.heap H).NoLimit := nl.elim fun m z => ⟨m, ns' z.1, z.2⟩
    have e0 : Env0 P w K mg (hidT s.heap H) callerA [] s H :=
      { frames := rfl, mod := { kin := kin', glob := ns' gl, blt := ⟨mb, ns' bl, blt⟩, nolimit := nl' }, bs := fun b o e => of_hidT e, bsz := Nat.le_of_eq (hidT_size _ _), funs := trivial,
        frf := fun b hb => (nomatch hb), hok := ok, bare := .of_eq ng }
    have wd : Wd ⟨K, CA⟩ H [] ⟨fun _ => none, 0⟩ H := ⟨fun _ _ h => h, rfl, fun _ _ h => (nomatch h), fun _ _ _ _ _ h => (nomatch h), fun _ h => (nomatch h)⟩
    have sp : spI ⟨K, CA⟩ 1 f [.ref a] H (fun v H' => v = .bl true) fun _ _ _ => False :=
      ⟨rfl, H, [], ⟨fun _ => none, 0⟩, [.scr ns], wd, .cons (.scr sq hz) .nil, by
        rw [hf]
        intro R' ρ' H' v _ _ r
        cases r
        rfl⟩
    refine codeAny_mono ((F _ kin' (ns' gl) (md.elim fun m z => ⟨m, ns' z⟩)).go callerA rm rfl [] s H e0 ⟨[.ref a], []⟩ [.ref a] [.ref a] (bt s (.ref a)) (.cons rfl .nil) _ _ sp) fun r s' z => ?_
    match r, z with
    | .error e, z => exact z.elim
    | .ok .next, z => exact z.elim
    | .ok .brk, z => exact z.elim
    | .ok .cont, z => exact z.elim
    | .ok (.ret u), ⟨v, H', os, bare, keep, ok', ru, q⟩ =>
      subst q
      obtain rfl : u = Value.bool true := ru
      refine ⟨rfl, OldK.of_keep fun b o e => ?_, os, bare⟩
      cases q : H b with
      | none => exact keep.keep b o e q (fun z => nomatch z) fun z => nomatch z
      | some u =>
        obtain ⟨_, _, ob, xs, rfl⟩ := only b u q
        have f1 := (ok b _ q).1
        have f2 := (ok' b _ (keep.frzs b ob _ q)).1
        rw [e] at f1
        cases f1
        exact f2
  by_cases kl : K.lookup a = none
  · refine main (fun b => if b = a then some (.frz { cls := .type "list", data := .seq vs.toArray } (.lst (ns.map V.int))) else none) (.inl (.inr ⟨_, if_pos rfl⟩)) (fun b u z => ?_) fun b u z => ?_
    all_goals
      try dsimp only at z
      by_cases q : b = a
      · subst q
        rw [if_pos rfl] at z
        cases z
        first
          | exact ⟨rfl, kl, _, _, rfl⟩
          | exact ⟨ha, by rw [List.length_map]; exact hz, vs, 0, rv, ha⟩
      · rw [if_neg q] at z
        cases z
  · obtain ⟨o, kl⟩ := Option.ne_none_iff_exists'.mp kl
    have e := kin a o kl
    rw [ha] at e
    cases e
    exact main (fun _ => none) (.inr ⟨_, vs.toArray, 0, kl, rfl, rfl, rfl, by rw [List.size_toArray, ← rv.length, List.length_map]; exact hz, rv⟩) (fun b u z => by cases z) fun b u z => by cases z
end PV

set_option Elab.async false
set_option linter.all false
set_option maxRecDepth 100000
set_option maxHeartbeats 4000000
namespace PV
open PySem L2

/-! ### numbers -/
def divOk (j : Int) : Prop := 0 < j ∧ j.natAbs.log2 < 9000
def powOk (i j : Int) : Prop := 0 ≤ j ∧ (Builtin.Int.intBits i : Int) * j ≤ 2 ^ 27
noncomputable section
open Classical
def opAdd (M : Store) (a b : Va) : Option Va := match a, b with
  | .int i, .int j => some (.int (i + j))
  | .str x, .str y => if x.length + y.length ≤ sizeLine then some (.str (x ++ y)) else none
  | a, b => match ownOf M a, ownOf M b with
    | some l, some m => if l.length + m.length ≤ sizeLine then some (.lst (l ++ m)) else none
    | _, _ => none
def opSub (M : Store) (a b : Va) : Option Va := match a, b with
  | .int i, .int j => some (.int (i - j))
  | _, _ => none
def opMul (M : Store) (a b : Va) : Option Va := match a, b with
  | .int i, .int j => if IntMulOk i j then some (.int (i * j)) else none
  | a, .int k => match ownOf M a with
    | some l => if -(2 ^ 63) ≤ k ∧ k < 2 ^ 63 ∧ l.length * k.toNat ≤ sizeLine then some (.lst (List.replicate k.toNat l).flatten) else none
    | none => none
  | _, _ => none
def opDiv (M : Store) (a b : Va) : Option Va := match a, b with
  | .int i, .int j => if divOk j then some (.int (i / j)) else none
  | _, _ => none
def opMod (M : Store) (a b : Va) : Option Va := match a, b with
  | .int i, .int j => if 0 < j then some (.int (i % j)) else none
  | _, _ => none
def opPow (M : Store) (a b : Va) : Option Va := match a, b with
  | .int i, .int j => if powOk i j then some (.int (i ^ j.toNat)) else none
  | _, _ => none
end
def opLt (M : Store) (a b : Va) : Option Va := match a, b with
  | .int i, .int j => some (.bl (decide (i < j)))
  | _, _ => none
def opLe (M : Store) (a b : Va) : Option Va := match a, b with
  | .int i, .int j => some (.bl (decide (i ≤ j)))
  | _, _ => none
def opGt (M : Store) (a b : Va) : Option Va := match a, b with
  | .int i, .int j => some (.bl (decide (j < i)))
  | _, _ => none
def opGe (M : Store) (a b : Va) : Option Va := match a, b with
  | .int i, .int j => some (.bl (decide (j ≤ i)))
  | _, _ => none
def opNeg (M : Store) (a : Va) : Option Va := match a with
  | .int i => some (.int (-i))
  | _ => none

abbrev rAddS : R2 := fun x y H Q => ∃ i j, x = .str i ∧ y = .str j ∧ i.length + j.length ≤ sizeLine ∧ Q (.str (i ++ j)) H
section
variable {G : Sig} {X : Cx}
theorem s_add : Op2 G (fun x y H Q => rI0 (fun i j => .int (i + j)) x y H Q ∨ (rAddS x y H Q ∨ rCat x y H Q)) opAdd := by
  intro R ρ M H x y va vb res Q w ra rb h g
  have lists : (match ownOf M va, ownOf M vb with
    | some l, some m => if l.length + m.length ≤ sizeLine then some (Va.lst (l ++ m)) else none
    | _, _ => none) = some res → rCat x y H Q := fun h => by
    split at h
    · rename_i l m h1 h2
      obtain ⟨a, vs, rfl, ha, rv, z⟩ := own_read w ra h1
      obtain ⟨b, ws, rfl, hb, rw', z'⟩ := own_read w rb h2
      split at h
      · rename_i hz
        cases h
        exact ⟨a, b, vs, ws, rfl, rfl, ha, hb, by rw [← rv.length, ← rw'.length]; exact hz, fun p hp => gives_lst w (rv.append rw') (by simpa using hz) g hp⟩
      · cases h
    · cases h
  unfold opAdd at h
  split at h
  · cases h; cases ra; cases rb
    exact .inl ⟨_, _, rfl, rfl, gives_now w (.int _) g⟩
  · cases ra; cases rb
    split at h
    · rename_i hz; cases h
      exact .inr (.inl ⟨_, _, rfl, rfl, hz, gives_now w (.str _) g⟩)
    · cases h
  · exact .inr (.inr (lists h))
theorem q_add {E : XK} {a b : Expr} {ea eb : SE} {pos : Pos} (ha : PE X a (tE G E ea)) (hb : PE X b (tE G E eb)) : PE X (.BinOp a .Add b pos) (tE G E (ev2 opAdd ea eb)) := q_op (op_add.or (op_add_str.or op_cat)) s_add ha hb
theorem s_sub : Op2 G (rI0 fun i j => .int (i - j)) opSub := by
  intro R ρ M H x y va vb res Q w ra rb h g
  unfold opSub at h
  split at h
  · cases h; cases ra; cases rb
    exact ⟨_, _, rfl, rfl, gives_now w (.int _) g⟩
  · cases h
theorem q_sub {E : XK} {a b : Expr} {ea eb : SE} {pos : Pos} (ha : PE X a (tE G E ea)) (hb : PE X b (tE G E eb)) : PE X (.BinOp a .Sub b pos) (tE G E (ev2 opSub ea eb)) := q_op op_sub s_sub ha hb
theorem op_mulA : OpR X (binaryOp .Mult) (rI IntMulOk fun i j => .int (i * j)) := opI fun _ _ _ _ _ _ _ hc q => PyProof.Rows.mul_int q hc
theorem VRs.rep {R : Hp} {ρ : List Addr} {l : List Va} {vs : List V} (r : VRs G R ρ l vs) : ∀ n : Nat, VRs G R ρ (List.replicate n l).flatten (List.replicate n vs).flatten
  | 0 => .nil
  | n + 1 => by
    rw [List.replicate_succ, List.replicate_succ, List.flatten_cons, List.flatten_cons]
    exact r.append (VRs.rep r n)
theorem s_mul : Op2 G (fun x y H Q => rI IntMulOk (fun i j => .int (i * j)) x y H Q ∨ rRep x y H Q) opMul := by
  intro R ρ M H x y va vb res Q w ra rb h g
  unfold opMul at h
  split at h
  · cases ra; cases rb
    split at h
    · rename_i hz; cases h
      exact .inl ⟨_, _, rfl, rfl, hz, gives_now w (.int _) g⟩
    · cases h
  · cases rb
    split at h
    · rename_i l h1
      obtain ⟨a, vs, rfl, ha, rv, z⟩ := own_read w ra h1
      split at h
      · rename_i hz
        cases h
        refine .inr ⟨a, _, vs, rfl, rfl, ha, hz.1, hz.2.1, by rw [← rv.length]; exact hz.2.2, fun p hp => gives_lst w (rv.rep _) ?_ g hp⟩
        rw [List.length_flatten, List.map_replicate, List.sum_replicate_nat]
        rw [Nat.mul_comm]
        exact hz.2.2
      · cases h
    · cases h
  · cases h
theorem q_mul {E : XK} {a b : Expr} {ea eb : SE} {pos : Pos} (ha : PE X a (tE G E ea)) (hb : PE X b (tE G E eb)) : PE X (.BinOp a .Mult b pos) (tE G E (ev2 opMul ea eb)) := q_op (op_mulA.or op_rep) s_mul ha hb
theorem s_div : Op2 G (rI CDivW fun i j => .int (i / j)) opDiv := by
  intro R ρ M H x y va vb res Q w ra rb h g
  unfold opDiv at h
  split at h
  · cases ra; cases rb
    split at h
    · rename_i hz; cases h
      exact ⟨_, _, rfl, rfl, hz, gives_now w (.int _) g⟩
    · cases h
  · cases h
theorem q_div {E : XK} {a b : Expr} {ea eb : SE} {pos : Pos} (ha : PE X a (tE G E ea)) (hb : PE X b (tE G E eb)) : PE X (.BinOp a .FloorDiv b pos) (tE G E (ev2 opDiv ea eb)) := q_op op_fdivW s_div ha hb
theorem s_mod : Op2 G (rI (fun _ j => 0 < j) fun i j => .int (i % j)) opMod := by
  intro R ρ M H x y va vb res Q w ra rb h g
  unfold opMod at h
  split at h
  · cases ra; cases rb
    split at h
    · rename_i hz; cases h
      exact ⟨_, _, rfl, rfl, hz, gives_now w (.int _) g⟩
    · cases h
  · cases h
theorem q_mod {E : XK} {a b : Expr} {ea eb : SE} {pos : Pos} (ha : PE X a (tE G E ea)) (hb : PE X b (tE G E eb)) : PE X (.BinOp a .Mod b pos) (tE G E (ev2 opMod ea eb)) := q_op op_mod s_mod ha hb
theorem op_powW : OpR X (binaryOp .Pow) (rI powOk fun i j => .int (i ^ j.toNat)) := opI fun _ _ _ _ _ _ _ hc q => PyProof.Rows.pow_int hc.1 hc.2 q
theorem s_pow : Op2 G (rI powOk fun i j => .int (i ^ j.toNat)) opPow := by
  intro R ρ M H x y va vb res Q w ra rb h g
  unfold opPow at h
  split at h
  · cases ra; cases rb
    split at h
    · rename_i hz; cases h
      exact ⟨_, _, rfl, rfl, hz, gives_now w (.int _) g⟩
    · cases h
  · cases h
theorem q_pow {E : XK} {a b : Expr} {ea eb : SE} {pos : Pos} (ha : PE X a (tE G E ea)) (hb : PE X b (tE G E eb)) : PE X (.BinOp a .Pow b pos) (tE G E (ev2 opPow ea eb)) := q_op op_powW s_pow ha hb
theorem s_lt : Op2 G (rI0 fun i j => .bl (decide (i < j))) opLt := by
  intro R ρ M H x y va vb res Q w ra rb h g
  unfold opLt at h
  split at h
  · cases h; cases ra; cases rb
    exact ⟨_, _, rfl, rfl, gives_now w (.bl _) g⟩
  · cases h
theorem s_le : Op2 G (rI0 fun i j => .bl (decide (i ≤ j))) opLe := by
  intro R ρ M H x y va vb res Q w ra rb h g
  unfold opLe at h
  split at h
  · cases h; cases ra; cases rb
    exact ⟨_, _, rfl, rfl, gives_now w (.bl _) g⟩
  · cases h
theorem s_gt : Op2 G (rI0 fun i j => .bl (decide (j < i))) opGt := by
  intro R ρ M H x y va vb res Q w ra rb h g
  unfold opGt at h
  split at h
  · cases h; cases ra; cases rb
    exact ⟨_, _, rfl, rfl, gives_now w (.bl _) g⟩
  · cases h
theorem s_ge : Op2 G (rI0 fun i j => .bl (decide (j ≤ i))) opGe := by
  intro R ρ M H x y va vb res Q w ra rb h g
  unfold opGe at h
  split at h
  · cases h; cases ra; cases rb
    exact ⟨_, _, rfl, rfl, gives_now w (.bl _) g⟩
  · cases h
theorem s_neg : Op1 G (rU fun i => .int (-i)) opNeg := by
  intro R ρ M H x va res Q w ra h g
  unfold opNeg at h
  split at h
  · cases h; cases ra
    exact ⟨_, rfl, gives_now w (.int _) g⟩
  · cases h
theorem q_neg {E : XK} {a : Expr} {ea : SE} {pos : Pos} (ha : PE X a (tE G E ea)) : PE X (.UnaryOp .USub a pos) (tE G E (ev1 opNeg ea)) := q_un un_neg s_neg ha
end

/-! ### plain data -/
def kPd : Key → PyData
  | .inl i => .int i
  | .inr x => .str x
mutual
inductive PdR (M : Store) : Va → PyData → Prop
  | non : PdR M .non .none
  | bl (b : Bool) : PdR M (.bl b) (.bool b)
  | int (i : Int) : PdR M (.int i) (.int i)
  | str (x : Str) : PdR M (.str x) (.str x)
  | lst {x : Va} {l : List Va} {ds : List PyData} : lstOf M x = some l → PdRs M l ds → PdR M x (.list ds)
  | tup {l : List Va} {ds : List PyData} : PdRs M l ds → PdR M (.tup l) (.tuple ds)
  | dic {x : Va} {l : List (Key × Va)} {ds : List (PyData × PyData)} : dicOf M x = some l → PdRk M l ds → PdR M x (.dict ds)
inductive PdRs (M : Store) : List Va → List PyData → Prop
  | nil : PdRs M [] []
  | cons {x : Va} {d : PyData} {l : List Va} {ds : List PyData} : PdR M x d → PdRs M l ds → PdRs M (x :: l) (d :: ds)
inductive PdRk (M : Store) : List (Key × Va) → List (PyData × PyData) → Prop
  | nil : PdRk M [] []
  | cons {k : Key} {x : Va} {d : PyData} {l : List (Key × Va)} {ds : List (PyData × PyData)} : PdR M x d → PdRk M l ds → PdRk M ((k, x) :: l) ((kPd k, d) :: ds)
end
section
variable {M : Store}
mutual
theorem PdR.det : ∀ {x : Va} {d e : PyData}, PdR M x d → PdR M x e → d = e
  | _, _, _, .non, h => by cases h with
    | non => rfl
    | lst h _ => cases h
    | dic h _ => cases h
  | _, _, _, .bl b, h => by cases h with
    | bl => rfl
    | lst h _ => cases h
    | dic h _ => cases h
  | _, _, _, .int b, h => by cases h with
    | int => rfl
    | lst h _ => cases h
    | dic h _ => cases h
  | _, _, _, .str b, h => by cases h with
    | str => rfl
    | lst h _ => cases h
    | dic h _ => cases h
  | x, _, _, .lst h1 h2, h => by cases h with
    | lst g1 g2 =>
      rw [h1] at g1
      cases g1
      rw [PdRs.det h2 g2]
    | dic g1 g2 =>
      cases x <;> first | cases h1 <;> done | cases g1 <;> done | skip
      rename_i n
      unfold lstOf at h1
      unfold dicOf at g1
      dsimp only at h1 g1
      rcases q : M.c n with _ | _ | _ | _ <;> rw [q] at h1 g1 <;> first | cases h1 <;> done | cases g1
    | _ => cases h1
  | _, _, _, .tup h2, h => by cases h with
    | tup g2 => rw [PdRs.det h2 g2]
    | lst h _ => cases h
    | dic h _ => cases h
  | x, _, _, .dic h1 h2, h => by cases h with
    | dic g1 g2 =>
      rw [h1] at g1
      cases g1
      rw [PdRk.det h2 g2]
    | lst g1 g2 =>
      cases x <;> first | cases h1 <;> done | cases g1 <;> done | skip
      rename_i n
      unfold dicOf at h1
      unfold lstOf at g1
      dsimp only at h1 g1
      rcases q : M.c n with _ | _ | _ | _ <;> rw [q] at h1 g1 <;> first | cases h1 <;> done | cases g1
    | _ => cases h1
theorem PdRs.det : ∀ {x : List Va} {d e : List PyData}, PdRs M x d → PdRs M x e → d = e
  | _, _, _, .nil, h => by cases h; rfl
  | _, _, _, .cons h1 h2, h => by cases h with
    | cons g1 g2 => rw [PdR.det h1 g1, PdRs.det h2 g2]
theorem PdRk.det : ∀ {x : List (Key × Va)} {d e : List (PyData × PyData)}, PdRk M x d → PdRk M x e → d = e
  | _, _, _, .nil, h => by cases h; rfl
  | _, _, _, .cons h1 h2, h => by cases h with
    | cons g1 g2 => rw [PdR.det h1 g1, PdRk.det h2 g2]
end
end
noncomputable section
open Classical
def pdOf (M : Store) (x : Va) : Option PyData := if h : ∃ d, PdR M x d then some h.choose else none
theorem pdOf_eq {M : Store} {x : Va} {d : PyData} (h : PdR M x d) : pdOf M x = some d := by
  unfold pdOf
  have q : ∃ d, PdR M x d := ⟨d, h⟩
  rw [dif_pos q, PdR.det q.choose_spec h]
theorem pdOf_some {M : Store} {x : Va} {d : PyData} (h : pdOf M x = some d) : PdR M x d := by
  unfold pdOf at h
  split at h
  · rename_i q
    cases h
    exact q.choose_spec
  · cases h
end
section
variable {X : Cx} {pins : List (Addr × Obj)} {σ : L2.St} {H R : Hp} {s : Shared} {G : Sig} {ρ : List Addr} {M : Store}
/-- a datum without dicts is read off the heap -/
theorem hasDict_of {d : PyData} {ds : List PyData} (h : PyData.hasDictAll (d :: ds) = false) : d.hasDict = false ∧ PyData.hasDictAll ds = false := by
  simpa [PyData.hasDictAll] using h
mutual
theorem pd_reads (I : Inv X pins σ H s) (hK : X.K = G.K) (w : Wd G R ρ M H) : ∀ {x : Va} {d : PyData} {v : V} {u : Value}, PdR M x d → VR G R ρ x v → RelV v u → d.hasDict = false → ∃ as, Reads s.heap u d as
  | _, _, _, _, .non, r, q, _ => by cases r; cases q; exact ⟨_, .none⟩
  | _, _, _, _, .bl b, r, q, _ => by cases r; cases q; exact ⟨_, .bool b⟩
  | _, _, _, _, .int b, r, q, _ => by cases r; obtain ⟨t, rfl⟩ := q; exact ⟨_, .int b t⟩
  | _, _, _, _, .str b, r, q, _ => by cases r; obtain ⟨t, rfl⟩ := q; exact ⟨_, .str b t⟩
  | _, _, _, _, .lst h1 h2, r, q, hd => by
    obtain ⟨a, vs, rfl, sq, rv, _⟩ := lst_read w r h1
    cases q
    rw [← hK] at sq
    obtain ⟨its, r', ⟨o, n, ho, hc, _, hdt⟩, _⟩ := I.list sq
    obtain ⟨as, hr⟩ := pd_readsAll I hK w h2 rv r' (by simpa [PyData.hasDict] using hd)
    exact ⟨_, .list ho hc hdt hr⟩
  | _, _, _, _, .tup h2, r, q, hd => by
    obtain ⟨a, vs, rfl, sq, rv, _⟩ := tup_read w r rfl
    cases q
    obtain ⟨its, r', ⟨o, ho, hc, n, hdt⟩, _⟩ := I.tuple (.of sq)
    obtain ⟨as, hr⟩ := pd_readsAll I hK w h2 rv r' (by simpa [PyData.hasDict] using hd)
    exact ⟨_, .tuple ho hc hdt hr⟩
  | _, _, _, _, .dic _ _, _, _, hd => by simp [PyData.hasDict] at hd
theorem pd_readsAll (I : Inv X pins σ H s) (hK : X.K = G.K) (w : Wd G R ρ M H) : ∀ {l : List Va} {ds : List PyData} {vs : List V} {us : List Value}, PdRs M l ds → VRs G R ρ l vs → Vals vs us → PyData.hasDictAll ds = false → ∃ as, ReadsAll s.heap us ds as
  | _, _, _, _, .nil, r, q, _ => by cases r; cases q; exact ⟨_, .nil⟩
  | _, _, _, _, .cons h1 h2, r, q, hd => by
    cases r with
    | cons r1 r2 =>
      cases q with
      | cons q1 q2 =>
        obtain ⟨d1, d2⟩ := hasDict_of hd
        obtain ⟨as, e1⟩ := pd_reads I hK w h1 r1 q1 d1
        obtain ⟨bs, e2⟩ := pd_readsAll I hK w h2 r2 q2 d2
        exact ⟨_, .cons e1 e2⟩
end
end
section
variable {X : Cx} {pins : List (Addr × Obj)} {σ : L2.St} {H R : Hp} {s : Shared} {G : Sig} {ρ : List Addr} {M : Store}
theorem not_mods (I : Inv X pins σ H s) (hsb : ∃ mm, X.base.Ns sysModules mm) {a : Addr} {o : Obj} {vs : Array Value} {n : Nat} (h : s.heap.get? a = some o) (hd : o.data = .seq vs n) : a ≠ sysModules := fun e => by
  obtain ⟨mm, o', es, ep, e', d', _⟩ := hsb
  have := I.bk _ _ e'
  rw [e] at h
  rw [this] at h
  cases h
  rw [d'] at hd
  cases hd
theorem key_reads {k : Key} {u : Value} {h : Heap} (p1 : keyIs k u = true) : Reads h u (kPd k) [] := by
  rcases keyIs_shape p1 with ⟨i, t, ek, ev⟩ | ⟨x, t, ek, ev⟩
  · subst ek; rw [ev]; exact .int i t
  · subst ek; rw [ev]; exact .str x t
mutual
theorem pd_readsD (I : Inv X pins σ H s) (hsb : ∃ mm, X.base.Ns sysModules mm) (hK : X.K = G.K) (w : Wd G R ρ M H) : ∀ {x : Va} {d : PyData} {v : V} {u : Value}, PdR M x d → VR G R ρ x v → RelV v u → ∃ as, Reads s.heap u d as ∧ sysModules ∉ as
  | _, _, _, _, .non, r, q => by cases r; cases q; exact ⟨_, .none, by simp⟩
  | _, _, _, _, .bl b, r, q => by cases r; cases q; exact ⟨_, .bool b, by simp⟩
  | _, _, _, _, .int b, r, q => by cases r; obtain ⟨t, rfl⟩ := q; exact ⟨_, .int b t, by simp⟩
  | _, _, _, _, .str b, r, q => by cases r; obtain ⟨t, rfl⟩ := q; exact ⟨_, .str b t, by simp⟩
  | _, _, _, _, .lst h1 h2, r, q => by
    obtain ⟨a, vs, rfl, sq, rv, _⟩ := lst_read w r h1
    cases q
    rw [← hK] at sq
    obtain ⟨its, r', ⟨o, n, ho, hc, _, hdt⟩, _⟩ := I.list sq
    obtain ⟨as, hr, hm⟩ := pd_readsAllD I hsb hK w h2 rv r'
    refine ⟨_, .list ho hc hdt hr, fun z => ?_⟩
    rcases List.mem_cons.mp z with z | z
    · exact not_mods I hsb ho hdt z.symm
    · exact hm z
  | _, _, _, _, .tup h2, r, q => by
    obtain ⟨a, vs, rfl, sq, rv, _⟩ := tup_read w r rfl
    cases q
    obtain ⟨its, r', ⟨o, ho, hc, n, hdt⟩, _⟩ := I.tuple (.of sq)
    obtain ⟨as, hr, hm⟩ := pd_readsAllD I hsb hK w h2 rv r'
    exact ⟨_, .tuple ho hc hdt hr, hm⟩
  | _, _, _, _, .dic h1 h2, r, q => by
    obtain ⟨a, vs, rfl, ha, rv, _⟩ := dic_read w r h1
    cases q
    obtain ⟨_, hs, vs', kv, o, es, ep, ho, hex, hdt, _, hp, _⟩ := dk_of I.hok ha
    obtain ⟨as, bs, r1, r2, m1, m2⟩ := pd_readsKD I hsb hK w h2 rv kv hp
    refine ⟨_, .dict ho hex.1 hdt r1 r2, fun z => ?_⟩
    rcases List.mem_append.mp z with z | z
    · rcases List.mem_cons.mp z with z | z
      · rw [← z] at hs; simp at hs
      · exact m1 z
    · exact m2 z
theorem pd_readsAllD (I : Inv X pins σ H s) (hsb : ∃ mm, X.base.Ns sysModules mm) (hK : X.K = G.K) (w : Wd G R ρ M H) : ∀ {l : List Va} {ds : List PyData} {vs : List V} {us : List Value}, PdRs M l ds → VRs G R ρ l vs → Vals vs us → ∃ as, ReadsAll s.heap us ds as ∧ sysModules ∉ as
  | _, _, _, _, .nil, r, q => by cases r; cases q; exact ⟨_, .nil, by simp⟩
  | _, _, _, _, .cons h1 h2, r, q => by
    cases r with
    | cons r1 r2 =>
      cases q with
      | cons q1 q2 =>
        obtain ⟨as, e1, m1⟩ := pd_readsD I hsb hK w h1 r1 q1
        obtain ⟨bs, e2, m2⟩ := pd_readsAllD I hsb hK w h2 r2 q2
        exact ⟨_, .cons e1 e2, fun z => (List.mem_append.mp z).elim m1 m2⟩
theorem pd_readsKD (I : Inv X pins σ H s) (hsb : ∃ mm, X.base.Ns sysModules mm) (hK : X.K = G.K) (w : Wd G R ρ M H) : ∀ {l : List (Key × Va)} {ds : List (PyData × PyData)} {vs : List (Key × V)} {us : List (Key × Value)} {es : List DictEntry}, PdRk M l ds → VRk G R ρ l vs → KV vs us → Pairs (mixKind X.prog X.w) es us →
    ∃ as bs, ReadsAll s.heap (es.map (·.key)) (ds.map (·.1)) as ∧ ReadsAll s.heap (es.map (·.val)) (ds.map (·.2)) bs ∧ sysModules ∉ as ∧ sysModules ∉ bs
  | _, _, _, _, _, .nil, r, q, p => by cases r; cases q; cases p; exact ⟨_, _, .nil, .nil, by simp, by simp⟩
  | _, _, _, _, _, .cons (k := k) h1 h2, r, q, p => by
    cases r with
    | cons r1 r2 =>
      cases q with
      | cons q1 q2 =>
        cases p with
        | cons p1 p2 p3 =>
          obtain ⟨e1, rv⟩ := q1
          obtain ⟨as, g1, m1⟩ := pd_readsD I hsb hK w h1 r1 rv
          obtain ⟨bs, cs, g2, g3, m2, m3⟩ := pd_readsKD I hsb hK w h2 r2 q2 p3
          rw [← p2] at g1
          replace p1 : keyIs _ _ = true := p1
          rw [← e1] at p1
          exact ⟨_, _, .cons (key_reads p1) g2, .cons g1 g3, fun z => (List.mem_append.mp z).elim (by simp) m2, fun z => (List.mem_append.mp z).elim m1 m3⟩
end
end
/-- repr -/
noncomputable def kRepr (l : List Va) (M : Store) : Res := match l with
  | [x] => (match pdOf M x with
    | some d => if d.showable = true ∧ d.shown.length ≤ sizeLine ∧ d.depth ≤ 60 then some (.val (.str d.shown), M) else none
    | none => none)
  | _ => none
def rRepr (G : Sig) : List V → Hp → VK → Prop := fun xs H Q => ∃ x R ρ M va d, xs = [x] ∧ Wd G R ρ M H ∧ VR G R ρ va x ∧ PdR M va d ∧ (d.showable = true ∧ d.shown.length ≤ sizeLine ∧ d.depth ≤ 60) ∧ Q (.str d.shown) H
theorem repr_leaf {prog : Program} {w : World} {A : Around} {E : Value → Shared → Prop} {s : Shared} {Q : Value → Shared → Prop} {u : Value} {d : PyData} {as : List Addr} (r : Reads s.heap u d as) (hs : d.showable = true) (hd : sysModules ∉ as) (hz : d.shown.length ≤ sizeLine)
    (hg : A.guards = some []) (hu : A.units + (d.depth + 1) < cLine) (hQ : ∀ h' t tk, (∀ b o, s.heap.get? b = some o → h'.get? b = some o) → Q (.str d.shown t) { s with heap := h', toks := tk }) : wpAny (model prog w) A (call (.builtin "repr") [u]) Q E s := by
  cases r with
  | none => exact PySem.P.repr_of_none (hQ s.heap _ _ fun _ _ e => e)
  | bool b => exact PySem.P.repr_of_bool (hQ s.heap _ _ fun _ _ e => e)
  | int i t => exact PySem.P.repr_of_int (by simpa [PyData.showable] using hs) (hQ s.heap _ _ fun _ _ e => e)
  | str x t => exact PySem.P.repr_of_str (hQ s.heap _ _ fun _ _ e => e) hz
  | list h1 h2 h3 h4 => exact repr_of_reads' (.list h1 h2 h3 h4) hs (fun _ => hd) hg hu (fun _ _ e => e) hQ hz
  | tuple h1 h2 h3 h4 => exact repr_of_reads' (.tuple h1 h2 h3 h4) hs (fun _ => hd) hg hu (fun _ _ e => e) hQ hz
  | dict h1 h2 h3 h4 h5 => exact repr_of_reads' (.dict h1 h2 h3 h4 h5) hs (fun _ => hd) hg hu (fun _ _ e => e) hQ hz
section
variable {X : Cx} {G : Sig}
theorem call_reprA {k : Nat} (hK : X.K = G.K) (hr : Room k X.A) (hg : X.A.guards = some []) (hsb : ∃ mm, X.base.Ns sysModules mm) : CallR X (.builtin "repr") (rRepr G) := by
  intro pins s σ H xs us Q I rv ⟨x, R, ρ, M, va, d, e, w, r, pd, ⟨h1, h3, h4⟩, q⟩
  subst e
  obtain ⟨u, rfl, ru⟩ := vals1 rv
  obtain ⟨as, rd, h2⟩ := pd_readsD I hsb hK w pd r ru
  have un := hr.units
  exact repr_leaf rd h1 h2 h3 hg (by omega) fun h' t tk kp => ⟨.str d.shown, H, I.kept (t' := tk) kp, ⟨t, rfl⟩, q⟩
theorem s_repr : OpL G (rRepr G) kRepr := by
  intro R ρ M H xs l Q E w rv p
  unfold kRepr at p
  split at p
  · cases rv with
    | cons r1 r2 =>
      cases r2
      split at p
      · rename_i d hd
        split at p
        · rename_i hc
          exact ⟨_, R, ρ, M, _, d, rfl, w, r1, pdOf_some hd, hc, gives_now w (.str _) p⟩
        · exact False.elim p
      · exact False.elim p
  · exact False.elim p
end
/-! ### == -/
noncomputable section
open Classical
def eqS : Va → Va → Option Bool
  | .non, .non => some true | .non, .int _ => some false | .int _, .non => some false | .non, .bl _ => some false | .bl _, .non => some false | .non, .str _ => some false | .str _, .non => some false
  | .int i, .int j => some (decide (i = j)) | .bl i, .bl j => some (decide (i = j)) | .str i, .str j => some (decide (i = j))
  | .int _, .str _ => some false | .str _, .int _ => some false | .bl _, .str _ => some false | .str _, .bl _ => some false
  | _, _ => none
def eqP (M : Store) (a b : Va) : Option Bool := match pdOf M a, pdOf M b with
  | some d, some e => if SeqAt.shaped d = true ∧ SeqAt.shaped e = true then some (PyData.eqv d e) else none
  | _, _ => none
def opEq (M : Store) (a b : Va) : Option Va := match eqS a b with
  | some k => some (.bl k)
  | none => (eqP M a b).map Va.bl
def opNe (M : Store) (a b : Va) : Option Va := match eqS a b with
  | some k => some (.bl (!k))
  | none => (eqP M a b).map fun k => Va.bl (!k)
end
def rEqA (G : Sig) (neg : Bool) : R2 := fun x y H Q => ∃ R ρ M va vb d e, Wd G R ρ M H ∧ VR G R ρ va x ∧ VR G R ρ vb y ∧ PdR M va d ∧ PdR M vb e ∧ SeqAt.shaped d = true ∧ SeqAt.shaped e = true ∧ Q (.bl (if neg then !PyData.eqv d e else PyData.eqv d e)) H
section
variable {X : Cx} {G : Sig}
theorem op_eqA {k : Nat} (hK : X.K = G.K) (hr : Room k X.A) : OpR X (compareOp .Eq) (rEqA G false) := by
  intro pins s σ H x y v u Q I rx ry ⟨R, ρ, M, va, vb, d, e, w, ra, rb, pd, pe, sd, se, q⟩
  have nd : ∀ {d : PyData}, SeqAt.shaped d = true → d.hasDict = false := fun h => PyData.hasDict_of_canLay _ (SeqAt.canLay_of_shaped h)
  obtain ⟨as, r1⟩ := pd_reads I hK w pd ra rx (nd sd)
  obtain ⟨bs, r2⟩ := pd_reads I hK w pe rb ry (nd se)
  exact SeqAt.compareEq_shaped r1 r2 sd se hr.units ⟨.bl _, H, I, rfl, q⟩
theorem op_neA {k : Nat} (hK : X.K = G.K) (hr : Room k X.A) : OpR X (compareOp .NotEq) (rEqA G true) := by
  intro pins s σ H x y v u Q I rx ry ⟨R, ρ, M, va, vb, d, e, w, ra, rb, pd, pe, sd, se, q⟩
  have nd : ∀ {d : PyData}, SeqAt.shaped d = true → d.hasDict = false := fun h => PyData.hasDict_of_canLay _ (SeqAt.canLay_of_shaped h)
  obtain ⟨as, r1⟩ := pd_reads I hK w pd ra rx (nd sd)
  obtain ⟨bs, r2⟩ := pd_reads I hK w pe rb ry (nd se)
  exact SeqAt.compareNe_shaped r1 r2 sd se hr.units ⟨.bl _, H, I, rfl, q⟩
theorem eqS_scal {R : Hp} {ρ : List Addr} {va vb : Va} {x y : V} {k : Bool} (ra : VR G R ρ va x) (rb : VR G R ρ vb y) (h : eqS va vb = some k) : scal x y = true ∧ k = decide (x = y) := by
  cases ra <;> cases rb <;> first
    | (cases h; done)
    | (cases h; exact ⟨rfl, by simp⟩)
theorem s_eq : Op2 G (fun x y H Q => rEq x y H Q ∨ rEqA G false x y H Q) opEq := by
  intro R ρ M H x y va vb res Q w ra rb h g
  unfold opEq at h
  cases e : eqS va vb with
  | some k =>
    rw [e] at h
    cases h
    obtain ⟨h1, rfl⟩ := eqS_scal ra rb e
    exact .inl ⟨h1, gives_now w (.bl _) g⟩
  | none =>
    rw [e] at h
    unfold eqP at h
    dsimp only at h
    cases h1 : pdOf M va with
    | none => rw [h1] at h; cases h
    | some d =>
      cases h2 : pdOf M vb with
      | none => rw [h1, h2] at h; cases h
      | some f =>
        rw [h1, h2] at h
        dsimp only at h
        split at h
        · rename_i hz; cases h
          exact .inr ⟨R, ρ, M, va, vb, d, f, w, ra, rb, pdOf_some h1, pdOf_some h2, hz.1, hz.2, gives_now w (.bl _) g⟩
        · cases h
theorem s_ne : Op2 G (fun x y H Q => rNe x y H Q ∨ rEqA G true x y H Q) opNe := by
  intro R ρ M H x y va vb res Q w ra rb h g
  unfold opNe at h
  cases e : eqS va vb with
  | some k =>
    rw [e] at h
    cases h
    obtain ⟨h1, rfl⟩ := eqS_scal ra rb e
    exact .inl ⟨h1, gives_now w (.bl _) g⟩
  | none =>
    rw [e] at h
    unfold eqP at h
    dsimp only at h
    cases h1 : pdOf M va with
    | none => rw [h1] at h; cases h
    | some d =>
      cases h2 : pdOf M vb with
      | none => rw [h1, h2] at h; cases h
      | some f =>
        rw [h1, h2] at h
        dsimp only at h
        split at h
        · rename_i hz; cases h
          exact .inr ⟨R, ρ, M, va, vb, d, f, w, ra, rb, pdOf_some h1, pdOf_some h2, hz.1, hz.2, gives_now w (.bl _) g⟩
        · cases h
end
/-! ### in, is None -/
def flatA : Va → Bool
  | .non => true
  | .bl _ => true
  | .int _ => true
  | .str _ => true
  | _ => false
def eqF : Va → Va → Bool
  | .non, .non => true
  | .bl a, .bl b => a == b
  | .bl a, .int b => (if a then 1 else 0) == b
  | .int a, .bl b => a == (if b then 1 else 0)
  | .int a, .int b => a == b
  | .str a, .str b => a == b
  | _, _ => false
def inA (x : Va) (xs : List Va) : Bool := xs.any fun y => eqF y x
def opIn (M : Store) (a b : Va) : Option Va := match a, b with
  | .str x, .str z => (match x.cps.toList with
    | [c] => some (.bl (decide (c ∈ z.cps.toList)))
    | _ => none)
  | a, b => match seqOf M b with
    | some l => if flatA a = true ∧ l.all flatA = true then some (.bl (inA a l)) else none
    | none => none
def opNotIn (M : Store) (a b : Va) : Option Va := match a, b with
  | .str x, .str z => (match x.cps.toList with
    | [c] => some (.bl (!decide (c ∈ z.cps.toList)))
    | _ => none)
  | a, b => match seqOf M b with
    | some l => if flatA a = true ∧ l.all flatA = true then some (.bl (!inA a l)) else none
    | none => none
def isNonA : Va → Bool
  | .non => true
  | _ => false
def opIsN (M : Store) (a b : Va) : Option Va := match b with
  | .non => some (.bl (isNonA a))
  | _ => none
def opNotN (M : Store) (a b : Va) : Option Va := match b with
  | .non => some (.bl (!isNonA a))
  | _ => none
abbrev rInS : R2 := fun x y H Q => ∃ (c : Nat) (z : Str), x = .str ⟨#[c]⟩ ∧ y = .str z ∧ Q (.bl (decide (c ∈ z.cps.toList))) H
abbrev rNotInS : R2 := fun x y H Q => ∃ (c : Nat) (z : Str), x = .str ⟨#[c]⟩ ∧ y = .str z ∧ Q (.bl (!decide (c ∈ z.cps.toList))) H
theorem one_sign {x : Str} {c : Nat} (h : x.cps.toList = [c]) : x = ⟨#[c]⟩ := by
  obtain ⟨a⟩ := x
  congr
  exact Array.toList_inj.mp h
section
variable {X : Cx} {G : Sig} {R : Hp} {ρ : List Addr} {M : Store} {H : Hp}
theorem flat_of {x : Va} {v : V} (r : VR G R ρ x v) (h : flatA x = true) : flatV v = true := by
  cases r <;> first | rfl | (cases h)
theorem flats_of : ∀ {l : List Va} {vs : List V}, VRs G R ρ l vs → l.all flatA = true → vs.all flatV = true
  | _, _, .nil, _ => rfl
  | _, _, .cons r t, h => by
    rw [List.all_cons, Bool.and_eq_true] at h ⊢
    exact ⟨flat_of r h.1, flats_of t h.2⟩
theorem eqF_of {x y : Va} {u v : V} (r : VR G R ρ x u) (q : VR G R ρ y v) : eqF x y = eqV u v := by
  cases r <;> cases q <;> rfl
theorem inA_of {x : Va} {v : V} (r : VR G R ρ x v) : ∀ {l : List Va} {vs : List V}, VRs G R ρ l vs → inA x l = inV v vs
  | _, _, .nil => rfl
  | _, _, .cons q t => by
    unfold inA inV
    rw [List.any_cons, List.any_cons, eqF_of q r]
    congr 1
    exact inA_of r t
theorem s_in (hK : X.K = G.K) : Op2 G (fun x y H Q => rInS x y H Q ∨ rIn X.K false x y H Q) opIn := by
  intro R ρ M H x y va vb res Q w ra rb h g
  unfold opIn at h
  split at h
  · cases ra; cases rb
    split at h
    · rename_i c hc
      cases h
      exact .inl ⟨c, _, by rw [one_sign hc], rfl, gives_now w (.bl _) g⟩
    · cases h
  · split at h
    · rename_i l hl
      split at h
      · rename_i hf
        cases h
        obtain ⟨a, vs, rfl, sq, rv, _⟩ := seq_read w rb hl
        refine .inr ⟨a, vs, rfl, by rw [hK]; exact sq, flat_of ra hf.1, flats_of rv hf.2, ?_⟩
        rw [← inA_of ra rv]
        exact gives_now w (.bl _) g
      · cases h
    · cases h
theorem s_notIn (hK : X.K = G.K) : Op2 G (fun x y H Q => rNotInS x y H Q ∨ rIn X.K true x y H Q) opNotIn := by
  intro R ρ M H x y va vb res Q w ra rb h g
  unfold opNotIn at h
  split at h
  · cases ra; cases rb
    split at h
    · rename_i c hc
      cases h
      exact .inl ⟨c, _, by rw [one_sign hc], rfl, gives_now w (.bl _) g⟩
    · cases h
  · split at h
    · rename_i l hl
      split at h
      · rename_i hf
        cases h
        obtain ⟨a, vs, rfl, sq, rv, _⟩ := seq_read w rb hl
        refine .inr ⟨a, vs, rfl, by rw [hK]; exact sq, flat_of ra hf.1, flats_of rv hf.2, ?_⟩
        rw [← inA_of ra rv]
        exact gives_now w (.bl _) g
      · cases h
    · cases h
theorem non_of {x : Va} {v : V} (r : VR G R ρ x v) : decide (v = .non) = isNonA x := by
  cases r <;> simp [isNonA]
theorem s_isN : Op2 G (fun x y H Q => y = .non ∧ Q (.bl (decide (x = .non))) H) opIsN := by
  intro R ρ M H x y va vb res Q w ra rb h g
  unfold opIsN at h
  split at h
  · cases h; cases rb
    refine ⟨rfl, ?_⟩
    rw [non_of ra]
    exact gives_now w (.bl _) g
  · cases h
theorem s_notN : Op2 G (fun x y H Q => y = .non ∧ Q (.bl (!decide (x = .non))) H) opNotN := by
  intro R ρ M H x y va vb res Q w ra rb h g
  unfold opNotN at h
  split at h
  · cases h; cases rb
    refine ⟨rfl, ?_⟩
    rw [non_of ra]
    exact gives_now w (.bl _) g
  · cases h
end

/-- x in xs, the items data of any depth -/
def pdList : PyData → Option (List PyData)
  | .list ds => some ds
  | _ => none
noncomputable def inP (M : Store) (a b : Va) : Option Bool := match pdOf M a, (pdOf M b).bind pdList with
  | some d, some ds => if SeqAt.shaped d = true ∧ SeqAt.shaped (.list ds) = true then some (ds.any fun z => PyData.eqv z d) else none
  | _, _ => none
noncomputable def opInD (M : Store) (a b : Va) : Option Va := match opIn M a b with
  | some r => some r
  | none => (inP M a b).map Va.bl
noncomputable def opNotInD (M : Store) (a b : Va) : Option Va := match opNotIn M a b with
  | some r => some r
  | none => (inP M a b).map fun k => Va.bl (!k)
def rInP (G : Sig) (neg : Bool) : R2 := fun x y H Q => ∃ R ρ M va vb d ds, Wd G R ρ M H ∧ VR G R ρ va x ∧ VR G R ρ vb y ∧ PdR M va d ∧ PdR M vb (.list ds) ∧ SeqAt.shaped d = true ∧ SeqAt.shaped (.list ds) = true ∧
  Q (.bl (if neg then !(ds.any fun z => PyData.eqv z d) else ds.any fun z => PyData.eqv z d)) H
section
variable {X : Cx} {G : Sig}
theorem room_shaped {A : Around} {d : PyData} {m : Nat} (h : SeqAt.shaped d = true) (hu : A.units + 65 < cLine) : A.units + 1 + min m d.depth < cLine := by
  have h1 := SeqAt.depth_of_shaped h
  have h2 : min m d.depth ≤ d.depth := Nat.min_le_right _ _
  omega
theorem op_inP {k : Nat} (hK : X.K = G.K) (hr : Room k X.A) : OpR X (compareOp .In) (rInP G false) := by
  intro pins s σ H x y v u Q I rx ry ⟨R, ρ, M, va, vb, d, ds, w, ra, rb, pd, pe, sd, se, q⟩
  have nd : ∀ {d : PyData}, SeqAt.shaped d = true → d.hasDict = false := fun h => PyData.hasDict_of_canLay _ (SeqAt.canLay_of_shaped h)
  obtain ⟨as, r1⟩ := pd_reads I hK w pd ra rx (nd sd)
  obtain ⟨bs, r2⟩ := pd_reads I hK w pe rb ry (nd se)
  have un := hr.un
  exact SeqAt.in_list_reads r2 r1 (SeqAt.canLay_of_shaped se) (SeqAt.canLay_of_shaped sd) (room_shaped sd (by omega)) ⟨.bl _, H, I, rfl, q⟩
theorem op_notInP {k : Nat} (hK : X.K = G.K) (hr : Room k X.A) : OpR X (compareOp .NotIn) (rInP G true) := by
  intro pins s σ H x y v u Q I rx ry ⟨R, ρ, M, va, vb, d, ds, w, ra, rb, pd, pe, sd, se, q⟩
  have nd : ∀ {d : PyData}, SeqAt.shaped d = true → d.hasDict = false := fun h => PyData.hasDict_of_canLay _ (SeqAt.canLay_of_shaped h)
  obtain ⟨as, r1⟩ := pd_reads I hK w pd ra rx (nd sd)
  obtain ⟨bs, r2⟩ := pd_reads I hK w pe rb ry (nd se)
  have un := hr.un
  exact SeqAt.notIn_list_reads r2 r1 (SeqAt.canLay_of_shaped se) (SeqAt.canLay_of_shaped sd) (room_shaped sd (by omega)) ⟨.bl _, H, I, rfl, q⟩
theorem inP_some {M : Store} {a b : Va} {k : Bool} (h : inP M a b = some k) : ∃ d ds, PdR M a d ∧ PdR M b (.list ds) ∧ SeqAt.shaped d = true ∧ SeqAt.shaped (.list ds) = true ∧ k = ds.any fun z => PyData.eqv z d := by
  unfold inP at h
  cases h1 : pdOf M a with
  | none => rw [h1] at h; cases h
  | some d =>
    cases h2 : pdOf M b with
    | none => rw [h1, h2] at h; cases h
    | some e =>
      rw [h1, h2] at h
      cases e <;> first | (cases h; done) | skip
      rename_i ds
      dsimp only [Option.bind, pdList] at h
      split at h
      · rename_i hz; cases h
        exact ⟨d, ds, pdOf_some h1, pdOf_some h2, hz.1, hz.2, rfl⟩
      · cases h
theorem s_inD (hK : X.K = G.K) : Op2 G (fun x y H Q => (rInS x y H Q ∨ rIn X.K false x y H Q) ∨ rInP G false x y H Q) opInD := by
  intro R ρ M H x y va vb res Q w ra rb h g
  unfold opInD at h
  split at h
  · rename_i r hr
    cases h
    exact .inl (s_in hK R ρ M H x y va vb _ Q w ra rb hr g)
  · cases q : inP M va vb with
    | none => rw [q] at h; cases h
    | some k =>
      rw [q] at h
      cases h
      obtain ⟨d, ds, h1, h2, h3, h4, rfl⟩ := inP_some q
      exact .inr ⟨R, ρ, M, va, vb, d, ds, w, ra, rb, h1, h2, h3, h4, gives_now w (.bl _) g⟩
theorem s_notInD (hK : X.K = G.K) : Op2 G (fun x y H Q => (rNotInS x y H Q ∨ rIn X.K true x y H Q) ∨ rInP G true x y H Q) opNotInD := by
  intro R ρ M H x y va vb res Q w ra rb h g
  unfold opNotInD at h
  split at h
  · rename_i r hr
    cases h
    exact .inl (s_notIn hK R ρ M H x y va vb _ Q w ra rb hr g)
  · cases q : inP M va vb with
    | none => rw [q] at h; cases h
    | some k =>
      rw [q] at h
      cases h
      obtain ⟨d, ds, h1, h2, h3, h4, rfl⟩ := inP_some q
      exact .inr ⟨R, ρ, M, va, vb, d, ds, w, ra, rb, h1, h2, h3, h4, gives_now w (.bl _) g⟩
end

/-! ### items, slices -/
def opIx (M : Store) (a b : Va) : Option Va := match b with
  | .int i => (match a with
    | .str z => if z.length ≤ sizeLine then (atI z.cps.toList i).map fun c => Va.str ⟨#[c]⟩ else none
    | a => match seqOf M a with
      | some l => atI l i
      | none => none)
  | _ => none
section
variable {X : Cx} {G : Sig} {R : Hp} {ρ : List Addr} {M : Store} {H : Hp}
theorem VRs.atI {l : List Va} {vs : List V} (r : VRs G R ρ l vs) {i : Int} {x : Va} (h : L2.atI l i = some x) : ∃ v, L2.atI vs i = some v ∧ VR G R ρ x v := by
  unfold L2.atI at h ⊢
  rw [← r.length]
  cases q : ixN l.length i with
  | none => rw [q] at h; cases h
  | some j =>
    rw [q] at h
    exact r.get h
theorem s_ix (hK : X.K = G.K) : Op2 G (rIx X.K) opIx := by
  intro R ρ M H x y va vb res Q w ra rb h g
  have lists : ∀ i, (match seqOf M va with | some l => L2.atI l i | none => none) = some res → y = .int i → rIx X.K x y H Q := fun i h e => by
    subst e
    split at h
    · rename_i l hl
      obtain ⟨a, vs, rfl, sq, rv, _⟩ := seq_read w ra hl
      obtain ⟨v, e, r⟩ := rv.atI h
      rw [← hK] at sq
      rcases sq with sq | sq
      · exact .inl ⟨a, vs, i, v, rfl, rfl, sq, e, gives_now w r g⟩
      · exact .inr (.inl ⟨a, vs, i, v, rfl, rfl, sq, e, gives_now w r g⟩)
    · cases h
  unfold opIx at h
  split at h
  · cases rb
    rename_i i
    split at h
    · rename_i z
      cases ra
      split at h
      · rename_i hz
        cases q : L2.atI z.cps.toList i with
        | none => rw [q] at h; cases h
        | some c =>
          rw [q] at h
          cases h
          exact .inr (.inr ⟨z, i, c, rfl, rfl, hz, q, gives_now w (.str _) g⟩)
      · cases h
    · exact lists i h rfl
  · cases h
end
/-- bounds of a slice -/
def evPart (e : Option SE) : SE := match e with
  | none => fun _ M => some (.val .non, M)
  | some e => e
def boundOf : Va → Option (Option Int)
  | .non => some none
  | .int i => some (some i)
  | _ => none
def cutA {α : Type} (l : List α) (lo hi : Option Int) : List α := (l.drop (HT.sIx l.length 0 lo)).take (HT.sIx l.length l.length hi - HT.sIx l.length 0 lo)
def opSl (M : Store) (x : Va) (lo hi : Option Int) : Option Va := match x with
  | .str z => if z.length ≤ sizeLine then some (.str (cutS z lo hi)) else none
  | .tup l => if HT.sIx l.length 0 lo = 0 ∧ HT.sIx l.length l.length hi = l.length then none else some (.tup (cutA l lo hi))
  | x => match lstOf M x with
    | some l => some (.lst (cutA l lo hi))
    | none => none
def evSl (e l u : SE) : SE := fun s M => bindO (e s M) fun x M1 => bindO (l s M1) fun vl M2 => bindO (u s M2) fun vu M3 => match boundOf vl, boundOf vu with
  | some lo, some hi => (match opSl M3 x lo hi with
    | some r => some (.val r, M3)
    | none => none)
  | _, _ => none
def tO (G : Sig) (E : XK) (ev : SE) : TO := fun σ H Q => ∃ R ρ s M, Wd G R ρ M H ∧ SR G R ρ s σ ∧ match ev s M with
  | none => False
  | some (.val v, M1) => ∀ R' ρ' H' b, Ext R ρ H R' ρ' H' → Wd G R' ρ' M1 H' → boundOf v = some b → Q b H'
  | some (.exc c x, M1) => PostX G R ρ H M1 E c x
section
variable {X : Cx} {G : Sig} {E : XK} {R : Hp} {ρ : List Addr} {M : Store} {H : Hp} {a b c : Expr} {ea eb ec : SE} {pos p2 : Pos} {lo hi : Option Expr}
theorem qo_none : PO X none (tO G E (evC .non)) := ⟨fun pins s σ H Q I ⟨R, ρ, s', M, w, sr, p⟩ => po_none.run pins s σ H Q I (p R ρ H none Ext.refl w rfl)⟩
theorem VRs.cut {l : List Va} {vs : List V} (r : VRs G R ρ l vs) (lo hi : Option Int) : VRs G R ρ (cutA l lo hi) (cutV vs lo hi) := by
  unfold cutA cutV
  rw [r.length]
  exact (r.drop _).take _
theorem cutA_le {α : Type} (l : List α) (lo hi : Option Int) : (cutA l lo hi).length ≤ l.length := by
  unfold cutA
  rw [List.length_take, List.length_drop]
  omega
end
section
variable {X : Cx} {G : Sig} {E : XK} {H : Hp} {a : Expr} {ea el eu : SE} {pos p2 : Pos} {lo hi : Option Expr}
theorem qo_some (h : PE X a (tE G E ea)) : PO X (some a) (tO G E (fun s M => bindO (ea s M) fun v M1 => match v with | .int i => some (.val (.int i), M1) | _ => none)) :=
  ⟨fun pins s σ H Q I ⟨R, ρ, s', M, w, sr, p⟩ => (po_some h).run pins s σ H Q I (by
    refine ⟨R, ρ, s', M, w, sr, ?_⟩
    dsimp only at p
    rcases q : ea s' M with _ | ⟨x | ⟨c, x⟩, M1⟩ <;> rw [q] at p
    · exact p
    · cases x <;> first | exact False.elim p | skip
      intro R1 ρ1 H1 v e1 w1 r1
      cases r1
      exact ⟨_, rfl, p R1 ρ1 H1 _ e1 w1 rfl⟩
    · exact p)⟩
def evB (e : SE) : SE := fun s M => bindO (e s M) fun v M1 => match v with | .int i => some (.val (.int i), M1) | _ => none
theorem qo_b (h : PE X a (tE G E ea)) : PO X (some a) (tO G E (evB ea)) := qo_some h
theorem s_sl (hK : X.K = G.K) {R : Hp} {ρ : List Addr} {M : Store} {x : V} {va res : Va} {l u : Option Int} {Q : VK} (w : Wd G R ρ M H) (r : VR G R ρ va x) (h : opSl M va l u = some res) (g : Gives G R ρ H M res Q) : (rSlL X.K x l u H Q ∨ rSlS x l u H Q) ∨ rSlT X.K x l u H Q := by
  have lists : (match lstOf M va with | some m => some (Va.lst (cutA m l u)) | none => none) = some res → rSlL X.K x l u H Q := fun h => by
    split at h
    · rename_i m hm
      cases h
      obtain ⟨a, vs, rfl, sq, rv, z⟩ := lst_read w r hm
      exact ⟨a, vs, rfl, by rw [hK]; exact sq, fun p hp => gives_lst w (rv.cut l u) (Nat.le_trans (cutA_le m l u) z) g hp⟩
    · cases h
  unfold opSl at h
  split at h
  · cases r
    split at h
    · rename_i hz; cases h
      exact .inl (.inr ⟨_, rfl, hz, gives_now w (.str _) g⟩)
    · cases h
  · obtain ⟨a, vs, rfl, sq, rv, z⟩ := tup_read w r rfl
    split at h
    · cases h
    · rename_i hz; cases h
      exact .inr ⟨a, vs, rfl, .of sq, by rw [← rv.length]; exact hz, fun p hp => gives_tup w (rv.cut l u) (Nat.le_trans (cutA_le _ l u) z) g hp⟩
  · exact .inl (.inl (lists h))
theorem q_sl (hK : X.K = G.K) (ha : PE X a (tE G E ea)) (hl : PO X lo (tO G E el)) (hu : PO X hi (tO G E eu)) : PE X (.Subscript a (.Slice lo hi none p2) pos) (tE G E (evSl ea el eu)) :=
  pe_imp (pe_slice ((sl_list.or sl_str).or sl_tup) ha hl hu) fun σ H Q ⟨R, ρ, s, M, w, sr, p⟩ => stepE w sr p fun R1 ρ1 M1 H1 va v e1 w1 sr1 r1 p1 => by
    refine ⟨R1, ρ1, s, M1, w1, sr1, ?_⟩
    rcases q : el s M1 with _ | ⟨x | ⟨c, x⟩, M2⟩ <;> rw [q] at p1
    · exact p1
    · intro R2 ρ2 H2 b e2 w2 hb
      replace p1 := Post.ext e2 p1
      refine ⟨R2, ρ2, s, M2, w2, sr1.mono e2.gr, ?_⟩
      rw [bindO_val] at p1
      rcases q2 : eu s M2 with _ | ⟨y | ⟨c, y⟩, M3⟩ <;> rw [q2] at p1
      · exact p1
      · intro R3 ρ3 H3 b3 e3 w3 hb3
        replace p1 := Post.ext e3 p1
        rw [bindO_val] at p1
        rw [hb, hb3] at p1
        replace p1 : Post G R3 ρ3 H3 (match opSl M3 va b b3 with | some r => some (.val r, M3) | none => none) Q E := p1
        cases q4 : opSl M3 va b b3 with
        | none => rw [q4] at p1; exact False.elim p1
        | some res => rw [q4] at p1; exact s_sl hK w3 (r1.mono (e2.trans e3).gr) q4 p1
      · exact p1
    · exact p1
end
end PV

set_option Elab.async false
set_option linter.all false
set_option maxRecDepth 100000
set_option maxHeartbeats 4000000
namespace PV
open PySem L2

/-! ### lists of one kind -/
def intsOf : List Va → Option (List Int)
  | [] => some []
  | .int i :: r => (intsOf r).map (i :: ·)
  | _ :: _ => none
def strsOf : List Va → Option (List Str)
  | [] => some []
  | .str i :: r => (strsOf r).map (i :: ·)
  | _ :: _ => none
def blsOf : List Va → Option (List Bool)
  | [] => some []
  | .bl i :: r => (blsOf r).map (i :: ·)
  | _ :: _ => none
@[simp] theorem intsOf_map : ∀ ns : List Int, intsOf (ns.map Va.int) = some ns
  | [] => rfl
  | n :: ns => by simp [intsOf, intsOf_map ns]
@[simp] theorem strsOf_map : ∀ ns : List Str, strsOf (ns.map Va.str) = some ns
  | [] => rfl
  | n :: ns => by simp [strsOf, strsOf_map ns]
@[simp] theorem blsOf_map : ∀ ns : List Bool, blsOf (ns.map Va.bl) = some ns
  | [] => rfl
  | n :: ns => by simp [blsOf, blsOf_map ns]
section
variable {G : Sig} {R : Hp} {ρ : List Addr}
theorem ints_of : ∀ {l : List Va} {vs : List V} {ns : List Int}, VRs G R ρ l vs → intsOf l = some ns → vs = ns.map V.int
  | _, _, _, .nil, h => by cases h; rfl
  | _, _, _, .cons (x := x) r t, h => by
    cases x <;> first | (cases h; done) | skip
    cases r
    rename_i i
    unfold intsOf at h
    cases q : intsOf _ with
    | none => rw [q] at h; cases h
    | some m => rw [q] at h; cases h; rw [ints_of t q]; rfl
theorem strs_of : ∀ {l : List Va} {vs : List V} {ns : List Str}, VRs G R ρ l vs → strsOf l = some ns → vs = ns.map V.str
  | _, _, _, .nil, h => by cases h; rfl
  | _, _, _, .cons (x := x) r t, h => by
    cases x <;> first | (cases h; done) | skip
    cases r
    rename_i i
    unfold strsOf at h
    cases q : strsOf _ with
    | none => rw [q] at h; cases h
    | some m => rw [q] at h; cases h; rw [strs_of t q]; rfl
theorem bls_of : ∀ {l : List Va} {vs : List V} {ns : List Bool}, VRs G R ρ l vs → blsOf l = some ns → vs = ns.map V.bl
  | _, _, _, .nil, h => by cases h; rfl
  | _, _, _, .cons (x := x) r t, h => by
    cases x <;> first | (cases h; done) | skip
    cases r
    rename_i i
    unfold blsOf at h
    cases q : blsOf _ with
    | none => rw [q] at h; cases h
    | some m => rw [q] at h; cases h; rw [bls_of t q]; rfl
theorem VRs.strs : ∀ (ns : List Str), VRs G R ρ (ns.map Va.str) (ns.map V.str)
  | [] => .nil
  | n :: ns => .cons (.str n) (VRs.strs ns)
theorem lst_ints {M : Store} {H : Hp} {x : Va} {v : V} {l : List Va} {ns : List Int} (w : Wd G R ρ M H) (r : VR G R ρ x v) (h : lstOf M x = some l) (h2 : intsOf l = some ns) : ∃ a, v = .ref a ∧ SqL G.K H a (ns.map V.int) := by
  obtain ⟨a, vs, rfl, sq, rv, _⟩ := lst_read w r h
  rw [ints_of rv h2] at sq
  exact ⟨a, rfl, sq⟩
end
def maxL (n : Int) (ns : List Int) : Int := ns.foldl (fun m y => if y > m then y else m) n
def minL (n : Int) (ns : List Int) : Int := ns.foldl (fun m y => if y < m then y else m) n
theorem maxL_mem : ∀ (ns : List Int) (n : Int), maxL n ns ∈ n :: ns
  | [], n => by simp [maxL]
  | y :: ns, n => by
    have h := maxL_mem ns (if y > n then y else n)
    show maxL (if y > n then y else n) ns ∈ n :: y :: ns
    rcases List.mem_cons.mp h with h | h
    · rw [h]; split <;> simp
    · simp [h]
theorem maxL_le : ∀ (ns : List Int) (n : Int), ∀ y ∈ n :: ns, y ≤ maxL n ns
  | [], n, y, h => by simp [maxL] at h ⊢; omega
  | z :: ns, n, y, h => by
    show y ≤ maxL (if z > n then z else n) ns
    have hm : n ≤ (if z > n then z else n) ∧ z ≤ (if z > n then z else n) := by split <;> omega
    generalize (if z > n then z else n) = m at hm ⊢
    have ih := maxL_le ns m
    have h0 := ih m (by simp)
    rcases List.mem_cons.mp h with h | h
    · subst h; omega
    · rcases List.mem_cons.mp h with h | h
      · subst h; omega
      · exact ih y (by simp [h])
theorem minL_mem : ∀ (ns : List Int) (n : Int), minL n ns ∈ n :: ns
  | [], n => by simp [minL]
  | y :: ns, n => by
    have h := minL_mem ns (if y < n then y else n)
    show minL (if y < n then y else n) ns ∈ n :: y :: ns
    rcases List.mem_cons.mp h with h | h
    · rw [h]; split <;> simp
    · simp [h]
theorem minL_le : ∀ (ns : List Int) (n : Int), ∀ y ∈ n :: ns, minL n ns ≤ y
  | [], n, y, h => by simp [minL] at h ⊢; omega
  | z :: ns, n, y, h => by
    show minL (if z < n then z else n) ns ≤ y
    have hm : (if z < n then z else n) ≤ n ∧ (if z < n then z else n) ≤ z := by split <;> omega
    generalize (if z < n then z else n) = m at hm ⊢
    have ih := minL_le ns m
    have h0 := ih m (by simp)
    rcases List.mem_cons.mp h with h | h
    · subst h; omega
    · rcases List.mem_cons.mp h with h | h
      · subst h; omega
      · exact ih y (by simp [h])

/-! ### calls -/
def gLen (M : Store) : List Va → Option Va
  | [.str z] => if z.length ≤ sizeLine then some (.int z.length) else none
  | [x] => match seqOf M x with
    | some l => some (.int l.length)
    | none => (dicOf M x).map fun l => .int l.length
  | _ => none
def gMax (M : Store) : List Va → Option Va
  | [.int i, .int j] => some (.int (if j > i then j else i))
  | [x] => match lstOf M x with
    | some l => (match intsOf l with
      | some (n :: ns) => some (.int (maxL n ns))
      | _ => none)
    | none => none
  | _ => none
def gMin (M : Store) : List Va → Option Va
  | [.int i, .int j] => some (.int (if j < i then j else i))
  | [x] => match lstOf M x with
    | some l => (match intsOf l with
      | some (n :: ns) => some (.int (minL n ns))
      | _ => none)
    | none => none
  | _ => none
def gAbs (_ : Store) : List Va → Option Va
  | [.int i] => some (.int (if i < 0 then -i else i))
  | _ => none
def gInt (_ : Store) : List Va → Option Va
  | [.int i] => some (.int i)
  | [.bl k] => some (.int (if k then 1 else 0))
  | [.str a] => if a.length ≤ 640 then (PySem.intText? a).map Va.int else none
  | _ => none
def gStr (_ : Store) : List Va → Option Va
  | [.int i] => if i.natAbs.log2 < 1920 then some (.str (toString i)) else none
  | [.str a] => some (.str a)
  | _ => none
def gSum (M : Store) : List Va → Option Va
  | [x] => match lstOf M x with
    | some l => (intsOf l).map fun ns => .int ns.sum
    | none => none
  | _ => none
def gAll (M : Store) : List Va → Option Va
  | [x] => match lstOf M x with
    | some l => (blsOf l).map fun ns => .bl (ns.all id)
    | none => none
  | _ => none
def gAny (M : Store) : List Va → Option Va
  | [x] => match lstOf M x with
    | some l => (blsOf l).map fun ns => .bl (ns.any id)
    | none => none
  | _ => none
def gList (M : Store) : List Va → Option Va
  | [x] => (seqOf M x).map Va.lst
  | _ => none
def kList (l : List Va) (M : Store) : Res := match l with
  | [x] => (match seqOf M x with
    | some l => some (.val (.cel M.nx), M.new (.lst l))
    | none => none)
  | _ => none
section
variable {X : Cx} {G : Sig}
theorem pure_of {r : List V → Hp → VK → Prop} {g : Store → List Va → Option Va} (h : ∀ R ρ M H xs l res Q, Wd G R ρ M H → VRs G R ρ l xs → g M l = some res → Gives G R ρ H M res Q → r xs H Q) : OpL G r (kPure g) := fun R ρ M H xs l Q E w rv p => by
  unfold kPure at p
  cases q : g M l with
  | none => rw [q] at p; exact False.elim p
  | some res => rw [q] at p; exact h R ρ M H xs l res Q w rv q p
theorem one_of {R : Hp} {ρ : List Addr} {x : Va} {vs : List V} (r : VRs G R ρ [x] vs) : ∃ v, vs = [v] ∧ VR G R ρ x v := by
  cases r with
  | cons r t => cases t; exact ⟨_, rfl, r⟩
theorem two_of {R : Hp} {ρ : List Addr} {x y : Va} {vs : List V} (r : VRs G R ρ [x, y] vs) : ∃ v u, vs = [v, u] ∧ VR G R ρ x v ∧ VR G R ρ y u := by
  cases r with
  | cons r t =>
    obtain ⟨u, rfl, q⟩ := one_of t
    exact ⟨_, u, rfl, r, q⟩
abbrev rLenA (K : PySem.W.Frag) : List V → Hp → VK → Prop := fun xs H Q => (∃ p ys, xs = [.ref p] ∧ (SqL K H p ys ∨ SqT K H p ys) ∧ Q (.int ys.length) H) ∨ ((∃ z, xs = [.str z] ∧ z.length ≤ sizeLine ∧ Q (.int z.length) H) ∨ ∃ d kvs, xs = [.ref d] ∧ H d = some (.dK kvs) ∧ Q (.int kvs.length) H)
theorem s_len (hK : X.K = G.K) : OpL G (rLenA X.K) (kPure gLen) := pure_of fun R ρ M H xs l res Q w rv h g => by
  unfold gLen at h
  split at h
  · obtain ⟨v, rfl, r⟩ := one_of rv
    cases r
    split at h
    · rename_i hz; cases h
      exact .inr (.inl ⟨_, rfl, hz, gives_now w (.int _) g⟩)
    · cases h
  · obtain ⟨v, rfl, r⟩ := one_of rv
    split at h
    · rename_i l hl
      cases h
      obtain ⟨a, vs, rfl, sq, rv', _⟩ := seq_read w r hl
      refine .inl ⟨a, vs, rfl, by rw [hK]; exact sq, ?_⟩
      rw [← rv'.length]
      exact gives_now w (.int _) g
    · rename_i x _ _ _
      cases q : dicOf M x with
      | none => rw [q] at h; cases h
      | some l =>
        rw [q] at h
        cases h
        obtain ⟨a, vs, rfl, hd, rk, _⟩ := dic_read w r q
        refine .inr (.inr ⟨a, vs, rfl, hd, ?_⟩)
        rw [← rk.length]
        exact gives_now w (.int _) g
  · cases h
theorem s_max (hK : X.K = G.K) : OpL G (fun xs H Q => (∃ i j, xs = [.int i, .int j] ∧ Q (.int (if j > i then j else i)) H) ∨ rMax X.K xs H Q) (kPure gMax) := pure_of fun R ρ M H xs l res Q w rv h g => by
  unfold gMax at h
  split at h
  · obtain ⟨v, u, rfl, r, q⟩ := two_of rv
    cases r; cases q; cases h
    exact .inl ⟨_, _, rfl, gives_now w (.int _) g⟩
  · obtain ⟨v, rfl, r⟩ := one_of rv
    split at h
    · rename_i l hl
      split at h
      · rename_i n ns hn
        cases h
        obtain ⟨a, rfl, sq⟩ := lst_ints w r hl hn
        refine .inr ⟨a, n :: ns, rfl, by rw [hK]; exact sq, by simp, fun m h1 h2 => ?_⟩
        have e : m = maxL n ns := Int.le_antisymm (maxL_le ns n m h1) (h2 _ (maxL_mem ns n))
        rw [e]
        exact gives_now w (.int _) g
      · cases h
    · cases h
  · cases h
theorem s_min (hK : X.K = G.K) : OpL G (fun xs H Q => (∃ i j, xs = [.int i, .int j] ∧ Q (.int (if j < i then j else i)) H) ∨ rMin X.K xs H Q) (kPure gMin) := pure_of fun R ρ M H xs l res Q w rv h g => by
  unfold gMin at h
  split at h
  · obtain ⟨v, u, rfl, r, q⟩ := two_of rv
    cases r; cases q; cases h
    exact .inl ⟨_, _, rfl, gives_now w (.int _) g⟩
  · obtain ⟨v, rfl, r⟩ := one_of rv
    split at h
    · rename_i l hl
      split at h
      · rename_i n ns hn
        cases h
        obtain ⟨a, rfl, sq⟩ := lst_ints w r hl hn
        refine .inr ⟨a, n :: ns, rfl, by rw [hK]; exact sq, by simp, fun m h1 h2 => ?_⟩
        have e : m = minL n ns := Int.le_antisymm (h2 _ (minL_mem ns n)) (minL_le ns n m h1)
        rw [e]
        exact gives_now w (.int _) g
      · cases h
    · cases h
  · cases h
theorem s_abs : OpL G (fun xs H Q => ∃ i, xs = [.int i] ∧ Q (.int (if i < 0 then -i else i)) H) (kPure gAbs) := pure_of fun R ρ M H xs l res Q w rv h g => by
  unfold gAbs at h
  split at h
  · obtain ⟨v, rfl, r⟩ := one_of rv
    cases r; cases h
    exact ⟨_, rfl, gives_now w (.int _) g⟩
  · cases h
theorem s_int : OpL G (fun xs H Q => ((∃ i, xs = [.int i] ∧ Q (.int i) H) ∨ ∃ k, xs = [.bl k] ∧ Q (.int (if k then 1 else 0)) H) ∨ ∃ a n, xs = [.str a] ∧ PySem.intText? a = some n ∧ a.length ≤ 640 ∧ Q (.int n) H) (kPure gInt) := pure_of fun R ρ M H xs l res Q w rv h g => by
  unfold gInt at h
  split at h
  · obtain ⟨v, rfl, r⟩ := one_of rv
    cases r; cases h
    exact .inl (.inl ⟨_, rfl, gives_now w (.int _) g⟩)
  · obtain ⟨v, rfl, r⟩ := one_of rv
    cases r; cases h
    exact .inl (.inr ⟨_, rfl, gives_now w (.int _) g⟩)
  · obtain ⟨v, rfl, r⟩ := one_of rv
    cases r
    rename_i a
    split at h
    · rename_i hz
      cases q : PySem.intText? a with
      | none => rw [q] at h; cases h
      | some n =>
        rw [q] at h
        cases h
        exact .inr ⟨a, n, rfl, q, hz, gives_now w (.int _) g⟩
    · cases h
  · cases h
theorem s_str : OpL G (fun xs H Q => (∃ i, xs = [.int i] ∧ i.natAbs.log2 < 1920 ∧ Q (.str (toString i)) H) ∨ ∃ a, xs = [.str a] ∧ Q (.str a) H) (kPure gStr) := pure_of fun R ρ M H xs l res Q w rv h g => by
  unfold gStr at h
  split at h
  · obtain ⟨v, rfl, r⟩ := one_of rv
    cases r
    split at h
    · rename_i hz; cases h
      exact .inl ⟨_, rfl, hz, gives_now w (.str _) g⟩
    · cases h
  · obtain ⟨v, rfl, r⟩ := one_of rv
    cases r; cases h
    exact .inr ⟨_, rfl, gives_now w (.str _) g⟩
  · cases h
theorem s_sum (hK : X.K = G.K) : OpL G (rSum X.K) (kPure gSum) := pure_of fun R ρ M H xs l res Q w rv h g => by
  unfold gSum at h
  split at h
  · obtain ⟨v, rfl, r⟩ := one_of rv
    split at h
    · rename_i l hl
      cases q : intsOf l with
      | none => rw [q] at h; cases h
      | some ns =>
        rw [q] at h
        cases h
        obtain ⟨a, rfl, sq⟩ := lst_ints w r hl q
        exact ⟨a, ns, rfl, by rw [hK]; exact sq, gives_now w (.int _) g⟩
    · cases h
  · cases h
theorem s_all (hK : X.K = G.K) : OpL G (rAll X.K) (kPure gAll) := pure_of fun R ρ M H xs l res Q w rv h g => by
  unfold gAll at h
  split at h
  · obtain ⟨v, rfl, r⟩ := one_of rv
    split at h
    · rename_i l hl
      cases q : blsOf l with
      | none => rw [q] at h; cases h
      | some ns =>
        rw [q] at h
        cases h
        obtain ⟨a, vs, rfl, sq, rv', _⟩ := lst_read w r hl
        rw [bls_of rv' q] at sq
        exact ⟨a, ns, rfl, by rw [hK]; exact sq, gives_now w (.bl _) g⟩
    · cases h
  · cases h
theorem s_any (hK : X.K = G.K) : OpL G (rAny X.K) (kPure gAny) := pure_of fun R ρ M H xs l res Q w rv h g => by
  unfold gAny at h
  split at h
  · obtain ⟨v, rfl, r⟩ := one_of rv
    split at h
    · rename_i l hl
      cases q : blsOf l with
      | none => rw [q] at h; cases h
      | some ns =>
        rw [q] at h
        cases h
        obtain ⟨a, vs, rfl, sq, rv', _⟩ := lst_read w r hl
        rw [bls_of rv' q] at sq
        exact ⟨a, ns, rfl, by rw [hK]; exact sq, gives_now w (.bl _) g⟩
    · cases h
  · cases h
abbrev rListA (K : PySem.W.Frag) : List V → Hp → VK → Prop := fun xs H Q => ∃ p ys, xs = [.ref p] ∧ (SqL K H p ys ∨ SqT K H p ys) ∧ ∀ l, H l = none → Q (.ref l) (upd H l (.lst ys))
theorem s_listF (hK : X.K = G.K) : OpL G (rListA X.K) (kPure gList) := pure_of fun R ρ M H xs l res Q w rv h g => by
  unfold gList at h
  split at h
  · obtain ⟨v, rfl, r⟩ := one_of rv
    rename_i x
    cases q : seqOf M x with
    | none => rw [q] at h; cases h
    | some l =>
      rw [q] at h
      cases h
      obtain ⟨a, vs, rfl, sq, rv', z⟩ := seq_read w r q
      exact ⟨a, vs, rfl, by rw [hK]; exact sq, fun p hp => gives_lst w rv' z g hp⟩
  · cases h
theorem s_listC (hK : X.K = G.K) : OpL G (rListA X.K) kList := fun R ρ M H xs l Q E w rv p => by
  unfold kList at p
  split at p
  · obtain ⟨v, rfl, r⟩ := one_of rv
    split at p
    · rename_i l hl
      obtain ⟨a, vs, rfl, sq, rv', z⟩ := seq_read w r hl
      exact ⟨a, vs, rfl, by rw [hK]; exact sq, fun q hq => gives_new w rv' z p hq⟩
    · exact False.elim p
  · exact False.elim p
end

/-! ### methods of what is built in -/
def evM2 (ty : Store → Va → Bool) (k : Va → List Va → Store → Res) (eo ea : SE) : SE := fun s M => bindO (eo s M) fun o M1 => if ty M1 o = true then bindO (ea s M1) fun t M2 => match t with
  | .tup l => k o l M2
  | _ => none
  else none
def isStrA (_ : Store) : Va → Bool
  | .str _ => true
  | _ => false
def isLstA (M : Store) (x : Va) : Bool := (lstOf M x).isSome
def isDicA (M : Store) (x : Va) : Bool := (dicOf M x).isSome
def TyOk (G : Sig) (T : String) (ty : Store → Va → Bool) : Prop := ∀ R ρ M H x o, Wd G R ρ M H → VR G R ρ o x → ty M o = true → tyV G.K T x H
theorem tyStr {G : Sig} : TyOk G "str" isStrA := fun R ρ M H x o w r h => by
  cases r <;> first | (cases h; done) | rfl
theorem tyLst {G : Sig} : TyOk G "list" isLstA := fun R ρ M H x o w r h => by
  unfold isLstA at h
  cases q : lstOf M o with
  | none => rw [q] at h; cases h
  | some l =>
    obtain ⟨a, vs, rfl, sq, _⟩ := lst_read w r q
    exact .inl ⟨rfl, vs, sq⟩
theorem tyDic {G : Sig} : TyOk G "dict" isDicA := fun R ρ M H x o w r h => by
  unfold isDicA at h
  cases q : dicOf M o with
  | none => rw [q] at h; cases h
  | some l =>
    obtain ⟨a, vs, rfl, sq, _⟩ := dic_read w r q
    exact .inr (.inr (.inl ⟨rfl, .inl ⟨vs, sq⟩⟩))
section
variable {X : Cx} {G : Sig} {E : XK} {o e : Expr} {es : List Expr} {eo ea : SE} {name : Str} {apos cpos : Pos} {T id : String} {r : V → List V → Hp → VK → Prop} {ty : Store → Va → Bool} {k : Va → List Va → Store → Res}
theorem q_bm (hK : X.K = G.K) (pa : PlainAttrs T) (slot : Slot T name id) (hty : typeOf (.builtin id) = pure (.type "method_descriptor")) (hm : MtR X id r) (ht : TyOk G T ty) (hs : OpM G T r k) (ho : PE X o (tE G E eo)) (ha : PA X (e :: es) (tA G E ea))
    (hbase : attributeBase o name X.env (eval o X.env) = eval o X.env := by rfl)
    (hfew : ((backTo cpos (starEach (e :: es) X.env)).all (fun x => !x.1) && (backToKw cpos (keywordEach [] X.env)).all (fun x => x.1.isSome)
      && decide ((e :: es).length + ([] : List Keyword).length + (if ([] : List Keyword).isEmpty then 0 else 1) < 30)) = true := by rfl)
    (hline : (apos.endLine == cpos.line) = true := by rfl) (hst : starEach (e :: es) X.env = (false, eval e X.env) :: starEach es X.env := by rfl) (hplain : (backTo cpos (starEach es X.env)).any (·.1) = false := by rfl) :
    PE X (.Call (.Attribute o name apos) (e :: es) [] cpos) (tE G E (evM2 ty k eo ea)) :=
  pe_imp (pe_bm pa slot hty hm ho ha hbase hfew hline hst hplain) fun σ H Q ⟨R, ρ, s, M, w, sr, p⟩ => stepE w sr p fun R1 ρ1 M1 H1 va v e1 w1 sr1 r1 p1 => by
    split at p1
    · rename_i hh
      exact ⟨by rw [hK]; exact ht R1 ρ1 M1 H1 v va w1 r1 hh, stepA w1 sr1 p1 fun R2 ρ2 M2 H2 l vs e2 w2 sr2 r2 p2 => hs R2 ρ2 M2 H2 v vs va l Q E w2 (r1.mono e2.gr) r2 p2⟩
    · exact False.elim p1
theorem q_bm0 (hK : X.K = G.K) (pa : PlainAttrs T) (slot : Slot T name id) (hty : typeOf (.builtin id) = pure (.type "method_descriptor")) (hm : MtR X id r) (ht : TyOk G T ty) (hs : OpM G T r k) (ho : PE X o (tE G E eo))
    (hbase : attributeBase o name X.env (eval o X.env) = eval o X.env := by rfl) (hline : (apos.endLine == cpos.line) = true := by rfl) :
    PE X (.Call (.Attribute o name apos) [] [] cpos) (tE G E (evM2 ty k eo evNil)) :=
  pe_imp (pe_bm0 pa slot hty hm ho hbase hline) fun σ H Q ⟨R, ρ, s, M, w, sr, p⟩ => stepE w sr p fun R1 ρ1 M1 H1 va v e1 w1 sr1 r1 p1 => by
    split at p1
    · rename_i hh
      exact ⟨by rw [hK]; exact ht R1 ρ1 M1 H1 v va w1 r1 hh, hs R1 ρ1 M1 H1 v [] va [] Q E w1 r1 .nil p1⟩
    · exact False.elim p1
end
def kVal (g : Store → Va → List Va → Option Va) (o : Va) (l : List Va) (M : Store) : Res := match g M o l with
  | some r => some (.val r, M)
  | none => none
/-- a change of the cell -/
def kMut (g : Cell → List Va → Option (Cell × Va)) (o : Va) (l : List Va) (M : Store) : Res := match o with
  | .cel n => (match M.c n with
    | some c => (match g c l with
      | some (c', r) => some (.val r, M.put n c')
      | none => none)
    | none => none)
  | _ => none
def gJoin (M : Store) : Va → List Va → Option Va
  | .str a, [x] => (match seqOf M x with
    | some l => (match strsOf l with
      | some ys => if (ys.map (·.length)).sum + ys.length * a.length ≤ 16777216 then some (.str (Txt.join a ys)) else none
      | none => none)
    | none => none)
  | _, _ => none
def gSplit (_ : Store) : Va → List Va → Option Va
  | .str a, [.str b] => if (b.length == 0) = false ∧ a.length + 2 ≤ sizeLine then some (.lst ((Txt.split a b).map Va.str)) else none
  | _, _ => none
def gStarts (_ : Store) : Va → List Va → Option Va
  | .str a, [.str b] => some (.bl (Txt.startswith a b))
  | _, _ => none
def gEnds (_ : Store) : Va → List Va → Option Va
  | .str a, [.str b] => some (.bl (Txt.endswith a b))
  | _, _ => none
def gFind (_ : Store) : Va → List Va → Option Va
  | .str a, [.str b] => some (.int (Txt.find a b))
  | _, _ => none
def gPart (_ : Store) : Va → List Va → Option Va
  | .str a, [.str b] => if (b.length == 0) = false ∧ a.length ≤ sizeLine then some (.tup [.str (Txt.partition a b).1, .str (Txt.partition a b).2.1, .str (Txt.partition a b).2.2]) else none
  | _, _ => none
def cAppend : Cell → List Va → Option (Cell × Va)
  | .lst l, [y] => if l.length < sizeLine then some (.lst (l ++ [y]), .non) else none
  | _, _ => none
def cPop : Cell → List Va → Option (Cell × Va)
  | .lst l, [] => (match l[l.length - 1]? with
    | some y => some (.lst l.dropLast, y)
    | none => none)
  | _, _ => none
def cPopAt : Cell → List Va → Option (Cell × Va)
  | .lst l, [.int i] => if -(2 ^ 63) ≤ i ∧ i < 2 ^ 63 then (match seqIndex? i l.length with
    | some k => (match l[k]? with
      | some y => some (.lst (l.eraseIdx k), y)
      | none => none)
    | none => none) else none
  | _, _ => none
def cReverse : Cell → List Va → Option (Cell × Va)
  | .lst l, [] => some (.lst l.reverse, .non)
  | _, _ => none
def cClear : Cell → List Va → Option (Cell × Va)
  | .lst _, [] => some (.lst [], .non)
  | _, _ => none
section
variable {X : Cx} {G : Sig}
theorem val_of {T : String} {r : V → List V → Hp → VK → Prop} {g : Store → Va → List Va → Option Va} (h : ∀ R ρ M H x xs o l res Q, Wd G R ρ M H → VR G R ρ o x → VRs G R ρ l xs → g M o l = some res → Gives G R ρ H M res Q → r x xs H Q) : OpM G T r (kVal g) := fun R ρ M H x xs o l Q E w ro rv p => by
  unfold kVal at p
  cases q : g M o l with
  | none => rw [q] at p; exact False.elim p
  | some res => rw [q] at p; exact h R ρ M H x xs o l res Q w ro rv q p
theorem s_join (hK : X.K = G.K) : OpM G "str" (fun x xs H Q => ∃ a p, ∃ ys : List Str, x = .str a ∧ xs = [.ref p] ∧ (SqL X.K H p (ys.map V.str) ∨ SqT X.K H p (ys.map V.str)) ∧ (ys.map (·.length)).sum + ys.length * a.length ≤ 16777216 ∧ Q (.str (Txt.join a ys)) H) (kVal gJoin) :=
  val_of fun R ρ M H x xs o l res Q w ro rv h g => by
    unfold gJoin at h
    split at h
    · cases ro
      obtain ⟨v, rfl, r⟩ := one_of rv
      split at h
      · rename_i l hl
        split at h
        · rename_i ys hy
          split at h
          · rename_i hz; cases h
            obtain ⟨a, vs, rfl, sq, rv', _⟩ := seq_read w r hl
            rw [strs_of rv' hy] at sq
            exact ⟨_, a, ys, rfl, rfl, by rw [hK]; exact sq, hz, gives_now w (.str _) g⟩
          · cases h
        · cases h
      · cases h
    · cases h
theorem s_split : OpM G "str" (fun x xs H Q => ∃ a b, x = .str a ∧ xs = [.str b] ∧ (b.length == 0) = false ∧ a.length + 2 ≤ sizeLine ∧ rNewStrs (Txt.split a b) H Q) (kVal gSplit) :=
  val_of fun R ρ M H x xs o l res Q w ro rv h g => by
    unfold gSplit at h
    split at h
    · cases ro
      rename_i a b
      obtain ⟨v, rfl, r⟩ := one_of rv
      cases r
      split at h
      · rename_i hz; cases h
        refine ⟨a, b, rfl, rfl, hz.1, hz.2, fun p hp => gives_lst w (VRs.strs _) ?_ g hp⟩
        rw [List.length_map]
        exact Nat.le_trans (PyProof.Rows.split_le a b) hz.2
      · cases h
    · cases h
theorem s_starts : OpM G "str" (fun x xs H Q => ∃ a b, x = .str a ∧ xs = [.str b] ∧ Q (.bl (Txt.startswith a b)) H) (kVal gStarts) :=
  val_of fun R ρ M H x xs o l res Q w ro rv h g => by
    unfold gStarts at h
    split at h
    · cases ro
      obtain ⟨v, rfl, r⟩ := one_of rv
      cases r; cases h
      exact ⟨_, _, rfl, rfl, gives_now w (.bl _) g⟩
    · cases h
theorem s_ends : OpM G "str" (fun x xs H Q => ∃ a b, x = .str a ∧ xs = [.str b] ∧ Q (.bl (Txt.endswith a b)) H) (kVal gEnds) :=
  val_of fun R ρ M H x xs o l res Q w ro rv h g => by
    unfold gEnds at h
    split at h
    · cases ro
      obtain ⟨v, rfl, r⟩ := one_of rv
      cases r; cases h
      exact ⟨_, _, rfl, rfl, gives_now w (.bl _) g⟩
    · cases h
theorem s_find : OpM G "str" (fun x xs H Q => ∃ a b, x = .str a ∧ xs = [.str b] ∧ Q (.int (Txt.find a b)) H) (kVal gFind) :=
  val_of fun R ρ M H x xs o l res Q w ro rv h g => by
    unfold gFind at h
    split at h
    · cases ro
      obtain ⟨v, rfl, r⟩ := one_of rv
      cases r; cases h
      exact ⟨_, _, rfl, rfl, gives_now w (.int _) g⟩
    · cases h
theorem s_part : OpM G "str" (fun x xs H Q => ∃ a b, x = .str a ∧ xs = [.str b] ∧ (b.length == 0) = false ∧ a.length ≤ sizeLine ∧
    ∀ p, H p = none → Q (.ref p) (upd H p (.tup [.str (Txt.partition a b).1, .str (Txt.partition a b).2.1, .str (Txt.partition a b).2.2]))) (kVal gPart) :=
  val_of fun R ρ M H x xs o l res Q w ro rv h g => by
    unfold gPart at h
    split at h
    · cases ro
      obtain ⟨v, rfl, r⟩ := one_of rv
      cases r
      split at h
      · rename_i hz; cases h
        exact ⟨_, _, rfl, rfl, hz.1, hz.2, fun p hp => gives_tup w (.cons (.str _) (.cons (.str _) (.cons (.str _) .nil))) (by show 3 ≤ sizeLine; decide) g hp⟩
      · cases h
    · cases h
/-- a cell of a list changes -/
theorem mut_of {T : String} {r : V → List V → Hp → VK → Prop} {g : Cell → List Va → Option (Cell × Va)} (hg : ∀ c l c' y, g c l = some (c', y) → ∃ l0, c = .lst l0)
    (h : ∀ R ρ M H a vs l0 l xs l' y (Q : VK), Wd G R ρ M H → H a = some (.lst vs) → VRs G R ρ l0 vs → l0.length ≤ sizeLine → VRs G R ρ l xs → g (.lst l0) l = some (l', y) →
      (∀ vs' v, VR G R ρ y v → (∀ H', H' a = some (.lst vs') → CelR G R ρ H' a l') → Q v (upd H a (.lst vs'))) → r (.ref a) xs H Q) : OpM G T r (kMut g) := fun R ρ M H x xs o l Q E w ro rv p => by
  unfold kMut at p
  split at p
  · rename_i n
    split at p
    · rename_i c hc
      split at p
      · rename_i c' y hg'
        obtain ⟨l0, rfl⟩ := hg c l c' y hg'
        cases ro with
        | cel e =>
          obtain ⟨a, e1, ra, vs, ha, z, r0⟩ := w.cel n _ hc
          rw [e] at e1
          cases e1
          refine h R ρ M H _ vs l0 l xs c' y Q w ha r0 z rv hg' fun vs' v ry hc' => ?_
          obtain ⟨ex, wd⟩ := write_cel w hc e (hc' (upd H _ (.lst vs')) upd_same)
          exact p _ _ _ _ ex wd (ry.mono ex.gr)
      · exact False.elim p
    · exact False.elim p
  · exact False.elim p
theorem s_append : OpM G "list" rAppend (kMut cAppend) := mut_of (fun c l c' y h => by unfold cAppend at h; split at h; exact ⟨_, rfl⟩; cases h) fun R ρ M H a vs l0 l xs l' y Q w ha r0 z rv h k => by
  unfold cAppend at h
  split at h
  · rename_i l1 y1 e1
    cases e1
    obtain ⟨v, rfl, r⟩ := one_of rv
    split at h
    · rename_i hz; cases h
      exact ⟨a, vs, v, rfl, rfl, ha, by rw [← r0.length]; exact hz, k (vs ++ [v]) .non .non fun H' hH => ⟨_, hH, by simp; omega, r0.append (.cons r .nil)⟩⟩
    · cases h
  · cases h
theorem s_pop : OpM G "list" rPop (kMut cPop) := mut_of (fun c l c' y h => by unfold cPop at h; split at h; exact ⟨_, rfl⟩; cases h) fun R ρ M H a vs l0 l xs l' y Q w ha r0 z rv h k => by
  unfold cPop at h
  split at h
  · rename_i l1 e1
    cases e1
    cases rv
    split at h
    · rename_i y' hy
      cases h
      obtain ⟨v, hv, ry⟩ := r0.get hy
      exact ⟨a, vs, v, rfl, rfl, ha, by rw [← r0.length]; exact hv, k vs.dropLast v ry fun H' hH => ⟨_, hH, by rw [List.length_dropLast]; omega, r0.dropLast⟩⟩
    · cases h
  · cases h
theorem s_popAt : OpM G "list" rPopAt (kMut cPopAt) := mut_of (fun c l c' y h => by unfold cPopAt at h; split at h; exact ⟨_, rfl⟩; cases h) fun R ρ M H a vs l0 l xs l' y Q w ha r0 z rv h k => by
  unfold cPopAt at h
  split at h
  · rename_i l1 i e1
    cases e1
    obtain ⟨v, rfl, r⟩ := one_of rv
    cases r
    split at h
    · rename_i hz
      split at h
      · rename_i j hj
        split at h
        · rename_i y' hy
          cases h
          obtain ⟨v, hv, ry⟩ := r0.get hy
          exact ⟨a, vs, i, j, v, rfl, rfl, ha, hz.1, hz.2, by rw [← r0.length]; exact hj, hv, k (vs.eraseIdx j) v ry fun H' hH => ⟨_, hH, Nat.le_trans (List.length_eraseIdx_le ..) z, r0.eraseIdx j⟩⟩
        · cases h
      · cases h
    · cases h
  · cases h
theorem s_reverse : OpM G "list" rReverse (kMut cReverse) := mut_of (fun c l c' y h => by unfold cReverse at h; split at h; exact ⟨_, rfl⟩; cases h) fun R ρ M H a vs l0 l xs l' y Q w ha r0 z rv h k => by
  unfold cReverse at h
  split at h
  · rename_i l1 e1
    cases e1
    cases rv
    cases h
    exact ⟨a, vs, rfl, rfl, ha, k vs.reverse .non .non fun H' hH => ⟨_, hH, by rw [List.length_reverse]; exact z, r0.reverse⟩⟩
  · cases h
theorem s_clear : OpM G "list" rClear (kMut cClear) := mut_of (fun c l c' y h => by unfold cClear at h; split at h; exact ⟨_, rfl⟩; cases h) fun R ρ M H a vs l0 l xs l' y Q w ha r0 z rv h k => by
  unfold cClear at h
  split at h
  · rename_i l1 e1
    cases e1
    cases rv
    cases h
    exact ⟨a, vs, rfl, rfl, ha, k [] .non .non fun H' hH => ⟨_, hH, by simp, .nil⟩⟩
  · cases h
/-- xs[i] = v -/
def cSetAt (o i v : Va) (M : Store) : Option Store := match o, i with
  | .cel n, .int k => (match M.c n with
    | some (.lst l) => (match ixN l.length k with
      | some j => some (M.put n (.lst (l.set j v)))
      | none => none)
    | _ => none)
  | _, _ => none
theorem s_setAt : SubSim G rSetL cSetAt := fun R ρ M M' H o i x vo vi v k w ro ri rv h q => by
  unfold cSetAt at h
  split at h
  · rename_i n j
    cases ri
    split at h
    · rename_i l hc
      split at h
      · rename_i j' hj
        cases h
        cases ro with
        | cel e =>
          obtain ⟨a, e1, ra, vs, ha, z, r0⟩ := w.cel n _ hc
          rw [e] at e1
          cases e1
          obtain ⟨ex, wd⟩ := write_cel (o := .lst (vs.set j' x)) (y := .lst (l.set j' v)) w hc e ⟨_, upd_same, by rw [List.length_set]; exact z, r0.set rv j'⟩
          exact ⟨_, vs, j, j', rfl, rfl, ha, by rw [← r0.length]; exact hj, q _ ex wd⟩
      · cases h
    · cases h
  · cases h
end
end PV

set_option Elab.async false
set_option linter.all false
set_option maxRecDepth 100000
set_option maxHeartbeats 4000000
namespace PV
open PySem L2

section
variable {X : Cx} {G : Sig} {E : XK} {a b c tg : Expr} {es : List Expr} {ea eb ec : SE} {pos : Pos}
theorem chain_sim {r r' : R2} {g g' : Store → Va → Va → Option Va} (hs : Op2 G r g) (hs' : Op2 G r' g') {σ : L2.St} {H : Hp} {Q : VK} (h : tE G E (evChain g g' ea eb ec) σ H Q) : tChain r r' (tE G E ea) (tE G E eb) (tE G E ec) σ H Q := by
  obtain ⟨R, ρ, s, M, w, sr, p⟩ := h
  refine stepE w sr p fun R1 ρ1 M1 H1 va v e1 w1 sr1 r1 p1 => ?_
  refine stepE w1 sr1 p1 fun R2 ρ2 M2 H2 vb u e2 w2 sr2 r2 p2 => ?_
  cases q : g M2 va vb with
  | none => rw [q] at p2; exact False.elim p2
  | some res =>
    rw [q] at p2
    cases res <;> first | exact False.elim p2 | skip
    rename_i bb
    refine hs R2 ρ2 M2 H2 v u va vb _ _ w2 (r1.mono e2.gr) r2 q fun R3 ρ3 H3 z e3 w3 r3 => ?_
    cases r3
    refine ⟨bb, rfl, ?_⟩
    cases bb with
    | false => exact iteF (p2 R3 ρ3 H3 _ e3 w3 (.bl false))
    | true =>
      refine iteT ?_
      refine stepE w3 (sr2.mono e3.gr) (Post.ext e3 p2) fun R4 ρ4 M4 H4 vc t e4 w4 sr4 r4 p4 => ?_
      cases q4 : g' M4 vb vc with
      | none => rw [q4] at p4; exact False.elim p4
      | some res =>
        rw [q4] at p4
        cases res <;> first | exact False.elim p4 | skip
        exact hs' R4 ρ4 M4 H4 u t vb vc _ Q w4 (r2.mono (e3.trans e4).gr) r4 q4 p4
theorem q_chain {op op' : CmpOp} {r r' : R2} {g g' : Store → Va → Va → Option Va} (ho : OpR X (compareOp op) r) (hs : Op2 G r g) (ho' : OpR X (compareOp op') r') (hs' : Op2 G r' g') (ha : PE X a (tE G E ea)) (hb : PE X b (tE G E eb)) (hc : PE X c (tE G E ec))
    (hm : lastMarks [op, op'] [b, c] = false := by with_unfolding_all rfl) : PE X (.Compare a [op, op'] [b, c] pos) (tE G E (evChain g g' ea eb ec)) := pe_imp (pe_chain ho ho' ha hb hc hm) fun σ H Q h => chain_sim hs hs' h
theorem qt_chain {op op' : CmpOp} {r r' : R2} {g g' : Store → Va → Va → Option Va} (ho : OpR X (compareOp op) r) (hs : Op2 G r g) (ho' : OpR X (compareOp op') r') (hs' : Op2 G r' g') (ha : PE X a (tE G E ea)) (hb : PE X b (tE G E eb)) (hc : PE X c (tE G E ec))
    (hm : lastMarks [op, op'] [b, c] = false := by with_unfolding_all rfl) : PT X (.Compare a [op, op'] [b, c] pos) (tT G E (evChain g g' ea eb ec)) := pt_imp (pt_chain ho ho' ha hb hc hm) fun σ H Q h => chain_sim hs hs' (toT h)

/-! ### any source -/
theorem qi_str (ha : PE X a (tE G E ea)) : PI X tg a (tI G E (itS ea)) :=
  pi_imp (pi_str ha) fun σ H Q ⟨R, ρ, s, M, w, sr, p⟩ => by
    refine ⟨R, ρ, s, M, w, sr, ?_⟩
    unfold itS at p
    rcases q : ea s M with _ | ⟨x | ⟨c, x⟩, M1⟩ <;> rw [q] at p
    · exact p
    · cases x <;> first | exact False.elim p | skip
      rename_i z
      intro R1 ρ1 H1 v e1 w1 r1
      cases r1
      dsimp only at p
      by_cases hz : z.length ≤ sizeLine
      · rw [if_pos hz] at p
        refine ⟨z, rfl, p R1 ρ1 H1 _ e1 w1 (by rw [List.length_map]; exact hz) fun R2 ρ2 M2 H2 g2 w2 _ => ⟨fun i y hy => ?_, fun i hi => ?_⟩⟩
        · rw [List.getElem?_map] at hy
          cases q2 : z.cps.toList[i]? with
          | none => rw [q2] at hy; cases hy
          | some c =>
            rw [q2] at hy
            cases hy
            have hc : z.cps[i]? = some c := by rw [← Array.getElem?_toList]; exact q2
            refine ⟨(Array.getElem?_eq_some_iff.mp hc).1, fun v H' ⟨e3, c', hc', ev⟩ => ?_⟩
            rw [hc] at hc'
            cases hc'
            subst ev e3
            exact ⟨R2, Ext.refl, w2, .str _⟩
        · rw [List.length_map] at hi
          show z.cps.size ≤ i
          simpa using hi
      · rw [if_neg hz] at p; exact False.elim p
    · exact p
def itA (e : SE) : SI := fun s M => match e s M with
  | some (.val (.str _), _) => itS e s M
  | some (.val (.tup _), _) => itT e s M
  | _ => itL e s M
theorem qi_any (hK : X.K = G.K) (ha : PE X a (tE G E ea)) : PI X tg a (tI G E (itA ea)) :=
  ⟨fun pins s σ H k I ⟨R, ρ, s', M, w, sr, p⟩ => by
    unfold itA at p
    split at p
    · exact (qi_str ha).run pins s σ H k I ⟨R, ρ, s', M, w, sr, p⟩
    · exact (qi_tup hK ha).run pins s σ H k I ⟨R, ρ, s', M, w, sr, p⟩
    · exact (qi_list hK ha).run pins s σ H k I ⟨R, ρ, s', M, w, sr, p⟩⟩
end

/-! ### parts of a text, by places -/
def noE : Expr := .Constant .none 0 ⟨0, 0, 0, 0⟩
def noS : Stmt := .Pass ⟨0, 0, 0, 0⟩
/-- the i-th part of an expression -/
def eAt (i : Nat) : Expr → Expr
  | .BinOp a _ b _ => if i = 0 then a else b
  | .UnaryOp _ a _ => a
  | .BoolOp _ es _ => es.getD i noE
  | .Compare a _ es _ => if i = 0 then a else es.getD (i - 1) noE
  | .Call f es _ _ => if i = 0 then f else es.getD (i - 1) noE
  | .IfExp c a b _ => if i = 0 then c else if i = 1 then a else b
  | .Subscript a b _ => if i = 0 then a else b
  | .Slice a b _ _ => ((if i = 0 then a else b).getD noE)
  | .List es _ => es.getD i noE
  | .Tuple es _ _ => es.getD i noE
  | .Attribute a _ _ => a
  | .ListComp e gs _ _ => if i = 0 then e else if i = 1 then (match gs with | g :: _ => g.iter | [] => noE) else (match gs with | g :: _ => g.ifs.getD (i - 2) noE | [] => noE)
  | .DictComp k v gs _ _ => if i = 0 then k else if i = 1 then v else (match gs with | g :: _ => g.iter | [] => noE)
  | .Dict ks vs _ => vs.getD i noE
  | .FormattedValue e _ _ _ => e
  | .JoinedStr es _ => es.getD i noE
  | .Lambda _ e _ _ => e
  | e => e
/-- the keyword i of a call -/
def eKw (i : Nat) : Expr → Expr
  | .Call _ _ ks _ => (match ks[i]? with | some k => k.value | none => noE)
  | e => e
def eSc : Expr → Scope
  | .ListComp _ _ s _ => s
  | .DictComp _ _ _ s _ => s
  | .Lambda _ _ s _ => s
  | _ => defScope noS
/-- the i-th expression of a statement -/
def sEx (i : Nat) : Stmt → Expr
  | .Return (some e) _ => e
  | .Assign ts e _ => if i = 0 then e else ts.getD (i - 1) noE
  | .AugAssign t _ e _ => if i = 0 then e else t
  | .Expr e _ => e
  | .If c _ _ _ => c
  | .While c _ _ _ => c
  | .For t e _ _ _ => if i = 0 then e else t
  | .Raise (some e) _ _ => e
  | _ => noE
def sIn (k i : Nat) : Stmt → Stmt
  | .If _ a b _ => (if k = 0 then a else b).getD i noS
  | .While _ a b _ => (if k = 0 then a else b).getD i noS
  | .For _ _ a b _ => (if k = 0 then a else b).getD i noS
  | .Try a hs b c _ => (if k = 0 then a else if k = 1 then b else c).getD i noS
  | s => s
def sAt (i : Nat) (l : List Stmt) : Stmt := l.getD i noS

/-! ### built-in names -/
theorem bt_len : bootBuiltins "len" = some (.builtin "len") := by decide +kernel
theorem bt_max : bootBuiltins "max" = some (.builtin "max") := by decide +kernel
theorem bt_min : bootBuiltins "min" = some (.builtin "min") := by decide +kernel
theorem bt_abs : bootBuiltins "abs" = some (.builtin "abs") := by decide +kernel
theorem bt_sum : bootBuiltins "sum" = some (.builtin "sum") := by decide +kernel
theorem bt_all : bootBuiltins "all" = some (.builtin "all") := by decide +kernel
theorem bt_any : bootBuiltins "any" = some (.builtin "any") := by decide +kernel
theorem bt_repr : bootBuiltins "repr" = some (.builtin "repr") := by decide +kernel
theorem bt_sorted : bootBuiltins "sorted" = some (.builtin "sorted") := by decide +kernel
theorem bt_int : bootBuiltins "int" = some (.type "int") := by decide +kernel
theorem bt_str : bootBuiltins "str" = some (.type "str") := by decide +kernel
theorem bt_list : bootBuiltins "list" = some (.type "list") := by decide +kernel
theorem bt_dict : bootBuiltins "dict" = some (.type "dict") := by decide +kernel
end PV

set_option Elab.async false
set_option linter.all false
set_option maxRecDepth 100000
set_option maxHeartbeats 4000000
namespace PV
open PySem L2
open PyProof.Rows

/-- a def of the text that stands under its name, by value -/
structure Cal (P : Program) (w : World) (K : PySem.W.Frag) (mg : Str → Option Value) (base : Heap) (G : Sig) (x : Str) (lv n : Nat) (fM : FM) : Prop where
  ex : ∃ (f : Addr) (fd : FuncData) (ps : List Str), mg x = some (.ref f) ∧ PySem.W.keepIn K (.ref f) = true ∧ Binds K fd ps [] ∧ FnG P w K mg base CX0 lv f fd ps (spI G n fM)
section
variable {X : Cx} {G : Sig} {a : Expr} {es : List Expr} {ea : SE} {pos p' : Pos} {lv k n : Nat} {x : Str} {fM : FM}
theorem q_cal (C : Cal X.prog X.w X.K X.mg X.base G x lv n fM) (hr : Room k X.A) (hl : lv ≤ k) (hgd : X.A.guards = some []) (hg : Gl X x) (ha : PA X (a :: es) (tA G E0 ea)) (hdb : (x == ("__debug__" : Str)) = false := by decide)
    (he : starEach (a :: es) X.env = (false, eval a X.env) :: starEach es X.env := by rfl) (hpl : (backTo pos (starEach es X.env)).any (·.1) = false := by rfl) :
    PE X (.Call (.Name x p') (a :: es) [] pos) (tE G E0 (evL (kFn n fM) ea)) := by
  obtain ⟨f, fd, ps, hm, hk, hb, F⟩ := C.ex
  exact q_fn F (hr.mono hl) hgd hg hm hk hb ha hdb he hpl
theorem q_cal0 (C : Cal X.prog X.w X.K X.mg X.base G x lv 0 fM) (hr : Room k X.A) (hl : lv ≤ k) (hgd : X.A.guards = some []) (hg : Gl X x) (hdb : (x == ("__debug__" : Str)) = false := by decide) :
    PE X (.Call (.Name x p') [] [] pos) (tE G E0 (evL (kFn 0 fM) evNil)) := by
  obtain ⟨f, fd, ps, hm, hk, hb, F⟩ := C.ex
  exact q_fn0 F (hr.mono hl) hgd hg hm hk hb hdb
end
/-- a def's place in the text, its body by value: what callers know of it -/
theorem cal_of {P : Program} {w : World} {K : PySem.W.Frag} {mg : Str → Option Value} {base : Heap} {CA : Nat → Addr} {x : Str} {st : Stmt} {f : Addr} {fd : FuncData} {N ps : List Str} {k n N' : Nat} {es : SS} {c : FM} (F : Fun K x x st f fd) (S : FnScope N ps (defScope st)) (m : mg x = some (.ref f))
    (hb : Binds K fd ps []) (hn : ps.length = n) (hN : N.length = N') (hc : c = runF N' es)
    (body : ∀ (cdv : Value) (A : Around) (outer : List Env) (s : Shared) (H : Hp) (E : XK), Room k (A.deeper (envOfC x (defScope st) s.heap.objs.size f cdv)) → A.guards = some [] →
      PSs (cxOf CX0 P w K mg base N x (defScope st) f cdv A outer s H E).nox (defBody st) (tS ⟨K, CA⟩ E0 es)) : Cal P w K mg base ⟨K, CA⟩ x (k + 1) n c := by
  subst hn hN hc
  exact ⟨f, fd, ps, m, F.kp, hb, ok_fn F S body⟩
theorem okF {P : Program} {w : World} {K : PySem.W.Frag} {mg : Str → Option Value} {base : Heap} {CA : Nat → Addr} {x : Str} {st : Stmt} {f : Addr} {fd : FuncData} {N ps : List Str} {k n N' : Nat} {es : SS} {c : FM} (F : Fun K x x st f fd) (S : FnScope N ps (defScope st))
    (hn : ps.length = n) (hN : N.length = N') (hc : c = runF N' es)
    (body : ∀ (cdv : Value) (A : Around) (outer : List Env) (s : Shared) (H : Hp) (E : XK), Room k (A.deeper (envOfC x (defScope st) s.heap.objs.size f cdv)) → A.guards = some [] →
      PSs (cxOf CX0 P w K mg base N x (defScope st) f cdv A outer s H E).nox (defBody st) (tS ⟨K, CA⟩ E0 es)) : FnG P w K mg base CX0 (k + 1) f fd ps (spI ⟨K, CA⟩ n c) := by
  subst hn hN hc
  exact ok_fn F S body
theorem walkG {l : PySem.W.OpenLaw} {n k : Nat} {q : Program} {loose : List Str} {XP : (Str → Option Value) → Heap → Prop} {YP : World → Heap → Prop} {d : DefRec} {K : Params → PySem.W.Frag} {x : Str}
    (hi : PyProof.Rows.importsNone q = true) (hn : l.most = some n) (hn2 : n ≤ sizeLine) (hdf : d.params.defaults = []) (hr : Room k callerA) (hY : ∀ (w : World) (h : Heap), YP w h → (K w.params).In h)
    (F : ∀ (w : World) (mg : Str → Option Value) (fa : Addr) (h : Heap), (K w.params).In h → h.Ns mainGlobals mg → mg d.name = some (.ref fa) →
      ∃ (fd : FuncData) (CA : Nat → Addr) (f : FM), (∀ (s : Shared) (u : Value), BindsTo s fd ⟨[u], []⟩ [(x, u)]) ∧
        (∀ base : Heap, (K w.params).In base → base.Ns mainGlobals mg → (∃ mm, base.Ns sysModules mm) → FnG l.prog w (K w.params) mg base CX0 k fa fd [x] (spI ⟨K w.params, CA⟩ 1 f)) ∧
        ∀ ns : List Int, ns.length ≤ n → ∃ M', f [.scr ns] ⟨fun _ => none, 0⟩ = some (.val (.bl true), M')) :
    PySem.W.WalkO q loose XP YP l.row.toRowW d [] (fun f vs => PySem.call f vs) := by
  refine Att.attach_call hn hdf fun w s₀ s mg mb fa o pm cd doc a vs ns G Y ho hd hcd hmg hobj hints hlen hg => ?_
  obtain ⟨fd, CA, f, hb, hF, hf⟩ := F w mg fa _ (hY w _ Y) G.T.g hmg
  obtain ⟨M', hm⟩ := hf ns hlen
  exact law_end (hY w _ Y) G.T.g G.T.b G.T.builtins G.T.nolimit ((G.T.seer hi).mods.elim fun mm z => ⟨mm, z.1⟩) hg hobj hints (Nat.le_trans hlen hn2) hr hF hb hm
end PV

set_option Elab.async false
set_option linter.all false
set_option maxRecDepth 100000
set_option maxHeartbeats 4000000
namespace PV
open PySem L2

/-! ### evaluation, as rewriting -/
section
variable {s : SL} {M : Store} {i j : Nat} {v va vb : Va} {ea eb ec : SE} {sa sb : SS}
@[simp] theorem x_c : evC v s M = some (.val v, M) := rfl
@[simp] theorem x_var0 {a : Option Va} : evVar 0 (a :: s) M = (match a with | some v => some (.val v, M) | none => none) := by cases a <;> rfl
@[simp] theorem x_varS {a : Option Va} : evVar (i + 1) (a :: s) M = evVar i s M := rfl
@[simp] theorem x_1 {g} : ev1 g ea s M = bindO (ea s M) fun va M1 => (match g M1 va with | some r => some (.val r, M1) | none => none) := rfl
@[simp] theorem x_2 {g} : ev2 g ea eb s M = bindO (ea s M) fun va M1 => bindO (eb s M1) fun vb M2 => (match g M2 va vb with | some r => some (.val r, M2) | none => none) := rfl
@[simp] theorem x_nil : evNil s M = some (.val (.tup []), M) := rfl
@[simp] theorem x_cons : evCons ea eb s M = bindO (ea s M) fun v M1 => bindO (eb s M1) fun t M2 => (match t with | .tup l => some (.val (.tup (v :: l)), M2) | _ => none) := rfl
@[simp] theorem x_L {k} : evL k ea s M = bindO (ea s M) fun t M1 => (match t with | .tup l => k l M1 | _ => none) := rfl
@[simp] theorem x_M2 {ty k} : evM2 ty k ea eb s M = bindO (ea s M) fun o M1 => if ty M1 o = true then bindO (eb s M1) fun t M2 => (match t with | .tup l => k o l M2 | _ => none) else none := rfl
@[simp] theorem x_if : evIf ec ea eb s M = bindO (ec s M) fun c M1 => (match c with | .bl true => ea s M1 | .bl false => eb s M1 | _ => none) := rfl
@[simp] theorem x_and : evAnd ea eb s M = bindO (ea s M) fun c M1 => (match c with | .bl true => eb s M1 | .bl false => some (.val (.bl false), M1) | _ => none) := rfl
@[simp] theorem x_or : evOr ea eb s M = bindO (ea s M) fun c M1 => (match c with | .bl true => some (.val (.bl true), M1) | .bl false => eb s M1 | _ => none) := rfl
@[simp] theorem x_not : evNot ea s M = bindO (ea s M) fun c M1 => (match c with | .bl b => some (.val (.bl (!b)), M1) | _ => none) := rfl
@[simp] theorem x_chain {g g'} : evChain g g' ea eb ec s M = bindO (ea s M) fun va M1 => bindO (eb s M1) fun vb M2 => (match g M2 va vb with
  | some (.bl true) => bindO (ec s M2) fun vc M3 => (match g' M3 vb vc with | some (.bl b) => some (.val (.bl b), M3) | _ => none)
  | some (.bl false) => some (.val (.bl false), M2)
  | _ => none) := rfl
@[simp] theorem x_tru : evTru ea s M = bindO (ea s M) fun va M1 => (match (truO M1 va).map Va.bl with | some r => some (.val r, M1) | none => none) := rfl
@[simp] theorem x_yes : evYes s M = some (.val (.bl true), M) := rfl
@[simp] theorem x_B : evB ea s M = bindO (ea s M) fun v M1 => (match v with | .int i => some (.val (.int i), M1) | _ => none) := rfl
@[simp] theorem x_sl : evSl ea eb ec s M = bindO (ea s M) fun x M1 => bindO (eb s M1) fun vl M2 => bindO (ec s M2) fun vu M3 => (match boundOf vl, boundOf vu with
  | some lo, some hi => (match opSl M3 x lo hi with | some r => some (.val r, M3) | none => none)
  | _, _ => none) := rfl
@[simp] theorem x_frz : evFrz ea s M = frzO (ea s M) := rfl
@[simp] theorem frz_none : frzO none = none := rfl
@[simp] theorem frz_exc {c x} : frzO (some (.exc c x, M)) = some (.exc c x, M) := rfl
@[simp] theorem frz_non : frzO (some (.val .non, M)) = some (.val .non, M) := rfl
@[simp] theorem frz_bl {b} : frzO (some (.val (.bl b), M)) = some (.val (.bl b), M) := rfl
@[simp] theorem frz_int {b} : frzO (some (.val (.int b), M)) = some (.val (.int b), M) := rfl
@[simp] theorem frz_str {b} : frzO (some (.val (.str b), M)) = some (.val (.str b), M) := rfl
@[simp] theorem frz_lst {b} : frzO (some (.val (.lst b), M)) = some (.val (.lst b), M) := rfl
@[simp] theorem frz_tup {b} : frzO (some (.val (.tup b), M)) = some (.val (.tup b), M) := rfl
@[simp] theorem frz_dic {b} : frzO (some (.val (.dic b), M)) = some (.val (.dic b), M) := rfl
@[simp] theorem frz_cel {n : Nat} : frzO (some (.val (.cel n), M)) = (match M.c n with
    | some (.lst l) => some (.val (.lst l), M.del n)
    | some (.dic l) => some (.val (.dic l), M.del n)
    | _ => some (.val (.cel n), M)) := rfl
@[simp] theorem x_sE {e k} : sE e k s M = (match e s M with | none => none | some (.val v, M1) => k v s M1 | some (.exc c v, M1) => some (.exc c v, s, M1)) := rfl
@[simp] theorem x_nx : sNx s M = some (.nx, s, M) := rfl
@[simp] theorem x_bk : sBk s M = some (.bk, s, M) := rfl
@[simp] theorem x_ct : sCt s M = some (.ct, s, M) := rfl
@[simp] theorem x_never : sNever s M = none := rfl
@[simp] theorem x_retN : sRetN s M = some (.ret .non, s, M) := rfl
@[simp] theorem x_ret {e} : sRet e s M = (match e s M with | none => none | some (.val v, M1) => some (.ret v, s, M1) | some (.exc c v, M1) => some (.exc c v, s, M1)) := rfl
@[simp] theorem x_set {e} : sSet i e s M = (match e s M with | none => none | some (.val v, M1) => some (.nx, s.set i (some v), M1) | some (.exc c v, M1) => some (.exc c v, s, M1)) := rfl
@[simp] theorem x_drop {e} : sDrop e s M = (match e s M with | none => none | some (.val v, M1) => some (.nx, s, M1) | some (.exc c v, M1) => some (.exc c v, s, M1)) := rfl
@[simp] theorem x_asg {e t} : sAsg e t s M = (match e s M with | none => none | some (.val v, M1) => (match t v s M1 with | some s1 => some (.nx, s1, M1) | none => none) | some (.exc c v, M1) => some (.exc c v, s, M1)) := rfl
@[simp] theorem x_sIf {t} : sIf t sa sb s M = (match t s M with | none => none | some (.val v, M1) => (match v with | .bl true => sa s M1 | .bl false => sb s M1 | _ => none) | some (.exc c v, M1) => some (.exc c v, s, M1)) := rfl
@[simp] theorem x_seq : sSeq sa sb s M = (match sa s M with | some (.nx, s1, M1) => sb s1 M1 | r => r) := rfl
@[simp] theorem x_sub {e eo ei g} : sSub e eo ei g s M = sE e (fun v s M => sE eo (fun o s M => sE ei (fun i s M => (match g o i v M with | some M1 => some (.nx, s, M1) | none => none)) s M) s M) s M := rfl
@[simp] theorem x_tgName : tgName i v s M = some (s.set i (some v)) := rfl
@[simp] theorem x_tgTup {ts} {l : List Va} : tgTup ts (.tup l) s M = tgAll ts l s M := rfl
@[simp] theorem x_tgNil : tgAll [] [] s M = some s := rfl
@[simp] theorem x_tgCons {t : Tgt} {ts : List Tgt} {l : List Va} : tgAll (t :: ts) (v :: l) s M = (match t v s M with | some s1 => tgAll ts l s1 M | none => none) := rfl
@[simp] theorem x_endNx : endF (some (.nx, s, M)) = some (.val .non, M) := rfl
@[simp] theorem x_endRet : endF (some (.ret v, s, M)) = some (.val v, M) := rfl
@[simp] theorem x_endNone : endF none = none := rfl
@[simp] theorem x_endExc {c} : endF (some (.exc c v, s, M)) = some (.exc c v, M) := rfl
@[simp] theorem x_kFn {n f} {l : List Va} : kFn n f l M = if l.length = n then f l M else none := rfl
@[simp] theorem x_kPure {g} {l : List Va} : kPure g l M = (match g M l with | some r => some (.val r, M) | none => none) := rfl
@[simp] theorem x_kVal {g} {l : List Va} : kVal g v l M = (match g M v l with | some r => some (.val r, M) | none => none) := rfl
@[simp] theorem x_kMut {g} {l : List Va} {n : Nat} : kMut g (.cel n) l M = (match M.c n with | some c => (match g c l with | some (c', r) => some (.val r, M.put n c') | none => none) | none => none) := rfl
@[simp] theorem x_tup {l : List Va} : kTup l M = if l.length ≤ sizeLine then some (.val (.tup l), M) else none := rfl
@[simp] theorem x_lst {l : List Va} : kLst l M = if l.length ≤ sizeLine then some (.val (.lst l), M) else none := rfl
@[simp] theorem x_new {l : List Va} : kNew l M = if l.length ≤ sizeLine then some (.val (.cel M.nx), M.new (.lst l)) else none := rfl
theorem le_line {n : Nat} (h : n ≤ 16777216) : n ≤ sizeLine := h
theorem lt_line {n : Nat} (h : n < 16777216) : n < sizeLine := h
@[simp] theorem line_eq : sizeLine = 16777216 := rfl

/-! ### the store -/
@[simp] theorem put_same {n : Nat} {x : Cell} : (M.put n x).c n = some x := by show (if n = n then some x else M.c n) = some x; rw [if_pos rfl]
theorem put_ne {n m : Nat} {x : Cell} (h : m ≠ n) : (M.put n x).c m = M.c m := by show (if m = n then some x else M.c m) = M.c m; rw [if_neg h]
@[simp] theorem put_nx {n : Nat} {x : Cell} : (M.put n x).nx = M.nx := rfl
@[simp] theorem put_put {n : Nat} {x y : Cell} : (M.put n x).put n y = M.put n y := by
  unfold Store.put
  congr 1
  funext m
  dsimp only
  split <;> rfl
@[simp] theorem new_same {x : Cell} : (M.new x).c M.nx = some x := by show (if M.nx = M.nx then some x else M.c M.nx) = some x; rw [if_pos rfl]
theorem new_ne {m : Nat} {x : Cell} (h : m ≠ M.nx) : (M.new x).c m = M.c m := by show (if m = M.nx then some x else M.c m) = M.c m; rw [if_neg h]
@[simp] theorem new_nx {x : Cell} : (M.new x).nx = M.nx + 1 := rfl
theorem del_ne {n m : Nat} (h : m ≠ n) : (M.del n).c m = M.c m := by show (if m = n then none else M.c m) = M.c m; rw [if_neg h]
@[simp] theorem del_nx {n : Nat} : (M.del n).nx = M.nx := rfl

/-! ### operations on known values -/
@[simp] theorem y_add {i j : Int} : opAdd M (.int i) (.int j) = some (.int (i + j)) := rfl
@[simp] theorem y_sub {i j : Int} : opSub M (.int i) (.int j) = some (.int (i - j)) := rfl
theorem y_addS {x y : Str} (h : x.length + y.length ≤ 16777216) : opAdd M (.str x) (.str y) = some (.str (x ++ y)) := if_pos h
theorem y_mulR {i j : Int} (h1 : -(2 ^ 64) < j) (h2 : j < 2 ^ 64) : opMul M (.int i) (.int j) = some (.int (i * j)) := if_pos (CMul.ok (.inr ⟨h1, h2⟩))
theorem y_mulL {i j : Int} (h1 : -(2 ^ 64) < i) (h2 : i < 2 ^ 64) : opMul M (.int i) (.int j) = some (.int (i * j)) := if_pos (CMul.ok (.inl ⟨h1, h2⟩))
theorem y_mulW {i j : Int} (h : CMulW i j) : opMul M (.int i) (.int j) = some (.int (i * j)) := if_pos h.ok
theorem y_div {i j : Int} (h : 0 < j) (h2 : j < 2 ^ 200) : opDiv M (.int i) (.int j) = some (.int (i / j)) := if_pos ⟨h, by
  have : j.natAbs < 2 ^ 200 := by
    have e : ((2 ^ 200 : Nat) : Int) = 2 ^ 200 := by norm_cast
    omega
  have := PySem.Flt.log2_lt_of (by decide) this
  omega⟩
theorem y_mulN {i j : Int} (h1 : 0 ≤ i) (h2 : i < 2 ^ 200) (h3 : 0 ≤ j) (h4 : j < 2 ^ 200) : opMul M (.int i) (.int j) = some (.int (i * j)) := by
  have e : ((2 ^ 200 : Nat) : Int) = 2 ^ 200 := by norm_cast
  exact y_mulW (wide_mul (a := 200) (b := 200) (by omega) (by omega) (by decide) (by decide) (by decide))
theorem y_pow {i j : Int} (h0 : 0 ≤ j) (h : j ≤ 1000) (h1 : -(2 ^ 64) < i) (h2 : i < 2 ^ 64) : opPow M (.int i) (.int j) = some (.int (i ^ j.toNat)) := if_pos ⟨h0, by
  have hb : Builtin.Int.intBits i ≤ 64 := by
    unfold Builtin.Int.intBits
    split
    · omega
    · have e : ((2 ^ 64 : Nat) : Int) = 2 ^ 64 := by norm_cast
      have := PySem.Flt.log2_lt_of (k := 64) (by decide) (show i.natAbs < 2 ^ 64 by omega)
      omega
  have : (Builtin.Int.intBits i : Int) * j ≤ 64 * 1000 := Int.mul_le_mul (by omega) h h0 (by omega)
  omega⟩
theorem y_pow3 {i : Int} (h1 : -(2 ^ 200) < i) (h2 : i < 2 ^ 200) : opPow M (.int i) (.int 3) = some (.int (i ^ 3)) := if_pos ⟨by decide, by
  have hb : Builtin.Int.intBits i ≤ 200 := by
    unfold Builtin.Int.intBits
    split
    · omega
    · have e : ((2 ^ 200 : Nat) : Int) = 2 ^ 200 := by norm_cast
      have := PySem.Flt.log2_lt_of (k := 200) (by decide) (show i.natAbs < 2 ^ 200 by omega)
      omega
  omega⟩
theorem y_mod {i j : Int} (h : 0 < j) : opMod M (.int i) (.int j) = some (.int (i % j)) := if_pos h
@[simp] theorem y_lt {i j : Int} : opLt M (.int i) (.int j) = some (.bl (decide (i < j))) := rfl
@[simp] theorem y_le {i j : Int} : opLe M (.int i) (.int j) = some (.bl (decide (i ≤ j))) := rfl
@[simp] theorem y_gt {i j : Int} : opGt M (.int i) (.int j) = some (.bl (decide (j < i))) := rfl
@[simp] theorem y_ge {i j : Int} : opGe M (.int i) (.int j) = some (.bl (decide (j ≤ i))) := rfl
@[simp] theorem y_eqI {i j : Int} : opEq M (.int i) (.int j) = some (.bl (decide (i = j))) := rfl
@[simp] theorem y_neI {i j : Int} : opNe M (.int i) (.int j) = some (.bl (!decide (i = j))) := rfl
@[simp] theorem y_eqS {i j : Str} : opEq M (.str i) (.str j) = some (.bl (decide (i = j))) := rfl
@[simp] theorem y_neS {i j : Str} : opNe M (.str i) (.str j) = some (.bl (!decide (i = j))) := rfl
@[simp] theorem y_eqB {i j : Bool} : opEq M (.bl i) (.bl j) = some (.bl (decide (i = j))) := rfl
@[simp] theorem y_isN : opIsN M v .non = some (.bl (isNonA v)) := rfl
@[simp] theorem y_notN : opNotN M v .non = some (.bl (!isNonA v)) := rfl
@[simp] theorem y_int {i : Int} : gInt M [.int i] = some (.int i) := rfl
@[simp] theorem y_intB {b : Bool} : gInt M [.bl b] = some (.int (if b then 1 else 0)) := rfl
@[simp] theorem y_max {i j : Int} : gMax M [.int i, .int j] = some (.int (if j > i then j else i)) := rfl
@[simp] theorem y_min {i j : Int} : gMin M [.int i, .int j] = some (.int (if j < i then j else i)) := rfl
@[simp] theorem y_abs {i : Int} : gAbs M [.int i] = some (.int (if i < 0 then -i else i)) := rfl
@[simp] theorem y_isStr {x : Str} : isStrA M (.str x) = true := rfl
@[simp] theorem y_truB {b : Bool} : truO M (.bl b) = some b := rfl
@[simp] theorem y_truI {i : Int} : truO M (.int i) = some (i != 0) := rfl
@[simp] theorem y_lstL {l : List Va} : lstOf M (.lst l) = some l := rfl
@[simp] theorem y_lstC {n : Nat} : lstOf M (.cel n) = (match M.c n with | some (.lst l) => some l | _ => none) := rfl
@[simp] theorem y_lstS {l : List Int} : lstOf M (.scr l) = some (l.map Va.int) := rfl
@[simp] theorem y_ownL {l : List Va} : ownOf M (.lst l) = some l := rfl
@[simp] theorem y_ownC {n : Nat} : ownOf M (.cel n) = (match M.c n with | some (.lst l) => some l | _ => none) := rfl
@[simp] theorem y_seqL {l : List Va} : seqOf M (.lst l) = some l := rfl
@[simp] theorem y_seqT {l : List Va} : seqOf M (.tup l) = some l := rfl
@[simp] theorem y_seqC {n : Nat} : seqOf M (.cel n) = (match M.c n with | some (.lst l) => some l | _ => none) := rfl
@[simp] theorem y_seqS {l : List Int} : seqOf M (.scr l) = some (l.map Va.int) := rfl
@[simp] theorem y_lenL {l : List Va} : gLen M [.lst l] = some (.int l.length) := rfl
@[simp] theorem y_lenT {l : List Va} : gLen M [.tup l] = some (.int l.length) := rfl
theorem y_lenS {z : Str} (h : z.length ≤ 16777216) : gLen M [.str z] = some (.int z.length) := if_pos h
theorem y_strI {i : Int} (h : i.natAbs.log2 < 1920) : gStr M [.int i] = some (.str (toString i)) := if_pos h
@[simp] theorem y_strS {i : Str} : gStr M [.str i] = some (.str i) := rfl
@[simp] theorem y_ixL {l : List Va} {i : Int} : opIx M (.lst l) (.int i) = atI l i := rfl
@[simp] theorem y_ixT {l : List Va} {i : Int} : opIx M (.tup l) (.int i) = atI l i := rfl
@[simp] theorem y_ixC {n : Nat} {i : Int} : opIx M (.cel n) (.int i) = (match (match M.c n with | some (.lst l) => some l | _ => none) with | some l => atI l i | none => none) := rfl
@[simp] theorem at_0 {α : Type} {a : α} {l : List α} : atI (a :: l) 0 = some a := by
  have e : ixN (a :: l).length 0 = some 0 := by unfold ixN; simp
  unfold atI; rw [e]; rfl
@[simp] theorem at_1 {α : Type} {a b : α} {l : List α} : atI (a :: b :: l) 1 = some b := by
  have e : ixN (a :: b :: l).length 1 = some 1 := by unfold ixN; simp; omega
  unfold atI; rw [e]; rfl
@[simp] theorem at_2 {α : Type} {a b c : α} {l : List α} : atI (a :: b :: c :: l) 2 = some c := by
  have e : ixN (a :: b :: c :: l).length 2 = some 2 := by unfold ixN; simp; omega
  unfold atI; rw [e]; rfl
theorem at_nat {α : Type} {l : List α} {i : Int} (h0 : 0 ≤ i) (h : i < l.length) : ∃ x, atI l i = some x ∧ x ∈ l ∧ l[i.toNat]? = some x := by
  have e : ixN l.length i = some i.toNat := by unfold ixN; rw [if_pos h0, if_pos h]
  have hl : i.toNat < l.length := by omega
  refine ⟨l[i.toNat], ?_, List.getElem_mem hl, by simp [hl]⟩
  unfold atI
  rw [e]
  simp [hl]
end
end PV

set_option Elab.async false
set_option linter.all false
set_option maxRecDepth 100000
set_option maxHeartbeats 4000000
namespace PV
open PySem L2

/-! ### comprehensions and loops, by invariants -/
inductive Al2 {α β : Type} (P : α → β → Prop) : List α → List β → Prop
  | nil : Al2 P [] []
  | cons {a : α} {b : β} {l : List α} {m : List β} : P a b → Al2 P l m → Al2 P (a :: l) (b :: m)
theorem Al2.len {α β : Type} {P : α → β → Prop} : ∀ {l : List α} {m : List β}, Al2 P l m → l.length = m.length
  | _, _, .nil => rfl
  | _, _, .cons _ t => by simp [t.len]
theorem Al2.all {α β : Type} {P : α → β → Prop} {Q : β → Prop} (h : ∀ a b, P a b → Q b) : ∀ {l : List α} {m : List β}, Al2 P l m → ∀ b ∈ m, Q b
  | _, _, .nil, _, hb => by cases hb
  | _, _, .cons p t, b, hb => by
    rcases List.mem_cons.mp hb with e | hb
    · subst e; exact h _ _ p
    · exact t.all h b hb
theorem compL_map {chk : Store → Prop} {tg : Tgt} {tt te : SE} {sw : SL} {M : Store} {α : Type} (enc f : α → Va) (hc : chk M) : ∀ (l : List α), (∀ x ∈ l, ∃ s1, tg (enc x) sw M = some s1 ∧ tt s1 M = some (.val (.bl true), M) ∧ te s1 M = some (.val (f x), M)) →
    compL chk tg tt te sw (l.map enc) M = some (l.map f, M)
  | [], _ => by
    show compL chk tg tt te sw [] M = _
    unfold compL
    rw [if_pos hc]; rfl
  | x :: l, h => by
    obtain ⟨s1, h1, h2, h3⟩ := h x (by simp)
    have ih := compL_map (tg := tg) (tt := tt) (te := te) (sw := sw) enc f hc l fun y hy => h y (by simp [hy])
    show compL chk tg tt te sw (enc x :: l.map enc) M = _
    unfold compL
    rw [if_pos hc, h1]
    dsimp only
    rw [h2]
    dsimp only
    rw [h3]
    dsimp only
    rw [ih]; rfl
theorem compL_filter {chk : Store → Prop} {tg : Tgt} {tt te : SE} {sw : SL} {M : Store} {α : Type} (enc f : α → Va) (p : α → Bool) (hc : chk M) : ∀ (l : List α), (∀ x ∈ l, ∃ s1, tg (enc x) sw M = some s1 ∧ tt s1 M = some (.val (.bl (p x)), M) ∧ (p x = true → te s1 M = some (.val (f x), M))) →
    compL chk tg tt te sw (l.map enc) M = some ((l.filter p).map f, M)
  | [], _ => by
    show compL chk tg tt te sw [] M = _
    unfold compL
    rw [if_pos hc]; rfl
  | x :: l, h => by
    obtain ⟨s1, h1, h2, h3⟩ := h x (by simp)
    have ih := compL_filter (tg := tg) (tt := tt) (te := te) (sw := sw) enc f p hc l fun y hy => h y (by simp [hy])
    show compL chk tg tt te sw (enc x :: l.map enc) M = _
    unfold compL
    rw [if_pos hc, h1]
    dsimp only
    rw [h2]
    cases q : p x with
    | true =>
      dsimp only
      rw [h3 q]
      dsimp only
      rw [ih, List.filter_cons_of_pos q]; rfl
    | false =>
      dsimp only
      rw [ih, List.filter_cons_of_neg (by simp [q])]
theorem compL_inv {chk : Store → Prop} {tg : Tgt} {tt te : SE} {sw : SL} (Inv : Nat → Store → Prop) (Good : Va → Va → Prop) (n : Nat) : ∀ (l : List Va) (i : Nat) (M : Store), i + l.length = n → Inv i M → (∀ i M, Inv i M → chk M) →
    (∀ i x M, i < n → x ∈ l → Inv i M → ∃ s1, tg x sw M = some s1 ∧ tt s1 M = some (.val (.bl true), M) ∧ ∃ y M', te s1 M = some (.val y, M') ∧ Good x y ∧ Inv (i + 1) M') →
    ∃ ys M', compL chk tg tt te sw l M = some (ys, M') ∧ Al2 Good l ys ∧ Inv n M'
  | [], i, M, hn, h, hc, _ => by
    refine ⟨[], M, ?_, .nil, by rw [← hn]; exact h⟩
    unfold compL
    rw [if_pos (hc i M h)]
  | x :: l, i, M, hn, h, hc, hs => by
    rw [List.length_cons] at hn
    obtain ⟨s1, h1, h2, y, M1, h3, gd, h4⟩ := hs i x M (by omega) (by simp) h
    obtain ⟨ys, M2, e, a, hi⟩ := compL_inv (tg := tg) (tt := tt) (te := te) (sw := sw) Inv Good n l (i + 1) M1 (by omega) h4 hc fun j z N hj hz => hs j z N hj (by simp [hz])
    refine ⟨y :: ys, M2, ?_, .cons gd a, hi⟩
    unfold compL
    rw [if_pos (hc i M h), h1]
    dsimp only
    rw [h2]
    dsimp only
    rw [h3]
    dsimp only
    rw [e]
theorem loopF_inv {chk : Store → Prop} {tg : Tgt} {body : SS} (Inv : List Va → SL → Store → Prop) (Post : RS → Prop)
    (step : ∀ x xs s M, Inv (x :: xs) s M → chk M ∧ ∃ s1, tg x s M = some s1 ∧ match body s1 M with
      | some (.nx, s2, M2) => Inv xs s2 M2
      | some (.ct, s2, M2) => Inv xs s2 M2
      | some (.bk, s2, M2) => Post (some (.nx, s2, M2))
      | r => Post r)
    (done : ∀ s M, Inv [] s M → chk M ∧ Post (some (.nx, s, M))) : ∀ (l : List Va) (s : SL) (M : Store), Inv l s M → Post (loopF chk tg body l s M)
  | [], s, M, h => by
    obtain ⟨h1, h2⟩ := done s M h
    unfold loopF
    rw [if_pos h1]
    exact h2
  | x :: l, s, M, h => by
    obtain ⟨h1, s1, h2, h3⟩ := step x l s M h
    unfold loopF
    rw [if_pos h1, h2]
    dsimp only
    rcases q : body s1 M with _ | ⟨_ | v | _ | _ | ⟨c, v⟩, s2, M2⟩ <;> rw [q] at h3
    · exact h3
    · exact loopF_inv Inv Post step done l s2 M2 h3
    · exact h3
    · exact h3
    · exact loopF_inv Inv Post step done l s2 M2 h3
    · exact h3

/-! ### what is walked -/
section
variable {s : SL} {M : Store}
@[simp] theorem z_for {src tg body} : sFor src tg body s M = (match src s M with
  | none => none
  | some (.it l chk, M1) => loopF chk tg body l s M1
  | some (.exc c v, M1) => some (.exc c v, s, M1)) := rfl
@[simp] theorem z_lc {src tg tt te vs} : evLc src tg tt te vs s M = (match src s M with
  | none => none
  | some (.it l chk, M1) => (match compL chk tg tt te (wipeI s vs) l M1 with
    | some (ys, M2) => some (.val (.lst ys), M2)
    | none => none)
  | some (.exc c v, M1) => some (.exc c v, M1)) := rfl
@[simp] theorem z_lcC {src tg tt te vs} : evLcC src tg tt te vs s M = (match src s M with
  | none => none
  | some (.it l chk, M1) => (match compL chk tg tt te (wipeI s vs) l M1 with
    | some (ys, M2) => some (.val (.cel M2.nx), M2.new (.lst ys))
    | none => none)
  | some (.exc c v, M1) => some (.exc c v, M1)) := rfl
theorem z_itL {e : SE} {l : List Va} {M1 : Store} (h : e s M = some (.val (.lst l), M1)) : itA e s M = some (.it l (fun _ => some l = some l), M1) := by
  unfold itA itL
  rw [h]; rfl
theorem z_itC {e : SE} {l : List Va} {n : Nat} {M1 : Store} (h : e s M = some (.val (.cel n), M1)) (h2 : M1.c n = some (.lst l)) : itA e s M = some (.it l (fun M => lstOf M (.cel n) = some l), M1) := by
  unfold itA itL
  rw [h]
  dsimp only
  rw [y_lstC, h2]
theorem z_itT {e : SE} {l : List Va} {M1 : Store} (h : e s M = some (.val (.tup l), M1)) : itA e s M = some (.it l (fun _ => True), M1) := by
  unfold itA itT
  rw [h]; rfl
theorem z_itS {e : SE} {z : Str} {M1 : Store} (h : e s M = some (.val (.str z), M1)) (hz : z.length ≤ 16777216) : itA e s M = some (.it (z.cps.toList.map fun c => Va.str ⟨#[c]⟩) (fun _ => True), M1) := by
  unfold itA itS
  rw [h]
  exact if_pos hz
theorem z_r1 {e : SE} {n : Int} {M1 : Store} (h : e s M = some (.val (.tup [.int n]), M1)) (h1 : n ≤ 100000) (h2 : -(2 ^ 62) ≤ n) : itR1 e s M = some (.it ((List.range n.toNat).map fun (i : Nat) => Va.int i) (fun _ => True), M1) := by
  unfold itR1
  rw [h]
  dsimp only
  rw [if_pos ⟨h1, h2⟩]
def rngO (r : Res) : Option (OutI × Store) := match r with
  | some (.val (.tup [.int n]), M1) => if n ≤ 100000 ∧ -(2 ^ 62) ≤ n then some (.it ((List.range n.toNat).map fun (i : Nat) => Va.int i) (fun _ => True), M1) else none
  | some (.exc c v, M1) => some (.exc c v, M1)
  | _ => none
@[simp] theorem z_itR1 {e : SE} : itR1 e s M = rngO (e s M) := rfl
theorem z_rng {n : Int} (h1 : n ≤ 100000) (h2 : -(2 ^ 62) ≤ n) : rngO (some (.val (.tup [.int n]), M)) = some (.it ((List.range n.toNat).map fun (i : Nat) => Va.int i) (fun _ => True), M) := if_pos ⟨h1, h2⟩
def anyO (r : Res) : Option (OutI × Store) := match r with
  | some (.val (.str z), M1) => if z.length ≤ sizeLine then some (.it (z.cps.toList.map fun c => Va.str ⟨#[c]⟩) (fun _ => True), M1) else none
  | some (.val (.tup l), M1) => some (.it l (fun _ => True), M1)
  | some (.val (.lst l), M1) => some (.it l (fun _ => True), M1)
  | some (.val (.scr l), M1) => some (.it (l.map Va.int) (fun _ => True), M1)
  | some (.val (.cel n), M1) => (match M1.c n with
    | some (.lst l) => some (.it l (fun M => lstOf M (.cel n) = some l), M1)
    | _ => none)
  | some (.exc c v, M1) => some (.exc c v, M1)
  | _ => none
@[simp] theorem z_itA {e : SE} : itA e s M = anyO (e s M) := by
  unfold itA itS itT itL
  rcases q : e s M with _ | ⟨x | ⟨c, x⟩, M1⟩
  · rfl
  · cases x <;> simp [anyO, tupOf, lstOf]
    rename_i n
    rcases M1.c n with _ | _ | _ | _ <;> rfl
  · rfl
@[simp] theorem z_anyL {l : List Va} : anyO (some (.val (.lst l), M)) = some (.it l (fun _ => True), M) := rfl
@[simp] theorem z_anyT {l : List Va} : anyO (some (.val (.tup l), M)) = some (.it l (fun _ => True), M) := rfl
@[simp] theorem z_anyI {l : List Int} : anyO (some (.val (.scr l), M)) = some (.it (l.map Va.int) (fun _ => True), M) := rfl
@[simp] theorem z_anyC {n : Nat} : anyO (some (.val (.cel n), M)) = (match M.c n with
    | some (.lst l) => some (.it l (fun M => lstOf M (.cel n) = some l), M)
    | _ => none) := rfl
theorem z_anyS {z : Str} (h : z.length ≤ 16777216) : anyO (some (.val (.str z), M)) = some (.it (z.cps.toList.map fun c => Va.str ⟨#[c]⟩) (fun _ => True), M) := if_pos h
@[simp] theorem z_wipe0 : wipeI s [] = s := rfl
@[simp] theorem z_wipeS {v : Nat} {vs : List Nat} : wipeI s (v :: vs) = (wipeI s vs).set v none := rfl
end

/-! ### texts as lists of signs -/
abbrev tl (x : Str) : List Nat := x.cps.toList
theorem tl_len (x : Str) : x.length = (tl x).length := by simp [tl, Str.length]
theorem tl_ext {x y : Str} (h : tl x = tl y) : x = y := TL.ext_tl h
theorem len_app (x y : Str) : (x ++ y).length = x.length + y.length := by
  rw [tl_len, tl_len, tl_len, show tl (x ++ y) = tl x ++ tl y from TL.tl_append x y, List.length_append]

/-! ### repr -/
theorem repr_of {M : Store} {x : Va} {d : PyData} (h : PdR M x d) (h1 : d.showable = true) (h3 : d.shown.length ≤ 16777216) (h4 : d.depth ≤ 60) : kRepr [x] M = some (.val (.str d.shown), M) := by
  unfold kRepr
  dsimp only
  rw [pdOf_eq h]
  dsimp only
  rw [if_pos ⟨h1, h3, h4⟩]
theorem shown_ok {d : PyData} {B W : Nat} (hB : 8 ≤ B) (hl : d.leavesShort B = true) (hw : d.weight ≤ W) (h : (B + 2) * W + B ≤ 16777216) : d.shown.length ≤ 16777216 := by
  have h1 := PyData.shown_le B hB d hl
  have h2 : (B + 2) * d.weight ≤ (B + 2) * W := Nat.mul_le_mul_left _ hw
  omega
end PV

set_option Elab.async false
set_option linter.all false
set_option maxRecDepth 100000
set_option maxHeartbeats 4000000
namespace PV
open PySem L2

/-! ### texts: numbers, pieces -/
def nmS (n : Int) : Str := Str.ofString (toString n)
theorem y_strN {M : Store} {i : Int} (h : i.natAbs.log2 < 1920) : gStr M [.int i] = some (.str (nmS i)) := if_pos h
theorem nm_tl (n : Int) : tl (nmS n) = if n < 0 then 45 :: TL.numL n.natAbs else TL.numL n.natAbs := by
  cases n with
  | ofNat m =>
    rw [if_neg (show ¬ Int.ofNat m < 0 from Int.not_lt.mpr (Int.natCast_nonneg m))]
    exact TL.tl_num m
  | negSucc m =>
    rw [if_pos (Int.negSucc_lt_zero m)]
    have e : toString (Int.negSucc m) = "-" ++ toString (m + 1) := rfl
    have e2 : toString (m + 1) = toString (((m + 1 : Nat) : Int)) := rfl
    show TL.tl (Str.ofString (toString (Int.negSucc m))) = _
    rw [e, TL.tl_ofString, String.toList_append, List.map_append, ← TL.tl_ofString (toString (m + 1)), e2, TL.tl_num]
    rfl
theorem nm_digits {n : Int} {c : Nat} (h : c ∈ tl (nmS n)) : c = 45 ∨ (48 ≤ c ∧ c ≤ 57) := by
  rw [nm_tl] at h
  split at h
  · rcases List.mem_cons.mp h with h | h
    · exact .inl h
    · exact .inr (TL.numL_digits _ c h)
  · exact .inr (TL.numL_digits _ c h)
theorem numL_head : ∀ (n : Nat), (TL.numL n).head? = some 48 → n = 0 := by
  intro n
  induction n using Nat.strongRecOn with
  | _ n ih =>
    intro h
    by_cases hn : n < 10
    · rw [TL.numL_lt hn] at h
      simp at h
      omega
    · have q := TL.numL_ne (n / 10)
      rw [TL.numL_step (by omega)] at h
      have : (TL.numL (n / 10)).head? = some 48 := by
        generalize TL.numL (n / 10) = l at h q
        cases l with
        | nil => exact absurd rfl q
        | cons a l => exact h
      have := ih (n / 10) (by omega) this
      omega
theorem nm_len {n : Int} {k : Nat} (hk : 0 < k) (h : n.natAbs < 10 ^ k) : (tl (nmS n)).length ≤ k + 1 := by
  have := TL.numL_len hk h
  rw [nm_tl]
  split
  · rw [List.length_cons]; omega
  · omega
theorem nm_val {n : Int} (h : n.natAbs < 10 ^ 600) : intText? (nmS n) = some n := by
  have hl := TL.numL_len (by decide) h
  by_cases hn : n < 0
  · have e : (nmS n).cps.toList = 45 :: TL.numL n.natAbs := by
      have := nm_tl n
      rw [if_pos hn] at this
      exact this
    rw [intText_neg e (TL.numL_digits _) (TL.numL_ne _) (by rw [tl_len, nm_tl, if_pos hn, List.length_cons]; omega), TL.numL_val]
    congr 1
    omega
  · have e : (nmS n).cps.toList = TL.numL n.natAbs := by
      have := nm_tl n
      rw [if_neg hn] at this
      exact this
    rw [intText_digits (by rw [e]; exact TL.numL_digits _) (by rw [e]; exact TL.numL_ne _) (by rw [tl_len, nm_tl, if_neg hn]; omega), e, TL.numL_val]
    congr 1
    omega
theorem starts_pre {x y : Str} (hy : TL.tl y ≠ []) : Txt.startswith x y = TL.pre (TL.tl y) (TL.tl x) := by
  have h := TL.at_iff (x := x) (y := y) hy 0
  rw [List.drop_zero] at h
  have e : Txt.startswith x y = true ↔ TL.pre (TL.tl y) (TL.tl x) = true := by
    rw [← h]
    unfold Txt.startswith
    rw [Bool.and_eq_true, decide_eq_true_eq]
    exact Iff.rfl
  cases a : Txt.startswith x y <;> cases b : TL.pre (TL.tl y) (TL.tl x) <;> simp_all
theorem cut_from {z : Str} (k : Nat) : tl (cutS z (some (k : Int)) none) = (tl z).drop k := by
  show (((tl z).drop (HT.sIx z.length 0 (some (k : Int)))).take (HT.sIx z.length z.length none - HT.sIx z.length 0 (some (k : Int)))) = _
  rw [HT.sIx_nat, HT.sIx_none]
  have e : z.length = (tl z).length := tl_len z
  rw [e]
  generalize tl z = l
  clear e
  by_cases h : k ≤ l.length
  · rw [Nat.min_eq_left h, List.take_of_length_le]
    rw [List.length_drop]; omega
  · rw [Nat.min_eq_right (by omega), Nat.sub_self, List.take_zero, List.drop_eq_nil_of_le (by omega)]
theorem cut_le (z : Str) (lo hi : Option Int) : (cutS z lo hi).length ≤ z.length := cutS_length z lo hi
theorem join_len (sep : Str) (parts : List Str) : (tl (Txt.join sep parts)) = TL.joinL (tl sep) (parts.map TL.tl) := by
  show TL.tl _ = _
  rw [TL.join_eq, TL.tl_join]
theorem split_ok {parts : List Str} {sep : Str} {s : Nat} {S : List Nat} (e : tl sep = s :: S) (hk : (tl sep).all (fun c => decide (c < 256)) = true) (hne : parts ≠ []) (hp : ∀ p ∈ parts, s ∉ tl p) : Txt.split (Txt.join sep parts) sep = parts := TL.split_join e (by rw [← Array.all_toList]; exact hk) hne hp
@[simp] theorem isN_non : isNonA .non = true := rfl
@[simp] theorem isN_bl {b : Bool} : isNonA (.bl b) = false := rfl
@[simp] theorem isN_int {b : Int} : isNonA (.int b) = false := rfl
@[simp] theorem isN_str {b : Str} : isNonA (.str b) = false := rfl
@[simp] theorem isN_lst {b : List Va} : isNonA (.lst b) = false := rfl
@[simp] theorem isN_tup {b : List Va} : isNonA (.tup b) = false := rfl
@[simp] theorem isN_cel {b : Nat} : isNonA (.cel b) = false := rfl
/-- a joined text, its parts glued behind one another with the separator ahead -/
theorem join_glue (S : List Nat) : ∀ (rows : List (List Nat)), TL.joinL S rows = ((rows.map fun r => S ++ r).flatten).drop S.length
  | [] => by simp [TL.joinL]
  | [r] => by simp [TL.joinL]
  | r :: q :: t => by
    have ih := join_glue S (q :: t)
    show r ++ (S ++ TL.joinL S (q :: t)) = _
    rw [ih]
    simp only [List.map_cons, List.flatten_cons, List.append_assoc, List.drop_left]
theorem joinL_len (S : List Nat) : ∀ (rows : List (List Nat)) (B : Nat), (∀ r ∈ rows, r.length ≤ B) → (TL.joinL S rows).length ≤ rows.length * (B + S.length)
  | [], _, _ => by simp [TL.joinL]
  | [r], B, h => by
    have := h r (by simp)
    simp [TL.joinL]; omega
  | r :: q :: t, B, h => by
    have ih := joinL_len S (q :: t) B fun x hx => h x (by simp [hx])
    have := h r (by simp)
    show (r ++ (S ++ TL.joinL S (q :: t))).length ≤ _
    rw [List.length_append, List.length_append, List.length_cons, Nat.succ_mul]
    omega
theorem sum_len {α : Type} (f : α → Nat) (B : Nat) : ∀ (l : List α), (∀ x ∈ l, f x ≤ B) → (l.map f).sum ≤ l.length * B
  | [], _ => by simp
  | x :: l, h => by
    have ih := sum_len f B l fun y hy => h y (by simp [hy])
    have := h x (by simp)
    rw [List.map_cons, List.sum_cons, List.length_cons, Nat.succ_mul]
    omega
end PV

set_option Elab.async false
set_option linter.all false
set_option maxRecDepth 100000
set_option maxHeartbeats 4000000
namespace PV
open PySem L2
open PyProof.Rows

/-! ### dicts by value -/
section
variable {α : Type}
def vaK (kvs : List (Key × α)) (k : Key) : Option α := (kvs.find? fun kv => decide (kv.1 = k)).map (·.2)
def puK (kvs : List (Key × α)) (k : Key) (v : α) : List (Key × α) :=
  if (kvs.any fun kv => decide (kv.1 = k)) = true then kvs.map (fun kv => if kv.1 = k then (kv.1, v) else kv) else kvs ++ [(k, v)]
def meK (kvs more : List (Key × α)) : List (Key × α) := more.foldl (fun acc kv => puK acc kv.1 kv.2) kvs
end
def keyA : Va → Option Key
  | .int i => some (.inl i)
  | .str x => some (.inr x)
  | _ => none
def keyVa : Key → Va
  | .inl i => .int i
  | .inr x => .str x
section
variable {G : Sig} {R : Hp} {ρ : List Addr}
theorem VR.key {x : Va} {v : V} {k : Key} (r : VR G R ρ x v) (h : keyA x = some k) : v = kV k := by
  cases r <;> cases h <;> rfl
theorem VR.ofKey (k : Key) : VR G R ρ (keyVa k) (kV k) := by
  cases k
  · exact .int _
  · exact .str _
theorem VRk.val {l : List (Key × Va)} {vs : List (Key × V)} (r : VRk G R ρ l vs) (k : Key) : match vaK l k, valV vs k with
    | some x, some v => VR G R ρ x v
    | none, none => True
    | _, _ => False := by
  unfold vaK valV
  induction l generalizing vs with
  | nil => cases r; exact trivial
  | cons p l ih =>
    cases r with
    | @cons k' x v _ us h t =>
      have ih := ih t
      rw [List.find?_cons, List.find?_cons]
      by_cases e : k' = k
      · simp only [e, decide_true]; exact h
      · simp only [e, decide_false]; exact ih
theorem VRk.some {l : List (Key × Va)} {vs : List (Key × V)} (r : VRk G R ρ l vs) {k : Key} {x : Va} (h : vaK l k = some x) : ∃ v, valV vs k = some v ∧ VR G R ρ x v := by
  have := r.val k
  rw [h] at this
  cases q : valV vs k with
  | none => rw [q] at this; exact this.elim
  | some v => rw [q] at this; exact ⟨v, rfl, this⟩
theorem VRk.isSome {l : List (Key × Va)} {vs : List (Key × V)} (r : VRk G R ρ l vs) (k : Key) : (valV vs k).isSome = (vaK l k).isSome := by
  have := r.val k
  cases q : valV vs k <;> cases q2 : vaK l k <;> rw [q, q2] at this <;> first | rfl | exact this.elim
theorem VRk.getD {l : List (Key × Va)} {vs : List (Key × V)} (r : VRk G R ρ l vs) (k : Key) {d : Va} {v : V} (h : VR G R ρ d v) : VR G R ρ ((vaK l k).getD d) ((valV vs k).getD v) := by
  have := r.val k
  cases q : valV vs k <;> cases q2 : vaK l k <;> rw [q, q2] at this <;> first | exact h | exact this | exact this.elim
theorem VRk.any {l : List (Key × Va)} {vs : List (Key × V)} (r : VRk G R ρ l vs) (k : Key) : (vs.any fun kv => decide (kv.1 = k)) = (l.any fun kv => decide (kv.1 = k)) := by
  induction l generalizing vs with
  | nil => cases r; rfl
  | cons p l ih =>
    cases r with
    | cons h t => rw [List.any_cons, List.any_cons, ih t]
theorem VRk.app {l m : List (Key × Va)} {vs us : List (Key × V)} (r : VRk G R ρ l vs) (q : VRk G R ρ m us) : VRk G R ρ (l ++ m) (vs ++ us) := by
  induction l generalizing vs with
  | nil => cases r; exact q
  | cons p l ih =>
    cases r with
    | cons h t => exact .cons h (ih t)
theorem VRk.mapPut (k : Key) {x : Va} {v : V} (h : VR G R ρ x v) : ∀ {l : List (Key × Va)} {vs : List (Key × V)}, VRk G R ρ l vs → VRk G R ρ (l.map fun kv => if kv.1 = k then (kv.1, x) else kv) (vs.map fun kv => if kv.1 = k then (kv.1, v) else kv)
  | _, _, .nil => .nil
  | _, _, .cons (k := k') h' t => by
    rw [List.map_cons, List.map_cons]
    by_cases e : k' = k
    · subst e
      rw [if_pos rfl, if_pos rfl]
      exact .cons h (VRk.mapPut _ h t)
    · rw [if_neg e, if_neg e]
      exact .cons h' (VRk.mapPut _ h t)
theorem VRk.put {l : List (Key × Va)} {vs : List (Key × V)} (r : VRk G R ρ l vs) (k : Key) {x : Va} {v : V} (h : VR G R ρ x v) : VRk G R ρ (puK l k x) (putK vs k v) := by
  unfold puK putK
  rw [r.any k]
  split
  · exact r.mapPut k h
  · exact r.app (.cons h .nil)
theorem VRk.merge {m : List (Key × Va)} {us : List (Key × V)} (q : VRk G R ρ m us) : ∀ {l : List (Key × Va)} {vs : List (Key × V)}, VRk G R ρ l vs → VRk G R ρ (meK l m) (mergeK vs us) := by
  induction m generalizing us with
  | nil => intro l vs r; cases q; exact r
  | cons p m ih =>
    intro l vs r
    cases q with
    | cons h t => exact ih t (r.put _ h)
theorem VRk.keys {l : List (Key × Va)} {vs : List (Key × V)} (r : VRk G R ρ l vs) : vs.map (·.1) = l.map (·.1) := by
  induction l generalizing vs with
  | nil => cases r; rfl
  | cons p l ih =>
    cases r with
    | cons h t => rw [List.map_cons, List.map_cons, ih t]
theorem puK_len {α : Type} (l : List (Key × α)) (k : Key) (x : α) : (puK l k x).length ≤ l.length + 1 := by
  unfold puK
  split
  · rw [List.length_map]; omega
  · rw [List.length_append]; simp
theorem meK_len {α : Type} : ∀ (m l : List (Key × α)), (meK l m).length ≤ l.length + m.length
  | [], l => by simp [meK]
  | p :: m, l => by
    have h := meK_len m (puK l p.1 p.2)
    have h2 := puK_len l p.1 p.2
    show (meK (puK l p.1 p.2) m).length ≤ _
    rw [List.length_cons]; omega
end

/-! ### {} -/
def evDNew : SE := fun _ M => some (.val (.cel M.nx), M.new (.dic []))
section
variable {X : Cx} {G : Sig} {E : XK} {a b c o : Expr} {es : List Expr} {ea eb ec eo : SE} {pos : Pos}
theorem q_dnew : PE X (.Dict [] [] pos) (tE G E evDNew) := pe_imp pe_dnewK fun σ H Q ⟨R, ρ, s, M, w, sr, p⟩ q hq => by
  obtain ⟨e, w', h⟩ := alloc_cel (o := .dK []) (x := .dic []) w hq ⟨[], upd_same, Nat.zero_le _, .nil⟩
  exact p _ _ _ _ e w' (.cel h)
end

/-! ### d[k], k in d -/
def rDGetA : R2 := fun x y H Q => ∃ a v, x = .ref a ∧ DGet H a y (some v) ∧ Q v H
def rDInA : R2 := fun y x H Q => ∃ a o, x = .ref a ∧ DGet H a y o ∧ Q (.bl o.isSome) H
def rDNotInA : R2 := fun y x H Q => ∃ a o, x = .ref a ∧ DGet H a y o ∧ Q (.bl (!o.isSome)) H
section
variable {X : Cx} {G : Sig} {k : Nat}
theorem ix_dict (hr : Room k X.A) : IxR X rDGetA := by
  intro value slice pins s σ H x y v u Q I rx ry ⟨a, z, ex, g, q⟩ hs
  subst ex
  obtain rfl : v = Value.ref a := rx
  have hT := dict_typeIs I g
  unfold subscriptTail
  refine wpAny_bind ?_
  rw [getitemInPython_of_ne hT.not_modules]
  refine wpAny_bind (wpAny_specialOf hT PySem.F.slot_dict_getitem.lookup ?_)
  have h2 : wpAny (model X.prog X.w) X.A (getItem (.ref a) u) (EP X pins σ Q) X.xe s := d_getItem (hu_of hr) I g ry fun w' s' I' rw' => ⟨z, H, I', rw', q⟩
  have fin : wpAny (model X.prog X.w) X.A (subscripted slice false (.ref a) u) (fun r s₃ => wpAny (model X.prog X.w) X.A (letTemporaryGo value (.ref a) r >>= fun _ => pure r) (EP X pins σ Q) X.xe s₃) X.xe s := by
    rw [hs]
    exact wpAny_operating (wpAny_mono h2 (fun r s₃ h₃ => wpAny_bind (wpAny_letTemporaryGo (wpAny_pure h₃))) fun _ _ x => x)
  first
    | exact wpAny_pure (wpAny_bind fin)
    | exact wpAny_bind (wpAny_pure (wpAny_bind fin))
    | exact wpAny_bind fin
theorem op_din (hr : Room k X.A) : OpR X (compareOp .In) rDInA := by
  intro pins s σ H x y v u Q I rx ry ⟨a, o, ey, g, q⟩
  subst ey
  obtain rfl : u = Value.ref a := ry
  exact d_in (hu_of hr) I g rx fun s' I' => ⟨.bl o.isSome, H, I', rfl, q⟩
theorem op_dnotin (hr : Room k X.A) : OpR X (compareOp .NotIn) rDNotInA := by
  intro pins s σ H x y v u Q I rx ry ⟨a, o, ey, g, q⟩
  subst ey
  obtain rfl : u = Value.ref a := ry
  exact d_notIn (hu_of hr) I g rx fun s' I' => ⟨.bl (!o.isSome), H, I', rfl, q⟩
theorem OpR.or {f : Value → Value → Sem Value} {r r' : R2} (h : OpR X f r) (h' : OpR X f r') : OpR X f (fun x y H Q => r x y H Q ∨ r' x y H Q) := by
  intro pins s σ H x y v u Q I rx ry q
  rcases q with q | q
  · exact h pins s σ H x y v u Q I rx ry q
  · exact h' pins s σ H x y v u Q I rx ry q
theorem CallR.or {f : Value} {r r' : List V → Hp → VK → Prop} (h : CallR X f r) (h' : CallR X f r') : CallR X f (fun xs H Q => r xs H Q ∨ r' xs H Q) := by
  intro pins s σ H xs us Q I rs q
  rcases q with q | q
  · exact h pins s σ H xs us Q I rs q
  · exact h' pins s σ H xs us Q I rs q
theorem PSet.or {t t' : TSet} (h : PSet X t) (h' : PSet X t') : PSet X (fun o i v H Q => t o i v H Q ∨ t' o i v H Q) := by
  intro pins s σ H o i v ov iv u Q I ro ri rv q
  rcases q with q | q
  · exact h pins s σ H o i v ov iv u Q I ro ri rv q
  · exact h' pins s σ H o i v ov iv u Q I ro ri rv q
def rSetD : TSet := fun o i v H Q => ∃ a H1, o = .ref a ∧ DPut H a i v H1 ∧ Q H1
theorem set_dict (hr : Room k X.A) : PSet X rSetD := by
  intro pins s σ H o i v ov iv u Q I ro ri rv ⟨a, H1, eo, g, q⟩
  subst eo
  obtain rfl : ov = Value.ref a := ro
  exact d_setItem (hu_of hr) I g ri rv fun s' I' => ⟨H1, I', q⟩
def opDGet (M : Store) (a b : Va) : Option Va := match dicOf M a, keyA b with
  | some l, some k => vaK l k
  | _, _ => none
/-- of a list, tuple, text or dict -/
def opIxD (M : Store) (a b : Va) : Option Va := match dicOf M a with
  | some _ => opDGet M a b
  | none => opIx M a b
theorem dget_of {R : Hp} {ρ : List Addr} {M : Store} {H : Hp} {va vb : Va} {x y : V} {l : List (Key × Va)} {key : Key} (w : Wd G R ρ M H) (ra : VR G R ρ va x) (rb : VR G R ρ vb y) (h : dicOf M va = some l) (hk : keyA vb = some key) :
    ∃ a vs, x = .ref a ∧ H a = some (.dK vs) ∧ VRk G R ρ l vs ∧ y = kV key ∧ DGet H a y (valV vs key) := by
  obtain ⟨a, vs, ex, ha, rk, _⟩ := dic_read w ra h
  have ey := rb.key hk
  exact ⟨a, vs, ex, ha, rk, ey, ey ▸ DGet.k ha⟩
theorem s_dget : Op2 G rDGetA opDGet := by
  intro R ρ M H x y va vb res Q w ra rb h g
  unfold opDGet at h
  split at h
  · rename_i l key h1 h2
    obtain ⟨a, vs, ex, ha, rk, ey, dg⟩ := dget_of w ra rb h1 h2
    obtain ⟨v, hv, rv⟩ := rk.some h
    exact ⟨a, v, ex, hv ▸ dg, gives_now w rv g⟩
  · cases h
theorem s_ixD (hK : X.K = G.K) : Op2 G (fun x y H Q => rIx X.K x y H Q ∨ rDGetA x y H Q) opIxD := by
  intro R ρ M H x y va vb res Q w ra rb h g
  unfold opIxD at h
  split at h
  · exact .inr (s_dget R ρ M H x y va vb res Q w ra rb h g)
  · exact .inl (s_ix hK R ρ M H x y va vb res Q w ra rb h g)
noncomputable def opInX (M : Store) (a b : Va) : Option Va := match dicOf M b with
  | some l => (keyA a).map fun k => .bl (vaK l k).isSome
  | none => opInD M a b
noncomputable def opNotInX (M : Store) (a b : Va) : Option Va := match dicOf M b with
  | some l => (keyA a).map fun k => .bl (!(vaK l k).isSome)
  | none => opNotInD M a b
theorem s_inX {r : R2} (hs : Op2 G r opInD) : Op2 G (fun x y H Q => r x y H Q ∨ rDInA x y H Q) opInX := by
  intro R ρ M H x y va vb res Q w ra rb h g
  unfold opInX at h
  split at h
  · rename_i l h1
    cases h2 : keyA va with
    | none => rw [h2] at h; cases h
    | some key =>
      rw [h2] at h; cases h
      obtain ⟨a, vs, ex, ha, rk, ey, dg⟩ := dget_of w rb ra h1 h2
      refine .inr ⟨a, _, ex, dg, ?_⟩
      rw [rk.isSome key]
      exact gives_now w (.bl _) g
  · exact .inl (hs R ρ M H x y va vb res Q w ra rb h g)
theorem s_notInX {r : R2} (hs : Op2 G r opNotInD) : Op2 G (fun x y H Q => r x y H Q ∨ rDNotInA x y H Q) opNotInX := by
  intro R ρ M H x y va vb res Q w ra rb h g
  unfold opNotInX at h
  split at h
  · rename_i l h1
    cases h2 : keyA va with
    | none => rw [h2] at h; cases h
    | some key =>
      rw [h2] at h; cases h
      obtain ⟨a, vs, ex, ha, rk, ey, dg⟩ := dget_of w rb ra h1 h2
      refine .inr ⟨a, _, ex, dg, ?_⟩
      rw [rk.isSome key]
      exact gives_now w (.bl _) g
  · exact .inl (hs R ρ M H x y va vb res Q w ra rb h g)

/-! ### d[k] = v -/
def cSetK (o i v : Va) (M : Store) : Option Store := match o with
  | .cel n => (match M.c n, keyA i with
    | some (.dic l), some k => if l.length < sizeLine then some (M.put n (.dic (puK l k v))) else none
    | _, _ => none)
  | _ => none
def cSetX (o i v : Va) (M : Store) : Option Store := match dicOf M o with
  | some _ => cSetK o i v M
  | none => cSetAt o i v M
theorem s_setK : SubSim G rSetD cSetK := fun R ρ M M' H o i x vo vi v kk w ro ri rv h q => by
  unfold cSetK at h
  split at h
  · rename_i n
    split at h
    · rename_i l key hc hk
      split at h
      · rename_i hz
        cases h
        cases ro with
        | cel e =>
          obtain ⟨a, e1, ra, vs, ha, z, r0⟩ := w.cel n _ hc
          rw [e] at e1
          cases e1
          have ei := ri.key hk
          subst ei
          refine ⟨_, _, rfl, DPut.k (v := x) ha (by rw [← r0.length]; exact hz), ?_⟩
          have rp := r0.put key rv
          have hl := puK_len l key v
          obtain ⟨ex, wd⟩ := write_cel (o := .dK (putK vs key x)) (y := .dic (puK l key v)) w hc e ⟨_, upd_same, by omega, rp⟩
          exact q _ ex wd
      · cases h
    · cases h
  · cases h
theorem s_setX : SubSim G (fun o i v H Q => rSetL o i v H Q ∨ rSetD o i v H Q) cSetX := fun R ρ M M' H o i x vo vi v kk w ro ri rv h q => by
  unfold cSetX at h
  split at h
  · exact .inr (s_setK R ρ M M' H o i x vo vi v kk w ro ri rv h q)
  · exact .inl (s_setAt R ρ M M' H o i x vo vi v kk w ro ri rv h q)
end
end PV

set_option Elab.async false
set_option linter.all false
set_option maxRecDepth 100000
set_option maxHeartbeats 4000000
namespace PV
open PySem L2
open PyProof.Rows

/-! ### an object that was made before its place in the store -/
section
variable {G : Sig} {R R' : Hp} {ρ ρ' : List Addr} {M : Store} {H H' : Hp} {D : Addr} {o : HO}
theorem Ext.takeC (e : Ext R ρ H R' ρ' H') (hD : H D = none) : Ext R ρ H R' (ρ' ++ [D]) H' := by
  obtain ⟨τ, z, f⟩ := e.cls
  refine ⟨e.reg, ⟨τ ++ [D], by rw [z, List.append_assoc], fun x hx => ?_⟩, e.keep, e.dom, e.nreg⟩
  rcases List.mem_append.mp hx with h | h
  · exact f x h
  · rw [List.mem_singleton.mp h]; exact hD
theorem Wd.takeC {x : Cell} (w' : Wd G R ρ M H) (hDc : H D ≠ none) (rDn : R D = none) (nDr : D ∉ ρ) (hx : CelR G R ρ H D x) : Wd G R (ρ ++ [D]) (M.new x) H ∧ (ρ ++ [D])[M.nx]? = some D := by
  have gp : (ρ ++ [D])[M.nx]? = some D := by rw [← w'.len]; simp
  have gr : Gr R ρ R (ρ ++ [D]) := ⟨fun _ _ h => h, fun n a h => by rw [List.getElem?_append_left (List.getElem?_eq_some_iff.mp h).1]; exact h⟩
  have old : ∀ n y, n ≠ M.nx → (M.new x).c n = some y → M.c n = some y := fun n y hn h => by
    have h' : (if n = M.nx then some x else M.c n) = some y := h
    rw [if_neg hn] at h'
    exact h'
  have neD : ∀ n y a, M.c n = some y → (ρ ++ [D])[n]? = some a → a ≠ D := fun n y a h e z => by
    obtain ⟨b, e2, _, _⟩ := w'.cel n y h
    rw [gr.get n b e2] at e
    cases e
    exact nDr (by rw [← z]; exact List.mem_of_getElem? e2)
  refine ⟨⟨w'.sub, by simp [Store.new, w'.len], fun n y h => ?_, fun n m b y z h1 h2 f1 f2 => ?_, fun a h => ?_⟩, gp⟩
  · by_cases e : n = M.nx
    · subst e
      have h' : (if M.nx = M.nx then some x else M.c M.nx) = some y := h
      rw [if_pos rfl] at h'
      cases h'
      exact ⟨D, gp, rDn, celR_mono gr hx fun u q => q⟩
    · obtain ⟨b, e1, r, c⟩ := w'.cel n y (old n y e h)
      exact ⟨b, gr.get n b e1, r, celR_mono gr c fun u q => q⟩
  · by_cases q1 : n = M.nx <;> by_cases q2 : m = M.nx
    · rw [q1, q2]
    · rw [q1, gp] at f1
      cases f1
      exact absurd rfl (neD m z _ (old m z q2 h2) f2)
    · rw [q2, gp] at f2
      cases f2
      exact absurd rfl (neD n y _ (old n y q1 h1) f1)
    · have h1' := old n y q1 h1
      have h2' := old m z q2 h2
      obtain ⟨b1, g1, _⟩ := w'.cel n y h1'
      obtain ⟨b2, g2, _⟩ := w'.cel m z h2'
      rw [gr.get n b1 g1] at f1
      rw [gr.get m b2 g2] at f2
      cases f1
      cases f2
      exact w'.inj n m b y z h1' h2' g1 g2
  · rcases List.mem_append.mp h with h | h
    · exact w'.al a h
    · rw [List.mem_singleton.mp h]; exact hDc
/-- an object that nothing leans on is replaced -/
theorem Wd.chg (w : Wd G R ρ M H) (rDn : R D = none) (nDr : D ∉ ρ) : Wd G R ρ M (upd H D o) := by
  refine ⟨fun a u h => ?_, w.len, fun n x h => ?_, w.inj, fun a h => ?_⟩
  · rw [upd_ne (fun z => by subst z; rw [rDn] at h; cases h)]
    exact w.sub a u h
  · obtain ⟨a, e, r, c⟩ := w.cel n x h
    have ne : a ≠ D := fun z => nDr (by rw [← z]; exact List.mem_of_getElem? e)
    refine ⟨a, e, r, ?_⟩
    cases x with
    | lst l => obtain ⟨vs, h1, h2⟩ := c; exact ⟨vs, by rw [upd_ne ne]; exact h1, h2⟩
    | dic l => obtain ⟨vs, h1, h2⟩ := c; exact ⟨vs, by rw [upd_ne ne]; exact h1, h2⟩
    | ins k l => obtain ⟨dx, vs, h1, h2⟩ := c; exact ⟨dx, vs, by rw [upd_ne ne]; exact h1, h2⟩
  · by_cases z : a = D
    · subst z; exact absurd h nDr
    · rw [upd_ne z]; exact w.al a h
theorem Ext.chg (e : Ext R ρ H R' ρ' H') (hD : H D = none) : Ext R ρ H R' ρ' (upd H' D o) := by
  refine ⟨e.reg, e.cls, fun a u h n => ?_, fun a h => ?_, e.nreg⟩
  · rw [upd_ne (ne_of_none h hD)]; exact e.keep a u h n
  · by_cases z : a = D
    · subst z; rw [upd_same]; simp
    · rw [upd_ne z]; exact e.dom a h
end

/-! ### written dicts -/
def evPairs : List (SE × SE) → SE
  | [] => fun _ M => some (.val (.dic []), M)
  | (k, v) :: r => fun s M => bindO (k s M) fun kv M1 => bindO (v s M1) fun x M2 => bindO (evPairs r s M2) fun t M3 => match keyA kv, t with
    | some key, .dic l => some (.val (.dic ((key, x) :: l)), M3)
    | _, _ => none
def evDisp (ps : List (SE × SE)) : SE := fun s M => bindO (evPairs ps s M) fun t M1 => match t with
  | .dic l => if l.length ≤ 15 then some (.val (.dic (meK [] l)), M1) else none
  | _ => none
def evDispC (ps : List (SE × SE)) : SE := fun s M => bindO (evPairs ps s M) fun t M1 => match t with
  | .dic l => if l.length ≤ 15 then some (.val (.cel M1.nx), M1.new (.dic (meK [] l))) else none
  | _ => none
section
variable {X : Cx} {G : Sig} {E : XK} {pos : Pos}
def PostP (G : Sig) (R : Hp) (ρ : List Addr) (H : Hp) (r : Res) (Q : List (V × V) → Hp → Prop) (E : XK) : Prop := match r with
  | none => False
  | some (.val (.dic l), M) => ∀ R' ρ' H' vs, Ext R ρ H R' ρ' H' → Wd G R' ρ' M H' → VRk G R' ρ' l vs → Q (vs.map fun kv => (kV kv.1, kv.2)) H'
  | some (.val _, _) => False
  | some (.exc c x, M) => PostX G R ρ H M E c x
theorem pairs_sim {σ : L2.St} : ∀ (ps : List (SE × SE)) {R : Hp} {ρ : List Addr} {M : Store} {H : Hp} {s : SL} {Q : List (V × V) → Hp → Prop}, Wd G R ρ M H → SR G R ρ s σ → PostP G R ρ H (evPairs ps s M) Q E →
    tPairs (ps.map fun p => (tE G E p.1, tE G E p.2)) σ H Q
  | [], R, ρ, M, H, s, Q, w, sr, p => p R ρ H [] Ext.refl w .nil
  | (k, v) :: r, R, ρ, M, H, s, Q, w, sr, p => by
    show tE G E k σ H fun x H1 => tE G E v σ H1 fun y H2 => tPairs (r.map fun p => (tE G E p.1, tE G E p.2)) σ H2 fun qs H3 => Q ((x, y) :: qs) H3
    unfold evPairs at p
    refine ⟨R, ρ, s, M, w, sr, ?_⟩
    rcases q : k s M with _ | ⟨x | ⟨c, x⟩, M1⟩ <;> rw [q] at p
    · exact p
    · intro R1 ρ1 H1 xv e1 w1 r1
      refine ⟨R1, ρ1, s, M1, w1, sr.mono e1.gr, ?_⟩
      rw [bindO_val] at p
      rcases q2 : v s M1 with _ | ⟨y | ⟨c, y⟩, M2⟩ <;> rw [q2] at p
      · exact p
      · intro R2 ρ2 H2 yv e2 w2 r2
        rw [bindO_val] at p
        refine pairs_sim r w2 (sr.mono (e1.trans e2).gr) ?_
        rcases q3 : evPairs r s M2 with _ | ⟨z | ⟨c, z⟩, M3⟩ <;> rw [q3] at p
        · exact p
        · rw [bindO_val] at p
          cases hk : keyA x with
          | none => rw [hk] at p; exact p.elim
          | some key =>
            rw [hk] at p
            cases z <;> first | exact p.elim | skip
            intro R3 ρ3 H3 vs e3 w3 r3
            have := p R3 ρ3 H3 ((key, yv) :: vs) ((e1.trans e2).trans e3) w3 (.cons (r2.mono e3.gr) r3)
            rw [r1.key hk]
            exact this
        · exact PostX.ext (e1.trans e2) p
      · exact PostX.ext e1 p
    · exact p
theorem disp_core {trs : List (SE × SE)} {σ : L2.St} {H : Hp} {Q : VK} {mk : List (Key × Va) → Store → Res} (h : tE G E (fun s M => bindO (evPairs trs s M) fun t M1 => match t with
  | .dic l => if l.length ≤ 15 then mk l M1 else none
  | _ => none) σ H Q)
    (hm : ∀ R ρ R' ρ' H' M' l vs p o, o = HO.dK (mergeK [] vs) → H p = none → Ext R ρ H R' ρ' (upd H' p o) → Wd G R' ρ' M' (upd H' p o) → R' p = none → p ∉ ρ' → VRk G R' ρ' l vs → l.length ≤ 15 → Post G R ρ H (mk l M') Q E → Q (.ref p) (upd H' p o)) :
    tDisp (trs.map fun p => (tE G E p.1, tE G E p.2)) σ H Q := by
  obtain ⟨R, ρ, s, M, w, sr, p⟩ := h
  intro a ha
  have e0 : Ext R ρ H R ρ (upd H a (.dK [])) := Ext.heapNew ha
  have w0 : Wd G R ρ M (upd H a (.dK [])) := w.heap fun b o h => by rw [upd_ne (ne_of_none h ha)]; exact h
  have hR := w.nonR ha
  have hρ : a ∉ ρ := fun z => w.al a z ha
  refine pairs_sim trs w0 (sr.mono e0.gr) ?_
  replace p : Post G R ρ H (bindO (evPairs trs s M) _) Q E := p
  rcases q : evPairs trs s M with _ | ⟨z | ⟨c, z⟩, M1⟩ <;> rw [q] at p
  · exact p
  · rw [bindO_val] at p
    cases z <;> first | exact p.elim | skip
    intro R1 ρ1 H1 vs e1 w1 r1
    obtain ⟨a1, a2, a3⟩ := e1.apart upd_same hR hρ
    dsimp only at p
    split at p
    · rename_i hl
      refine ⟨a3, vs, rfl, by rw [← r1.length]; exact hl, ?_⟩
      exact hm R ρ R1 ρ1 H1 M1 _ vs a _ rfl ha ((e0.trans e1).chg ha) (w1.chg a1 a2) a1 a2 r1 hl p
    · exact p.elim
  · exact PostX.ext e0 p
theorem disp_len {l : List (Key × Va)} (h : l.length ≤ 15) : (meK [] l).length ≤ sizeLine := by
  have := meK_len l []
  have : (meK [] l).length ≤ 15 := by simp at this; omega
  exact Nat.le_trans this (by decide)
theorem q_disp {keys : List (Option Expr)} {values : List Expr} {trs : List (SE × SE)} (h : PPs X pos keys values (trs.map fun p => (tE G E p.1, tE G E p.2))) (hall : keys.all (·.isSome) = true) (hl : keys.length = values.length) (h0 : keys ≠ []) (h15 : keys.length ≤ 15) :
    PE X (.Dict keys values pos) (tE G E (evDisp trs)) :=
  pe_imp (pe_disp h hall hl h0 h15) fun σ H Q q => disp_core (mk := fun l M1 => some (.val (.dic (meK [] l)), M1)) q fun R ρ R' ρ' H' M' l vs p o eo hp e w hR hρ r hl q => by
    subst eo
    have gr : Gr R' ρ' (upd R' p (.dK (mergeK [] vs))) ρ' := ⟨fun b u z => by rw [upd_ne (fun y => by subst y; rw [hR] at z; cases z)]; exact z, fun _ _ z => z⟩
    exact q _ ρ' _ (.ref p) (e.take hp hR) (w.take upd_same hR hρ) (.dic upd_same (disp_len hl) ((r.merge .nil).mono gr))
theorem q_dispC {keys : List (Option Expr)} {values : List Expr} {trs : List (SE × SE)} (h : PPs X pos keys values (trs.map fun p => (tE G E p.1, tE G E p.2))) (hall : keys.all (·.isSome) = true) (hl : keys.length = values.length) (h0 : keys ≠ []) (h15 : keys.length ≤ 15) :
    PE X (.Dict keys values pos) (tE G E (evDispC trs)) :=
  pe_imp (pe_disp h hall hl h0 h15) fun σ H Q q => disp_core (mk := fun l M1 => some (.val (.cel M1.nx), M1.new (.dic (meK [] l)))) q fun R ρ R' ρ' H' M' l vs p o eo hp e w hR hρ r hl q => by
    subst eo
    obtain ⟨w2, g2⟩ := w.takeC (x := .dic (meK [] l)) (by rw [upd_same]; simp) hR hρ ⟨_, upd_same, disp_len hl, r.merge .nil⟩
    exact q _ _ _ (.ref p) (e.takeC hp) w2 (.cel g2)
theorem qp_nil : PPs X pos [] [] (([] : List (SE × SE)).map fun p => (tE G E p.1, tE G E p.2)) := pps_nil
theorem qp_cons {k v : Expr} {ks : List (Option Expr)} {vs : List Expr} {ek ev : SE} {trs : List (SE × SE)} (hk : PE X k (tE G E ek)) (hv : PE X v (tE G E ev)) (hr : PPs X pos ks vs (trs.map fun p => (tE G E p.1, tE G E p.2))) :
    PPs X pos (some k :: ks) (v :: vs) (((ek, ev) :: trs).map fun p => (tE G E p.1, tE G E p.2)) := pps_cons hk hv hr
end

/-! ### d.get, clear, sorted, list, dict -/
def gGetD (M : Store) : Va → List Va → Option Va
  | d, [k] => (match dicOf M d, keyA k with
    | some l, some key => some ((vaK l key).getD .non)
    | _, _ => none)
  | d, [k, z] => (match dicOf M d, keyA k with
    | some l, some key => some ((vaK l key).getD z)
    | _, _ => none)
  | _, _ => none
def rGetD : V → List V → Hp → VK → Prop := fun x xs H Q => (∃ a y o, x = .ref a ∧ xs = [y] ∧ DGet H a y o ∧ Q (o.getD .non) H) ∨ ∃ a y z o, x = .ref a ∧ xs = [y, z] ∧ DGet H a y o ∧ Q (o.getD z) H
section
variable {X : Cx} {G : Sig} {k : Nat}
theorem mt_getD (hr : Room k X.A) : MtR X "dict.get" rGetD := by
  intro pins s σ H x xs v us Q I rx rv h
  rcases h with ⟨a, y, o, ex, es, g, q⟩ | ⟨a, y, z, o, ex, es, g, q⟩
  · subst ex es
    obtain rfl : v = Value.ref a := rx
    obtain ⟨u, rfl, ru⟩ := vals1 rv
    exact d_get1 (hu_of hr) I g ru fun w' s' I' rw' => ⟨_, H, I', rw', q⟩
  · subst ex es
    obtain rfl : v = Value.ref a := rx
    cases rv with
    | cons r1 r2 =>
      obtain ⟨u, rfl, ru⟩ := vals1 r2
      exact d_get2 (hu_of hr) I g r1 ru fun w' s' I' rw' => ⟨_, H, I', rw', q⟩
theorem s_getD : OpM G "dict" rGetD (kVal gGetD) := by
  intro R ρ M H x xs o l Q E w ro rv p
  unfold kVal at p
  cases q : gGetD M o l with
  | none => rw [q] at p; exact p.elim
  | some res =>
    rw [q] at p
    unfold gGetD at q
    split at q
    · split at q
      · rename_i l' key h1 h2
        cases q
        obtain ⟨y, rfl, ry⟩ := one_of rv
        obtain ⟨a, vs, ex, ha, rk, ey, dg⟩ := dget_of w ro ry h1 h2
        exact .inl ⟨a, y, _, ex, rfl, dg, gives_now w (rk.getD key .non) p⟩
      · cases q
    · split at q
      · rename_i l' key h1 h2
        cases q
        obtain ⟨y, z, rfl, ry, rz⟩ := two_of rv
        obtain ⟨a, vs, ex, ha, rk, ey, dg⟩ := dget_of w ro ry h1 h2
        exact .inr ⟨a, y, z, _, ex, rfl, dg, gives_now w (rk.getD key rz) p⟩
      · cases q
    · cases q
def cDClear : Cell → List Va → Option (Cell × Va)
  | .dic _, [] => some (.dic [], .non)
  | _, _ => none
theorem s_dclear : OpM G "dict" rDClear (kMut cDClear) := by
  intro R ρ M H x xs o l Q E w ro rv p
  unfold kMut at p
  split at p
  · rename_i n
    split at p
    · rename_i c hc
      split at p
      · rename_i c' y hg
        unfold cDClear at hg
        split at hg
        · rename_i l0
          cases hg
          cases rv
          cases ro with
          | cel e =>
            obtain ⟨a, e1, ra, vs, ha, z, r0⟩ := w.cel n _ hc
            rw [e] at e1
            cases e1
            obtain ⟨ex, wd⟩ := write_cel (o := .dK []) (y := .dic []) w hc e ⟨[], upd_same, Nat.zero_le _, .nil⟩
            exact ⟨_, vs, rfl, rfl, ha, p _ _ _ _ ex wd .non⟩
        · cases hg
      · exact p.elim
    · exact p.elim
  · exact p.elim
end

/-! ### sorted, list(d), dict(d) -/
def txtOfKeys : List Key → Option (List Str)
  | [] => some []
  | .inr x :: r => (txtOfKeys r).map (x :: ·)
  | _ :: _ => none
theorem txtOfKeys_eq : ∀ {ks : List Key} {zs : List Str}, txtOfKeys ks = some zs → ks = zs.map Sum.inr
  | [], _, h => by cases h; rfl
  | .inr x :: r, _, h => by
    unfold txtOfKeys at h
    cases q : txtOfKeys r with
    | none => rw [q] at h; cases h
    | some l => rw [q] at h; cases h; rw [List.map_cons, ← txtOfKeys_eq q]
  | .inl _ :: _, _, h => by cases h
theorem txtOfKeys_map : ∀ zs : List Str, txtOfKeys (zs.map Sum.inr) = some zs
  | [] => rfl
  | z :: zs => by
    show (txtOfKeys (zs.map Sum.inr)).map (z :: ·) = _
    rw [txtOfKeys_map zs]; rfl
def leS (a b : Str) : Bool := decide (a.cps.toList ≤ b.cps.toList)
/-- the texts in ascending order -/
def srtS (zs : List Str) : List Str := zs.mergeSort leS
theorem leS_trans (a b c : Str) (h1 : leS a b = true) (h2 : leS b c = true) : leS a c = true := by
  unfold leS at *
  rw [decide_eq_true_eq] at *
  exact List.le_trans h1 h2
theorem leS_total (a b : Str) : (leS a b || leS b a) = true := by
  unfold leS
  rw [Bool.or_eq_true, decide_eq_true_eq, decide_eq_true_eq]
  exact List.le_total _ _
theorem leS_antisymm (a b : Str) (h1 : leS a b = true) (h2 : leS b a = true) : a = b := by
  unfold leS at *
  rw [decide_eq_true_eq] at *
  exact tl_ext (List.le_antisymm h1 h2)
theorem rising_pw : ∀ (l : List Str) (p : Str), risingS p l = true → (p :: l).Pairwise fun a b => leS a b = true
  | [], p, _ => by simp
  | x :: r, p, h => by
    replace h : (!PySem.Spec.ltCps x.cps.toList p.cps.toList && risingS x r) = true := h
    rw [Bool.and_eq_true] at h
    have ih := rising_pw r x h.2
    have hx : leS p x = true := by
      unfold leS
      rw [decide_eq_true_eq, ← List.not_lt]
      have := h.1
      rw [PyProof.Rows.ltCps_eq] at this
      simpa using this
    refine List.pairwise_cons.mpr ⟨fun y hy => ?_, ih⟩
    rcases List.mem_cons.mp hy with e | hy
    · subst e; exact hx
    · exact leS_trans _ _ _ hx ((List.pairwise_cons.mp ih).1 y hy)
theorem sorted_pw : ∀ (l : List Str), sortedS l = true → l.Pairwise fun a b => leS a b = true
  | [], _ => .nil
  | x :: r, h => rising_pw r x h
theorem srtS_perm (zs : List Str) : (srtS zs).Perm zs := List.mergeSort_perm zs leS
theorem srtS_pw (zs : List Str) : (srtS zs).Pairwise fun a b => leS a b = true := List.pairwise_mergeSort leS_trans leS_total zs
theorem srtS_eq {ys zs : List Str} (p : ys.Perm zs) (h : sortedS ys = true) : ys = srtS zs :=
  List.Perm.eq_of_pairwise (le := fun a b => leS a b = true) (fun a b _ _ => leS_antisymm a b) (sorted_pw ys h) (srtS_pw zs) (p.trans (srtS_perm zs).symm)
/-- sorted, of a list of texts or a dict with such keys -/
def srtOf (M : Store) (x : Va) : Option (List Str) := match dicOf M x with
  | some l => txtOfKeys (l.map (·.1))
  | none => (lstOf M x).bind strsOf
def gSorted (M : Store) : List Va → Option Va
  | [x] => match srtOf M x with
    | some zs => if zs.length < 64 then some (.lst ((srtS zs).map Va.str)) else none
    | none => none
  | _ => none
def rSortedD : List V → Hp → VK → Prop := fun xs H Q => ∃ (a : Addr) (kvs : List (Key × V)) (ks : List Str), xs = [.ref a] ∧ Rd H a (.dK kvs) ∧ kvs.map (·.1) = ks.map Sum.inr ∧ ks.length < 64 ∧
    ∀ ys p, ys.Perm ks → sortedS ys = true → H p = none → Q (.ref p) (upd H p (.lst (ys.map V.str)))
section
variable {X : Cx} {G : Sig} {k : Nat}
theorem s_sorted (hK : X.K = G.K) : OpL G (fun xs H Q => rSortedS X.K xs H Q ∨ rSortedD xs H Q) (kPure gSorted) := pure_of fun R ρ M H xs l res Q w rv h g => by
  unfold gSorted at h
  split at h
  · rename_i x
    obtain ⟨v, rfl, r⟩ := one_of rv
    split at h
    · rename_i zs hz
      split at h
      · rename_i h64
        cases h
        have fin : ∀ ys p, ys.Perm zs → sortedS ys = true → H p = none → Q (.ref p) (upd H p (.lst (ys.map V.str))) := fun ys p hp hs hq => by
          have e := srtS_eq hp hs
          subst e
          exact gives_lst w (VRs.strs _) (by rw [List.length_map, hp.length_eq, sizeLine_eq]; omega) g hq
        unfold srtOf at hz
        split at hz
        · rename_i l' hl'
          obtain ⟨a, vs, rfl, ha, rk, _⟩ := dic_read w r hl'
          exact .inr ⟨a, vs, zs, rfl, .inl ha, by rw [rk.keys]; exact txtOfKeys_eq hz, h64, fin⟩
        · cases hq : lstOf M x with
          | none => rw [hq] at hz; cases hz
          | some l' =>
            rw [hq] at hz
            obtain ⟨a, vs, rfl, sq, rvs, _⟩ := lst_read w r hq
            have := strs_of rvs hz
            subst this
            exact .inl ⟨a, zs, rfl, by rw [hK]; exact sq, h64, fin⟩
      · cases h
    · cases h
  · cases h
/-- dict(d): a copy -/
def gDict (M : Store) : List Va → Option Va
  | [x] => (dicOf M x).map Va.dic
  | _ => none
def kDict (l : List Va) (M : Store) : Res := match l with
  | [x] => (match dicOf M x with
    | some l => some (.val (.cel M.nx), M.new (.dic l))
    | none => none)
  | _ => none
def rDictD : List V → Hp → VK → Prop := fun xs H Q => ∃ (a : Addr) (kvs : List (Key × V)), xs = [.ref a] ∧ Rd H a (.dK kvs) ∧ ∀ p, H p = none → Q (.ref p) (upd H p (.dK kvs))
theorem s_dictF : OpL G rDictD (kPure gDict) := pure_of fun R ρ M H xs l res Q w rv h g => by
  unfold gDict at h
  split at h
  · rename_i x
    obtain ⟨v, rfl, r⟩ := one_of rv
    cases hq : dicOf M x with
    | none => rw [hq] at h; cases h
    | some l' =>
      rw [hq] at h; cases h
      obtain ⟨a, vs, rfl, ha, rk, z⟩ := dic_read w r hq
      exact ⟨a, vs, rfl, .inl ha, fun p hp => gives_dic w rk z g hp⟩
  · cases h
theorem s_dictC : OpL G rDictD kDict := fun R ρ M H xs l Q E w rv p => by
  unfold kDict at p
  split at p
  · rename_i x
    obtain ⟨v, rfl, r⟩ := one_of rv
    split at p
    · rename_i l' hq
      obtain ⟨a, vs, rfl, ha, rk, z⟩ := dic_read w r hq
      refine ⟨a, vs, rfl, .inl ha, fun q hq => ?_⟩
      obtain ⟨e, w', h⟩ := alloc_cel (o := .dK vs) (x := .dic l') w hq ⟨vs, upd_same, z, rk⟩
      exact p _ _ _ _ e w' (.cel h)
    · exact p.elim
  · exact p.elim
/-- list(d): the keys -/
def lstOrKeys (M : Store) (x : Va) : Option (List Va) := match dicOf M x with
  | some l => some (l.map fun kv => keyVa kv.1)
  | none => seqOf M x
def gListX (M : Store) : List Va → Option Va
  | [x] => (lstOrKeys M x).map Va.lst
  | _ => none
def kListX (l : List Va) (M : Store) : Res := match l with
  | [x] => (match lstOrKeys M x with
    | some l => some (.val (.cel M.nx), M.new (.lst l))
    | none => none)
  | _ => none
end

/-! ### objects of own classes -/
/-- the class stands, and these names are attributes of its objects alone -/
structure ClsF (K : PySem.W.Frag) (C : Addr) (fs : List Str) : Prop where
  cl : Cls K C
  no : ∀ f ∈ fs, NoAttr K C f
def opFld (c : Nat) (f : Str) (M : Store) : Va → Option Va
  | .cel n => (match M.c n with
    | some (.ins k l) => if k = c then l.lookup f else none
    | _ => none)
  | _ => none
section
variable {G : Sig} {R : Hp} {ρ : List Addr}
theorem VRf.look {f : Str} {x : Va} : ∀ {l : List (Str × Va)} {vs : List (Str × V)}, VRf G R ρ l vs → l.lookup f = some x → ∃ v, vs.lookup f = some v ∧ VR G R ρ x v
  | _, _, .nil, h => by cases h
  | _, _, .cons (k := k) r t, h => by
    rw [List.lookup_cons] at h ⊢
    cases q : f == k with
    | true => rw [q] at h; cases h; exact ⟨_, rfl, r⟩
    | false => rw [q] at h; exact VRf.look t h
theorem VRf.len : ∀ {l : List (Str × Va)} {vs : List (Str × V)}, VRf G R ρ l vs → l.length = vs.length
  | _, _, .nil => rfl
  | _, _, .cons _ t => by rw [List.length_cons, List.length_cons, VRf.len t]
theorem VRf.none {f : Str} : ∀ {l : List (Str × Va)} {vs : List (Str × V)}, VRf G R ρ l vs → l.lookup f = none → vs.lookup f = none
  | _, _, .nil, h => rfl
  | _, _, .cons (k := k) r t, h => by
    rw [List.lookup_cons] at h ⊢
    cases q : f == k with
    | true => rw [q] at h; cases h
    | false => rw [q] at h; exact VRf.none t h
theorem VRf.put {f : Str} {x : Va} {v : V} (r0 : VR G R ρ x v) : ∀ {l : List (Str × Va)} {vs : List (Str × V)}, VRf G R ρ l vs → VRf G R ρ (putA f x l) (putF f v vs)
  | _, _, .nil => .cons r0 .nil
  | _, _, .cons (k := k) r t => by
    unfold putA putF
    by_cases e : k = f
    · rw [if_pos e, if_pos e]; exact .cons r0 t
    · rw [if_neg e, if_neg e]; exact .cons r (VRf.put r0 t)
theorem ins_read {M : Store} {H : Hp} {n c : Nat} {l : List (Str × Va)} {v : V} (w : Wd G R ρ M H) (r : VR G R ρ (.cel n) v) (h : M.c n = some (.ins c l)) : ∃ a dx vs, v = .ref a ∧ ρ[n]? = some a ∧ H a = some (.ins (G.CA c) dx vs) ∧ VRf G R ρ l vs := by
  cases r with
  | cel e =>
    obtain ⟨a, e1, _, dx, vs, ha, r0⟩ := w.cel n _ h
    rw [e] at e1
    cases e1
    exact ⟨_, dx, vs, rfl, e, ha, r0⟩
end
def cSetF (c : Nat) (f : Str) (o v : Va) (M : Store) : Option Store := match o with
  | .cel n => (match M.c n with
    | some (.ins k l) => if k = c ∧ l.length < 1000 then some (M.put n (.ins k (putA f v l))) else none
    | _ => none)
  | _ => none
def sFldS (e eo : SE) (g : Va → Va → Store → Option Store) : SS := sE e fun v s M => sE eo (fun o s M => match g o v M with
  | some M1 => some (.nx, s, M1)
  | none => none) s M
section
variable {X : Cx} {G : Sig} {E : XK} {a b e o value : Expr} {es : List Expr} {ea eo ev : SE} {pos pos' p' apos : Pos} {c : Nat} {f : Str} {fs : List Str}
theorem q_fld (hK : X.K = G.K) (F : ClsF X.K (G.CA c) fs) (hf : f ∈ fs) (ha : PE X a (tE G E ea)) (hb : attributeBase a f X.env (eval a X.env) = eval a X.env := by rfl) : PE X (.Attribute a f pos) (tE G E (ev1 (opFld c f) ea)) :=
  pe_imp (pe_fld ha hb) fun σ H Q ⟨R, ρ, s, M, w, sr, p⟩ => stepE w sr p fun R1 ρ1 M1 H1 va v e1 w1 sr1 r1 p1 => by
    cases h : opFld c f M1 va with
    | none => rw [h] at p1; exact p1.elim
    | some res =>
      rw [h] at p1
      unfold opFld at h
      split at h
      · split at h
        · rename_i n k l hc
          split at h
          · rename_i ek
            subst ek
            obtain ⟨a, dx, vs, rfl, e2, ha, rf⟩ := ins_read w1 r1 hc
            obtain ⟨u, hu, ru⟩ := rf.look h
            exact ⟨a, _, dx, vs, u, rfl, ha, F.cl, F.no f hf, hu, gives_now w1 ru p1⟩
          · cases h
        · cases h
      · cases h
theorem qs_fld (hK : X.K = G.K) (F : ClsF X.K (G.CA c) fs) (hf : f ∈ fs) (ha : PE X value (tE G E ev)) (ho : PE X o (tE G E eo)) (hs : swapsWith value (some (.Attribute o f pos')) pos.line X.env = pure false := by rfl) :
    PS X (.Assign [.Attribute o f pos'] value pos) (tS G E (sFldS ev eo (cSetF c f))) :=
  ps_imp (ps_fld ho ha hs) fun D σ H ⟨R, ρ, s, M, w, sr, p⟩ => stepS w sr p fun R1 ρ1 M1 H1 va v e1 w1 sr1 r1 p1 =>
    stepS w1 sr1 p1 fun R2 ρ2 M2 H2 vo x e2 w2 sr2 r2 p2 => by
      cases h : cSetF c f vo va M2 with
      | none => rw [h] at p2; exact p2.elim
      | some M3 =>
        rw [h] at p2
        unfold cSetF at h
        split at h
        · split at h
          · rename_i n k l hc
            split at h
            · rename_i ek
              obtain ⟨ek, hl⟩ := ek
              cases h
              subst ek
              obtain ⟨a, dx, vs, rfl, en, ha, rf⟩ := ins_read w2 r2 hc
              refine ⟨a, _, dx, vs, rfl, ha, F.cl, F.no f hf, by rw [← rf.len]; exact hl, ?_⟩
              obtain ⟨ex, wd⟩ := write_cel (o := .ins (G.CA k) dx (putF f v vs)) (y := .ins k (putA f va l)) w2 hc en ⟨dx, _, upd_same, rf.put (r1.mono e2.gr)⟩
              exact nxt_now wd (sr2.mono ex.gr) (Nxt.ext ex p2)
            · cases h
          · cases h
        · cases h
end

/-! ### making, properties, methods, an own == -/
def kMake (c : Nat) (n : Nat) (f : FM) (l : List Va) (M : Store) : Res := if l.length = n then (match f (.cel M.nx :: l) (M.new (.ins c [])) with
  | some (.val .non, M2) => some (.val (.cel M.nx), M2)
  | some (.val _, _) => none
  | some (.exc k v, M2) => some (.exc k v, M2)
  | none => none) else none
def kProp (c : Nat) (f : FM) (M : Store) (o : Va) : Res := match o with
  | .cel n => (match M.c n with
    | some (.ins k _) => if k = c then f [.cel n] M else none
    | _ => none)
  | _ => none
def evProp (c : Nat) (f : FM) (e : SE) : SE := fun s M => bindO (e s M) fun o M1 => kProp c f M1 o
def kMethA (c : Nat) (m : Str) (n : Nat) (f : FM) (o : Va) (l : List Va) (M : Store) : Res := if l.length = n then f (o :: l) M else none
def isObj (c : Nat) (m : Str) (M : Store) (o : Va) : Bool := match o with
  | .cel n => (match M.c n with
    | some (.ins k l) => decide (k = c) && (l.lookup m).isNone
    | _ => false)
  | _ => false
def evMeth (c : Nat) (m : Str) (n : Nat) (f : FM) (eo ea : SE) : SE := fun s M => bindO (eo s M) fun o M1 => if isObj c m M1 o = true then bindO (ea s M1) fun t M2 => (match t with
  | .tup l => if l.length = n then f (o :: l) M2 else none
  | _ => none) else none
section
variable {X : Cx} {G : Sig} {E : XK} {a o e : Expr} {es : List Expr} {ea eo : SE} {pos p' apos : Pos} {c n k : Nat} {f C g p : Addr} {fd : FuncData} {ps : List Str} {x m : Str} {fM : FM} {sp : Sp} {CX : CXT} {ta : TE} {t : TA} {dvs : List V} {ds : List Value}
theorem run_makeG {pins : List (Addr × Obj)} {σ : L2.St} {H : Hp} {s : Shared} {Q : VK} {us : List Value} {vs : List V} (M : Mk X.K C f) (F : FnG X.prog X.w X.K X.mg X.base CX k f fd ps sp) (hr : Room (k + 1) X.A) (hgd : X.A.guards = some []) (hb : Binds X.K fd ps ds) (hd : Vals dvs ds)
    (hx : Passes CX X E) (I : Inv X pins σ H s) (r : Vals vs us)
    (h : ∀ x dx, H x = none → H dx = none → dx ≠ x → sp (.ref x :: (vs ++ dvs)) (upd (upd H dx (.own x)) x (.ins C dx [])) (fun v H2 => v = .non ∧ Q (.ref x) H2) E) :
    wpAny (model X.prog X.w) X.A (call (.ref C) us) (EP X pins σ Q) X.xe s := by
  have hq := h (s.heap.objs.size + 1) s.heap.objs.size (I.hok.fresh (Nat.le_succ _)) (I.hok.fresh (Nat.le_refl _)) (Nat.ne_of_lt (Nat.lt_succ_self _))
  have I2 := Inv.made (C := C) I
  have r2 : Vals (V.ref (s.heap.objs.size + 1) :: (vs ++ dvs)) (Value.ref (s.heap.objs.size + 1) :: (us ++ ds)) := .cons rfl (r.append hd)
  have hl : (Value.ref (s.heap.objs.size + 1) :: us ++ ds).length = ps.length := by
    have e := r2.length
    rw [F.arity _ _ _ _ hq] at e
    exact e.symm
  refine wpAny_call (make_map (f := f) I.kIn M.makes M.init (beq_iff_eq.mp M.fn) (codeAny_mono (F.go _ (hr.make C us []) (by exact hgd) X.stack _ _ (I2.env0.make C us []) ⟨Value.ref (s.heap.objs.size + 1) :: us, []⟩ (Value.ref (s.heap.objs.size + 1) :: (us ++ ds)) _
    (hb _ (Value.ref (s.heap.objs.size + 1) :: us) I2.kIn hl) r2 _ E hq) fun r s' hq' => ?_))
  cases r with
  | error e => exact hx pins σ _ _ e s' I2 hq'
  | ok fl =>
    cases fl with
    | ret u =>
      obtain ⟨v, H', I3, rv, ev, q3⟩ := I2.after hq'
      subst ev
      exact ⟨rv, ⟨V.ref (s.heap.objs.size + 1), H', I3, rfl, q3⟩⟩
    | next => exact False.elim hq'
    | brk => exact False.elim hq'
    | cont => exact False.elim hq'
theorem pe_makeG (M : Mk X.K C f) (F : FnG X.prog X.w X.K X.mg X.base CX k f fd ps sp) (hr : Room (k + 1) X.A) (hgd : X.A.guards = some []) (hg : Gl X x) (hm : X.mg x = some (.ref C)) (hb : Binds X.K fd ps ds) (hd : Vals dvs ds) (hx : Passes CX X E)
    (ha : PA X (e :: es) t) (hdb : (x == ("__debug__" : Str)) = false := by decide) (he : starEach (e :: es) X.env = (false, eval e X.env) :: starEach es X.env := by rfl) (hpl : (backTo pos (starEach es X.env)).any (·.1) = false := by rfl) :
    PE X (.Call (.Name x p') (e :: es) [] pos) (tMake C sp dvs E t) :=
  ⟨fun pins s σ H Q I h => wpAny_Call_Name_kw (ld_glob I hg hm (PySem.W.callWith_K (h₀ := X.base) I.ok.mod.kin M.kp
    (thn (ha.run pos pins s σ H _ I h) fun us s1 ⟨vs, H1, I1, r, q⟩ => ⟨I1.kIn, run_makeG M F hr hgd hb hd hx I1 r q⟩) he hpl) hdb)⟩
theorem make_sim {R : Hp} {ρ : List Addr} {M : Store} {H : Hp} {l : List Va} {vs : List V} {Q : VK} (w : Wd G R ρ M H) (r : VRs G R ρ l vs) (q : Post G R ρ H (kMake c n fM l M) Q E0) (hC : G.CA c = C) :
    ∀ x dx, H x = none → H dx = none → dx ≠ x → spI G (n + 1) fM (.ref x :: (vs ++ [])) (upd (upd H dx (.own x)) x (.ins C dx [])) (fun v H2 => v = .non ∧ Q (.ref x) H2) E0 := by
  intro x dx hx hdx ne
  unfold kMake at q
  by_cases hl : l.length = n
  · rw [if_pos hl] at q
    have e0 : Ext R ρ H R ρ (upd H dx (.own x)) := Ext.heapNew hdx
    have w0 : Wd G R ρ M (upd H dx (.own x)) := w.heap fun b o h => by rw [upd_ne (ne_of_none h hdx)]; exact h
    have hx' : (upd H dx (.own x)) x = none := by rw [upd_ne ne.symm]; exact hx
    obtain ⟨e1, w1, g1⟩ := alloc_cel (o := .ins C dx []) (x := .ins c []) w0 hx' ⟨dx, [], by rw [hC, upd_same], .nil⟩
    refine ⟨by rw [List.append_nil, List.length_cons, ← r.length, hl], R, _, _, .cel M.nx :: l, w1, .cons (.cel g1) (by rw [List.append_nil]; exact r.mono e1.gr), ?_⟩
    rcases z : fM (.cel M.nx :: l) (M.new (.ins c [])) with _ | ⟨y | ⟨k, y⟩, M2⟩ <;> rw [z] at q
    · exact q
    · cases y <;> first | exact q.elim | skip
      intro R' ρ' H' v e w' rv
      cases rv
      exact ⟨rfl, q R' ρ' H' (.ref x) ((e0.trans e1).trans e) w' (.cel (e.get g1))⟩
    · intro R' ρ' H' d v e w' h rv
      exact q R' ρ' H' d v ((e0.trans e1).trans e) w' h rv
  · rw [if_neg hl] at q; exact q.elim
/-- how a class stands in the text: made by its __init__, of n arguments -/
structure MkB (P : Program) (w : World) (K : PySem.W.Frag) (mg : Str → Option Value) (base : Heap) (G : Sig) (x : Str) (c : Nat) (lv n : Nat) (fM : FM) : Prop where
  ex : ∃ (f : Addr) (fd : FuncData) (ps : List Str), mg x = some (.ref (G.CA c)) ∧ Mk K (G.CA c) f ∧ Binds K fd ps [] ∧ FnG P w K mg base CX0 lv f fd ps (spI G (n + 1) fM)
/-- a property, or a method, of a class -/
structure PrB (P : Program) (w : World) (K : PySem.W.Frag) (mg : Str → Option Value) (base : Heap) (G : Sig) (c : Nat) (x : Str) (lv : Nat) (fM : FM) : Prop where
  ex : ∃ (p f : Addr) (fd : FuncData) (ps : List Str), Cls K (G.CA c) ∧ PropOf K (G.CA c) x p f ∧ Binds K fd ps [] ∧ FnG P w K mg base CX0 lv f fd ps (spI G 1 fM)
structure MeB (P : Program) (w : World) (K : PySem.W.Frag) (mg : Str → Option Value) (base : Heap) (G : Sig) (c : Nat) (x : Str) (lv n : Nat) (fM : FM) : Prop where
  ex : ∃ (f : Addr) (fd : FuncData) (ps : List Str), Cls K (G.CA c) ∧ Meth K (G.CA c) x f ∧ Binds K fd ps [] ∧ FnG P w K mg base CX0 lv f fd ps (spI G (n + 1) fM)
variable {lv : Nat}
theorem q_make (B : MkB X.prog X.w X.K X.mg X.base G x c lv n fM) (hr : Room k X.A) (hl : lv + 1 ≤ k) (hgd : X.A.guards = some []) (hg : Gl X x) (ha : PA X (e :: es) (tA G E0 ea)) (hdb : (x == ("__debug__" : Str)) = false := by decide)
    (he : starEach (e :: es) X.env = (false, eval e X.env) :: starEach es X.env := by rfl) (hpl : (backTo pos (starEach es X.env)).any (·.1) = false := by rfl) :
    PE X (.Call (.Name x p') (e :: es) [] pos) (tE G E0 (evL (kMake c n fM) ea)) := by
  obtain ⟨f, fd, ps, hm, hk, hb, F⟩ := B.ex
  exact pe_imp (pe_makeG hk F (hr.mono hl) hgd hg hm hb .nil pass0 ha hdb he hpl) fun σ H Q ⟨R, ρ, s, M, w, sr, p⟩ => stepA w sr p fun R1 ρ1 M1 H1 l vs e1 w1 sr1 r1 p1 => make_sim w1 r1 p1 rfl
theorem getprop_G {pins : List (Addr × Obj)} {σ : L2.St} {H : Hp} {s : Shared} {Q : VK} {b : Bool} {a dx : Addr} {fs : List (Str × V)} (I : Inv X pins σ H s) (ea : H a = some (.ins C dx fs)) (c : Cls X.K C) (hp : PropOf X.K C m p g)
    (F : FnG X.prog X.w X.K X.mg X.base CX k g fd ps sp) (hr : Room (k + 1) X.A) (hgd : X.A.guards = some []) (hb : Binds X.K fd ps ds) (hd : Vals dvs ds) (hx : Passes CX X.nox E) (h : sp (.ref a :: dvs) H Q E) :
    wpAny (model X.prog X.w) X.A (getAttr (.ref a) m b) (EP X pins σ Q) X.xe s := by
  obtain ⟨mA, O, _, _, _, _⟩ := ins_get I.hok ea
  obtain ⟨od, J, _⟩ := O.look
  obtain ⟨rest, hrec⟩ := hp.rec_
  have I1 := I.tok (s.toks + 1)
  have hl : ([Value.ref a] ++ ds).length = ps.length := by
    rw [← F.arity _ _ _ _ h]
    show ds.length + 1 = dvs.length + 1
    rw [hd.length]
  have hc : (PySem.W.clsIn X.K C).isSome = true := by
    obtain ⟨cd, hc, _⟩ := PySem.W.any_some c.hd
    rw [hc]
    rfl
  refine PySem.W.get_bind I.kIn J (PySem.W.plainGet_of (c.get m)).1 (PySem.W.findObj_data hc hp.at_ hp.get hp.tak) (PySem.W.plainGet_of (c.get m)).2 (wpAny_call (PySem.W.prop_get (s := { s with toks := s.toks + 1 }) I.kIn hrec ?_))
  refine codeAny_mono (F.go X.A.in1 hr.in1 (by exact hgd) X.stack { s with toks := s.toks + 1 } H I1.env0.in1 ⟨[.ref a], []⟩ (.ref a :: ds) (.ref a :: dvs) (hb _ [.ref a] I1.kIn hl) (.cons rfl hd) Q E h) fun r s' hq => ?_
  cases r with
  | error er => exact False.elim (hx pins σ H { s with toks := s.toks + 1 } er s' (I1.wish _) hq)
  | ok fl =>
    cases fl with
    | ret u =>
      obtain ⟨v, H', I3, rv, q3⟩ := I1.after hq
      show wpAny _ _ (handedOut u) _ _ _
      rw [PySem.W.handedOut_of (handed_of rv)]
      exact wpAny_pure ⟨v, H', I3, rv, q3⟩
    | next => exact False.elim hq
    | brk => exact False.elim hq
    | cont => exact False.elim hq
theorem q_prop (B : PrB X.prog X.w X.K X.mg X.base G c m lv fM) (hr : Room k X.A) (hl : lv + 1 ≤ k) (hgd : X.A.guards = some []) (ha : PE X a (tE G E0 ea)) (hab : attributeBase a m X.env (eval a X.env) = eval a X.env := by rfl) :
    PE X (.Attribute a m pos) (tE G E0 (evProp c fM ea)) := by
  obtain ⟨p, f, fd, ps, hc, hp, hb, F⟩ := B.ex
  refine ⟨fun pins s σ H Q I h => ?_⟩
  have h' : tE G E0 ea σ H fun x H1 => ∃ b dx fs, x = .ref b ∧ H1 b = some (.ins (G.CA c) dx fs) ∧ spI G 1 fM [.ref b] H1 Q E0 := by
    obtain ⟨R, ρ, s', M, w, sr, p⟩ := h
    refine stepE w sr p fun R1 ρ1 M1 H1 va v e1 w1 sr1 r1 p1 => ?_
    unfold kProp at p1
    split at p1
    · split at p1
      · rename_i n' k' l' hc'
        split at p1
        · rename_i ek
          subst ek
          obtain ⟨b, dx, vs, rfl, _, hb', _⟩ := ins_read w1 r1 hc'
          exact ⟨b, dx, vs, rfl, hb', rfl, R1, ρ1, M1, _, w1, .cons r1 .nil, p1⟩
        · exact p1.elim
      · exact p1.elim
    · exact p1.elim
  refine attr_of hab (thn (ha.run pins s σ H _ I h') fun u s1 ⟨x, H1, I1, rx, b, dx, fs, ex, eb, q⟩ => ?_)
  subst ex
  obtain rfl : u = Value.ref b := rx
  exact getprop_G I1 eb hc hp F (hr.mono hl) hgd hb .nil pass0 q
theorem meth_obj {R : Hp} {ρ : List Addr} {M : Store} {H : Hp} {va : Va} {v : V} (w : Wd G R ρ M H) (r : VR G R ρ va v) (h : isObj c m M va = true) : ∃ b dx fs, v = .ref b ∧ H b = some (.ins (G.CA c) dx fs) ∧ fs.lookup m = none := by
  unfold isObj at h
  split at h
  · split at h
    · rename_i n' k' l' hc'
      rw [Bool.and_eq_true, decide_eq_true_eq] at h
      obtain ⟨ek, hl⟩ := h
      subst ek
      obtain ⟨b, dx, vs, rfl, _, hb', rf⟩ := ins_read w r hc'
      exact ⟨b, dx, vs, rfl, hb', rf.none (by simpa using hl)⟩
    · cases h
  · cases h
theorem q_meth {pl : Sem Bool} (B : MeB X.prog X.w X.K X.mg X.base G c m lv n fM) (hr : Room k X.A) (hl : lv ≤ k) (hgd : X.A.guards = some []) (ho : PE X o (tE G E0 eo)) (ha : PA X (e :: es) (tA G E0 ea))
    (hst : starEach (e :: es) X.env = (false, eval e X.env) :: starEach es X.env := by rfl) (hpl : (backTo pos (starEach es X.env)).any (·.1) = false := by rfl)
    (ht : eval (.Call (.Attribute o m apos) (e :: es) [] pos) X.env = (do
      let ov ← eval o X.env
      standAt apos.atName
      let (f, first) ← holding [ov] (getMethod ov m pl)
      callWith pos f first (backTo pos (starEach (e :: es) X.env)) (backToKw pos (keywordEach [] X.env))) := by rfl) :
    PE X (.Call (.Attribute o m apos) (e :: es) [] pos) (tE G E0 (evMeth c m n fM eo ea)) := by
  obtain ⟨f, fd, ps, hc, hm, hb, F⟩ := B.ex
  refine ⟨fun pins s σ H Q I h => ?_⟩
  have h' : tE G E0 eo σ H fun x H1 => ∃ b dx fs, x = .ref b ∧ H1 b = some (.ins (G.CA c) dx fs) ∧ fs.lookup m = none ∧ tA G E0 ea σ H1 fun vs H2 => spI G (n + 1) fM (x :: vs) H2 Q E0 := by
    obtain ⟨R, ρ, s', M, w, sr, p⟩ := h
    refine stepE w sr p fun R1 ρ1 M1 H1 va v e1 w1 sr1 r1 p1 => ?_
    split at p1
    · rename_i hob
      obtain ⟨b, dx, fs, rfl, hb', hn⟩ := meth_obj w1 r1 hob
      refine ⟨b, dx, fs, rfl, hb', hn, stepA w1 sr1 p1 fun R2 ρ2 M2 H2 l vs e2 w2 sr2 r2 p2 => ?_⟩
      by_cases hl : l.length = n
      · rw [if_pos hl] at p2
        exact ⟨by rw [List.length_cons, ← r2.length, hl], R2, ρ2, M2, va :: l, w2, .cons (r1.mono e2.gr) r2, p2⟩
      · rw [if_neg hl] at p2; exact p2.elim
    · exact p1.elim
  refine PySem.W.methodCall_KW (pl := pl) (thn (ho.run pins s σ H _ I h') fun u s1 ⟨x, H1, I1, rx, b, dx, fs, ex, ea, l, q⟩ => ?_) ht
  subst ex
  obtain rfl : u = Value.ref b := rx
  refine getmeth_ok I1 ea hc hm l ?_
  refine PySem.W.callWith_K (first := [.ref b]) (h₀ := X.base) I.ok.mod.kin hm.kp (thn (ha.run pos pins s1 σ H1 _ I1 q) fun us s2 ⟨vs, H2, I2, r, q2⟩ => ⟨I2.kIn, ?_⟩) hst hpl
  exact run_fnG (us := .ref b :: us) (vs := .ref b :: vs) F (hr.mono hl) hgd hb .nil pass0 I2 (.cons rfl r) (by rw [List.append_nil]; exact q2)
theorem q_meth0 {pl : Sem Bool} (B : MeB X.prog X.w X.K X.mg X.base G c m lv 0 fM) (hr : Room k X.A) (hl : lv ≤ k) (hgd : X.A.guards = some []) (ho : PE X o (tE G E0 eo))
    (ht : eval (.Call (.Attribute o m apos) [] [] pos) X.env = (do
      let ov ← eval o X.env
      standAt apos.atName
      let (f, first) ← holding [ov] (getMethod ov m pl)
      callWith pos f first (backTo pos (starEach [] X.env)) (backToKw pos (keywordEach [] X.env))) := by rfl) :
    PE X (.Call (.Attribute o m apos) [] [] pos) (tE G E0 (evMeth c m 0 fM eo evNil)) := by
  obtain ⟨f, fd, ps, hc, hm, hb, F⟩ := B.ex
  refine ⟨fun pins s σ H Q I h => ?_⟩
  have h' : tE G E0 eo σ H fun x H1 => ∃ b dx fs, x = .ref b ∧ H1 b = some (.ins (G.CA c) dx fs) ∧ fs.lookup m = none ∧ spI G 1 fM [x] H1 Q E0 := by
    obtain ⟨R, ρ, s', M, w, sr, p⟩ := h
    refine stepE w sr p fun R1 ρ1 M1 H1 va v e1 w1 sr1 r1 p1 => ?_
    split at p1
    · rename_i hob
      obtain ⟨b, dx, fs, rfl, hb', hn⟩ := meth_obj w1 r1 hob
      exact ⟨b, dx, fs, rfl, hb', hn, rfl, R1, ρ1, M1, [va], w1, .cons r1 .nil, p1⟩
    · exact p1.elim
  refine PySem.W.methodCall_KW (pl := pl) (thn (ho.run pins s σ H _ I h') fun u s1 ⟨x, H1, I1, rx, b, dx, fs, ex, ea, l, q⟩ => ?_) ht
  subst ex
  obtain rfl : u = Value.ref b := rx
  refine getmeth_ok I1 ea hc hm l ?_
  exact PySem.W.callWith_K0 (first := [.ref b]) I1.kIn hm.kp (run_fnG (us := [.ref b]) (vs := [.ref b]) F (hr.mono hl) hgd hb .nil pass0 I1 (.cons rfl .nil) (by exact q))
/-- == of two objects of a class with its own -/
structure EqB (P : Program) (w : World) (K : PySem.W.Frag) (mg : Str → Option Value) (base : Heap) (G : Sig) (c : Nat) (lv : Nat) (fM : FM) : Prop where
  ex : ∃ (f : Addr) (fd : FuncData) (ps : List Str), PySem.W.findIn K (.ref (G.CA c)) "__eq__" = some (some (.ref f)) ∧ PySem.W.isFn K (.ref f) = true ∧ Binds K fd ps [] ∧ FnG P w K mg base CX0 lv f fd ps (spI G 2 fM)
def rOwnEq (G : Sig) (c : Nat) (fM : FM) : R2 := fun x y H Q => ∃ a b dx dy fs gs, x = .ref a ∧ y = .ref b ∧ H a = some (.ins (G.CA c) dx fs) ∧ H b = some (.ins (G.CA c) dy gs) ∧ spI G 2 fM [.ref a, .ref b] H Q E0
theorem op_eqOwn (B : EqB X.prog X.w X.K X.mg X.base G c lv fM) (hr : Room k X.A) (hl : lv ≤ k) (hgd : X.A.guards = some []) : OpR X (compareOp .Eq) (rOwnEq G c fM) := by
  intro pins s σ H x y v u Q I rx ry ⟨a, b, dx, dy, fs, gs, ex, ey, ha, hb', hsp⟩
  obtain ⟨f, fd, ps, hs, hf, hb, F⟩ := B.ex
  subst ex ey
  cases rx
  cases ry
  obtain ⟨mA, J, _⟩ := ins_get I.hok ha
  obtain ⟨mB, J', _⟩ := ins_get I.hok hb'
  obtain ⟨od, J, _⟩ := J.look
  obtain ⟨od', J', _⟩ := J'.look
  obtain ⟨m, hF⟩ := I.fr
  refine PySem.W.cmp_K (op := .Eq) (tb := .ref (G.CA c)) hr.units0 hF I.ok.mod.kin J J'.type (by simp [PySem.W.notFirst]) hs hf ?_
  refine wpAny_mono (run_fnG (us := [.ref a, .ref b]) (vs := [.ref a, .ref b]) F (hr.mono hl) hgd hb .nil pass0 I (.cons rfl (.cons rfl .nil)) (by exact hsp)) (fun r s' hq => ?_) fun _ _ x => x
  obtain ⟨z, H', I', rz, q⟩ := hq
  cases r with
  | notImplemented =>
    cases z <;> first
      | (obtain ⟨_, e⟩ := rz; exact (nomatch e))
      | exact (nomatch rz)
  | _ => exact ⟨z, H', I', rz, q⟩
noncomputable def evEqOwn (c : Nat) (f : FM) (ea eb : SE) : SE := fun s M => bindO (ea s M) fun va M1 => bindO (eb s M1) fun vb M2 => if isObj c "" M2 va = true ∧ isObj c "" M2 vb = true then f [va, vb] M2 else (match opEq M2 va vb with
  | some r => some (.val r, M2)
  | none => none)
theorem own_sim {r : R2} {a b : Expr} {ea eb : SE} (hs : Op2 G r opEq) {σ : L2.St} {H : Hp} {Q : VK} (h : tE G E0 (evEqOwn c fM ea eb) σ H Q) : tOp (fun x y H Q => r x y H Q ∨ rOwnEq G c fM x y H Q) (tE G E0 ea) (tE G E0 eb) σ H Q := by
  obtain ⟨R, ρ, s', M, w, sr, p⟩ := h
  refine stepE w sr p fun R1 ρ1 M1 H1 va v e1 w1 sr1 r1 p1 => stepE w1 sr1 p1 fun R2 ρ2 M2 H2 vb u e2 w2 sr2 r2 p2 => ?_
  have r1' := r1.mono e2.gr
  split at p2
  · rename_i hob
    obtain ⟨a, dx, fs, rfl, ha, _⟩ := meth_obj w2 r1' hob.1
    obtain ⟨b, dy, gs, rfl, hb, _⟩ := meth_obj w2 r2 hob.2
    exact .inr ⟨a, b, dx, dy, fs, gs, rfl, rfl, ha, hb, rfl, R2, ρ2, M2, [va, vb], w2, .cons r1' (.cons r2 .nil), p2⟩
  · refine .inl ?_
    cases q : opEq M2 va vb with
    | none => rw [q] at p2; exact p2.elim
    | some res => rw [q] at p2; exact hs R2 ρ2 M2 H2 v u va vb res Q w2 r1' r2 q p2
theorem q_eqOwn {r : R2} {a b : Expr} {ea eb : SE} (B : EqB X.prog X.w X.K X.mg X.base G c lv fM) (hr : Room k X.A) (hl : lv ≤ k) (hgd : X.A.guards = some []) (ho : OpR X (compareOp .Eq) r) (hs : Op2 G r opEq) (ha : PE X a (tE G E0 ea)) (hb : PE X b (tE G E0 eb)) :
    PE X (.Compare a [.Eq] [b] pos) (tE G E0 (evEqOwn c fM ea eb)) :=
  pe_imp (pe_cmpR (OpR.or ho (op_eqOwn B hr hl hgd)) ha hb (nomark _)) fun σ H Q h => own_sim (a := a) (b := b) hs h
theorem qt_eqOwn {r : R2} {a b : Expr} {ea eb : SE} (B : EqB X.prog X.w X.K X.mg X.base G c lv fM) (hr : Room k X.A) (hl : lv ≤ k) (hgd : X.A.guards = some []) (ho : OpR X (compareOp .Eq) r) (hs : Op2 G r opEq) (ha : PE X a (tE G E0 ea)) (hb : PE X b (tE G E0 eb)) :
    PT X (.Compare a [.Eq] [b] pos) (tT G E0 (evEqOwn c fM ea eb)) :=
  pt_imp (pt_cmpR (OpR.or ho (op_eqOwn B hr hl hgd)) ha hb (nomark _)) fun σ H Q h => own_sim (a := a) (b := b) hs (toT h)
end
end PV

set_option Elab.async false
set_option linter.all false
set_option maxRecDepth 100000
set_option maxHeartbeats 4000000
namespace PV
open PySem L2
open PyProof.Rows

/-! ### x += e -/
def augO (x y : Va) (M : Store) : Option (Va × Store) := match x with
  | .int i => (match y with
    | .int j => some (.int (i + j), M)
    | _ => none)
  | .str a => (match y with
    | .str b => if a.length + b.length ≤ sizeLine then some (.str (a ++ b), M) else none
    | _ => none)
  | .cel n => (match M.c n, ownOf M y with
    | some (.lst l), some m => if l.length + m.length ≤ sizeLine then some (.cel n, M.put n (.lst (l ++ m))) else none
    | _, _ => none)
  | _ => none
def sAug (i : Nat) (e : SE) : SS := fun s M => match s[i]? with
  | some (some x) => (match e s M with
    | some (.val y, M1) => (match augO x y M1 with
      | some (z, M2) => some (.nx, s.set i (some z), M2)
      | none => none)
    | some (.exc c v, M1) => some (.exc c v, s, M1)
    | none => none)
  | _ => none
def ipAny : TIp := fun x y H Q => (ipI (fun i j => i + j) x y H Q ∨ rAddS x y H Q) ∨ rExt2 x y H Q
section
variable {X : Cx} {G : Sig} {E : XK} {e : Expr} {ee : SE} {pos pos' : Pos} {i : Nat} {x : Str}
theorem pip_any : PIp X .Add ipAny := by
  intro pins s σ H x y v u Q I rx ry h
  rcases h with (h | h) | h
  · exact ip_add pins s σ H x y v u Q I rx ry h
  · exact in_addS pins s σ H x y v u Q I rx ry h
  · exact iop_ext pins s σ H x y v u Q I rx ry h
theorem aug_sim {R : Hp} {ρ : List Addr} {M M' : Store} {H : Hp} {vx vy z : Va} {x y : V} {Q : VK} (w : Wd G R ρ M H) (rx : VR G R ρ vx x) (ry : VR G R ρ vy y) (h : augO vx vy M = some (z, M')) (g : Gives G R ρ H M' z Q) : ipAny x y H Q := by
  unfold augO at h
  split at h
  · split at h
    · cases h; cases rx; cases ry
      exact .inl (.inl ⟨_, _, rfl, rfl, gives_now w (.int _) g⟩)
    · cases h
  · split at h
    · cases rx; cases ry
      split at h
      · rename_i hz; cases h
        exact .inl (.inr ⟨_, _, rfl, rfl, hz, gives_now w (.str _) g⟩)
      · cases h
    · cases h
  · rename_i n
    split at h
    · rename_i l m hc hm
      split at h
      · rename_i hz; cases h
        obtain ⟨b, zs, ey, hb, rz, _⟩ := own_read w ry hm
        cases rx with
        | cel en =>
          obtain ⟨a, e1, ra, vs, ha, z, r0⟩ := w.cel n _ hc
          rw [en] at e1
          cases e1
          refine .inr ⟨_, b, vs, zs, rfl, ey, ha, hb, by rw [← r0.length, ← rz.length]; exact hz, ?_⟩
          obtain ⟨ex, wd⟩ := write_cel (o := .lst (vs ++ zs)) (y := .lst (l ++ m)) w hc en ⟨_, upd_same, by rw [List.length_append]; exact hz, r0.append rz⟩
          exact g _ _ _ _ ex wd (.cel en)
      · cases h
    · cases h
  · cases h
theorem qs_aug (i : Nat) (hN : X.N.Nodup) (hi : X.N[i]? = some x) (hx : Loc X.env.scope x) (he : PE X e (tE G E ee)) (hf : X.fn x = true ∨ X.env.scope.names.lookup x = some .local := by first | exact .inl rfl | exact .inr rfl | assumption) :
    PS X (.AugAssign (.Name x pos') .Add e pos) (tS G E (sAug i ee)) :=
  ps_imp (ps_aug hN hi hx he pip_any hf) fun D σ H ⟨R, ρ, s, M, w, sr, p⟩ => by
    unfold sAug at p
    split at p
    · rename_i vx hv
      obtain ⟨xv, hxv, rx⟩ := sr.at_ i vx hv
      refine ⟨xv, hxv, R, ρ, s, M, w, sr, ?_⟩
      rcases q : ee s M with _ | ⟨y | ⟨c, y⟩, M1⟩ <;> rw [q] at p
      · exact p
      · intro R1 ρ1 H1 yv e1 w1 r1
        dsimp only at p
        cases q2 : augO vx y M1 with
        | none => rw [q2] at p; exact p.elim
        | some zz =>
          obtain ⟨z, M2⟩ := zz
          rw [q2] at p
          refine aug_sim w1 (rx.mono e1.gr) r1 q2 fun R2 ρ2 H2 zv e2 w2 r2 => ?_
          exact p R2 ρ2 H2 _ (e1.trans e2) w2 ((sr.mono (e1.trans e2).gr).set i r2)
      · exact p
    · exact p.elim

/-! ### xs[::-1] -/
def opRev (M : Store) (x : Va) : Option Va := (lstOf M x).map fun l => .lst l.reverse
theorem q_rev {k : Nat} {p1 p2 p3 : Pos} (hK : X.K = G.K) (he : PE X e (tE G E ee)) : PE X (.Subscript e (.Slice none none (some (.UnaryOp .USub (.Constant (.int 1) k p1) p2)) p3) pos) (tE G E (ev1 opRev ee)) :=
  pe_imp (pe_revL he) fun σ H Q ⟨R, ρ, s, M, w, sr, p⟩ => stepE w sr p fun R1 ρ1 M1 H1 va v e1 w1 sr1 r1 p1 => by
    unfold opRev at p1
    cases q : lstOf M1 va with
    | none => rw [q] at p1; exact p1.elim
    | some l =>
      rw [q] at p1
      obtain ⟨a, vs, rfl, sq, rv, z⟩ := lst_read w1 r1 q
      exact ⟨a, vs, rfl, by rw [hK]; exact sq, fun p hp => gives_lst w1 rv.reverse (by rw [List.length_reverse]; exact z) p1 hp⟩

/-! ### f-strings -/
def evFmt (e : SE) : SE := ev1 (fun _ v => match v with
  | .str a => if a.length ≤ sizeLine then some (.str a) else none
  | .int i => if i.natAbs.log2 < 1920 then some (.str (toString i)) else none
  | _ => none) e
theorem q_fmt (he : PE X e (tE G E ee)) : PE X (.FormattedValue e (-1) none pos) (tE G E (evFmt ee)) :=
  pe_imp (pe_fmt he) fun σ H Q ⟨R, ρ, s, M, w, sr, p⟩ => stepE w sr p fun R1 ρ1 M1 H1 va v e1 w1 sr1 r1 p1 => by
    cases r1 <;> first | exact p1.elim | skip
    · rename_i i
      dsimp only at p1
      split at p1
      · rename_i q
        split at q
        · cases q
          rename_i hz
          exact .inr ⟨_, rfl, hz, gives_now w1 (.str _) p1⟩
        · cases q
      · exact p1.elim
    · rename_i a
      dsimp only at p1
      split at p1
      · rename_i q
        split at q
        · cases q
          rename_i hz
          exact .inl ⟨_, rfl, hz, gives_now w1 (.str _) p1⟩
        · cases q
      · exact p1.elim
def evJs : List SE → Str → SE
  | [], acc => fun _ M => some (.val (.str acc), M)
  | e :: r, acc => fun s M => bindO (e s M) fun v M1 => match v with
    | .str y => if (acc ++ y).length ≤ sizeLine then evJs r (acc ++ y) s M1 else none
    | _ => none
theorem js_sim {σ : L2.St} : ∀ (es : List SE) {R : Hp} {ρ : List Addr} {M : Store} {H : Hp} {s : SL} {Q : VK} (acc : Str), Wd G R ρ M H → SR G R ρ s σ → Post G R ρ H (evJs es acc s M) Q E → tJs (es.map fun e => tE G E e) acc σ H fun out H1 => Q (.str out) H1
  | [], R, ρ, M, H, s, Q, acc, w, sr, p => p R ρ H _ Ext.refl w (.str _)
  | e :: r, R, ρ, M, H, s, Q, acc, w, sr, p => by
    show tE G E e σ H fun x H1 => ∃ y : Str, x = .str y ∧ (acc ++ y).length ≤ sizeLine ∧ tJs (r.map fun e => tE G E e) (acc ++ y) σ H1 fun out H1 => Q (.str out) H1
    refine stepE w sr p fun R1 ρ1 M1 H1 va v e1 w1 sr1 r1 p1 => ?_
    cases r1 <;> first | exact p1.elim | skip
    rename_i y
    dsimp only at p1
    split at p1
    · rename_i hz
      exact ⟨y, rfl, hz, js_sim r (acc ++ y) w1 sr1 p1⟩
    · exact p1.elim
theorem qj_nil : PJ X [] (([] : List SE).map fun e => tE G E e) := .nil
theorem qj_cons {es : List Expr} {ts : List SE} (h : PE X e (tE G E ee)) (r : PJ X es (ts.map fun e => tE G E e)) : PJ X (e :: es) ((ee :: ts).map fun e => tE G E e) := .cons h r
theorem q_joined {v1 v2 : Expr} {rest : List Expr} {ts : List SE} (h : PJ X (v1 :: v2 :: rest) (ts.map fun e => tE G E e)) : PE X (.JoinedStr (v1 :: v2 :: rest) pos) (tE G E (evJs ts Str.empty)) :=
  pe_imp (pe_joined h) fun σ H Q ⟨R, ρ, s, M, w, sr, p⟩ => js_sim ts _ w sr p

/-! ### enumerate, zip -/
def enumL : Nat → List Va → List Va
  | _, [] => []
  | i, x :: r => .tup [.int (i : Nat), x] :: enumL (i + 1) r
theorem enumL_get : ∀ (l : List Va) (k i : Nat), (enumL k l)[i]? = l[i]?.map fun x => .tup [.int ((k + i : Nat) : Int), x]
  | [], _, _ => by simp [enumL]
  | x :: r, k, 0 => by simp [enumL]
  | x :: r, k, i + 1 => by
    rw [enumL, List.getElem?_cons_succ, List.getElem?_cons_succ, enumL_get r (k + 1) i]
    have : k + 1 + i = k + (i + 1) := by omega
    rw [this]
theorem enumL_len : ∀ (l : List Va) (k : Nat), (enumL k l).length = l.length
  | [], _ => rfl
  | x :: r, k => by rw [enumL, List.length_cons, List.length_cons, enumL_len r]
def itEn (e : SE) : SI := fun s M => match e s M with
  | none => none
  | some (.val (.tup [v]), M1) => (match lstOf M1 v with
    | some l => some (.it (enumL 0 l) (fun M => lstOf M v = some l), M1)
    | none => none)
  | some (.val _, _) => none
  | some (.exc c v, M1) => some (.exc c v, M1)
theorem qi_enum {p tpos : Pos} {elts : List Expr} {kk : Nat} (hK : X.K = G.K) (hg : Gl X "enumerate") (hm : X.mg "enumerate" = none) (ha : PA X [e] (tA G E ee)) (hs : starEach [e] X.env = [(false, eval e X.env)] := by rfl) :
    PI X (.Tuple elts kk tpos) (.Call (.Name "enumerate" p) [e] [] pos) (tI G E (itEn ee)) :=
  pi_imp (pi_enum hg hm ha hs) fun σ H Q ⟨R, ρ, s, M, w, sr, p⟩ => by
    refine ⟨R, ρ, s, M, w, sr, ?_⟩
    unfold itEn at p
    rcases q : ee s M with _ | ⟨x | ⟨c, x⟩, M1⟩ <;> rw [q] at p
    · exact p
    · split at p
      · rename_i h; cases h
      · rename_i v M2 h
        cases h
        intro R1 ρ1 H1 vs e1 w1 r1
        obtain ⟨xv, rfl, rx⟩ := one_of r1
        cases q2 : lstOf M1 v with
        | none => rw [q2] at p; exact p.elim
        | some l =>
          rw [q2] at p
          obtain ⟨ad, vs, rfl, hv, rv, hz⟩ := lst_read w1 rx q2
          refine ⟨ad, vs, rfl, by rw [hK]; exact hv, p R1 ρ1 H1 (Ite X.K ad) e1 w1 (by rw [enumL_len]; exact hz) fun R2 ρ2 M2 H2 g2 w2 ck => ?_⟩
          obtain ⟨ad', vs', e', hv', rv', _⟩ := lst_read w2 (rx.mono g2) ck
          cases e'
          rw [hK]
          refine ⟨fun i y hy => ?_, fun i hi => ⟨vs', hv', by rw [← rv'.length, ← enumL_len l 0]; exact hi⟩⟩
          rw [enumL_get] at hy
          cases q3 : l[i]? with
          | none => rw [q3] at hy; cases hy
          | some y' =>
            rw [q3] at hy
            cases hy
            obtain ⟨u, hu, ru⟩ := rv'.get q3
            refine ⟨⟨vs', u, hv', hu⟩, fun v H' ⟨T, x', e3, hT, h3, h4⟩ => ?_⟩
            subst e3 h3
            have := h4 vs' hv'
            rw [hu] at this
            cases this
            obtain ⟨ex, wd⟩ := alloc_frz (o := .tup [.int (i : Nat), u]) w2 hT
            refine ⟨_, ex, wd, .tup upd_same (by show 2 ≤ sizeLine; decide) (.cons ?_ (.cons (ru.mono ex.gr) .nil))⟩
            rw [Nat.zero_add]
            exact .int _
      · exact p.elim
      · rename_i h; cases h
    · exact p
def zipL : List Va → List Va → List Va
  | x :: r, y :: t => .tup [x, y] :: zipL r t
  | _, _ => []
theorem zipL_get : ∀ (l m : List Va) (i : Nat) (z : Va), (zipL l m)[i]? = some z → ∃ x y, l[i]? = some x ∧ m[i]? = some y ∧ z = .tup [x, y]
  | [], _, i, z, h => by simp [zipL] at h
  | _ :: _, [], i, z, h => by simp [zipL] at h
  | x :: r, y :: t, 0, z, h => by simp [zipL] at h; exact ⟨x, y, rfl, rfl, h.symm⟩
  | x :: r, y :: t, i + 1, z, h => by
    rw [zipL, List.getElem?_cons_succ] at h
    obtain ⟨x', y', h1, h2, h3⟩ := zipL_get r t i z h
    exact ⟨x', y', by rw [List.getElem?_cons_succ]; exact h1, by rw [List.getElem?_cons_succ]; exact h2, h3⟩
theorem zipL_len : ∀ (l m : List Va), (zipL l m).length = min l.length m.length
  | [], _ => by simp [zipL]
  | _ :: _, [] => by simp [zipL]
  | x :: r, y :: t => by
    rw [zipL, List.length_cons, List.length_cons, List.length_cons, zipL_len r t]
    omega
def itZp (e : SE) : SI := fun s M => match e s M with
  | none => none
  | some (.val (.tup [v, u]), M1) => (match lstOf M1 v, lstOf M1 u with
    | some l, some m => some (.it (zipL l m) (fun M => lstOf M v = some l ∧ lstOf M u = some m), M1)
    | _, _ => none)
  | some (.val _, _) => none
  | some (.exc c v, M1) => some (.exc c v, M1)
theorem qi_zip {p tpos : Pos} {elts : List Expr} {kk : Nat} {e2 : Expr} (hK : X.K = G.K) (hg : Gl X "zip") (hm : X.mg "zip" = none) (ha : PA X [e, e2] (tA G E ee))
    (hs : starEach [e, e2] X.env = (false, eval e X.env) :: starEach [e2] X.env := by rfl) (hpl : (backTo pos (starEach [e2] X.env)).any (·.1) = false := by rfl) :
    PI X (.Tuple elts kk tpos) (.Call (.Name "zip" p) [e, e2] [] pos) (tI G E (itZp ee)) :=
  pi_imp (pi_zip hg hm ha hs hpl) fun σ H Q ⟨R, ρ, s, M, w, sr, p⟩ => by
    refine ⟨R, ρ, s, M, w, sr, ?_⟩
    unfold itZp at p
    rcases q : ee s M with _ | ⟨x | ⟨c, x⟩, M1⟩ <;> rw [q] at p
    · exact p
    · split at p
      · rename_i h; cases h
      · rename_i v u M2 h
        cases h
        intro R1 ρ1 H1 vs e1 w1 r1
        obtain ⟨xv, yv, rfl, rx, ry⟩ := two_of r1
        split at p
        · rename_i l m q2 q3
          obtain ⟨ad, vs, rfl, hv, rv, hz⟩ := lst_read w1 rx q2
          obtain ⟨bd, us, rfl, hu, ru, hy⟩ := lst_read w1 ry q3
          refine ⟨ad, bd, vs, us, rfl, by rw [hK]; exact hv, by rw [hK]; exact hu, p R1 ρ1 H1 (Itz X.K ad bd) e1 w1 (by rw [zipL_len]; omega) fun R2 ρ2 M2 H2 g2 w2 ck => ?_⟩
          obtain ⟨ad', vs', e', hv', rv', _⟩ := lst_read w2 (rx.mono g2) ck.1
          cases e'
          obtain ⟨bd', us', e'', hu', ru', _⟩ := lst_read w2 (ry.mono g2) ck.2
          cases e''
          rw [hK]
          refine ⟨fun i z hz => ?_, fun i hi => ⟨vs', us', hv', hu', by rw [← rv'.length, ← ru'.length]; rw [zipL_len] at hi; omega⟩⟩
          obtain ⟨x, y, hx, hy, rfl⟩ := zipL_get l m i z hz
          obtain ⟨xu, hxu, rxu⟩ := rv'.get hx
          obtain ⟨yu, hyu, ryu⟩ := ru'.get hy
          refine ⟨⟨vs', us', xu, yu, hv', hu', hxu, hyu⟩, fun v H' ⟨T, x', y', e3, hT, h3, h4, h5⟩ => ?_⟩
          subst e3 h3
          have a1 := h4 vs' hv'
          have a2 := h5 us' hu'
          rw [hxu] at a1
          rw [hyu] at a2
          cases a1
          cases a2
          obtain ⟨ex, wd⟩ := alloc_frz (o := .tup [xu, yu]) w2 hT
          exact ⟨_, ex, wd, .tup upd_same (by show 2 ≤ sizeLine; decide) (.cons (rxu.mono ex.gr) (.cons (ryu.mono ex.gr) .nil))⟩
        · exact p.elim
      · exact p.elim
      · rename_i h; cases h
    · exact p
end
end PV

set_option Elab.async false
set_option linter.all false
set_option maxRecDepth 100000
set_option maxHeartbeats 4000000
namespace PV
open PySem L2
open PyProof.Rows

/-! ### lists of unlike length are not equal, whatever they hold -/
def rEqLen (K : PySem.W.Frag) : R2 := fun x y H Q => ∃ a b xs ys, x = .ref a ∧ y = .ref b ∧ SqL K H a xs ∧ SqL K H b ys ∧ xs.length ≠ ys.length ∧ Q (.bl false) H
section
variable {X : Cx} {G : Sig} {k : Nat}
theorem op_eqLen (hr : Room k X.A) : OpR X (compareOp .Eq) (rEqLen X.K) := by
  intro pins s σ H x y v u Q I rx ry ⟨a, b, xs, ys, ex, ey, sx, sy, hne, q⟩
  subst ex ey
  cases rx
  cases ry
  obtain ⟨its, rv, ⟨⟨c1, d1, t1, l1⟩, n, ho, hc, hdn, hd⟩, _⟩ := I.list sx
  obtain ⟨its2, rv2, ⟨⟨c2, d2, t2, l2⟩, n2, ho2, hc2, hdn2, hd2⟩, _⟩ := I.list sy
  simp only at hc hd hc2 hd2
  subst hc hd hc2 hd2
  have hsz : (its.toArray.size != its2.toArray.size) = true := by
    rw [List.size_toArray, List.size_toArray, ← rv.length, ← rv2.length]
    simpa using hne
  exact wpAny_richCompare_same_room (op := .Eq) ⟨_, ho, rfl⟩ ⟨_, ho2, rfl⟩ F.slot_list_eq (call_meets F.slot_list_eq ⟨_, ho, rfl⟩ F.entry_list_eq (F.args_list_eq_2 _ _) (SeqAt.list_eq_lengthsAt a b _ _ n n2 d1 d2 l1 l2 hsz) ⟨ho, ho2, (fun z => nomatch z), .bl false, H, I, rfl, q⟩) hr.units0
def rNeLen (K : PySem.W.Frag) : R2 := fun x y H Q => ∃ a b xs ys, x = .ref a ∧ y = .ref b ∧ SqL K H a xs ∧ SqL K H b ys ∧ xs.length ≠ ys.length ∧ Q (.bl true) H
theorem op_neLen (hr : Room k X.A) : OpR X (compareOp .NotEq) (rNeLen X.K) := by
  intro pins s σ H x y v u Q I rx ry ⟨a, b, xs, ys, ex, ey, sx, sy, hne, q⟩
  subst ex ey
  cases rx
  cases ry
  obtain ⟨its, rv, ⟨⟨c1, d1, t1, l1⟩, n, ho, hc, hdn, hd⟩, _⟩ := I.list sx
  obtain ⟨its2, rv2, ⟨⟨c2, d2, t2, l2⟩, n2, ho2, hc2, hdn2, hd2⟩, _⟩ := I.list sy
  simp only at hc hd hc2 hd2
  subst hc hd hc2 hd2
  have hsz : (its.toArray.size != its2.toArray.size) = true := by
    rw [List.size_toArray, List.size_toArray, ← rv.length, ← rv2.length]
    simpa using hne
  exact wpAny_richCompare_same_room (op := .NotEq) ⟨_, ho, rfl⟩ ⟨_, ho2, rfl⟩ F.slot_list_ne (call_meets F.slot_list_ne ⟨_, ho, rfl⟩ F.entry_list_ne (F.args_list_ne_2 _ _) (SeqAt.list_ne_lengthsAt a b _ _ n n2 d1 d2 l1 l2 hsz) ⟨ho, ho2, (fun z => nomatch z), .bl true, H, I, rfl, q⟩) hr.units0
noncomputable def opEqX (M : Store) (a b : Va) : Option Va := match opEq M a b with
  | some r => some r
  | none => (match lstOf M a, lstOf M b with
    | some l, some m => if l.length ≠ m.length then some (.bl false) else none
    | _, _ => none)
noncomputable def opNeX (M : Store) (a b : Va) : Option Va := match opNe M a b with
  | some r => some r
  | none => (match lstOf M a, lstOf M b with
    | some l, some m => if l.length ≠ m.length then some (.bl true) else none
    | _, _ => none)
theorem s_eqX {r : R2} (hK : X.K = G.K) (hs : Op2 G r opEq) : Op2 G (fun x y H Q => r x y H Q ∨ rEqLen X.K x y H Q) opEqX := by
  intro R ρ M H x y va vb res Q w ra rb h g
  unfold opEqX at h
  split at h
  · rename_i r' h'
    cases h
    exact .inl (hs R ρ M H x y va vb _ Q w ra rb h' g)
  · split at h
    · rename_i l m hl hm
      split at h
      · rename_i hne
        cases h
        obtain ⟨a, vs, ex, sa, rv, _⟩ := lst_read w ra hl
        obtain ⟨b, us, ey, sb, ru, _⟩ := lst_read w rb hm
        exact .inr ⟨a, b, vs, us, ex, ey, by rw [hK]; exact sa, by rw [hK]; exact sb, by rw [← rv.length, ← ru.length]; exact hne, gives_now w (.bl _) g⟩
      · cases h
    · cases h
theorem s_neX {r : R2} (hK : X.K = G.K) (hs : Op2 G r opNe) : Op2 G (fun x y H Q => r x y H Q ∨ rNeLen X.K x y H Q) opNeX := by
  intro R ρ M H x y va vb res Q w ra rb h g
  unfold opNeX at h
  split at h
  · rename_i r' h'
    cases h
    exact .inl (hs R ρ M H x y va vb _ Q w ra rb h' g)
  · split at h
    · rename_i l m hl hm
      split at h
      · rename_i hne
        cases h
        obtain ⟨a, vs, ex, sa, rv, _⟩ := lst_read w ra hl
        obtain ⟨b, us, ey, sb, ru, _⟩ := lst_read w rb hm
        exact .inr ⟨a, b, vs, us, ex, ey, by rw [hK]; exact sa, by rw [hK]; exact sb, by rw [← rv.length, ← ru.length]; exact hne, gives_now w (.bl _) g⟩
      · cases h
    · cases h

/-! ### a joined list, a repeated one, {} as they will change or not -/
def evCatC (ea eb : SE) : SE := fun s M => bindO (ea s M) fun va M1 => bindO (eb s M1) fun vb M2 => match ownOf M2 va, ownOf M2 vb with
  | some l, some m => if l.length + m.length ≤ sizeLine then some (.val (.cel M2.nx), M2.new (.lst (l ++ m))) else none
  | _, _ => none
theorem q_catC {E : XK} {a b : Expr} {ea eb : SE} {pos : Pos} (ha : PE X a (tE G E ea)) (hb : PE X b (tE G E eb)) : PE X (.BinOp a .Add b pos) (tE G E (evCatC ea eb)) :=
  pe_imp (pe_op op_cat ha hb) fun σ H Q ⟨R, ρ, s, M, w, sr, p⟩ => stepE w sr p fun R1 ρ1 M1 H1 va v e1 w1 sr1 r1 p1 => stepE w1 sr1 p1 fun R2 ρ2 M2 H2 vb u e2 w2 sr2 r2 p2 => by
    split at p2
    · rename_i l m hl hm
      split at p2
      · rename_i hz
        obtain ⟨a, vs, rfl, ha, rv, _⟩ := own_read w2 (r1.mono e2.gr) hl
        obtain ⟨b, us, rfl, hb, ru, _⟩ := own_read w2 r2 hm
        exact ⟨a, b, vs, us, rfl, rfl, ha, hb, by rw [← rv.length, ← ru.length]; exact hz, fun p hp => gives_new w2 (rv.append ru) (by rw [List.length_append]; exact hz) p2 hp⟩
      · exact p2.elim
    · exact p2.elim
def evDNewF : SE := evC (.dic [])
theorem q_dnewF {E : XK} {pos : Pos} : PE X (.Dict [] [] pos) (tE G E evDNewF) := pe_imp pe_dnewK fun σ H Q ⟨R, ρ, s, M, w, sr, p⟩ q hq => gives_dic w .nil (Nat.zero_le _) p hq

/-! ### isinstance of an object of a class -/
def opIsC (c : Nat) (M : Store) : Va → Option Va
  | .cel n => (match M.c n with
    | some (.ins k _) => if k = c then some (.bl true) else none
    | _ => none)
  | _ => none
structure IsB (K : PySem.W.Frag) (mg : Str → Option Value) (G : Sig) (x : Str) (c : Nat) : Prop where
  m : mg x = some (.ref (G.CA c))
  i : C8.InsC K (G.CA c)
theorem q_isC {E : XK} {e : Expr} {ee : SE} {pos p p2 : Pos} {x : Str} {c : Nat} (B : IsB X.K X.mg G x c) (hx : Gl X x) (hg : Gl X "isinstance") (hm : X.mg "isinstance" = none) (he : PE X e (tE G E ee)) (hdb : (x == ("__debug__" : Str)) = false := by decide)
    (hst : starEach [e, .Name x p2] X.env = (false, eval e X.env) :: starEach [.Name x p2] X.env := by rfl) (hpl : (backTo pos (starEach [.Name x p2] X.env)).any (·.1) = false := by rfl) :
    PE X (.Call (.Name "isinstance" p) [e, .Name x p2] [] pos) (tE G E (ev1 (opIsC c) ee)) :=
  pe_imp (pe_callB (id := "isinstance") (C8.call_isC B.i) hg hm (by decide +kernel) (pa_cons he (pa_cons (pe_glob (v := V.ref (G.CA c)) hx B.m rfl hdb) pa_nil) (hs := hst)) (he := hst) (hpl := hpl)) fun σ H Q ⟨R, ρ, s, M, w, sr, p⟩ => stepE w sr p fun R1 ρ1 M1 H1 va v e1 w1 sr1 r1 p1 => by
    cases h : opIsC c M1 va with
    | none => rw [h] at p1; exact p1.elim
    | some res =>
      rw [h] at p1
      unfold opIsC at h
      split at h
      · split at h
        · rename_i n k' l hc
          split at h
          · rename_i ek
            cases h
            subst ek
            obtain ⟨a, dx, vs, rfl, _, ha, _⟩ := ins_read w1 r1 hc
            exact ⟨a, dx, vs, rfl, ha, gives_now w1 (.bl _) p1⟩
          · cases h
        · cases h
      · cases h
end
end PV

set_option Elab.async false
set_option linter.all false
set_option maxRecDepth 100000
set_option maxHeartbeats 4000000
namespace PV
open PySem L2
open PyProof.Rows

/-! ### places, defs of classes -/
def eKy (i : Nat) : Expr → Expr
  | .Dict ks _ _ => (ks.getD i none).getD noE
  | e => e
section
variable {P : Program} {w : World} {K : PySem.W.Frag} {mg : Str → Option Value} {base : Heap} {CA : Nat → Addr} {x qual : Str} {st : Stmt} {f p : Addr} {fd : FuncData} {N ps : List Str} {k n N' c : Nat} {es : SS} {fM : FM}
theorem fnG_by (F : Fun K x qual st f fd) (S : FnScope N ps (defScope st)) (hn : ps.length = n) (hN : N.length = N') (hc : fM = runF N' es)
    (body : ∀ (cdv : Value) (A : Around) (outer : List Env) (s : Shared) (H : Hp) (E : XK), Room k (A.deeper (envOfC qual (defScope st) s.heap.objs.size f cdv)) → A.guards = some [] →
      PSs (cxOf CX0 P w K mg base N qual (defScope st) f cdv A outer s H E).nox (defBody st) (tS ⟨K, CA⟩ E0 es)) : FnG P w K mg base CX0 (k + 1) f fd ps (spI ⟨K, CA⟩ n fM) := by
  subst hn hN hc
  exact ok_fn F S body
theorem mk_of {y : Str} (hm : mg y = some (.ref (CA c))) (M : Mk K (CA c) f) (hb : Binds K fd ps []) (F : FnG P w K mg base CX0 k f fd ps (spI ⟨K, CA⟩ (n + 1) fM)) : MkB P w K mg base ⟨K, CA⟩ y c k n fM := ⟨f, fd, ps, hm, M, hb, F⟩
theorem pr_of {y : Str} (C : Cls K (CA c)) (hp : PropOf K (CA c) y p f) (hb : Binds K fd ps []) (F : FnG P w K mg base CX0 k f fd ps (spI ⟨K, CA⟩ 1 fM)) : PrB P w K mg base ⟨K, CA⟩ c y k fM := ⟨p, f, fd, ps, C, hp, hb, F⟩
theorem me_of {y : Str} (C : Cls K (CA c)) (hp : Meth K (CA c) y f) (hb : Binds K fd ps []) (F : FnG P w K mg base CX0 k f fd ps (spI ⟨K, CA⟩ (n + 1) fM)) : MeB P w K mg base ⟨K, CA⟩ c y k n fM := ⟨f, fd, ps, C, hp, hb, F⟩
theorem eq_of (h1 : PySem.W.findIn K (.ref (CA c)) "__eq__" = some (some (.ref f))) (h2 : PySem.W.isFn K (.ref f) = true) (hb : Binds K fd ps []) (F : FnG P w K mg base CX0 k f fd ps (spI ⟨K, CA⟩ 2 fM)) : EqB P w K mg base ⟨K, CA⟩ c k fM := ⟨f, fd, ps, h1, h2, hb, F⟩
end
theorem qg_tupG {X : Cx} {G : Sig} {es : List Expr} {pos : Pos} {ts : List Tgt} {g : TGs} {ix : List Nat} {k : Nat} {n : Nat} (hK : X.K = G.K) (hc : X.calm = true) (h : QGs X G es g ts ix) (hl : ts.length = n := by rfl) (hn : (assignEach es X.env).length = n := by rfl) (hst : (assignEach es X.env).findIdx? (·.1) = none := by rfl) :
    QG X G (.Tuple es k pos) (gTup G.K n g) (tgTup ts) ix := by
  rw [← hK]
  exact qg_tup hc h hl hn hst
/-! ### clear, of a list or a dict -/
def kClear (o : Va) (M : Store) : Res := match o with
  | .cel n => (match M.c n with
    | some (.lst _) => some (.val .non, M.put n (.lst []))
    | some (.dic _) => some (.val .non, M.put n (.dic []))
    | _ => none)
  | _ => none
def evClear (eo : SE) : SE := fun s M => bindO (eo s M) kClear
section
variable {X : Cx} {G : Sig} {E : XK} {e : Expr} {eo : SE}
theorem q_clear (hL : PE X e (tE G E (evM2 isLstA (kMut cClear) eo evNil))) (hD : PE X e (tE G E (evM2 isDicA (kMut cDClear) eo evNil))) : PE X e (tE G E (evClear eo)) :=
  ⟨fun pins s σ H Q I ⟨R, ρ, s', M, w, sr, p⟩ => by
    unfold evClear at p
    rcases q : eo s' M with _ | ⟨x | ⟨c, x⟩, M1⟩ <;> rw [q] at p
    · exact p.elim
    · rw [bindO_val] at p
      unfold kClear at p
      split at p
      · rename_i n
        split at p
        · rename_i l hc
          refine hL.run pins s σ H Q I ⟨R, ρ, s', M, w, sr, ?_⟩
          have : evM2 isLstA (kMut cClear) eo evNil s' M = some (.val .non, M1.put n (.lst [])) := by
            simp [evM2, q, isLstA, lstOf, hc, evNil, kMut, cClear]
          rw [this]; exact p
        · rename_i l hc
          refine hD.run pins s σ H Q I ⟨R, ρ, s', M, w, sr, ?_⟩
          have : evM2 isDicA (kMut cDClear) eo evNil s' M = some (.val .non, M1.put n (.dic [])) := by
            simp [evM2, q, isDicA, dicOf, hc, evNil, kMut, cDClear]
          rw [this]; exact p
        · exact p.elim
      · exact p.elim
    · refine hL.run pins s σ H Q I ⟨R, ρ, s', M, w, sr, ?_⟩
      have : evM2 isLstA (kMut cClear) eo evNil s' M = some (.exc c x, M1) := by simp [evM2, q]
      rw [this]; exact p⟩
end
end PV

set_option Elab.async false
set_option linter.all false
set_option maxRecDepth 100000
set_option maxHeartbeats 1000000
namespace PV
open PySem L2
/-! ### a list of texts, in a list, a frozen one or a cell -/
theorem inA_strs (z : Str) : ∀ zs : List Str, inA (.str z) (zs.map Va.str) = decide (z ∈ zs)
  | [] => rfl
  | y :: ys => by
    show (eqF (.str y) (.str z) || inA (.str z) (ys.map Va.str)) = _
    rw [inA_strs z ys]
    show ((y == z) || _) = _
    by_cases h : y = z
    · subst h; simp
    · have : (y == z) = false := by rw [beq_eq_false_iff_ne]; exact h
      rw [this]
      simp [Ne.symm h]
theorem flat_strs (zs : List Str) : (zs.map Va.str).all flatA = true := by
  rw [List.all_eq_true]
  intro x hx
  obtain ⟨z, _, rfl⟩ := List.mem_map.mp hx
  rfl
/-- x stands for this list -/
inductive LstAt (M : Store) : Va → List Va → Prop
  | lst (l : List Va) : LstAt M (.lst l) l
  | cel {n : Nat} {l : List Va} : M.c n = some (.lst l) → LstAt M (.cel n) l
theorem LstAt.seq {M : Store} {x : Va} {l : List Va} (h : LstAt M x l) : seqOf M x = some l := by
  cases h with
  | lst => rfl
  | cel h => rw [y_seqC, h]
theorem LstAt.lof {M : Store} {x : Va} {l : List Va} (h : LstAt M x l) : lstOf M x = some l := by
  cases h with
  | lst => rfl
  | cel h => rw [y_lstC, h]
theorem LstAt.own {M : Store} {x : Va} {l : List Va} (h : LstAt M x l) : ownOf M x = some l := by
  cases h with
  | lst => rfl
  | cel h => rw [y_ownC, h]
theorem LstAt.any {M : Store} {x : Va} {l : List Va} (h : LstAt M x l) : ∃ chk : Store → Prop, anyO (some (.val x, M)) = some (.it l chk, M) ∧ chk M ∧ ∀ M', LstAt M' x l → chk M' := by
  cases h with
  | lst => exact ⟨_, rfl, trivial, fun _ _ => trivial⟩
  | @cel n l h =>
    refine ⟨fun M => lstOf M (.cel n) = some l, by rw [z_anyC, h], ?_, fun M' h' => h'.lof⟩
    show lstOf M (.cel n) = some l
    rw [y_lstC, h]
theorem LstAt.len {M : Store} {x : Va} {l : List Va} (h : LstAt M x l) : gLen M [x] = some (.int l.length) := by
  cases h with
  | lst => rfl
  | cel h =>
    show (match seqOf M _ with | some l => some (Va.int l.length) | none => _) = _
    rw [y_seqC, h]
theorem LstAt.ix {M : Store} {x : Va} {l : List Va} (h : LstAt M x l) (i : Int) : opIx M x (.int i) = atI l i := by
  cases h with
  | lst => rfl
  | cel h => rw [y_ixC, h]
theorem LstAt.in_ {M : Store} {x : Va} {zs : List Str} (h : LstAt M x (zs.map Va.str)) (z : Str) : opInD M (.str z) x = some (.bl (decide (z ∈ zs))) := by
  have hs := h.seq
  have e : opIn M (.str z) x = some (.bl (decide (z ∈ zs))) := by
    have e2 : opIn M (.str z) x = (match seqOf M x with | some l => if flatA (.str z) = true ∧ l.all flatA = true then some (Va.bl (inA (.str z) l)) else none | none => none) := by cases h <;> rfl
    rw [e2, hs]
    dsimp only
    rw [if_pos ⟨rfl, flat_strs zs⟩, inA_strs]
  unfold opInD
  rw [e]
theorem LstAt.notIn {M : Store} {x : Va} {zs : List Str} (h : LstAt M x (zs.map Va.str)) (z : Str) : opNotInD M (.str z) x = some (.bl (!decide (z ∈ zs))) := by
  have hs := h.seq
  have e : opNotIn M (.str z) x = some (.bl (!decide (z ∈ zs))) := by
    have e2 : opNotIn M (.str z) x = (match seqOf M x with | some l => if flatA (.str z) = true ∧ l.all flatA = true then some (Va.bl (!inA (.str z) l)) else none | none => none) := by cases h <;> rfl
    rw [e2, hs]
    dsimp only
    rw [if_pos ⟨rfl, flat_strs zs⟩, inA_strs]
  unfold opNotInD
  rw [e]
/-! ### == with the empty list -/
theorem strs_reads {M : Store} : ∀ zs : List Str, PdRs M (zs.map Va.str) (zs.map PyData.str)
  | [] => .nil
  | z :: zs => .cons (.str z) (strs_reads zs)
theorem strs_lay : ∀ {zs : List Str}, (∀ z ∈ zs, PyData.strOk z = true) → PyData.canLayAll0 (zs.map PyData.str) = true
  | [], _ => rfl
  | z :: zs, h => by
    have h1 := h z (by simp)
    have h2 := strs_lay (zs := zs) fun y hy => h y (by simp [hy])
    simp [PyData.canLayAll0, PyData.canLay0, h1, h2]
theorem strs_depth : ∀ zs : List Str, PyData.depthAll (zs.map PyData.str) = 0
  | [] => rfl
  | z :: zs => by simp [PyData.depthAll, PyData.depth, strs_depth zs]
theorem strs_shaped {zs : List Str} (h : ∀ z ∈ zs, PyData.strOk z = true) : SeqAt.shaped (.list (zs.map PyData.str)) = true := by
  simp [SeqAt.shaped, PyData.canLay0, PyData.depth, strs_lay h, strs_depth]
theorem LstAt.eqP_nil {M : Store} {x : Va} {zs : List Str} (h : LstAt M x (zs.map Va.str)) (ok : ∀ z ∈ zs, PyData.strOk z = true) : eqP M x (.lst []) = some (decide (zs = [])) := by
  unfold eqP
  rw [pdOf_eq (.lst h.lof (strs_reads zs)), pdOf_eq (.lst rfl .nil)]
  dsimp only
  rw [if_pos ⟨strs_shaped ok, by decide⟩]
  cases zs <;> simp [PyData.eqv, PyData.eqvAll]
theorem LstAt.eqS_nil {M : Store} {x : Va} {l : List Va} (h : LstAt M x l) : eqS x (.lst []) = none := by
  cases h <;> rfl
theorem LstAt.ne_nil {M : Store} {x : Va} {zs : List Str} (h : LstAt M x (zs.map Va.str)) (ok : ∀ z ∈ zs, PyData.strOk z = true) : opNe M x (.lst []) = some (.bl (!decide (zs = []))) := by
  unfold opNe
  rw [h.eqS_nil, h.eqP_nil ok]; rfl
theorem LstAt.eq_nil {M : Store} {x : Va} {zs : List Str} (h : LstAt M x (zs.map Va.str)) (ok : ∀ z ∈ zs, PyData.strOk z = true) : opEq M x (.lst []) = some (.bl (decide (zs = []))) := by
  unfold opEq
  rw [h.eqS_nil, h.eqP_nil ok]; rfl
/-- the letters -/
def letS : Str := "abcdefghijklmnopqrstuvwxyz"
theorem let_is {M : Store} {r : Int} (h0 : 0 ≤ r) (h1 : r < 26) : opIx M (.str "abcdefghijklmnopqrstuvwxyz") (.int r) = some (.str ⟨#[97 + r.toNat]⟩) := by
  have hl : (tl letS).length = 26 := by decide
  obtain ⟨c, e, _, hc⟩ := at_nat (l := tl letS) h0 (by rw [hl]; exact h1)
  have he : tl letS = (List.range 26).map (97 + ·) := by decide
  rw [he, List.getElem?_map, List.getElem?_range (by omega)] at hc
  cases hc
  show (if letS.length ≤ sizeLine then (atI (tl letS) r).map fun c => Va.str ⟨#[c]⟩ else none) = _
  rw [if_pos (by decide), e]; rfl
/-! ### step by step -/
theorem seq_nx {a b : SS} {s s1 : SL} {M M1 : Store} {r : RS} (h : a s M = some (.nx, s1, M1)) (h2 : b s1 M1 = r) : sSeq a b s M = r := by
  rw [x_seq, h]; exact h2
theorem seq_ret {a b : SS} {s s1 : SL} {M M1 : Store} {v : Va} (h : a s M = some (.ret v, s1, M1)) : sSeq a b s M = some (.ret v, s1, M1) := by
  rw [x_seq, h]
theorem set_val {i : Nat} {e : SE} {s s1 : SL} {M M1 : Store} {v : Va} (h : e s M = some (.val v, M1)) (hs : s.set i (some v) = s1 := by rfl) : sSet i e s M = some (.nx, s1, M1) := by
  rw [x_set, h, ← hs]
theorem drop_val {e : SE} {s : SL} {M M1 : Store} {v : Va} (h : e s M = some (.val v, M1)) : sDrop e s M = some (.nx, s, M1) := by
  rw [x_drop, h]
theorem loop_nx {chk : Store → Prop} {tg : Tgt} {body : SS} {x : Va} {xs : List Va} {s s1 s2 : SL} {M M2 : Store} {r : RS} (hc : chk M) (ht : tg x s M = some s1) (hb : body s1 M = some (.nx, s2, M2)) (hr : loopF chk tg body xs s2 M2 = r) : loopF chk tg body (x :: xs) s M = r := by
  unfold loopF
  rw [if_pos hc, ht]
  dsimp only
  rw [hb]
  exact hr
theorem loop_nil {chk : Store → Prop} {tg : Tgt} {body : SS} {s : SL} {M : Store} (hc : chk M) : loopF chk tg body [] s M = some (.nx, s, M) := by
  unfold loopF
  rw [if_pos hc]
theorem end_ret {a : SS} {s s1 : SL} {M M1 : Store} {v : Va} (h : a s M = some (.ret v, s1, M1)) : endF (a s M) = some (.val v, M1) := by rw [h]; rfl
theorem ret_val {e : SE} {s : SL} {M M1 : Store} {v : Va} (h : e s M = some (.val v, M1)) : sRet e s M = some (.ret v, s, M1) := by rw [x_ret, h]
theorem for_it {src : SI} {tg : Tgt} {body : SS} {s : SL} {M M1 : Store} {l : List Va} {chk : Store → Prop} {r : RS} (h : src s M = some (.it l chk, M1)) (h2 : loopF chk tg body l s M1 = r) : sFor src tg body s M = r := by
  rw [z_for, h]; exact h2
end PV

set_option Elab.async false
set_option linter.all false
set_option maxRecDepth 100000
set_option maxHeartbeats 1000000
set_option exponentiation.threshold 3000
namespace PV
open PySem L2
/-! ### what is small enough to be shown -/
structure Sm (W dp : Nat) (d : PyData) : Prop where
  sh : d.showable = true
  lf : d.leavesShort 14 = true
  wt : d.weight ≤ W
  dp : d.depth ≤ dp
theorem Sm.mono {W W' dp dp' : Nat} {d : PyData} (h : Sm W dp d) (h1 : W ≤ W') (h2 : dp ≤ dp') : Sm W' dp' d := ⟨h.sh, h.lf, Nat.le_trans h.wt h1, Nat.le_trans h.dp h2⟩
theorem Sm.int {n : Int} {w : Nat} (h : n.natAbs < 10 ^ 13) (h2 : n.natAbs < 2 ^ w) : Sm w 0 (.int n) := by
  have hl : n.natAbs.log2 < 1920 := by
    by_cases z : n.natAbs = 0
    · rw [z]; decide
    · rw [Nat.log2_lt z]; exact Nat.lt_trans h (by decide)
  refine ⟨by simp only [PyData.showable]; exact decide_eq_true hl, ?_, ?_, by simp only [PyData.depth]; exact Nat.le_refl _⟩
  · simp only [PyData.leavesShort]
    refine decide_eq_true ?_
    have := nm_len (n := n) (k := 13) (by decide) h
    rw [← tl_len] at this
    exact this
  · simp only [PyData.weight]
    by_cases z : n = 0
    · rw [if_pos (by simp [z])]; exact Nat.zero_le _
    · rw [if_neg (by simp [z])]
      have : n.natAbs.log2 < w := (Nat.log2_lt (by omega)).mpr h2
      omega
theorem Sm.str {z : Str} {w : Nat} (h : ∀ c ∈ tl z, c < 256) (hl : z.length ≤ w) : Sm w 0 (.str z) := by
  refine ⟨by simp only [PyData.showable], ?_, ?_, by simp only [PyData.depth]; exact Nat.le_refl _⟩
  · unfold PyData.leavesShort
    rw [List.all_eq_true]
    intro c hc
    have := h c hc
    exact decide_eq_true (by omega)
  · simp only [PyData.weight]; exact hl
theorem sm_all {W dp : Nat} : ∀ {ds : List PyData}, (∀ d ∈ ds, Sm W dp d) → PyData.showableAll ds = true ∧ PyData.leavesShortAll 14 ds = true ∧ PyData.weightAll ds ≤ ds.length * (W + 1) ∧ PyData.depthAll ds ≤ dp
  | [], _ => ⟨by simp only [PyData.showableAll], by simp only [PyData.leavesShortAll], by simp only [PyData.weightAll]; exact Nat.zero_le _, by simp only [PyData.depthAll]; exact Nat.zero_le _⟩
  | d :: ds, h => by
    obtain ⟨a1, a2, a3, a4⟩ := h d (by simp)
    obtain ⟨b1, b2, b3, b4⟩ := sm_all (ds := ds) fun e he => h e (by simp [he])
    refine ⟨by simp only [PyData.showableAll, a1, b1, Bool.and_self], by simp only [PyData.leavesShortAll, a2, b2, Bool.and_self], ?_, ?_⟩
    · simp only [PyData.weightAll, List.length_cons]
      rw [Nat.add_mul]; omega
    · simp only [PyData.depthAll]; omega
theorem Sm.list {W W' dp n : Nat} {ds : List PyData} (h : ∀ d ∈ ds, Sm W dp d) (hn : ds.length ≤ n) (hW : n * (W + 1) ≤ W') : Sm W' (dp + 1) (.list ds) := by
  obtain ⟨a1, a2, a3, a4⟩ := sm_all h
  refine ⟨by simp only [PyData.showable]; exact a1, by simp only [PyData.leavesShort]; exact a2, ?_, by simp only [PyData.depth]; omega⟩
  simp only [PyData.weight]
  exact Nat.le_trans a3 (Nat.le_trans (Nat.mul_le_mul_right _ hn) hW)
theorem Sm.tup3 {W1 W2 W3 W' dp : Nat} {a b c : PyData} (h1 : Sm W1 dp a) (h2 : Sm W2 dp b) (h3 : Sm W3 dp c) (hW : W1 + W2 + W3 + 3 ≤ W') : Sm W' (dp + 1) (.tuple [a, b, c]) := by
  obtain ⟨a1, a2, a3, a4⟩ := h1
  obtain ⟨b1, b2, b3, b4⟩ := h2
  obtain ⟨c1, c2, c3, c4⟩ := h3
  refine ⟨by simp only [PyData.showable, PyData.showableAll, a1, b1, c1, Bool.and_self], by simp only [PyData.leavesShort, PyData.leavesShortAll, a2, b2, c2, Bool.and_self], ?_, ?_⟩
  · simp only [PyData.weight, PyData.weightAll]; omega
  · simp only [PyData.depth, PyData.depthAll]; omega
theorem sm_kv {W1 W2 dp : Nat} : ∀ {ds : List (PyData × PyData)}, (∀ d ∈ ds, Sm W1 dp d.1 ∧ Sm W2 dp d.2) → PyData.showableKv ds = true ∧ PyData.leavesShortKv 14 ds = true ∧ PyData.weightKv ds ≤ ds.length * (W1 + W2 + 2) ∧ PyData.depthKv ds ≤ dp
  | [], _ => ⟨by simp only [PyData.showableKv], by simp only [PyData.leavesShortKv], by simp only [PyData.weightKv]; exact Nat.zero_le _, by simp only [PyData.depthKv]; exact Nat.zero_le _⟩
  | (k, v) :: ds, h => by
    obtain ⟨⟨a1, a2, a3, a4⟩, ⟨c1, c2, c3, c4⟩⟩ := h (k, v) (by simp)
    obtain ⟨b1, b2, b3, b4⟩ := sm_kv (ds := ds) fun e he => h e (by simp [he])
    dsimp only at a1 a2 a3 a4 c1 c2 c3 c4
    refine ⟨by simp only [PyData.showableKv, a1, b1, c1, Bool.and_self], by simp only [PyData.leavesShortKv, a2, b2, c2, Bool.and_self], ?_, ?_⟩
    · simp only [PyData.weightKv, List.length_cons]
      rw [Nat.add_mul]; omega
    · simp only [PyData.depthKv]; omega
theorem Sm.dict {W1 W2 W' dp n : Nat} {ds : List (PyData × PyData)} (h : ∀ d ∈ ds, Sm W1 dp d.1 ∧ Sm W2 dp d.2) (hn : ds.length ≤ n) (hW : n * (W1 + W2 + 2) ≤ W') : Sm W' (dp + 1) (.dict ds) := by
  obtain ⟨a1, a2, a3, a4⟩ := sm_kv h
  refine ⟨by simp only [PyData.showable]; exact a1, by simp only [PyData.leavesShort]; exact a2, ?_, by simp only [PyData.depth]; omega⟩
  simp only [PyData.weight]
  exact Nat.le_trans a3 (Nat.le_trans (Nat.mul_le_mul_right _ hn) hW)
theorem Sm.repr {M : Store} {x : Va} {d : PyData} (h : Sm 1048570 60 d) (r : PdR M x d) : kRepr [x] M = some (.val (.str d.shown), M) :=
  repr_of r h.sh (shown_ok (B := 14) (W := 1048570) (by decide) h.lf h.wt (by decide)) h.dp
end PV

set_option Elab.async false
set_option linter.all false
set_option maxRecDepth 100000
set_option maxHeartbeats 4000000
namespace PV
open PySem L2
open PyProof.Rows

/-! ### dict comprehensions -/
section
open Classical
noncomputable def dcL (chk : Store → Prop) (tg : Tgt) (tt tk tv : SE) (sw : SL) : List Va → List (Key × Va) → Store → Option (List (Key × Va) × Store)
  | [], acc, M => if chk M then some (acc, M) else none
  | x :: xs, acc, M => if chk M then (match tg x sw M with
    | none => none
    | some s1 => match tt s1 M with
      | some (.val (.bl true), M1) => (match tk s1 M1 with
        | some (.val y, M2) => (match keyA y with
          | some k => (match tv s1 M2 with
            | some (.val z, M3) => dcL chk tg tt tk tv sw xs (puK acc k z) M3
            | _ => none)
          | none => none)
        | _ => none)
      | some (.val (.bl false), M1) => dcL chk tg tt tk tv sw xs acc M1
      | _ => none) else none
noncomputable def evDc (src : SI) (tg : Tgt) (tt tk tv : SE) (vs : List Nat) : SE := fun s M => match src s M with
  | none => none
  | some (.it l chk, M1) => (match dcL chk tg tt tk tv (wipeI s vs) l [] M1 with
    | some (kv, M2) => some (.val (.dic kv), M2)
    | none => none)
  | some (.exc c v, M1) => some (.exc c v, M1)
end
theorem puK_len1 {α : Type} (l : List (Key × α)) (k : Key) (v : α) : (puK l k v).length ≤ l.length + 1 := by
  unfold puK
  split <;> simp
section
variable {X : Cx} {G : Sig} {E E2 : XK} {tg kx vx iter : Expr} {ifs : List Expr} {pos : Pos}
theorem dc_walk {t : Tgt} {tt tk tv : SE} {vs ix : List Nat} {g : TG} (sm : TgSim G g t ix) (hix : ∀ i ∈ ix, i ∈ vs) {σ : L2.St} {R1 : Hp} {ρ1 : List Addr} {M1 M2 : Store} {H1 : Hp} {s : SL} {J : It} {l : List Va} {ys : List (Key × Va)} {chk : Store → Prop} {Q : VK} {D : Addr}
    (w1 : Wd G R1 ρ1 M1 H1) (sr : SR G R1 ρ1 s σ) (hz : l.length ≤ sizeLine) (js : ItSim G R1 ρ1 J l chk) (hcomp : dcL chk t tt tk tv (wipeI s vs) l [] M1 = some (ys, M2)) (hD : H1 D = none)
    (fin : ∀ R' ρ' H' acc, Ext R1 ρ1 H1 R' ρ' H' → Wd G R' ρ' M2 H' → H' D = some (.dK acc) → R' D = none → D ∉ ρ' → VRk G R' ρ' ys acc → ys.length ≤ sizeLine → Q (.ref D) H') :
    ∃ W : Nat → Nat → Hp → Prop, (∃ m, W 0 m (upd H1 D (.dK []))) ∧ ∀ i m H, W i m H →
      (J.stop i H ∧ Q (.ref D) H) ∨ (J.go i H ∧ ∃ Nx : Hp → Prop, (∀ H', Nx H' → ∃ m', m' < m ∧ W (i + 1) m' H') ∧ ∀ x H', J.yld i H x H' → g x (wipe σ vs) H' fun σ2 H2 => wipe σ2 vs = wipe σ vs ∧ tT G E tt σ2 H2 fun b H3 =>
        if b = true then tE G E tk σ2 H3 fun y H4 => tE G E tv σ2 H4 fun z H5 => ∃ kvs k, y = kV k ∧ H5 D = some (.dK kvs) ∧ kvs.length < sizeLine ∧ Nx (upd H5 D (.dK (putK kvs k z))) else Nx H3) := by
  have rD : R1 D = none := w1.nonR hD
  refine ⟨fun i m Hc => ∃ R' ρ' M' acc accI, m = l.length - i ∧ i ≤ l.length ∧ Ext R1 ρ1 H1 R' ρ' Hc ∧ Wd G R' ρ' M' Hc ∧ Hc D = some (.dK acc) ∧ VRk G R' ρ' accI acc ∧ R' D = none ∧ (D ∉ ρ') ∧
    dcL chk t tt tk tv (wipeI s vs) (l.drop i) accI M' = some (ys, M2) ∧ accI.length ≤ i, ?_, ?_⟩
  · refine ⟨l.length, R1, ρ1, M1, [], [], rfl, Nat.zero_le _, Ext.heapNew hD, ?_, upd_same, .nil, rD, ?_, hcomp, Nat.zero_le _⟩
    · exact w1.heap fun a o h => by rw [upd_ne (ne_of_none h hD)]; exact h
    · exact fun hm => w1.al D hm hD
  · rintro i m Hc ⟨R', ρ', M', acc, accI, rfl, hi, e', w', hDc, ra, rDn, nDr, hc, hal⟩
    by_cases hlt : i < l.length
    · have ed : l.drop i = l[i] :: l.drop (i + 1) := List.drop_eq_getElem_cons hlt
      rw [ed] at hc
      unfold dcL at hc
      by_cases ck : chk M'
      · rw [if_pos ck] at hc
        obtain ⟨go, _⟩ := js R' ρ' M' Hc e'.gr w' ck
        obtain ⟨go, yld⟩ := go i l[i] (by simp [hlt])
        refine .inr ⟨go, fun H2 => ∃ R2 ρ2 M3 acc accI, Ext R1 ρ1 H1 R2 ρ2 H2 ∧ Wd G R2 ρ2 M3 H2 ∧ H2 D = some (.dK acc) ∧ VRk G R2 ρ2 accI acc ∧ R2 D = none ∧ (D ∉ ρ2) ∧
          dcL chk t tt tk tv (wipeI s vs) (l.drop (i + 1)) accI M3 = some (ys, M2) ∧ accI.length ≤ i + 1, fun H2 ⟨R2, ρ2, M3, acc, accI, q⟩ => ⟨l.length - (i + 1), by omega, R2, ρ2, M3, acc, accI, rfl, hlt, q⟩, fun x H2 hyl => ?_⟩
        obtain ⟨R2, e2, w2, r2⟩ := yld x H2 hyl
        obtain ⟨rD2, nD2, hD2⟩ := e2.apart hDc rDn nDr
        cases q3 : t l[i] (wipeI s vs) M' with
        | none => rw [q3] at hc; cases hc
        | some s3 =>
          rw [q3] at hc
          have srw : SR G R2 ρ' (wipeI s vs) (wipe σ vs) := (SR.wipe (sr.mono (e'.gr.trans e2.gr)) vs)
          refine sm R2 ρ' M' H2 (wipeI s vs) s3 (wipe σ vs) l[i] x _ w2 srw r2 q3 fun σ3 sr3 hl3 hk3 => ⟨?_, ?_⟩
          · have z1 : wipe σ3 vs = wipe (wipe σ vs) vs := wipe_same hl3 fun j hj => hk3 j fun z => hj (hix j z)
            rw [z1]
            exact wipe_same (wipe_length σ vs) fun j hj => wipe_get σ j vs hj
          · dsimp only at hc
            rcases q4 : tt s3 M' with _ | ⟨y | ⟨c, y⟩, M4⟩ <;> rw [q4] at hc
            · cases hc
            · cases y <;> first | (cases hc; done) | skip
              rename_i bb
              refine ⟨R2, ρ', s3, M', w2, sr3, ?_⟩
              rw [q4]
              intro R5 ρ5 H5 e5 w5
              obtain ⟨rD5, nD5, hD5⟩ := e5.apart hD2 rD2 nD2
              cases bb with
              | false =>
                refine iteF ?_
                exact ⟨R5, ρ5, M4, acc, accI, (e'.trans e2).trans e5, w5, hD5, ra.mono (e2.trans e5).gr, rD5, nD5, hc, Nat.le_succ_of_le hal⟩
              | true =>
                refine iteT ?_
                dsimp only at hc
                rcases q6 : tk s3 M4 with _ | ⟨y | ⟨c, y⟩, M6⟩ <;> rw [q6] at hc
                · cases hc
                · refine ⟨R5, ρ5, s3, M4, w5, sr3.mono e5.gr, ?_⟩
                  rw [q6]
                  intro R7 ρ7 H7 v e7 w7 r7
                  obtain ⟨rD7, nD7, hD7⟩ := e7.apart hD5 rD5 nD5
                  dsimp only at hc
                  cases hk : keyA y with
                  | none => rw [hk] at hc; cases hc
                  | some key =>
                    rw [hk] at hc
                    dsimp only at hc
                    rcases q8 : tv s3 M6 with _ | ⟨z | ⟨c, z⟩, M8⟩ <;> rw [q8] at hc
                    · cases hc
                    · refine ⟨R7, ρ7, s3, M6, w7, sr3.mono (e5.trans e7).gr, ?_⟩
                      rw [q8]
                      intro R9 ρ9 H9 u e9 w9 r9
                      obtain ⟨rD9, nD9, hD9⟩ := e9.apart hD7 rD7 nD7
                      dsimp only at hc
                      have eall := (((e'.trans e2).trans e5).trans e7).trans e9
                      have ra9 := ra.mono (((e2.trans e5).trans e7).trans e9).gr
                      refine ⟨acc, key, r7.key hk, hD9, ?_, R9, ρ9, M8, putK acc key u, puK accI key z, eall.mut hD, w9.other rD9 nD9, upd_same, ra9.put key r9, rD9, nD9, hc, ?_⟩
                      · rw [← ra.length]
                        omega
                      · have := puK_len1 accI key z
                        omega
                    · cases hc
                · cases hc
            · cases hc
      · rw [if_neg ck] at hc; cases hc
    · have e0 : i = l.length := by omega
      subst e0
      rw [List.drop_length] at hc
      unfold dcL at hc
      by_cases ck : chk M'
      · rw [if_pos ck] at hc
        cases hc
        obtain ⟨_, stop⟩ := js R' ρ' _ Hc e'.gr w' ck
        exact .inl ⟨stop _ (Nat.le_refl _), fin R' ρ' Hc acc e' w' hDc rDn nDr ra (by omega)⟩
      · rw [if_neg ck] at hc; cases hc
variable {src : SI} {t : Tgt} {tt tk tv : SE} {ix : List Nat} {g : TG} {scope : Scope} {own : List (Str × Nat)}
theorem dc_frz {σ : L2.St} {H : Hp} {Q : VK} (sm : TgSim G g t ix) (hix : ∀ i ∈ ix, i ∈ own.map (·.2)) (h : tE G E (evDc src t tt tk tv (own.map (·.2))) σ H Q) : tDc (tI G E src) g (tT G E2 tt) (tE G E2 tk) (tE G E2 tv) (own.map (·.2)) σ H Q := by
  obtain ⟨R, ρ, s, M, w, sr, p⟩ := h
  refine ⟨R, ρ, s, M, w, sr, ?_⟩
  unfold evDc at p
  rcases q : src s M with _ | ⟨⟨l, chk⟩ | ⟨c, x⟩, M1⟩ <;> rw [q] at p
  · exact p
  · intro R1 ρ1 H1 J e1 w1 hz js D hD
    dsimp only at p
    rcases q2 : dcL chk t tt tk tv (wipeI s (own.map (·.2))) l [] M1 with _ | ⟨ys, M2⟩ <;> rw [q2] at p
    · exact False.elim p
    · refine dc_walk sm hix w1 (sr.mono e1.gr) hz js q2 hD fun R' ρ' H' acc e' w' hDc rDn nDr ra hzy => ?_
      exact p (upd R' D (.dK acc)) ρ' H' (.ref D) (e1.trans (e'.take hD rDn)) (w'.take hDc rDn nDr) (.dic upd_same hzy (ra.mono ⟨fun a o q => by rw [upd_ne (fun z => by subst z; rw [rDn] at q; cases q)]; exact q, fun _ _ q => q⟩))
  · exact p
theorem q_dc (hc : X.calm = true) (hN : X.N.Nodup) (hi : PI X tg iter (tI G E src)) (ok : BlkOk X.N X.env.scope scope own)
    (hg : ∀ (s : Shared) (H : Hp) (C : Addr) (cl : List (Str × Addr)) (fp : List Addr), QG (X.blk s H scope (compEnvC scope cl C X.env) fp) G tg g t ix)
    (ht : ∀ (s : Shared) (H : Hp) (C : Addr) (cl : List (Str × Addr)) (fp : List Addr), PTs (X.blk s H scope (compEnvC scope cl C X.env) fp) ifs (tT G E2 tt))
    (hk : ∀ (s : Shared) (H : Hp) (C : Addr) (cl : List (Str × Addr)) (fp : List Addr), PE (X.blk s H scope (compEnvC scope cl C X.env) fp) kx (tE G E2 tk))
    (he : ∀ (s : Shared) (H : Hp) (C : Addr) (cl : List (Str × Addr)) (fp : List Addr), PE (X.blk s H scope (compEnvC scope cl C X.env) fp) vx (tE G E2 tv))
    (hix : ∀ i ∈ ix, i ∈ own.map (·.2) := by decide) (hs : ∀ x, foldedSetIterable iter X.env x = pure x := by intro _; rfl) :
    PE X (.DictComp kx vx [⟨tg, iter, ifs, 0⟩] scope pos) (tE G E (evDc src t tt tk tv (own.map (·.2)))) :=
  ⟨fun pins s σ H Q I h => (pe_dc hc hN hi ok (fun s H C cl fp => (hg s H C cl fp).pg) ht hk he hs).run pins s σ H Q I (dc_frz (hg s H 0 [] []).sim hix h)⟩
end

theorem kit_self {K : PySem.W.Frag} {a : Addr} : PySem.W.kitOne K (.ref a) (.ref a) = some true := if_pos (by simp)
/-! ### x is True -/
def opIsB (M : Store) (a b : Va) : Option Va := match a, b with
  | .bl x, .bl y => some (.bl (decide (x = y)))
  | _, _ => none
theorem s_isB {G : Sig} : Op2 G rIsB opIsB := by
  intro R ρ M H x y va vb res Q w ra rb h g
  unfold opIsB at h
  split at h
  · cases h; cases ra; cases rb
    exact ⟨_, _, rfl, rfl, gives_now w (.bl _) g⟩
  · cases h

def opNotB (M : Store) (a b : Va) : Option Va := match a, b with
  | .bl x, .bl y => some (.bl (!decide (x = y)))
  | _, _ => none
theorem s_notB {G : Sig} : Op2 G rNotB opNotB := by
  intro R ρ M H x y va vb res Q w ra rb h g
  unfold opNotB at h
  split at h
  · cases h; cases ra; cases rb
    exact ⟨_, _, rfl, rfl, gives_now w (.bl _) g⟩
  · cases h

/-! ### xs.index(z), of a list of texts -/
def idxS (z : Str) : List Str → Option Nat
  | [] => none
  | y :: r => if y = z then some 0 else (idxS z r).map (· + 1)
theorem idxS_get {z : Str} : ∀ {l : List Str} {j : Nat}, idxS z l = some j → l[j]? = some z ∧ ∀ m y, m < j → l[m]? = some y → y ≠ z
  | [], j, h => by cases h
  | y :: r, j, h => by
    unfold idxS at h
    by_cases e : y = z
    · rw [if_pos e] at h
      cases h
      exact ⟨by simp [e], fun m _ hm => absurd hm (Nat.not_lt_zero _)⟩
    · rw [if_neg e] at h
      cases q : idxS z r with
      | none => rw [q] at h; cases h
      | some i =>
        rw [q] at h
        cases h
        obtain ⟨h1, h2⟩ := idxS_get q
        refine ⟨by simpa using h1, fun m y' hm hy => ?_⟩
        cases m with
        | zero => simp at hy; rw [← hy]; exact e
        | succ m => exact h2 m y' (Nat.lt_of_succ_lt_succ hm) (by simpa using hy)
def gIndexS (M : Store) (o : Va) : List Va → Option Va
  | [.str z] => (match (lstOf M o).bind strsOf with
    | some zs => (idxS z zs).map fun j => .int (j : Nat)
    | none => none)
  | _ => none
theorem s_index {X : Cx} {G : Sig} (hK : X.K = G.K) : OpM G "list" (rIndex X.K) (kVal gIndexS) :=
  val_of fun R ρ M H x xs o l res Q w ro rv h g => by
    unfold gIndexS at h
    split at h
    · rename_i z
      obtain ⟨v, rfl, r⟩ := one_of rv
      cases r
      cases q : lstOf M o with
      | none => rw [q] at h; cases h
      | some l =>
        rw [q] at h
        cases q2 : strsOf l with
        | none => simp [q2] at h
        | some zs =>
          simp only [Option.bind_some, q2] at h
          cases q3 : idxS z zs with
          | none => rw [q3] at h; cases h
          | some j =>
            rw [q3] at h
            cases h
            obtain ⟨a, vs, rfl, sq, rv2, _⟩ := lst_read w ro q
            have e := strs_of rv2 q2
            subst e
            obtain ⟨h1, h2⟩ := idxS_get q3
            refine ⟨a, zs.map V.str, .str z, j, .str z, rfl, rfl, by rw [hK]; exact sq, rfl, by rw [List.all_eq_true]; intro y hy; obtain ⟨c, _, rfl⟩ := List.mem_map.mp hy; rfl, by rw [List.getElem?_map, h1]; rfl, by simp [eqV], fun m z' hm hz => ?_, gives_now w (.int _) g⟩
            rw [List.getElem?_map] at hz
            cases q4 : zs[m]? with
            | none => rw [q4] at hz; cases hz
            | some y =>
              rw [q4] at hz
              cases hz
              have := h2 m y hm q4
              simp [eqV, this]
    · cases h
end PV

set_option Elab.async false
set_option linter.all false
set_option maxRecDepth 100000
set_option maxHeartbeats 4000000
namespace PV
open PySem L2
open PyProof.Rows

theorem vals_rev : ∀ {vs : List V} {us : List Value}, Vals vs us → Vals vs.reverse us.reverse
  | _, _, .nil => .nil
  | _, _, .cons h t => by
    rw [List.reverse_cons, List.reverse_cons]
    exact (vals_rev t).append (.cons h .nil)
/-! ### calls by keywords alone -/
def kFnW (m : Nat) (gA : List Va → List Va) (f : FM) : FM := fun l M => if l.length = m then f (gA l) M else none
section
variable {X : Cx} {G : Sig} {E : XK} {e : Expr} {kws : List Keyword} {ea eb : SE} {pos kpos p' : Pos} {nm : Option Str}
theorem qk_nil : PK X [] (tA G E evNil) := by
  refine ⟨fun pos pins s σ H Q I h => pk_nil.run pos pins s σ H Q I ?_⟩
  obtain ⟨R, ρ, s', M, w, sr, p⟩ := h
  exact p R ρ H [] Ext.refl w .nil
theorem qk_cons (ha : PE X e (tE G E ea)) (hr : PK X kws (tA G E eb)) : PK X (⟨nm, e, kpos⟩ :: kws) (tA G E (evCons ea eb)) := by
  refine ⟨fun pos pins s σ H Q I h => (pk_cons ha hr).run pos pins s σ H Q I ?_⟩
  obtain ⟨R, ρ, s, M, w, sr, p⟩ := h
  refine ⟨R, ρ, s, M, w, sr, ?_⟩
  replace p : PostA G R ρ H (bindO (ea s M) fun v M1 => bindO (eb s M1) fun t M2 => match t with | .tup l => some (.val (.tup (v :: l)), M2) | _ => none) Q E := p
  rcases q : ea s M with _ | ⟨x | ⟨c, x⟩, M1⟩ <;> rw [q] at p
  · exact p
  · intro R1 ρ1 H1 v e1 w1 r1
    refine ⟨R1, ρ1, s, M1, w1, sr.mono e1.gr, ?_⟩
    rw [bindO_val] at p
    rcases q2 : eb s M1 with _ | ⟨y | ⟨c, y⟩, M2⟩ <;> rw [q2] at p
    · exact p
    · cases y <;> first | exact p | skip
      intro R2 ρ2 H2 vs e2 w2 r2
      exact p R2 ρ2 H2 (v :: vs) (e1.trans e2) w2 (.cons (r1.mono e2.gr) r2)
    · exact PostX.ext e1 p
  · exact p
end
section
variable {X : Cx} {G : Sig} {E : XK} {k n : Nat} {f : Addr} {fd : FuncData} {ps ks : List Str} {x : Str} {p pos : Pos} {kws : List Keyword} {tk : TA} {sp : Sp} {g : List Value → List Value → List Value} {gV : List V → List V → List V} {CX : CXT}
theorem run_fnGW {pins : List (Addr × Obj)} {σ : L2.St} {H : Hp} {s : Shared} {Q : VK} {us ws : List Value} {vs zs : List V} (F : FnG X.prog X.w X.K X.mg X.base CX k f fd ps sp) (hr : Room k X.A) (hgd : X.A.guards = some []) (hb : KBn X.K fd ps n ks g gV) (hx : Passes CX X E)
    (I : Inv X pins σ H s) (r : Vals vs us) (rz : Vals zs ws) (l1 : vs.length = n) (l2 : zs.length = ks.length) (h : sp (gV vs zs) H Q E) : wpAny (model X.prog X.w) X.A (call (.ref f) us (ks.zip ws)) (EP X pins σ Q) X.xe s := by
  have r2 := hb.rel r rz
  refine wpAny_call (codeAny_mono (F.go X.A hr hgd X.stack s H I.env0 ⟨us, ks.zip ws⟩ (g us ws) (gV vs zs) (hb.to s us ws I.kIn (r.length.symm.trans l1) (rz.length.symm.trans l2)) r2 Q E h) fun r s' hq => ?_)
  cases r with
  | error e => exact hx pins σ H s e s' I hq
  | ok fl =>
    cases fl with
    | ret u => exact I.after hq
    | next => exact False.elim hq
    | brk => exact False.elim hq
    | cont => exact False.elim hq
theorem pe_callGW (F : FnG X.prog X.w X.K X.mg X.base CX k f fd ps sp) (hr : Room k X.A) (hgd : X.A.guards = some []) (hg : Gl X x) (hm : X.mg x = some (.ref f)) (hk : PySem.W.keepIn X.K (.ref f) = true) (hb : KBn X.K fd ps 0 ks g gV) (hx : Passes CX X E)
    (hkw : PK X kws tk) (hall : (backToKw pos (keywordEach kws X.env)).all (·.1.isSome) = true := by rfl) (hks : (backToKw pos (keywordEach kws X.env)).filterMap (·.1) = ks := by rfl)
    (hdb : (x == ("__debug__" : Str)) = false := by decide)
    (hpl : ((backTo pos (starEach [] X.env)).any (·.1) || (backToKw pos (keywordEach kws X.env)).any (·.1.isNone)) = false := by rfl) :
    PE X (.Call (.Name x p) [] kws pos) (fun σ H Q => tk σ H fun zs H2 => zs.length = ks.length ∧ sp (gV [] zs) H2 Q E) := by
  refine ⟨fun pins s σ H Q I h => ?_⟩
  refine wpAny_Call_Name_kw (ld_glob I hg hm ?_ hdb)
  refine PySem.W.callWith_KW0 (h₀ := X.base) I.ok.mod.kin hk hall ?_ hpl
  refine thn (hkw.run pos pins s σ H _ I h) fun ws s2 ⟨zs, H2, I2, rz, l2, q2⟩ => ⟨I2.kIn, ?_⟩
  rw [hks]
  exact run_fnGW F hr hgd hb hx I2 .nil rz rfl l2 q2
end
/-- a callee by keywords alone, its body by value -/
structure CalW (P : Program) (w : World) (K : PySem.W.Frag) (mg : Str → Option Value) (base : Heap) (G : Sig) (x : Str) (lv n : Nat) (ks : List Str) (gA : List Va → List Va) (fM : FM) : Prop where
  ex : ∃ (f : Addr) (fd : FuncData) (ps : List Str) (g : List Value → List Value → List Value) (gV : List V → List V → List V), mg x = some (.ref f) ∧ PySem.W.keepIn K (.ref f) = true ∧ KBn K fd ps 0 ks g gV ∧
    FnG P w K mg base CX0 lv f fd ps (spI G n fM) ∧ (∀ R ρ l zs, VRs G R ρ l zs → l.length = ks.length → VRs G R ρ (gA l) (gV [] zs)) ∧ ∀ zs, zs.length = ks.length → (gV [] zs).length = n
section
variable {X : Cx} {G : Sig} {k lv n : Nat} {x : Str} {p' pos : Pos} {kws : List Keyword} {ea : SE} {ks : List Str} {gA : List Va → List Va} {fM : FM}
theorem q_calW (C : CalW X.prog X.w X.K X.mg X.base G x lv n ks gA fM) (hr : Room k X.A) {m : Nat} (hml : ks.length = m) (hl : lv ≤ k) (hgd : X.A.guards = some []) (hg : Gl X x) (hkw : PK X kws (tA G E0 ea)) (hdb : (x == ("__debug__" : Str)) = false := by decide)
    (hall : (backToKw pos (keywordEach kws X.env)).all (·.1.isSome) = true := by rfl) (hks : (backToKw pos (keywordEach kws X.env)).filterMap (·.1) = ks := by rfl)
    (hpl : ((backTo pos (starEach [] X.env)).any (·.1) || (backToKw pos (keywordEach kws X.env)).any (·.1.isNone)) = false := by rfl) :
    PE X (.Call (.Name x p') [] kws pos) (tE G E0 (evL (kFnW m gA fM) ea)) := by
  subst hml
  obtain ⟨f, fd, ps, g, gV, hm, hk, hb, F, hv, hlen⟩ := C.ex
  refine pe_imp (pe_callGW F (hr.mono hl) hgd hg hm hk hb pass0 hkw hall hks hdb hpl) fun σ H Q ⟨R, ρ, s, M, w, sr, p⟩ => stepA w sr p fun R1 ρ1 M1 H1 l vs e1 w1 sr1 r1 p1 => ?_
  unfold kFnW at p1
  by_cases hl : l.length = ks.length
  · rw [if_pos hl] at p1
    have hz : vs.length = ks.length := by rw [← r1.length]; exact hl
    exact ⟨hz, hlen vs hz, R1, ρ1, M1, gA l, w1, hv _ _ _ _ r1 hl, p1⟩
  · rw [if_neg hl] at p1; exact p1.elim
end
end PV

set_option Elab.async false
set_option linter.all false
set_option maxRecDepth 100000
set_option maxHeartbeats 4000000
/-! zip of three lists: its new, its next, its turns -/
namespace Z3
open PySem
open PySem.Sem (wp)
theorem typeCall3 (a b c : Value) : checkTypeCall "zip" ⟨[a, b, c], []⟩ = pure () := by kernel_rfl
theorem newCall3 (a b c : Value) : checkBuiltinCall "zip.__new__" ⟨[.type "zip", a, b, c], []⟩ = pure () := by kernel_rfl
theorem args_init4 (a b c d : Value) : argsOk "object.__init__" ⟨[a, b, c, d], []⟩ := by
  unfold argsOk; rw [signature?_of (id := "object.__init__") (n := ['_', '_', 't', 'i', 'n', 'i', '_', '_']) (o := ['t', 'c', 'e', 'j', 'b', 'o']) (by kernel_rfl) F.owner_object]; kernel_rfl
abbrev IsTri (h : Heap) (T : Addr) (a b c : Value) : Prop := h.get? T = some { cls := .type "tuple", data := .seq #[a, b, c] }
/-- all the parts of a zip of three lists apart -/
structure Ap (z TI TO i1 i2 i3 l1 l2 l3 : Addr) : Prop where
  TOz : TO ≠ z
  i1z : i1 ≠ z
  i2z : i2 ≠ z
  i3z : i3 ≠ z
  TOi1 : TO ≠ i1
  TOi2 : TO ≠ i2
  TOi3 : TO ≠ i3
  i12 : i1 ≠ i2
  i13 : i1 ≠ i3
  i23 : i2 ≠ i3
  nTI : TI ≠ z ∧ TI ≠ TO ∧ TI ≠ i1 ∧ TI ≠ i2 ∧ TI ≠ i3
  n1 : l1 ≠ z ∧ l1 ≠ TO ∧ l1 ≠ i1 ∧ l1 ≠ i2 ∧ l1 ≠ i3
  n2 : l2 ≠ z ∧ l2 ≠ TO ∧ l2 ≠ i1 ∧ l2 ≠ i2 ∧ l2 ≠ i3
  n3 : l3 ≠ z ∧ l3 ≠ TO ∧ l3 ≠ i1 ∧ l3 ≠ i2 ∧ l3 ≠ i3
section
variable {prog : Program} {w : World} {A : Around} {E : Value → Shared → Prop} {s : Shared}
theorem upd3 {T : Addr} {a b c x : Value} {k : Nat} {Q : Unit → Shared → Prop} (hT : IsTri s.heap T a b c)
    (h : ∀ h', h'.get? T = some { cls := .type "tuple", data := .seq ((#[a, b, c] : Array Value).setIfInBounds k x) } → Heap.SameBut T s.heap h' → Q () { s with heap := h' }) :
    wpAny (model prog w) A (updateSeq T (·.setIfInBounds k x)) Q E s := by
  refine wpAny_updateSeq hT rfl (h _ ?_ (Heap.SameBut.update ..))
  rw [Heap.get?_update_self _ hT rfl]
  simp [Obj.mapSeq]
theorem next_item {z TI TO i1 i2 i3 l1 l2 l3 : Addr} {k : Nat} {xs ys us : Array Value} {x y u a b c : Value} {Q : Value → Shared → Prop} (D : Ap z TI TO i1 i2 i3 l1 l2 l3)
    (hz : IsZip s.heap z TI TO .none) (hTI : IsTri s.heap TI (.ref i1) (.ref i2) (.ref i3)) (hTO : IsTri s.heap TO a b c)
    (h1 : s.heap.IsListIter i1 l1 k) (h2 : s.heap.IsListIter i2 l2 k) (h3 : s.heap.IsListIter i3 l3 k) (hl1 : s.heap.IsList l1 xs) (hl2 : s.heap.IsList l2 ys) (hl3 : s.heap.IsList l3 us) (hx : xs[k]? = some x) (hy : ys[k]? = some y) (hu : us[k]? = some u)
    (hQ : ∀ h', IsZip h' z TI TO (rawInt s.heap.objs.size) → IsTri h' TO x y u → h'.IsListIter i1 l1 (k + 1) → h'.IsListIter i2 l2 (k + 1) → h'.IsListIter i3 l3 (k + 1) → IsTri h' s.heap.objs.size x y u → h'.objs.size = s.heap.objs.size + 1 →
      (∀ c o, c ≠ z → c ≠ TO → c ≠ i1 → c ≠ i2 → c ≠ i3 → s.heap.get? c = some o → h'.get? c = some o) → Q (.ref s.heap.objs.size) { s with heap := h' }) :
    wpAny (model prog w) A (Builtin.«zip.__next__» ⟨[.ref z], []⟩) (fun fin s' => ∃ v, fin = .done (.ret v) ∧ Q v s') E s := by
  show wpAny _ _ (field (.ref z) 2 >>= _) _ _ _
  refine wpAny_bind (wpAny_field hz rfl (x := .bool false) rfl ?_)
  show wpAny _ _ (field (.ref z) 3 >>= _) _ _ _
  refine wpAny_bind (wpAny_field hz rfl (x := .ref TI) rfl ?_)
  refine wpAny_bind (wpAny_seqItems hTI rfl ?_)
  show wpAny _ _ (Builtin.SmallTypes.ownedTupleIsFree (.ref z) >>= _) _ _ _
  refine wpAny_bind ?_
  unfold Builtin.SmallTypes.ownedTupleIsFree
  refine wpAny_bind (wpAny_field hz rfl (x := .none) rfl (wpAny_pure ?_))
  simp only [if_true]
  refine wpAny_bind (wpAny_rule ?_)
  refine wpAny_bind (wpAny_field hz rfl (x := .ref TO) rfl ?_)
  refine wpAny_bind (wpAny_setField_rec hz (by simp) fun g1 hz1 s1 => ?_)
  replace hz1 : IsZip g1 z TI TO .ellipsis := hz1
  have k1 : ∀ c o, c ≠ z → s.heap.get? c = some o → g1.get? c = some o := s1.extBut
  refine wpAny_bind ?_
  simp only [List.zipIdx_cons, List.zipIdx_nil, List.forIn_cons, List.forIn_nil]
  -- the first
  refine wpAny_bind (wpAny_bind (wpAny_onRaise ?_))
  show wpAny _ _ (Builtin.SmallTypes.nextOf (.ref i1) >>= _) _ _ _
  refine wpAny_bind (wpAny_nextOf_list_item (h1.at fun o e => k1 _ o D.i1z e) (hl1.at fun o e => k1 _ o D.n1.1 e) hx fun g2 it1 s2 => wpAny_pure ?_)
  have k2 : ∀ c o, c ≠ z → c ≠ i1 → s.heap.get? c = some o → g2.get? c = some o := fun c o c1 c2 e => s2.extBut _ _ c2 (k1 c o c1 e)
  have to2 : IsTri g2 TO a b c := k2 _ _ D.TOz D.TOi1 hTO
  refine wpAny_bind (wpAny_seqItems to2 rfl ?_)
  refine wpAny_bind (upd3 to2 fun g3 to3 s3 => ?_)
  replace to3 : IsTri g3 TO x b c := to3
  have k3 : ∀ c o, c ≠ z → c ≠ i1 → c ≠ TO → s.heap.get? c = some o → g3.get? c = some o := fun c o c1 c2 c3 e => s3.extBut _ _ c3 (k2 c o c1 c2 e)
  refine wpAny_bind (wpAny_letGo (wpAny_pure ?_))
  -- the second
  refine wpAny_bind (wpAny_bind (wpAny_onRaise ?_))
  show wpAny _ _ (Builtin.SmallTypes.nextOf (.ref i2) >>= _) _ _ _
  refine wpAny_bind (wpAny_nextOf_list_item (h2.at fun o e => k3 _ o D.i2z D.i12.symm D.TOi2.symm e) (hl2.at fun o e => k3 _ o D.n2.1 D.n2.2.2.1 D.n2.2.1 e) hy fun g4 it2 s4 => wpAny_pure ?_)
  have k4 : ∀ c o, c ≠ z → c ≠ i1 → c ≠ TO → c ≠ i2 → s.heap.get? c = some o → g4.get? c = some o := fun c o c1 c2 c3 c4 e => s4.extBut _ _ c4 (k3 c o c1 c2 c3 e)
  have to4 : IsTri g4 TO x b c := s4.extBut _ _ D.TOi2 to3
  refine wpAny_bind (wpAny_seqItems to4 rfl ?_)
  refine wpAny_bind (upd3 to4 fun g5 to5 s5 => ?_)
  replace to5 : IsTri g5 TO x y c := to5
  have k5 : ∀ c o, c ≠ z → c ≠ i1 → c ≠ TO → c ≠ i2 → s.heap.get? c = some o → g5.get? c = some o := fun c o c1 c2 c3 c4 e => s5.extBut _ _ c3 (k4 c o c1 c2 c3 c4 e)
  refine wpAny_bind (wpAny_letGo (wpAny_pure ?_))
  -- the third
  refine wpAny_bind (wpAny_bind (wpAny_onRaise ?_))
  show wpAny _ _ (Builtin.SmallTypes.nextOf (.ref i3) >>= _) _ _ _
  refine wpAny_bind (wpAny_nextOf_list_item (h3.at fun o e => k5 _ o D.i3z D.i13.symm D.TOi3.symm D.i23.symm e) (hl3.at fun o e => k5 _ o D.n3.1 D.n3.2.2.1 D.n3.2.1 D.n3.2.2.2.1 e) hu fun g6 it3 s6 => wpAny_pure ?_)
  have k6 : ∀ c o, c ≠ z → c ≠ i1 → c ≠ TO → c ≠ i2 → c ≠ i3 → s.heap.get? c = some o → g6.get? c = some o := fun c o c1 c2 c3 c4 c5 e => s6.extBut _ _ c5 (k5 c o c1 c2 c3 c4 e)
  have to6 : IsTri g6 TO x y c := s6.extBut _ _ D.TOi3 to5
  refine wpAny_bind (wpAny_seqItems to6 rfl ?_)
  refine wpAny_bind (upd3 to6 fun g7 to7 s7 => ?_)
  replace to7 : IsTri g7 TO x y u := to7
  have k7 : ∀ c o, c ≠ z → c ≠ i1 → c ≠ TO → c ≠ i2 → c ≠ i3 → s.heap.get? c = some o → g7.get? c = some o := fun c o c1 c2 c3 c4 c5 e => s7.extBut _ _ c3 (k6 c o c1 c2 c3 c4 c5 e)
  refine wpAny_bind (wpAny_letGo (wpAny_pure (wpAny_pure ?_)))
  refine wpAny_bind (wpAny_seqItems to7 rfl ?_)
  refine wpAny_bind (wpAny_newTuple ?_)
  have hsz : g7.objs.size = s.heap.objs.size := by rw [s7.1, s6.1, s5.1, s4.1, s3.1, s2.1, s1.1]
  have hz7 : IsZip g7 z TI TO .ellipsis := s7.extBut _ _ D.TOz.symm (s6.extBut _ _ D.i3z.symm (s5.extBut _ _ D.TOz.symm (s4.extBut _ _ D.i2z.symm (s3.extBut _ _ D.TOz.symm (s2.extBut _ _ D.i1z.symm hz1)))))
  have it1' : g7.IsListIter i1 l1 (k + 1) := it1.at fun o e => s7.extBut _ _ D.TOi1.symm (s6.extBut _ _ D.i13 (s5.extBut _ _ D.TOi1.symm (s4.extBut _ _ D.i12 (s3.extBut _ _ D.TOi1.symm e))))
  have it2' : g7.IsListIter i2 l2 (k + 1) := it2.at fun o e => s7.extBut _ _ D.TOi2.symm (s6.extBut _ _ D.i23 (s5.extBut _ _ D.TOi2.symm e))
  have it3' : g7.IsListIter i3 l3 (k + 1) := it3.at fun o e => s7.extBut _ _ D.TOi3.symm e
  have hzlt : z < g7.objs.size := Heap.lt_size hz7
  show wpAny _ _ (Builtin.SmallTypes.ownedTupleHandOut (.ref z) (.ref g7.objs.size) >>= _) _ _ _
  refine wpAny_bind ?_
  unfold Builtin.SmallTypes.ownedTupleHandOut
  have hz8 : IsZip (g7.push { cls := .type "tuple", data := .seq #[x, y, u] }) z TI TO .ellipsis := Heap.get?_push_of_some _ hz7
  refine wpAny_bind (wpAny_setField_rec hz8 (by simp) fun g9 hz9 s9 => ?_)
  replace hz9 : IsZip g9 z TI TO (rawInt g7.objs.size) := hz9
  refine wpAny_setField_rec hz9 (by simp) fun g10 hz10 s10 => ?_
  replace hz10 : IsZip g10 z TI TO (rawInt g7.objs.size) := hz10
  have up : ∀ c o, c ≠ z → g7.get? c = some o → g10.get? c = some o := fun c o c1 e => s10.extBut _ _ c1 (s9.extBut _ _ c1 (Heap.get?_push_of_some _ e))
  have hT : IsTri g10 g7.objs.size x y u := s10.extBut _ _ (Nat.ne_of_gt hzlt) (s9.extBut _ _ (Nat.ne_of_gt hzlt) (Heap.get?_push_size _ rfl))
  have hs10 : g10.objs.size = g7.objs.size + 1 := by rw [s10.1, s9.1, Heap.size_push]
  rw [hsz] at hz10 hT hs10
  refine wpAny_pure ⟨_, rfl, ?_⟩
  show Q (.ref g7.objs.size) _
  rw [hsz]
  exact hQ g10 hz10 (up _ _ D.TOz to7) (it1'.at fun o e => up _ o D.i1z e) (it2'.at fun o e => up _ o D.i2z e) (it3'.at fun o e => up _ o D.i3z e) hT hs10 fun c o c1 c2 c3 c4 c5 e => up c o c1 (k7 c o c1 c3 c2 c4 c5 e)
theorem next_end {z TI TO i1 i2 i3 l1 l2 l3 : Addr} {k : Nat} {xs ys us : Array Value} {a b c : Value} {Q : Fin → Shared → Prop} (hh : A.handled = none) (D : Ap z TI TO i1 i2 i3 l1 l2 l3)
    (hz : IsZip s.heap z TI TO .none) (hTI : IsTri s.heap TI (.ref i1) (.ref i2) (.ref i3)) (hTO : IsTri s.heap TO a b c)
    (h1 : s.heap.IsListIter i1 l1 k) (h2 : s.heap.IsListIter i2 l2 k) (h3 : s.heap.IsListIter i3 l3 k) (hl1 : s.heap.IsList l1 xs) (hl2 : s.heap.IsList l2 ys) (hl3 : s.heap.IsList l3 us) (hend : xs[k]? = none ∨ ys[k]? = none ∨ us[k]? = none)
    (hE : ∀ h' e, (∀ c o, c ≠ z → c ≠ TO → c ≠ i1 → c ≠ i2 → c ≠ i3 → s.heap.get? c = some o → h'.get? c = some o) → (∃ o, h'.get? e = some o ∧ o.cls = .type "StopIteration") → E (.ref e) { s with heap := h' }) :
    wpAny (model prog w) A (Builtin.«zip.__next__» ⟨[.ref z], []⟩) Q E s := by
  show wpAny _ _ (field (.ref z) 2 >>= _) _ _ _
  refine wpAny_bind (wpAny_field hz rfl (x := .bool false) rfl ?_)
  show wpAny _ _ (field (.ref z) 3 >>= _) _ _ _
  refine wpAny_bind (wpAny_field hz rfl (x := .ref TI) rfl ?_)
  refine wpAny_bind (wpAny_seqItems hTI rfl ?_)
  show wpAny _ _ (Builtin.SmallTypes.ownedTupleIsFree (.ref z) >>= _) _ _ _
  refine wpAny_bind ?_
  unfold Builtin.SmallTypes.ownedTupleIsFree
  refine wpAny_bind (wpAny_field hz rfl (x := .none) rfl (wpAny_pure ?_))
  simp only [if_true]
  refine wpAny_bind (wpAny_rule ?_)
  refine wpAny_bind (wpAny_field hz rfl (x := .ref TO) rfl ?_)
  refine wpAny_bind (wpAny_setField_rec hz (by simp) fun g1 hz1 s1 => ?_)
  replace hz1 : IsZip g1 z TI TO .ellipsis := hz1
  have k1 : ∀ c o, c ≠ z → s.heap.get? c = some o → g1.get? c = some o := s1.extBut
  refine wpAny_bind ?_
  simp only [List.zipIdx_cons, List.zipIdx_nil, List.forIn_cons, List.forIn_nil]
  refine wpAny_bind (wpAny_bind (wpAny_onRaise ?_))
  show wpAny _ _ (Builtin.SmallTypes.nextOf (.ref i1) >>= _) _ _ _
  cases hx : xs[k]? with
  | none =>
    refine wpAny_bind (wpAny_nextOf_list_end hh (h1.at fun o e => k1 _ o D.i1z e) (hl1.at fun o e => k1 _ o D.n1.1 e) hx fun g2 e s2 he => ?_)
    obtain ⟨oe, hoe, hce⟩ := he
    have hz2 : IsZip g2 z TI TO .ellipsis := s2 _ _ D.i1z.symm hz1
    have hez : e ≠ z := fun q => by subst q; rw [hz2] at hoe; cases hoe; simp at hce
    refine wpAny_setField_rec hz2 (by simp) fun g3 _ s3 => hE g3 e (fun c o c1 _ c3 _ _ q => s3.extBut _ _ c1 (s2 _ _ c3 (k1 c o c1 q))) ⟨oe, s3.extBut _ _ hez hoe, hce⟩
  | some x =>
    refine wpAny_bind (wpAny_nextOf_list_item (h1.at fun o e => k1 _ o D.i1z e) (hl1.at fun o e => k1 _ o D.n1.1 e) hx fun g2 it1 s2 => wpAny_pure ?_)
    have k2 : ∀ c o, c ≠ z → c ≠ i1 → s.heap.get? c = some o → g2.get? c = some o := fun c o c1 c2 e => s2.extBut _ _ c2 (k1 c o c1 e)
    have to2 : IsTri g2 TO a b c := k2 _ _ D.TOz D.TOi1 hTO
    have hz2 : IsZip g2 z TI TO .ellipsis := s2.extBut _ _ D.i1z.symm hz1
    refine wpAny_bind (wpAny_seqItems to2 rfl ?_)
    refine wpAny_bind (upd3 to2 fun g3 to3 s3 => ?_)
    replace to3 : IsTri g3 TO x b c := to3
    have k3 : ∀ c o, c ≠ z → c ≠ i1 → c ≠ TO → s.heap.get? c = some o → g3.get? c = some o := fun c o c1 c2 c3 e => s3.extBut _ _ c3 (k2 c o c1 c2 e)
    have hz3 : IsZip g3 z TI TO .ellipsis := s3.extBut _ _ D.TOz.symm hz2
    refine wpAny_bind (wpAny_letGo (wpAny_pure ?_))
    refine wpAny_bind (wpAny_bind (wpAny_onRaise ?_))
    show wpAny _ _ (Builtin.SmallTypes.nextOf (.ref i2) >>= _) _ _ _
    cases hy : ys[k]? with
    | none =>
      refine wpAny_bind (wpAny_nextOf_list_end hh (h2.at fun o e => k3 _ o D.i2z D.i12.symm D.TOi2.symm e) (hl2.at fun o e => k3 _ o D.n2.1 D.n2.2.2.1 D.n2.2.1 e) hy fun g4 e s4 he => ?_)
      obtain ⟨oe, hoe, hce⟩ := he
      have hz4 : IsZip g4 z TI TO .ellipsis := s4 _ _ D.i2z.symm hz3
      have hez : e ≠ z := fun q => by subst q; rw [hz4] at hoe; cases hoe; simp at hce
      refine wpAny_setField_rec hz4 (by simp) fun g5 _ s5 => hE g5 e (fun c o c1 c2 c3 c4 _ q => s5.extBut _ _ c1 (s4 _ _ c4 (k3 c o c1 c3 c2 q))) ⟨oe, s5.extBut _ _ hez hoe, hce⟩
    | some y =>
      have hu : us[k]? = none := by rcases hend with h | h | h; rw [hx] at h; cases h; rw [hy] at h; cases h; exact h
      refine wpAny_bind (wpAny_nextOf_list_item (h2.at fun o e => k3 _ o D.i2z D.i12.symm D.TOi2.symm e) (hl2.at fun o e => k3 _ o D.n2.1 D.n2.2.2.1 D.n2.2.1 e) hy fun g4 it2 s4 => wpAny_pure ?_)
      have k4 : ∀ c o, c ≠ z → c ≠ i1 → c ≠ TO → c ≠ i2 → s.heap.get? c = some o → g4.get? c = some o := fun c o c1 c2 c3 c4 e => s4.extBut _ _ c4 (k3 c o c1 c2 c3 e)
      have to4 : IsTri g4 TO x b c := s4.extBut _ _ D.TOi2 to3
      have hz4 : IsZip g4 z TI TO .ellipsis := s4.extBut _ _ D.i2z.symm hz3
      refine wpAny_bind (wpAny_seqItems to4 rfl ?_)
      refine wpAny_bind (upd3 to4 fun g5 to5 s5 => ?_)
      have k5 : ∀ c o, c ≠ z → c ≠ i1 → c ≠ TO → c ≠ i2 → s.heap.get? c = some o → g5.get? c = some o := fun c o c1 c2 c3 c4 e => s5.extBut _ _ c3 (k4 c o c1 c2 c3 c4 e)
      have hz5 : IsZip g5 z TI TO .ellipsis := s5.extBut _ _ D.TOz.symm hz4
      refine wpAny_bind (wpAny_letGo (wpAny_pure ?_))
      refine wpAny_bind (wpAny_bind (wpAny_onRaise ?_))
      show wpAny _ _ (Builtin.SmallTypes.nextOf (.ref i3) >>= _) _ _ _
      refine wpAny_bind (wpAny_nextOf_list_end hh (h3.at fun o e => k5 _ o D.i3z D.i13.symm D.TOi3.symm D.i23.symm e) (hl3.at fun o e => k5 _ o D.n3.1 D.n3.2.2.1 D.n3.2.1 D.n3.2.2.2.1 e) hu fun g6 e s6 he => ?_)
      obtain ⟨oe, hoe, hce⟩ := he
      have hz6 : IsZip g6 z TI TO .ellipsis := s6 _ _ D.i3z.symm hz5
      have hez : e ≠ z := fun q => by subst q; rw [hz6] at hoe; cases hoe; simp at hce
      refine wpAny_setField_rec hz6 (by simp) fun g7 _ s7 => hE g7 e (fun c o c1 c2 c3 c4 c5 q => s7.extBut _ _ c1 (s6 _ _ c5 (k5 c o c1 c3 c2 c4 q))) ⟨oe, s7.extBut _ _ hez hoe, hce⟩
theorem pyNext_item {z TI TO i1 i2 i3 l1 l2 l3 : Addr} {k : Nat} {xs ys us : Array Value} {x y u a b c : Value} {Q : Option Value → Shared → Prop} (D : Ap z TI TO i1 i2 i3 l1 l2 l3)
    (hz : IsZip s.heap z TI TO .none) (hTI : IsTri s.heap TI (.ref i1) (.ref i2) (.ref i3)) (hTO : IsTri s.heap TO a b c)
    (h1 : s.heap.IsListIter i1 l1 k) (h2 : s.heap.IsListIter i2 l2 k) (h3 : s.heap.IsListIter i3 l3 k) (hl1 : s.heap.IsList l1 xs) (hl2 : s.heap.IsList l2 ys) (hl3 : s.heap.IsList l3 us) (hx : xs[k]? = some x) (hy : ys[k]? = some y) (hu : us[k]? = some u)
    (hQ : ∀ h', IsZip h' z TI TO (rawInt s.heap.objs.size) → IsTri h' TO x y u → h'.IsListIter i1 l1 (k + 1) → h'.IsListIter i2 l2 (k + 1) → h'.IsListIter i3 l3 (k + 1) → IsTri h' s.heap.objs.size x y u → h'.objs.size = s.heap.objs.size + 1 →
      (∀ c o, c ≠ z → c ≠ TO → c ≠ i1 → c ≠ i2 → c ≠ i3 → s.heap.get? c = some o → h'.get? c = some o) → Q (some (.ref s.heap.objs.size)) { s with heap := h' }) :
    wpAny (model prog w) A (pyNext (.ref z)) Q E s := by
  have hT : s.TypeIs (.ref z) "zip" := ⟨_, hz, rfl⟩
  unfold pyNext
  exact wpAny_bind (wpAny_attempt (wpAny_callSpecial?_slot (name := Str.ofString "__next__") hT F.slot_zip_next
    (wpAny_call_entry F.slot_zip_next hT F.entry_zip_next
      (next_item D hz hTI hTO h1 h2 h3 hl1 hl2 hl3 hx hy hu fun h' a1 a2 a3 a4 a5 a6 a7 a8 => wpAny_pure (hQ h' a1 a2 a3 a4 a5 a6 a7 a8)) (F.args_zip_next_1 _))))
theorem pyNext_end {z TI TO i1 i2 i3 l1 l2 l3 : Addr} {k : Nat} {xs ys us : Array Value} {a b c : Value} {Q : Option Value → Shared → Prop} (hh : A.handled = none) (D : Ap z TI TO i1 i2 i3 l1 l2 l3)
    (hz : IsZip s.heap z TI TO .none) (hTI : IsTri s.heap TI (.ref i1) (.ref i2) (.ref i3)) (hTO : IsTri s.heap TO a b c)
    (h1 : s.heap.IsListIter i1 l1 k) (h2 : s.heap.IsListIter i2 l2 k) (h3 : s.heap.IsListIter i3 l3 k) (hl1 : s.heap.IsList l1 xs) (hl2 : s.heap.IsList l2 ys) (hl3 : s.heap.IsList l3 us) (hend : xs[k]? = none ∨ ys[k]? = none ∨ us[k]? = none)
    (hQ : ∀ h', (∀ c o, c ≠ z → c ≠ TO → c ≠ i1 → c ≠ i2 → c ≠ i3 → s.heap.get? c = some o → h'.get? c = some o) → Q none { s with heap := h' }) : wpAny (model prog w) A (pyNext (.ref z)) Q E s := by
  have hT : s.TypeIs (.ref z) "zip" := ⟨_, hz, rfl⟩
  unfold pyNext
  refine wpAny_bind (wpAny_attempt (wpAny_callSpecial?_slot (name := Str.ofString "__next__") hT F.slot_zip_next
    (wpAny_call_entry F.slot_zip_next hT F.entry_zip_next (next_end hh D hz hTI hTO h1 h2 h3 hl1 hl2 hl3 hend fun h' e hk he => ?_) (F.args_zip_next_1 _))))
  obtain ⟨o, ho, hc⟩ := he
  refine wpAny_bind (wpAny_isInstance (T := "StopIteration") (b := true) ⟨o, ho, hc⟩ isSubtype_stop ?_)
  exact wpAny_pure (hQ _ hk)
end
abbrev q1 (h : Heap) (l1 : Addr) : Heap := h.push { cls := .type "list_iterator", data := .fields #[.ref l1, .int 0 0] }
abbrev q2 (h : Heap) (l1 l2 : Addr) : Heap := (q1 h l1).push { cls := .type "list_iterator", data := .fields #[.ref l2, .int 0 0] }
abbrev q3 (h : Heap) (l1 l2 l3 : Addr) : Heap := (q2 h l1 l2).push { cls := .type "list_iterator", data := .fields #[.ref l3, .int 0 0] }
abbrev q4 (h : Heap) (l1 l2 l3 : Addr) : Heap := (q3 h l1 l2 l3).push { cls := .type "tuple", data := .seq #[.ref h.objs.size, .ref (q1 h l1).objs.size, .ref (q2 h l1 l2).objs.size] }
abbrev q5 (h : Heap) (l1 l2 l3 : Addr) : Heap := (q4 h l1 l2 l3).push { cls := .type "tuple", data := .seq #[.none, .none, .none] }
abbrev q6 (h : Heap) (l1 l2 l3 : Addr) : Heap := (q5 h l1 l2 l3).push { cls := .type "zip", data := .fields #[.none, .bool false, .bool false, .ref (q3 h l1 l2 l3).objs.size, .ref (q4 h l1 l2 l3).objs.size] }
theorem meets_new (l1 l2 l3 : Addr) (xs ys us : Array Value) :
    Meets (Builtin.«zip.__new__» ⟨[.type "zip", .ref l1, .ref l2, .ref l3], []⟩) (fun _ R s => s.heap.IsList l1 xs ∧ s.heap.IsList l2 ys ∧ s.heap.IsList l3 us ∧
      R (.ok (.ret (.ref (q5 s.heap l1 l2 l3).objs.size))) { s with heap := q6 s.heap l1 l2 l3 }) :=
  .of_wp fun prog w A R s h => by
    obtain ⟨hp, g, d, tk, os⟩ := s; obtain ⟨hl1, hl2, hl3, h⟩ := h
    have hsub := sub_zip
    have hL1 : Heap.IsList (Shared.heap ⟨hp, g, d, tk, os⟩) l1 xs := hl1
    have hL2 : Heap.IsList (Shared.heap ⟨hp.push { cls := .type "list_iterator", data := .fields #[.ref l1, .int 0 0] }, g, d, tk, os⟩) l2 ys := Heap.IsList.push hl2 _
    have hL3 : Heap.IsList (Shared.heap ⟨(hp.push { cls := .type "list_iterator", data := .fields #[.ref l1, .int 0 0] }).push { cls := .type "list_iterator", data := .fields #[.ref l2, .int 0 0] }, g, d, tk, os⟩) l3 us := Heap.IsList.push (Heap.IsList.push hl3 _) _
    wp_walk using wpAny_pyIter_list hL1, wpAny_pyIter_list hL2, wpAny_pyIter_list hL3
    exact ⟨_, rfl, h⟩
section
variable {prog : Program} {w : World} {A : Around} {E : Value → Shared → Prop} {s : Shared}
theorem call3 {l1 l2 l3 : Addr} {xs ys us : Array Value} {Q : Value → Shared → Prop} (hl1 : s.heap.IsList l1 xs) (hl2 : s.heap.IsList l2 ys) (hl3 : s.heap.IsList l3 us)
    (h : ∀ h', IsZip h' (s.heap.objs.size + 5) (s.heap.objs.size + 3) (s.heap.objs.size + 4) .none → IsTri h' (s.heap.objs.size + 3) (.ref s.heap.objs.size) (.ref (s.heap.objs.size + 1)) (.ref (s.heap.objs.size + 2)) →
      IsTri h' (s.heap.objs.size + 4) .none .none .none → h'.IsListIter s.heap.objs.size l1 0 → h'.IsListIter (s.heap.objs.size + 1) l2 0 → h'.IsListIter (s.heap.objs.size + 2) l3 0 → h'.objs.size = s.heap.objs.size + 6 →
      (∀ c o, s.heap.get? c = some o → h'.get? c = some o) → Q (.ref (s.heap.objs.size + 5)) { s with heap := h' }) :
    wpAny (model prog w) A (call (.type "zip") [.ref l1, .ref l2, .ref l3]) Q E s := by
  refine callType_new F.called_zip (by decide) (typeCall3 _ _ _) (newCall3 _ _ _) (fun obj => args_init4 obj _ _ _) F.entry_zip_new
    (meets_new l1 l2 l3 xs ys us) ⟨hl1, hl2, hl3, ?_⟩
  have z1 : (q1 s.heap l1).objs.size = s.heap.objs.size + 1 := Heap.size_push ..
  have z2 : (q2 s.heap l1 l2).objs.size = s.heap.objs.size + 2 := by rw [Heap.size_push, z1]
  have z3 : (q3 s.heap l1 l2 l3).objs.size = s.heap.objs.size + 3 := by rw [Heap.size_push, z2]
  have z4 : (q4 s.heap l1 l2 l3).objs.size = s.heap.objs.size + 4 := by rw [Heap.size_push, z3]
  have z5 : (q5 s.heap l1 l2 l3).objs.size = s.heap.objs.size + 5 := by rw [Heap.size_push, z4]
  have z6 : (q6 s.heap l1 l2 l3).objs.size = s.heap.objs.size + 6 := by rw [Heap.size_push, z5]
  have g6 : (q6 s.heap l1 l2 l3).get? (q5 s.heap l1 l2 l3).objs.size = some _ := Heap.get?_push_size _ rfl
  have g5 : (q6 s.heap l1 l2 l3).get? (q4 s.heap l1 l2 l3).objs.size = some _ := Heap.get?_push_of_some _ (Heap.get?_push_size _ rfl)
  have g4 : (q6 s.heap l1 l2 l3).get? (q3 s.heap l1 l2 l3).objs.size = some _ := Heap.get?_push_of_some _ (Heap.get?_push_of_some _ (Heap.get?_push_size _ rfl))
  have g3 : (q6 s.heap l1 l2 l3).get? (q2 s.heap l1 l2).objs.size = some _ := Heap.get?_push_of_some _ (Heap.get?_push_of_some _ (Heap.get?_push_of_some _ (Heap.get?_push_size _ rfl)))
  have g2 : (q6 s.heap l1 l2 l3).get? (q1 s.heap l1).objs.size = some _ := Heap.get?_push_of_some _ (Heap.get?_push_of_some _ (Heap.get?_push_of_some _ (Heap.get?_push_of_some _ (Heap.get?_push_size _ rfl))))
  have g1 : (q6 s.heap l1 l2 l3).get? s.heap.objs.size = some _ := Heap.get?_push_of_some _ (Heap.get?_push_of_some _ (Heap.get?_push_of_some _ (Heap.get?_push_of_some _ (Heap.get?_push_of_some _ (Heap.get?_push_size _ rfl)))))
  show _ ∧ _
  rw [z3, z4, z5] at g6
  rw [z1, z2, z3] at g4
  rw [z4] at g5
  rw [z2] at g3
  rw [z1] at g2
  rw [z5]
  exact ⟨⟨_, g6, rfl⟩, h _ g6 g4 g5 ⟨_, g1, rfl, rfl⟩ ⟨_, g2, rfl, rfl⟩ ⟨_, g3, rfl, rfl⟩ z6 fun c o x =>
    Heap.get?_push_of_some _ (Heap.get?_push_of_some _ (Heap.get?_push_of_some _ (Heap.get?_push_of_some _ (Heap.get?_push_of_some _ (Heap.get?_push_of_some _ x)))))⟩
end
end Z3

set_option Elab.async false
set_option linter.all false
set_option maxRecDepth 100000
set_option maxHeartbeats 4000000
/-! zip of three lists, in the value layer -/
namespace PV
open PySem L2 Z3 PyProof.Rows
theorem ap_new (n a b c : Nat) (ha : a < n) (hb : b < n) (hc : c < n) : Ap (n + 5) (n + 3) (n + 4) n (n + 1) (n + 2) a b c := by
  constructor <;> (first | (show (_ : Nat) ≠ (_ : Nat); omega) | (refine ⟨?_, ?_, ?_, ?_, ?_⟩ <;> (show (_ : Nat) ≠ (_ : Nat); omega)))
/-- the lists at a, b and c as they stand at each turn, the items in new tuples -/
def Itz3 (K : PySem.W.Frag) (a b c : Addr) : It :=
  ⟨fun i H => ∃ (xs ys us : List V) (x y u : V), SqL K H a xs ∧ SqL K H b ys ∧ SqL K H c us ∧ xs[i]? = some x ∧ ys[i]? = some y ∧ us[i]? = some u,
    fun i H v H' => ∃ T x y u, v = .ref T ∧ H T = none ∧ H' = upd H T (.tup [x, y, u]) ∧ (∀ xs, SqL K H a xs → xs[i]? = some x) ∧ (∀ ys, SqL K H b ys → ys[i]? = some y) ∧ ∀ us, SqL K H c us → us[i]? = some u,
    fun i H => ∃ xs ys us : List V, SqL K H a xs ∧ SqL K H b ys ∧ SqL K H c us ∧ (xs.length ≤ i ∨ ys.length ≤ i ∨ us.length ≤ i)⟩
theorem turn_zip3 {P : Program} {w : World} {K : PySem.W.Frag} {elts : List Expr} {kk : Nat} {tpos : Pos} {a b c z TI TO i1 i2 i3 : Addr} (D : Ap z TI TO i1 i2 i3 a b c) :
    Turn P w K (.Tuple elts kk tpos) (Itz3 K a b c) [z, TI, TO, i1, i2, i3] z (fun i h => IsZip h z TI TO .none ∧ IsTri h TI (.ref i1) (.ref i2) (.ref i3) ∧ (∃ x y u, IsTri h TO x y u) ∧ h.IsListIter i1 a i ∧ h.IsListIter i2 b i ∧ h.IsListIter i3 c i) where
  mem := by simp
  obj := fun i h st c hc => by
    obtain ⟨hz, hTI, ⟨x, y, u, hTO⟩, ⟨o1, e1, _, d1⟩, ⟨o2, e2, _, d2⟩, ⟨o3, e3, _, d3⟩⟩ := st
    have e' : c = z ∨ c = TI ∨ c = TO ∨ c = i1 ∨ c = i2 ∨ c = i3 := by simpa using hc
    rcases e' with q | q | q | q | q | q
    · rw [q]; exact ⟨_, hz, fun v q => nomatch q⟩
    · rw [q]; exact ⟨_, hTI, fun v q => nomatch q⟩
    · rw [q]; exact ⟨_, hTO, fun v q => nomatch q⟩
    · rw [q]; exact ⟨o1, e1, fun v q => by rw [d1] at q; cases q⟩
    · rw [q]; exact ⟨o2, e2, fun v q => by rw [d2] at q; cases q⟩
    · rw [q]; exact ⟨o3, e3, fun v q => by rw [d3] at q; cases q⟩
  keep := fun i h h' st k => by
    obtain ⟨hz, hTI, ⟨x, y, u, hTO⟩, h1, h2, h3⟩ := st
    exact ⟨k z (by simp) _ hz, k TI (by simp) _ hTI, ⟨x, y, u, k TO (by simp) _ hTO⟩, h1.at fun o q => k i1 (by simp) o q, h2.at fun o q => k i2 (by simp) o q, h3.at fun o q => k i3 (by simp) o q⟩
  item := by
    intro X hP hw hK hc i pins s σ H E I hf st hg
    subst hP hw hK
    obtain ⟨hz, hTI, ⟨x0, y0, u0, hTO⟩, h1, h2, h3⟩ := st
    obtain ⟨xs, ys, us, x, y, u, hqx, hqy, hqu, hx, hy, hu⟩ := hg
    obtain ⟨its, rv, p, _⟩ := I.list hqx
    obtain ⟨its2, rv2, p2, _⟩ := I.list hqy
    obtain ⟨its3, rv3, p3, _⟩ := I.list hqu
    obtain ⟨v1, hv1, r1⟩ := rv.get hx
    obtain ⟨v2, hv2, r2⟩ := rv2.get hy
    obtain ⟨v3, hv3, r3⟩ := rv3.get hu
    have hzl : z < s.heap.objs.size := Heap.lt_size hz
    refine pyNext_item D hz hTI hTO h1 h2 h3 p.isList p2.isList p3.isList (x := v1) (y := v2) (u := v3) (by simpa using hv1) (by simpa using hv2) (by simpa using hv3) fun h' z' TO' h1' h2' h3' hT hsz hk => ?_
    refine ⟨_, rfl, wpAny_letOwnedTupleGo_zip (s := { s with heap := h' }) z' fun h'' z'' sb => ?_⟩
    have hT2 : h''.get? s.heap.objs.size = some { cls := .type "tuple", data := .seq #[v1, v2, v3] } := (sb.2 _ (Nat.ne_of_gt hzl)).trans hT
    have new : ObjOk X.prog X.w (upd H s.heap.objs.size (.tup [x, y, u])) h'' s.heap.objs.size (.tup [x, y, u]) :=
      ⟨by show 3 ≤ sizeLine; decide, [v1, v2, v3], .cons r1 (.cons r2 (.cons r3 .nil)), ⟨_, hT2, rfl, _, rfl⟩⟩
    have I1 : Inv X pins σ (upd H s.heap.objs.size (.tup [x, y, u])) { s with heap := h'' } :=
      I.turnedNew (t' := s.toks) (ch := [z, TI, TO, i1, i2, i3]) (fun c o hb q => (sb.2 c (fun q' => hb (by simp [q']))).trans (hk c o (fun q' => hb (by simp [q'])) (fun q' => hb (by simp [q'])) (fun q' => hb (by simp [q'])) (fun q' => hb (by simp [q'])) (fun q' => hb (by simp [q'])) q)) hf (Nat.le_refl _) new
    refine ⟨.ref s.heap.objs.size, _, I1, rfl, ⟨_, x, y, u, rfl, I.hok.fresh (Nat.le_refl _), rfl, fun l hl => by rw [I.list_inj hl hqx]; exact hx, fun l hl => by rw [I.list_inj hl hqy]; exact hy, fun l hl => by rw [I.list_inj hl hqu]; exact hu⟩, ⟨z'', ?_, ⟨v1, v2, v3, ?_⟩, ?_, ?_, ?_⟩, fun c hcm => ?_⟩
    · exact (sb.2 _ D.nTI.1).trans (hk _ _ D.nTI.1 D.nTI.2.1 D.nTI.2.2.1 D.nTI.2.2.2.1 D.nTI.2.2.2.2 hTI)
    · exact (sb.2 _ D.TOz).trans TO'
    · exact h1'.at fun o q => (sb.2 _ D.i1z).trans q
    · exact h2'.at fun o q => (sb.2 _ D.i2z).trans q
    · exact h3'.at fun o q => (sb.2 _ D.i3z).trans q
    · have hlt : c < s.heap.objs.size := by
        have e' : c = z ∨ c = TI ∨ c = TO ∨ c = i1 ∨ c = i2 ∨ c = i3 := by simpa using hcm
        rcases e' with q | q | q | q | q | q
        · rw [q]; exact hzl
        · rw [q]; exact Heap.lt_size hTI
        · rw [q]; exact Heap.lt_size hTO
        · rw [q]; obtain ⟨_, e1, _⟩ := h1; exact Heap.lt_size e1
        · rw [q]; obtain ⟨_, e2, _⟩ := h2; exact Heap.lt_size e2
        · rw [q]; obtain ⟨_, e3, _⟩ := h3; exact Heap.lt_size e3
      rw [upd_ne (Nat.ne_of_lt hlt)]
      exact (hf c hcm).1
  done := by
    intro X hP hw hK hc i pins s σ H E I hf st hg
    subst hP hw hK
    obtain ⟨hz, hTI, ⟨x0, y0, u0, hTO⟩, h1, h2, h3⟩ := st
    obtain ⟨xs, ys, us, hqx, hqy, hqu, hend⟩ := hg
    obtain ⟨its, rv, p, _⟩ := I.list hqx
    obtain ⟨its2, rv2, p2, _⟩ := I.list hqy
    obtain ⟨its3, rv3, p3, _⟩ := I.list hqu
    have l1 := rv.length
    have l2 := rv2.length
    have l3 := rv3.length
    have he : its.toArray[i]? = none ∨ its2.toArray[i]? = none ∨ its3.toArray[i]? = none := by
      rcases hend with q | q | q
      · exact .inl (by simp; omega)
      · exact .inr (.inl (by simp; omega))
      · exact .inr (.inr (by simp; omega))
    exact pyNext_end (I.ok.hd hc) D hz hTI hTO h1 h2 h3 p.isList p2.isList p3.isList he fun h' hk => ⟨rfl, I.turnedL (t' := s.toks) (ch := [z, TI, TO, i1, i2, i3]) (fun c o hb q =>
      hk c o (fun q' => hb (by simp [q'])) (fun q' => hb (by simp [q'])) (fun q' => hb (by simp [q'])) (fun q' => hb (by simp [q'])) (fun q' => hb (by simp [q'])) q) hf⟩
  self := fun A i s Q E st h => wpAny_pyIter_zip st.1 h
def iZip3 (K : PySem.W.Frag) (ta : TA) : TI := fun σ H R => ta σ H fun vs H1 => ∃ a b c xs ys us, vs = [.ref a, .ref b, .ref c] ∧ SqL K H1 a xs ∧ SqL K H1 b ys ∧ SqL K H1 c us ∧ R (Itz3 K a b c) H1
theorem pi_zip3 {X : Cx} {e e2 e3 : Expr} {ta : TA} {p pos tpos : Pos} {elts : List Expr} {kk : Nat} (hg : Gl X "zip") (hm : X.mg "zip" = none) (ha : PA X [e, e2, e3] ta)
    (hs : starEach [e, e2, e3] X.env = (false, eval e X.env) :: starEach [e2, e3] X.env := by rfl) (hpl : (backTo pos (starEach [e2, e3] X.env)).any (·.1) = false := by rfl) :
    PI X (.Tuple elts kk tpos) (.Call (.Name "zip" p) [e, e2, e3] [] pos) (iZip3 X.K ta) := by
  refine ⟨fun pins s σ H R I h => ?_⟩
  refine Call_ (ld_blt I hg hm PyProof.Rows.boot_zip (PyProof.Rows.callWith_type1 (thn (ha.run pos pins s σ H _ I h) fun us s1 ⟨vs, H1, I1, r1, q1⟩ => ?_) hs hpl))
  obtain ⟨a, b, c, xs, ys, us, ex, hqx, hqy, hqu, q⟩ := q1
  subst ex
  cases r1 with
  | cons r rr =>
    cases rr with
    | cons r' rr =>
      cases rr with
      | cons r'' rr =>
        cases rr
        cases r
        cases r'
        cases r''
        obtain ⟨its, rv, p1, _⟩ := I1.list hqx
        obtain ⟨its2, rv2, p2, _⟩ := I1.list hqy
        obtain ⟨its3, rv3, p3, _⟩ := I1.list hqu
        have la : a < s1.heap.objs.size := p1.lt
        have lb : b < s1.heap.objs.size := p2.lt
        have lc : c < s1.heap.objs.size := p3.lt
        refine call3 p1.isList p2.isList p3.isList fun h' hz hTI hTO h1 h2 h3 hsz hk => wpAny_pyIter_zip hz ?_
        have I2 : Inv X pins σ H1 { s1 with heap := h' } := I1.kept (t' := s1.toks) hk
        refine ⟨s1.heap.objs.size + 5, [s1.heap.objs.size + 5, s1.heap.objs.size + 3, s1.heap.objs.size + 4, s1.heap.objs.size, s1.heap.objs.size + 1, s1.heap.objs.size + 2], _, _, H1, rfl, I2, turn_zip3 (ap_new s1.heap.objs.size a b c la lb lc), ⟨hz, hTI, ⟨_, _, _, hTO⟩, h1, h2, h3⟩, fun c hcm => ?_, q⟩
        have e' : c = s1.heap.objs.size + 5 ∨ c = s1.heap.objs.size + 3 ∨ c = s1.heap.objs.size + 4 ∨ c = s1.heap.objs.size ∨ c = s1.heap.objs.size + 1 ∨ c = s1.heap.objs.size + 2 := by simpa using hcm
        have hle : s1.heap.objs.size ≤ c := by
          rcases e' with z | z | z | z | z | z
          · rw [z]; exact Nat.le_add_right _ _
          · rw [z]; exact Nat.le_add_right _ _
          · rw [z]; exact Nat.le_add_right _ _
          · rw [z]; exact Nat.le_refl _
          · rw [z]; exact Nat.le_add_right _ _
          · rw [z]; exact Nat.le_add_right _ _
        exact I1.fpOk hle (I1.hok.fresh hle)
def zipL3 : List Va → List Va → List Va → List Va
  | x :: r, y :: t, u :: q => .tup [x, y, u] :: zipL3 r t q
  | _, _, _ => []
theorem zipL3_get : ∀ (l m n : List Va) (i : Nat) (z : Va), (zipL3 l m n)[i]? = some z → ∃ x y u, l[i]? = some x ∧ m[i]? = some y ∧ n[i]? = some u ∧ z = .tup [x, y, u]
  | [], _, _, i, z, h => by simp [zipL3] at h
  | _ :: _, [], _, i, z, h => by simp [zipL3] at h
  | _ :: _, _ :: _, [], i, z, h => by simp [zipL3] at h
  | x :: r, y :: t, u :: q, 0, z, h => by simp [zipL3] at h; exact ⟨x, y, u, rfl, rfl, rfl, h.symm⟩
  | x :: r, y :: t, u :: q, i + 1, z, h => by
    rw [zipL3, List.getElem?_cons_succ] at h
    obtain ⟨x', y', u', h1, h2, h3, h4⟩ := zipL3_get r t q i z h
    exact ⟨x', y', u', by rw [List.getElem?_cons_succ]; exact h1, by rw [List.getElem?_cons_succ]; exact h2, by rw [List.getElem?_cons_succ]; exact h3, h4⟩
theorem zipL3_len : ∀ (l m n : List Va), (zipL3 l m n).length = min l.length (min m.length n.length)
  | [], _, _ => by simp [zipL3]
  | _ :: _, [], _ => by simp [zipL3]
  | _ :: _, _ :: _, [] => by simp [zipL3]
  | x :: r, y :: t, u :: q => by
    rw [zipL3, List.length_cons, List.length_cons, List.length_cons, List.length_cons, zipL3_len r t q]
    omega
def itZp3 (e : SE) : SI := fun s M => match e s M with
  | none => none
  | some (.val (.tup [v, u, y]), M1) => (match lstOf M1 v, lstOf M1 u, lstOf M1 y with
    | some l, some m, some n => some (.it (zipL3 l m n) (fun M => lstOf M v = some l ∧ lstOf M u = some m ∧ lstOf M y = some n), M1)
    | _, _, _ => none)
  | some (.val _, _) => none
  | some (.exc c v, M1) => some (.exc c v, M1)
theorem three_of {G : Sig} {R : Hp} {ρ : List Addr} {x y z : Va} {vs : List V} (r : VRs G R ρ [x, y, z] vs) : ∃ v u t, vs = [v, u, t] ∧ VR G R ρ x v ∧ VR G R ρ y u ∧ VR G R ρ z t := by
  cases r with
  | cons r t =>
    obtain ⟨u, q, rfl, r1, r2⟩ := two_of t
    exact ⟨_, u, q, rfl, r, r1, r2⟩
section
variable {X : Cx} {G : Sig} {E : XK} {ee : SE} {e e2 e3 : Expr} {pos : Pos}
theorem qi_zip3 {p tpos : Pos} {elts : List Expr} {kk : Nat} (hK : X.K = G.K) (hg : Gl X "zip") (hm : X.mg "zip" = none) (ha : PA X [e, e2, e3] (tA G E ee))
    (hs : starEach [e, e2, e3] X.env = (false, eval e X.env) :: starEach [e2, e3] X.env := by rfl) (hpl : (backTo pos (starEach [e2, e3] X.env)).any (·.1) = false := by rfl) :
    PI X (.Tuple elts kk tpos) (.Call (.Name "zip" p) [e, e2, e3] [] pos) (tI G E (itZp3 ee)) :=
  pi_imp (pi_zip3 hg hm ha hs hpl) fun σ H Q ⟨R, ρ, s, M, w, sr, p⟩ => by
    refine ⟨R, ρ, s, M, w, sr, ?_⟩
    unfold itZp3 at p
    rcases q : ee s M with _ | ⟨x | ⟨c, x⟩, M1⟩ <;> rw [q] at p
    · exact p
    · split at p
      · rename_i h; cases h
      · rename_i v u y M2 h
        cases h
        intro R1 ρ1 H1 vs e1 w1 r1
        obtain ⟨xv, yv, zv, rfl, rx, ry, rz⟩ := three_of r1
        split at p
        · rename_i l m n q2 q3 q4
          obtain ⟨ad, vs, rfl, hv, rv, hz⟩ := lst_read w1 rx q2
          obtain ⟨bd, us, rfl, hu, ru, hy⟩ := lst_read w1 ry q3
          obtain ⟨cd, ts, rfl, ht, rt, hx⟩ := lst_read w1 rz q4
          refine ⟨ad, bd, cd, vs, us, ts, rfl, by rw [hK]; exact hv, by rw [hK]; exact hu, by rw [hK]; exact ht, p R1 ρ1 H1 (Itz3 X.K ad bd cd) e1 w1 (by rw [zipL3_len]; omega) fun R2 ρ2 M2 H2 g2 w2 ck => ?_⟩
          obtain ⟨ad', vs', e', hv', rv', _⟩ := lst_read w2 (rx.mono g2) ck.1
          cases e'
          obtain ⟨bd', us', e'', hu', ru', _⟩ := lst_read w2 (ry.mono g2) ck.2.1
          cases e''
          obtain ⟨cd', ts', e''', ht', rt', _⟩ := lst_read w2 (rz.mono g2) ck.2.2
          cases e'''
          rw [hK]
          refine ⟨fun i z hz => ?_, fun i hi => ⟨vs', us', ts', hv', hu', ht', by rw [← rv'.length, ← ru'.length, ← rt'.length]; rw [zipL3_len] at hi; omega⟩⟩
          obtain ⟨x, y, u, hx, hy, hu2, rfl⟩ := zipL3_get l m n i z hz
          obtain ⟨xu, hxu, rxu⟩ := rv'.get hx
          obtain ⟨yu, hyu, ryu⟩ := ru'.get hy
          obtain ⟨zu, hzu, rzu⟩ := rt'.get hu2
          refine ⟨⟨vs', us', ts', xu, yu, zu, hv', hu', ht', hxu, hyu, hzu⟩, fun v H' ⟨T, x', y', z', e3, hT, h3, h4, h5, h6⟩ => ?_⟩
          subst e3 h3
          have a1 := h4 vs' hv'
          have a2 := h5 us' hu'
          have a3 := h6 ts' ht'
          rw [hxu] at a1
          rw [hyu] at a2
          rw [hzu] at a3
          cases a1
          cases a2
          cases a3
          obtain ⟨ex, wd⟩ := alloc_frz (o := .tup [xu, yu, zu]) w2 hT
          exact ⟨_, ex, wd, .tup upd_same (by show 3 ≤ sizeLine; decide) (.cons (rxu.mono ex.gr) (.cons (ryu.mono ex.gr) (.cons (rzu.mono ex.gr) .nil)))⟩
        · exact p.elim
      · exact p.elim
      · rename_i h; cases h
    · exact p
end
end PV

set_option Elab.async false
set_option linter.all false
set_option maxRecDepth 100000
set_option maxHeartbeats 4000000
namespace PV
open PySem PySem.Spec L2
open PyProof.Rows

/-! ### what raises nothing, beside what does -/
def noX (r : Res) : Res := match r with
  | some (.exc _ _, _) => none
  | r => r
def evNo (e : SE) : SE := fun s M => noX (e s M)
def stNo (e : SS) : SS := fun s M => match e s M with
  | some (.exc _ _, _, _) => none
  | r => r
section
variable {X : Cx} {G : Sig} {E : XK} {a : Expr} {es : List Expr} {st : Stmt} {ea : SE} {sa : SS}
theorem q_no (h : PE X a (tE G E0 ea)) : PE X a (tE G E (evNo ea)) := pe_imp h fun σ H Q ⟨R, ρ, s, M, w, sr, p⟩ => by
  refine ⟨R, ρ, s, M, w, sr, ?_⟩
  unfold evNo noX at p
  rcases q : ea s M with _ | ⟨x | ⟨c, x⟩, M1⟩ <;> rw [q] at p
  · exact p
  · exact p
  · exact p.elim
theorem qa_no (h : PA X es (tA G E0 ea)) : PA X es (tA G E (evNo ea)) := pa_imp h fun σ H Q ⟨R, ρ, s, M, w, sr, p⟩ => by
  refine ⟨R, ρ, s, M, w, sr, ?_⟩
  unfold evNo noX at p
  rcases q : ea s M with _ | ⟨x | ⟨c, x⟩, M1⟩ <;> rw [q] at p
  · exact p
  · cases x <;> first | exact p | exact p.elim
  · exact p.elim
theorem qt_no (h : PT X a (tT G E0 ea)) : PT X a (tT G E (evNo ea)) := pt_imp h fun σ H Q ⟨R, ρ, s, M, w, sr, p⟩ => by
  refine ⟨R, ρ, s, M, w, sr, ?_⟩
  unfold evNo noX at p
  rcases q : ea s M with _ | ⟨x | ⟨c, x⟩, M1⟩ <;> rw [q] at p
  · exact p
  · cases x <;> first | exact p | exact p.elim
  · exact p.elim
theorem qs_no (h : PS X st (tS G E0 sa)) : PS X st (tS G E (stNo sa)) := ps_imp h fun D σ H ⟨R, ρ, s, M, w, sr, p⟩ => by
  refine ⟨R, ρ, s, M, w, sr, ?_⟩
  unfold stNo at p
  rcases q : sa s M with _ | ⟨_ | x | _ | _ | ⟨c, x⟩, s1, M1⟩ <;> rw [q] at p
  · exact p
  · exact p
  · exact p
  · exact p
  · exact p
  · exact p.elim
end
theorem x_no {e : SE} {s : SL} {M M1 : Store} {v : Va} (h : e s M = some (.val v, M1)) : evNo e s M = some (.val v, M1) := by
  unfold evNo
  rw [h]
  rfl
theorem x_stNo {e : SS} {s s1 : SL} {M M1 : Store} (h : e s M = some (.nx, s1, M1)) : stNo e s M = some (.nx, s1, M1) := by
  unfold stNo
  rw [h]
theorem x_stRet {e : SS} {s s1 : SL} {M M1 : Store} {v : Va} (h : e s M = some (.ret v, s1, M1)) : stNo e s M = some (.ret v, s1, M1) := by
  unfold stNo
  rw [h]

/-! ### a def that may raise -/
def spE (G : Sig) (n : Nat) (f : FM) : Sp := fun vs H Q E => vs.length = n ∧ ∃ R ρ M l, Wd G R ρ M H ∧ VRs G R ρ l vs ∧ Post G R ρ H (f l M) Q E
abbrev Tk (X : Cx) (E : XK) : Prop := Takes X (fun cls d _ H => E cls d H)
section
variable {P : Program} {w : World} {K : PySem.W.Frag} {mg : Str → Option Value} {base : Heap} {G : Sig}
theorem ok_fnE {x qual : Str} {st : Stmt} {f : Addr} {fd : FuncData} {N ps : List Str} {k : Nat} {es : SS} (F : Fun K x qual st f fd) (S : FnScope N ps (defScope st))
    (hb : ∀ (cdv : Value) (A : Around) (outer : List Env) (s : Shared) (H : Hp) (E : XK), Room k (A.deeper (envOfC qual (defScope st) s.heap.objs.size f cdv)) → A.guards = some [] →
      PSs (cxOf (L2.CX P w) P w K mg base N qual (defScope st) f cdv A outer s H E) (defBody st) (tS G E es)) : FnG P w K mg base (L2.CX P w) (k + 1) f fd ps (spE G ps.length (runF N.length es)) :=
  fnG_of F S (fun vs H Q E h => h.1) fun cdv A outer s H vs Q E hr hg ⟨hl, R, ρ, M, l, wd, r, p⟩ =>
    ⟨_, hb cdv A outer s H E hr hg, R, ρ, startI N.length l, M, wd, sr_start r, post_end p⟩
theorem tk_of {N : List Str} {qual : Str} {scope : Scope} {f : Addr} {cd : Value} {A : Around} {outer : List Env} {s : Shared} {H : Hp} {E : XK} : Tk (cxOf (L2.CX P w) P w K mg base N qual scope f cd A outer s H E) E :=
  takes_of rfl rfl rfl rfl
theorem po_of {N : List Str} {qual : Str} {scope : Scope} {f : Addr} {cd : Value} {A : Around} {outer : List Env} {s : Shared} {H : Hp} {E : XK} :
    PassesOwn (model (cxOf (L2.CX P w) P w K mg base N qual scope f cd A outer s H E).prog (cxOf (L2.CX P w) P w K mg base N qual scope f cd A outer s H E).w) (cxOf (L2.CX P w) P w K mg base N qual scope f cd A outer s H E).A (cxOf (L2.CX P w) P w K mg base N qual scope f cd A outer s H E).env (cxOf (L2.CX P w) P w K mg base N qual scope f cd A outer s H E).xe := passes_of rfl
end
structure CalE (P : Program) (w : World) (K : PySem.W.Frag) (mg : Str → Option Value) (base : Heap) (G : Sig) (x : Str) (lv n : Nat) (fM : FM) : Prop where
  ex : ∃ (f : Addr) (fd : FuncData) (ps : List Str), mg x = some (.ref f) ∧ PySem.W.keepIn K (.ref f) = true ∧ Binds K fd ps [] ∧ FnG P w K mg base (L2.CX P w) lv f fd ps (spE G n fM)
theorem calE_of {P : Program} {w : World} {K : PySem.W.Frag} {mg : Str → Option Value} {base : Heap} {CA : Nat → Addr} {x : Str} {st : Stmt} {f : Addr} {fd : FuncData} {N ps : List Str} {k n N' : Nat} {es : SS} {c : FM} (F : Fun K x x st f fd) (S : FnScope N ps (defScope st)) (m : mg x = some (.ref f))
    (hb : Binds K fd ps []) (hn : ps.length = n) (hN : N.length = N') (hc : c = runF N' es)
    (body : ∀ (cdv : Value) (A : Around) (outer : List Env) (s : Shared) (H : Hp) (E : XK), Room k (A.deeper (envOfC x (defScope st) s.heap.objs.size f cdv)) → A.guards = some [] →
      PSs (cxOf (L2.CX P w) P w K mg base N x (defScope st) f cdv A outer s H E) (defBody st) (tS ⟨K, CA⟩ E es)) : CalE P w K mg base ⟨K, CA⟩ x (k + 1) n c := by
  subst hn hN hc
  exact ⟨f, fd, ps, m, F.kp, hb, ok_fnE F S body⟩
section
variable {X : Cx} {G : Sig} {E : XK} {a : Expr} {es : List Expr} {ea : SE} {pos p' : Pos} {lv k n : Nat} {x : Str} {fM : FM}
theorem q_calE (C : CalE X.prog X.w X.K X.mg X.base G x lv n fM) (tk : Tk X E) (hr : Room k X.A) (hl : lv ≤ k) (hgd : X.A.guards = some []) (hg : Gl X x) (ha : PA X (a :: es) (tA G E ea)) (hdb : (x == ("__debug__" : Str)) = false := by decide)
    (he : starEach (a :: es) X.env = (false, eval a X.env) :: starEach es X.env := by rfl) (hpl : (backTo pos (starEach es X.env)).any (·.1) = false := by rfl) :
    PE X (.Call (.Name x p') (a :: es) [] pos) (tE G E (evL (kFn n fM) ea)) := by
  obtain ⟨f, fd, ps, hm, hk, hb, F⟩ := C.ex
  refine pe_imp (pe_callG F (hr.mono hl) hgd hg hm hk hb .nil (passes_call tk fun _ _ _ _ h => h) ha hdb he hpl) fun σ H Q ⟨R, ρ, s, M, w, sr, p⟩ => stepA w sr p fun R1 ρ1 M1 H1 l vs e1 w1 sr1 r1 p1 => ?_
  unfold kFn at p1
  by_cases hl : l.length = n
  · rw [if_pos hl] at p1
    exact ⟨by rw [List.append_nil, ← r1.length]; exact hl, R1, ρ1, M1, l, w1, by rw [List.append_nil]; exact r1, p1⟩
  · rw [if_neg hl] at p1; exact False.elim p1
end

/-! ### raise C(e), C's own __init__ storing the value -/
def spInit (K : PySem.W.Frag) : Sp := fun vs H Q E => ∃ (a C : Addr) (v : V), vs = [.ref a, v] ∧ OexC K C ∧ PySem.W.findIn K (.ref C) "value" = some none ∧ H a = some (exo a C none) ∧ ∀ dx, H dx = none → dx ≠ a → Q .non (upd (upd H dx (exd dx [("value", v)])) a (exo a C (some dx)))
theorem ok_init {P : Program} {w : World} {K : PySem.W.Frag} {mg : Str → Option Value} {base : Heap} {x qual : Str} {st : Stmt} {f : Addr} {fd : FuncData} {k : Nat} {p1 p2 p3 p4 : Pos} (F : Fun K x qual st f fd) (S : FnScope ["self", "value"] ["self", "value"] (defScope st))
    (hb : defBody st = [.Assign [.Attribute (.Name "self" p1) "value" p2] (.Name "value" p3) p4])
    (h0 : Vis (defScope st) "self") (h1 : Vis (defScope st) "value") : FnOk P w K mg base CX0 (k + 1) f fd ["self", "value"] (spInit K) := by
  refine F.ok S (fun vs H Q E ⟨a, C, v, e, _⟩ => by rw [e]; rfl) fun cdv A outer s H vs Q E hr ⟨a, C, v, e, T, no, ea, h⟩ => ⟨tOst K "value" (tVar 0) (tVar 1), ?_, ?_⟩
  · rw [hb]
    exact pss_one (ps_ost (pe_var (i := 0) rfl h0) (pe_var (i := 1) rfl h1))
  · subst e
    exact ⟨v, rfl, .ref a, rfl, a, C, rfl, T, no, .inl ⟨ea, h⟩⟩
/-- an error class: how it is made, and what is read of it -/
structure ExB (P : Program) (w : World) (K : PySem.W.Frag) (mg : Str → Option Value) (base : Heap) (G : Sig) (x : Str) (c lv : Nat) : Prop where
  oex : OexC K (G.CA c)
  hm : mg x = some (.ref (G.CA c))
  no : PySem.W.findIn K (.ref (G.CA c)) "value" = some none
  xf : XfC K (G.CA c)
  ini : ∃ (f : Addr) (fd : FuncData) (ps : List Str), PySem.W.findIn K (.ref (G.CA c)) "__init__" = some (some (.ref f)) ∧ PySem.W.typeIn K (.ref f) = some (.type "function") ∧ Binds K fd ps [] ∧ FnOk P w K mg base CX0 lv f fd ps (spInit K)
def sRaise (c : Nat) (e : SE) : SS := fun s M => match e s M with
  | none => none
  | some (.val v, M1) => some (.exc c v, s, M1)
  | some (.exc c' v, M1) => some (.exc c' v, s, M1)
section
variable {X : Cx} {G : Sig} {E : XK} {a : Expr} {ea : SE} {pos pos' p' : Pos} {lv k c : Nat} {x : Str}
theorem qs_raise (B : ExB X.prog X.w X.K X.mg X.base G x c lv) (hc : X.calm = true) (tk : Tk X E) (hr : Room k X.A) (hl : lv + 1 ≤ k) (hg : Gl X x) (ha : PE X a (tE G E ea)) (hdb : (x == ("__debug__" : Str)) = false := by decide)
    (he : starEach [a] X.env = (false, eval a X.env) :: starEach [] X.env := by rfl) (hpl : (backTo pos (starEach [] X.env)).any (·.1) = false := by rfl) :
    PS X (.Raise (some (.Call (.Name x p') [a] [] pos)) none pos') (tS G E (sRaise c ea)) := by
  obtain ⟨f, fd, ps, iC, tI, hb, F⟩ := B.ini
  refine ps_imp (ps_raise hc tk (pmk_oex B.oex iC tI F (hr.mono hl) hb .nil pass0 hg B.hm (pa_cons ha pa_nil he) hdb he hpl)) fun D σ H ⟨R, ρ, s, M, w, sr, p⟩ => ?_
  show tE G E ea σ H fun x1 H1 => tNil σ H1 fun xs H2 => _
  refine ⟨R, ρ, s, M, w, sr, ?_⟩
  unfold sRaise at p
  rcases q : ea s M with _ | ⟨y | ⟨c', y⟩, M1⟩ <;> rw [q] at p
  · exact p
  · intro R1 ρ1 H1 v e1 w1 r1
    refine ⟨by show 1 ≤ 1000; decide, fun a0 ha0 => ⟨a0, G.CA c, v, rfl, B.oex, B.no, upd_same, fun dx hdx hne => ⟨rfl, dx, [("value", v)], upd_same, by rw [upd_ne hne, upd_same], by rw [upd_ne hne] at hdx; exact hdx, ?_⟩⟩⟩
    have hdx1 : H1 dx = none := by rw [upd_ne hne] at hdx; exact hdx
    have eq : upd (L2.del (upd (upd (upd H1 a0 (exo a0 (G.CA c) none)) dx (exd dx [("value", v)])) a0 (exo a0 (G.CA c) (some dx))) a0) dx (HO.xd [("value", v)]) = upd H1 dx (.xd [("value", v)]) := by
      funext b
      by_cases hb1 : b = dx
      · rw [hb1, upd_same, upd_same]
      · rw [upd_ne hb1, upd_ne hb1]
        by_cases hb2 : b = a0
        · rw [hb2, L2.del_same, ha0]
        · rw [L2.del_ne hb2, upd_ne hb2, upd_ne hb1, upd_ne hb2]
    show E (.ref (G.CA c)) (some dx) _
    rw [eq]
    obtain ⟨e2, w2⟩ := alloc_frz (o := .xd [("value", v)]) w1 hdx1
    exact p _ _ _ dx v (e1.trans e2) w2 upd_same (r1.mono e2.gr)
  · exact p
end

/-! ### try: body, several clauses 'except x as n' -/
def wMA (K : PySem.W.Frag) (D : Ends) : List (Value × Nat × (Addr → Value → Option Addr → TS)) → WX
  | [] => fun _ _ _ _ => False
  | (c, i, ts) :: r => fun cls d σ H => ∃ b, PySem.W.exmOne K cls c = some b ∧ (b = true → ∀ a, H a = none → ts a cls d { nx := fun σ' H' => D.nx (σ'.set i none) H', rt := D.rt, bk := fun σ' H' => D.bk (σ'.set i none) H', ct := fun σ' H' => D.ct (σ'.set i none) H' } (σ.set i (some (.ref a))) H) ∧
      (b = false → wMA K D r cls d σ H)
inductive HdA (X : Cx) : List ExceptHandler → List (Value × Nat × (Addr → Value → Option Addr → TS)) → Prop
  | nil : HdA X [] []
  | cons {x n : Str} {c : Value} {i : Nat} {ts : Addr → Value → Option Addr → TS} {b₀ : Stmt} {suite : List Stmt} {np pos' : Pos} {hds : List ExceptHandler} {l : List (Value × Nat × (Addr → Value → Option Addr → TS))} (hc : Names X x c)
      (hi : X.N[i]? = some n) (hln : X.env.kindOf n = some .local)
      (hsu : ∀ (a : Addr) (oe : Obj) (cls : Value) (d : Option Addr) (pn : List (Addr × Obj)), Zc cls d oe → (∃ vs, oe.data = .fields vs) → PSs (X.suite a ((a, oe) :: pn)) (b₀ :: suite) (ts a cls d)) (r : HdA X hds l) :
      HdA X (.ExceptHandler (some (.Name x np)) (some n) (b₀ :: suite) pos' :: hds) ((c, i, ts) :: l)
section
variable {X : Cx} {body : List Stmt} {h₀ : ExceptHandler} {hds : List ExceptHandler} {l : List (Value × Nat × (Addr → Value → Option Addr → TS))} {pos : Pos} {tb : WX → TS}
theorem ps_try_ma (hs : X.stack = X.env :: X.outer) (hf : X.env.frame = some X.env.locals) (hN : X.N.Nodup)
    (hb : ∀ (W : WX) (pn : List (Addr × Obj)) (xe : Value → Shared → Prop), Takes (X.tr pn xe) W → PassesOwn (model X.prog X.w) X.A X.env xe → PSs (X.tr pn xe) body (tb W))
    (hh : HdA X (h₀ :: hds) l) : PS X (.Try body (h₀ :: hds) [] [] pos) (fun D σ H => tb (wMA X.K D l) D σ H) := by
  refine ⟨fun pins s σ H D I h => ?_⟩
  have ok := I.ok
  have hfr : X.A.frames = some (X.env :: X.outer) := by rw [ok.frames, hs]
  refine wpAny_Try_except ?_
  refine wpAny_mono ((hb (wMA X.K D l) (X.pn ++ pins) (fun e s₁ => wpAny (model X.prog X.w) X.A (noteFrame e X.env) (fun _ s₂ => wpAny (model X.prog X.w) X.A (setFlight e none) (fun _ s₃ =>
    wpAny (model X.prog X.w) X.A (handleBy e X.env (h₀ :: hds)) (SP X pins D) X.xe s₃) X.xe s₂) X.xe s₁) (fun u s' xx => ?_) PassesOwn.looking).run [] s σ H D (I.toTry _) h) (fun f s1 hsp => ?_) (fun e s1 he => he)
  · obtain ⟨a, B, sI, pins', σ', H', cls, d, rfl, J', nb, up, sky, na, os, ag, w⟩ := xx
    have J : Inv X pins σ' H' sI := J'.ofTry ok
    have sky' : Sky B (X.env :: X.outer) a (Zc cls d) X.env.locals s'.heap := by rw [← hs]; exact sky
    show wpAny (model X.prog X.w) X.A (noteFrame (.ref a) X.env) _ _ _
    refine Sky.land Zc.steady hfr hf sky' fun h3 fl3 up3 => ?_
    have J3 : Inv X pins σ' H' { s' with heap := h3 } := J.landed nb fl3.1 (up.trans up3) os ag
    obtain ⟨oe3, vs3, he3, hz3, hd3⟩ := fl3.there
    have notFr : ∀ {h : Heap} {o : Obj} {vs : Array Value}, h.FunFrames B (X.env :: X.outer) → h.get? a = some o → o.data = .fields vs → a ∉ frs (X.env :: X.outer) := fun {h o vs} ff e dd hm => by
      obtain ⟨_, o', e', hnf⟩ := ff.mem hm
      rw [e] at e'; cases e'
      exact hnf _ dd
    have nfr := notFr fl3.2.2.1 he3 hd3
    have nL : a ≠ X.env.locals := fun z => nfr (List.mem_filterMap.mpr ⟨X.env, List.mem_cons_self, by rw [hf, z]⟩)
    have nF : a ∉ X.fs := fun hm => by
      obtain ⟨e, he, q⟩ := List.mem_filterMap.mp hm
      exact nfr (List.mem_filterMap.mpr ⟨e, List.mem_cons_of_mem _ he, q⟩)
    have S3 := J3.suite he3 hd3 na nL nF
    have go : ∀ {hds' : List ExceptHandler} {l' : List (Value × Nat × (Addr → Value → Option Addr → TS))}, HdA X hds' l' → wMA X.K D l' cls d σ' H' →
        wpAny (model X.prog X.w) X.A (handleBy (.ref a) X.env hds') (SP X pins D) X.xe { s' with heap := h3 } := by
      intro hds' l' hk
      induction hk with
      | nil => exact fun w => w.elim
      | @cons x n c i ts b₀ suite np pos' hds2 l2 hc hi hln hsu r ih =>
        intro w
        obtain ⟨b, hb1, hyes, hno⟩ := w
        have hloc : Loc X.env.scope n := .inl hln
        refine wpAny_handleBy_cons (codeAny_handlers_test ?_) (by intro q; cases q)
        have LT : PySem.W.Looks (model X.prog X.w) h3 (typeOf (.ref a)) cls := fun A Q E s k q => wpAny_typeOf_ref (k _ _ he3) (by rw [hz3.1]; exact q)
        have LM := PySem.W.exm_one (M := model X.prog X.w) (J3.kIn) LT hb1
        have test : ∀ {Q : Value → Shared → Prop} {E : Value → Shared → Prop}, Q c { s' with heap := h3 } → wpAny (model X.prog X.w) (X.A.mark (some (.ref a))) (eval (.Name x np) X.env) Q E { s' with heap := h3 } := fun {Q E} q => by
          obtain ⟨hg, hdbg, hm | ⟨hm, hv, hnn⟩⟩ := hc
          · exact ld_glob (X := X.suite a ((a, oe3) :: (X.pn ++ pins))) S3 hg hm q hdbg
          · exact ld_blt (X := X.suite a ((a, oe3) :: (X.pn ++ pins))) S3 hg hm hv q hnn hdbg
        refine test (LM.here ?_)
        cases b with
        | true =>
          refine codeAny_handlers_suite_as ?_
          refine HandSPX.lands_againZ fl3 fun h4 fl4 up4 => ?_
          have J4 : Inv X pins σ' H' { s' with heap := h4 } := J.landed nb fl4.1 ((up.trans up3).trans up4) os ag
          obtain ⟨oe4, vs4, he4, hz4, hd4⟩ := fl4.there
          have S4 := J4.suite he4 hd4 na nL nF
          refine store_ok (X := X.suite a ((a, oe4) :: (X.pn ++ pins))) (v := .ref a) S4 hN hi hloc rfl (fun s5 S5 => ?_) (.inr hln)
          refine wpAny_mono ((hsu a oe4 cls d (X.pn ++ pins) hz4 ⟨_, hd4⟩).run [] s5 _ H' _ S5 (hyes rfl a na)) (fun f s6 hsp => ?_) (fun _ _ z => False.elim z)
          have end_ : ∀ {σ6 : L2.St} {H6 : Hp} {Q : Shared → Prop}, Inv (X.suite a ((a, oe4) :: (X.pn ++ pins))) [] σ6 H6 s6 → (∀ s7, Inv X pins (σ6.set i none) H6 s7 → Q s7) →
              wpAny (model X.prog X.w) X.A (do bindName X.env n .none; unbindBehindTheSuite X.env n pos') (fun _ s7 => Q s7) X.xe s6 := fun {σ6 H6 Q} S6 hq => gone_ok (S6.unsuite ok) hN hi hln hq
          cases f with
          | next =>
            obtain ⟨σ6, H6, S6, q6⟩ := hsp
            exact end_ S6 fun s7 J7 => ⟨_, _, J7, q6⟩
          | brk =>
            obtain ⟨σ6, H6, S6, q6⟩ := hsp
            exact end_ S6 fun s7 J7 => ⟨_, _, J7, q6⟩
          | cont =>
            obtain ⟨σ6, H6, S6, q6⟩ := hsp
            exact end_ S6 fun s7 J7 => ⟨_, _, J7, q6⟩
          | ret u =>
            obtain ⟨v6, σ6, H6, S6, r6, q6⟩ := hsp
            exact end_ S6 fun s7 J7 => ⟨_, _, _, J7, r6, q6⟩
        | false =>
          show wpAny _ X.A (handleBy (.ref a) X.env hds2) _ _ _
          exact ih (hno rfl)
    exact go hh w
  · cases f with
    | next =>
      obtain ⟨σ', H', J', q⟩ := hsp
      exact wpAny_execs_nil ⟨σ', H', J'.ofTry ok, q⟩
    | brk =>
      obtain ⟨σ', H', J', q⟩ := hsp
      exact ⟨σ', H', J'.ofTry ok, q⟩
    | cont =>
      obtain ⟨σ', H', J', q⟩ := hsp
      exact ⟨σ', H', J'.ofTry ok, q⟩
    | ret u =>
      obtain ⟨v, σ', H', J', r, q⟩ := hsp
      exact ⟨v, σ', H', J'.ofTry ok, r, q⟩
end
theorem takes_len {X : Cx} {W W' : WX} (t : Takes X W) (h : ∀ c d σ H, σ.length = X.N.length → W' c d σ H → W c d σ H) : Takes X W' := fun u s' ⟨a, B, sI, pins, σ, H, cls, d, e, I, nb, up, sky, na, os, ag, w⟩ =>
  t u s' ⟨a, B, sI, pins, σ, H, cls, d, e, I, nb, up, sky, na, os, ag, h _ _ _ _ I.len w⟩

/-! ### a try by value: what its clauses do hangs on the error's value alone -/
abbrev Cls1 := Nat × Nat × (Va → SS)
def sHd (sub : Nat → Nat → Bool) (c : Nat) (x : Va) : List Cls1 → SS
  | [] => fun _ _ => none
  | (c', i, f) :: r => fun s M => if c = c' then (match f x (List.replicate s.length none) M with
      | some (.nx, s2, M2) => some (.nx, s2.set i none, M2)
      | some (.ret v, s2, M2) => some (.ret v, s2, M2)
      | _ => none) else if sub c c' = true then none else sHd sub c x r s M
def sTry (es : SS) (rs : List Nat) (sub : Nat → Nat → Bool) (cl : List Cls1) : SS := fun s M => match es s M with
  | some (.exc c x, _, M1) => if c ∈ rs then sHd sub c x cl s M1 else none
  | r => r
/-- what is known of the caught error a, its value x -/
def tX (G : Sig) (a d : Addr) (i : Nat) (f : Va → SS) : TS := fun D σ H => ∃ R ρ s M x v, Wd G R ρ M H ∧ SR G R ρ s σ ∧ σ[i]? = some (some (.ref a)) ∧ H d = some (.xd [("value", v)]) ∧ VR G R ρ x v ∧ PostS G R ρ H (f x s M) D E0
inductive ClA (X : Cx) (G : Sig) : List ExceptHandler → List Cls1 → Prop
  | nil : ClA X G [] []
  | cons {x n : Str} {c i : Nat} {f : Va → SS} {b₀ : Stmt} {suite : List Stmt} {np pos' : Pos} {hds : List ExceptHandler} {l : List Cls1} (hc : Names X x (.ref (G.CA c))) (hi : X.N[i]? = some n) (hln : X.env.kindOf n = some .local)
      (hsu : ∀ (a d : Addr) (oe : Obj) (pn : List (Addr × Obj)), Zc (.ref (G.CA c)) (some d) oe → (∃ vs, oe.data = .fields vs) → PSs (X.suite a ((a, oe) :: pn)) (b₀ :: suite) (tX G a d i f)) (r : ClA X G hds l) :
      ClA X G (.ExceptHandler (some (.Name x np)) (some n) (b₀ :: suite) pos' :: hds) ((c, i, f) :: l)
theorem ClA.ix {X : Cx} {G : Sig} : ∀ {hds : List ExceptHandler} {l : List Cls1}, ClA X G hds l → ∀ q ∈ l, q.2.1 < X.N.length
  | _, _, .nil, q, h => nomatch h
  | _, _, .cons hc hi hln hsu r, q, h => by
    rcases List.mem_cons.mp h with h | h
    · rw [h]
      exact (List.getElem?_eq_some_iff.mp hi).1
    · exact ClA.ix r q h
def clW (G : Sig) : List Cls1 → List (Value × Nat × (Addr → Value → Option Addr → TS)) := List.map fun q => (.ref (G.CA q.1), q.2.1, fun a cls d D σ H => cls = .ref (G.CA q.1) ∧ ∃ dd, d = some dd ∧ tX G a dd q.2.1 q.2.2 D σ H)
theorem hdA_of {X : Cx} {G : Sig} : ∀ {hds : List ExceptHandler} {l : List Cls1}, ClA X G hds l → HdA X hds (clW G l)
  | _, _, .nil => .nil
  | _, _, .cons hc hi hln hsu r => .cons hc hi hln (fun a oe cls d pn hz hf => ⟨fun pins s σ H D I ⟨hcls, dd, hd, h⟩ => by
      subst hcls
      subst hd
      exact (hsu a dd oe pn hz hf).run pins s σ H D I h⟩) (hdA_of r)
section
variable {X : Cx} {G : Sig} {body : List Stmt} {h₀ : ExceptHandler} {hds : List ExceptHandler} {cl : List Cls1} {pos : Pos} {es : SS}
theorem qs_try {rs : List Nat} {sub : Nat → Nat → Bool} (hs : X.stack = X.env :: X.outer) (hf : X.env.frame = some X.env.locals) (hN : X.N.Nodup)
    (hb : ∀ (E : XK) (pn : List (Addr × Obj)) (xe : Value → Shared → Prop), Tk (X.tr pn xe) E → PassesOwn (model X.prog X.w) X.A X.env xe → PSs (X.tr pn xe) body (tS G E es))
    (hh : ClA X G (h₀ :: hds) cl) (xm : ∀ c ∈ rs, ∀ q ∈ cl, PySem.W.exmOne X.K (.ref (G.CA c)) (.ref (G.CA q.1)) = some (decide (c = q.1) || sub c q.1)) :
    PS X (.Try body (h₀ :: hds) [] [] pos) (tS G E0 (sTry es rs sub cl)) := by
  have base := ps_try_ma (pos := pos) (tb := fun W => tS G (fun cls d H => ∀ σ : L2.St, σ.length = X.N.length → W cls d σ H) es) hs hf hN
    (fun W pn xe tk po => hb _ pn xe (takes_len tk fun c d σ H hl h => h σ hl) po) (hdA_of hh)
  refine ⟨fun pins s0 σ H D I ⟨R, ρ, s, M, w, sr, p⟩ => base.run pins s0 σ H D I ⟨R, ρ, s, M, w, sr, ?_⟩⟩
  have hsl : s.length = X.N.length := sr.len.trans I.len
  have hix := ClA.ix hh
  unfold sTry at p
  rcases q : es s M with _ | ⟨_ | y | _ | _ | ⟨c, y⟩, s1, M1⟩ <;> rw [q] at p
  · exact p
  · exact p
  · exact p
  · exact p
  · exact p
  · dsimp only at p
    by_cases hc : c ∈ rs
    · rw [if_pos hc] at p
      intro R1 ρ1 H1 d v e1 w1 hd r1 σ2 hl2
      have p1 : PostS G R1 ρ1 H1 (sHd sub c y cl s M1) D E0 := PostS.ext e1 p
      have key : ∀ (l : List Cls1), (∀ q ∈ l, q ∈ cl) → PostS G R1 ρ1 H1 (sHd sub c y l s M1) D E0 → wMA X.K D (clW G l) (.ref (G.CA c)) (some d) σ2 H1 := by
        intro l
        induction l with
        | nil => exact fun _ h => h.elim
        | cons k l ih =>
          intro hm h
          obtain ⟨c', i, f⟩ := k
          unfold sHd at h
          have x1 := xm c hc (c', i, f) (hm _ (by simp))
          by_cases hcc : c = c'
          · subst hcc
            rw [if_pos rfl] at h
            rw [decide_eq_true rfl, Bool.true_or] at x1
            refine ⟨true, x1, fun _ a ha => ⟨rfl, d, rfl, ?_⟩, fun z => by cases z⟩
            by_cases hil : i < σ2.length
            · refine ⟨R1, ρ1, List.replicate s.length none, M1, y, v, w1, ⟨by rw [List.length_replicate, List.length_set, hsl, hl2], fun j z e => ?_⟩, List.getElem?_set_self hil, hd, r1, ?_⟩
              · rw [List.getElem?_replicate] at e
                split at e <;> cases e
              · show PostS G R1 ρ1 H1 (f y (List.replicate s.length none) M1) { nx := fun σ' H' => D.nx (List.set σ' i none) H', rt := D.rt, bk := fun σ' H' => D.bk (List.set σ' i none) H', ct := fun σ' H' => D.ct (List.set σ' i none) H' } E0
                rcases q2 : f y (List.replicate s.length none) M1 with _ | ⟨_ | z | _ | _ | ⟨c2, z⟩, s2, M2⟩ <;> rw [q2] at h
                · exact h
                · exact fun R2 ρ2 H2 σ3 e3 w3 sr3 => h R2 ρ2 H2 _ e3 w3 (sr3.unset i none)
                · exact h
                · exact h.elim
                · exact h.elim
                · exact h.elim
            · exact absurd (hl2 ▸ hix (c, i, f) (hm _ (by simp))) hil
          · rw [if_neg hcc] at h
            by_cases hsb : sub c c' = true
            · rw [if_pos hsb] at h
              exact h.elim
            · rw [if_neg hsb] at h
              have hsb' : sub c c' = false := by simpa using hsb
              dsimp only at x1
              rw [decide_eq_false hcc, hsb'] at x1
              exact ⟨false, x1, fun z => (by cases z), fun _ => ih (fun q hq => hm q (by simp [hq])) h⟩
      exact key cl (fun _ h => h) p1
    · rw [if_neg hc] at p
      exact p.elim
end

/-! ### the suites -/
def evXv (x : Va) : SE := fun _ M => some (.val x, M)
def subOf (l : List (Nat × Nat)) (a b : Nat) : Bool := l.any fun p => p.1 == a && p.2 == b
section
variable {X : Cx} {G : Sig} {a d : Addr} {oe : Obj} {pn : List (Addr × Obj)} {c i j jk k : Nat} {y n z : Str} {py p1 p2 p3 p4 p5 : Pos} {sts : List Stmt}
theorem psu_never : PSs X sts (tX G a d i (fun _ _ _ => none)) := ⟨fun pins s σ H D I ⟨_, _, _, _, _, _, _, _, _, _, _, h⟩ => h.elim⟩
theorem psu_pair (T : XfC X.K (G.CA c)) (hno : PySem.W.findIn X.K (.ref (G.CA c)) "value" = some none) (hz : Zc (.ref (G.CA c)) (some d) oe) (hf : ∃ vs, oe.data = .fields vs)
    (hN : X.N.Nodup) (hj : X.N[j]? = some y) (hy : Loc X.env.scope y) (hi : X.N[i]? = some n) (hv : Vis X.env.scope n) (hd : (n == ("__debug__" : Str)) = false := by decide) (hcd : (n == ("__classdict__" : Str)) = false := by decide)
    (hs : swapsWith (.Tuple [.Constant (.str z) jk p1, .Attribute (.Name n p3) "value" p2] k p4) (some (.Name y py)) p5.line X.env = pure false := by rfl)
    (hfn : X.fn y = true ∨ X.env.scope.names.lookup y = some .local := by first | exact .inl rfl | exact .inr rfl | assumption) :
    PSs (X.suite a ((a, oe) :: pn)) [.Assign [.Name y py] (.Tuple [.Constant (.str z) jk p1, .Attribute (.Name n p3) "value" p2] k p4) p5] (tX G a d i (fun x => sSet j (evL kTup (evCons (evC (.str z)) (evCons (evXv x) evNil))))) := by
  refine pss_imp (pss_one (ps_set (X := X.suite a ((a, oe) :: pn)) hN hj hy (pe_tup (pa_cons pe_str (pa_cons (pe_xf T hno hz hf (pe_var (X := X.suite a ((a, oe) :: pn)) hi hv hd hcd)) pa_nil))) hs hfn)) fun D σ H ⟨R, ρ, s, M, x, v, w, sr, hia, hx, rv, p⟩ => ?_
  refine ⟨.ref a, hia, rfl, rfl, d, [("value", v)], v, rfl, hx, rfl, ?_⟩
  refine ⟨by show 2 ≤ sizeLine; decide, fun q hq => ?_⟩
  obtain ⟨e, w'⟩ := alloc_frz (o := .tup [.str z, v]) w hq
  have p' : Nxt G R ρ H (s.set j (some (.tup [.str z, x]))) M D.nx := p
  exact p' _ _ _ _ e w' ((sr.mono e.gr).set j (.tup upd_same (by show 2 ≤ sizeLine; decide) (.cons (.str _) (.cons (rv.mono e.gr) .nil))))
theorem psu_val (T : XfC X.K (G.CA c)) (hno : PySem.W.findIn X.K (.ref (G.CA c)) "value" = some none) (hz : Zc (.ref (G.CA c)) (some d) oe) (hf : ∃ vs, oe.data = .fields vs)
    (hN : X.N.Nodup) (hj : X.N[j]? = some y) (hy : Loc X.env.scope y) (hi : X.N[i]? = some n) (hv : Vis X.env.scope n) (hd : (n == ("__debug__" : Str)) = false := by decide) (hcd : (n == ("__classdict__" : Str)) = false := by decide)
    (hs : swapsWith (.Attribute (.Name n p3) "value" p2) (some (.Name y py)) p5.line X.env = pure false := by rfl)
    (hfn : X.fn y = true ∨ X.env.scope.names.lookup y = some .local := by first | exact .inl rfl | exact .inr rfl | assumption) :
    PSs (X.suite a ((a, oe) :: pn)) [.Assign [.Name y py] (.Attribute (.Name n p3) "value" p2) p5] (tX G a d i (fun x => sSet j (evXv x))) := by
  refine pss_imp (pss_one (ps_set (X := X.suite a ((a, oe) :: pn)) hN hj hy (pe_xf T hno hz hf (pe_var (X := X.suite a ((a, oe) :: pn)) hi hv hd hcd)) hs hfn)) fun D σ H ⟨R, ρ, s, M, x, v, w, sr, hia, hx, rv, p⟩ => ?_
  refine ⟨.ref a, hia, rfl, rfl, d, [("value", v)], v, rfl, hx, rfl, ?_⟩
  have p' : Nxt G R ρ H (s.set j (some x)) M D.nx := p
  exact p' _ _ _ _ Ext.refl w (sr.set j rv)
end
/-! ### what the written part says -/
theorem names_of {X : Cx} {x : Str} {c : Value} (hg : Gl X x) (hm : X.mg x = some c) (hd : (x == ("__debug__" : Str)) = false := by decide) : Names X x c := ⟨hg, hd, .inl hm⟩
end PV

set_option Elab.async false
set_option linter.all false
set_option maxRecDepth 100000
set_option maxHeartbeats 1000000
namespace PV
open PySem PySem.Spec PyProof.Rows L2
/-! ### min of a list of texts -/
def minS (z : Str) (zs : List Str) : Str := zs.foldl (fun m y => if leS m y = true then m else y) z
theorem minS_mem : ∀ (zs : List Str) (z : Str), minS z zs ∈ z :: zs
  | [], z => by simp [minS]
  | y :: zs, z => by
    have h := minS_mem zs (if leS z y = true then z else y)
    show minS (if leS z y = true then z else y) zs ∈ _
    rcases List.mem_cons.mp h with e | h
    · rw [e]
      by_cases q : leS z y = true
      · rw [if_pos q]; simp
      · rw [if_neg q]; simp
    · simp [h]
theorem leS_refl (a : Str) : leS a a = true := by
  have := leS_total a a
  simpa using this
theorem minS_le : ∀ (zs : List Str) (z : Str) (y : Str), y ∈ z :: zs → leS (minS z zs) y = true
  | [], z, y, h => by
    rw [List.mem_singleton.mp h]
    exact leS_refl _
  | x :: zs, z, y, h => by
    have h1 := minS_le zs (if leS z x = true then z else x)
    have h0 := h1 _ (List.mem_cons_self)
    show leS (minS (if leS z x = true then z else x) zs) y = true
    rcases List.mem_cons.mp h with e | h
    · subst e
      by_cases q : leS y x = true
      · rw [if_pos q] at h0 ⊢; exact h0
      · rw [if_neg q] at h0 ⊢
        have := leS_total y x
        have q' : leS x y = true := by
          cases hh : leS y x
          · rw [hh] at this; simpa using this
          · exact absurd hh q
        exact leS_trans _ _ _ h0 q'
    · rcases List.mem_cons.mp h with e | h
      · subst e
        by_cases q : leS z y = true
        · rw [if_pos q] at h0 ⊢; exact leS_trans _ _ _ h0 q
        · rw [if_neg q] at h0 ⊢; exact h0
      · exact h1 y (by simp [h])
theorem argBest_min (x : Nat → Str) : ∀ n : Nat, argBest (fun i j => decide ((x i).cps.toList < (x j).cps.toList)) n ≤ n ∧ ∀ j, j ≤ n → leS (x (argBest (fun i j => decide ((x i).cps.toList < (x j).cps.toList)) n)) (x j) = true
  | 0 => ⟨Nat.le_refl _, fun j hj => by
    have : j = 0 := by omega
    subst this
    exact leS_refl _⟩
  | n + 1 => by
    obtain ⟨h1, h2⟩ := argBest_min x n
    unfold argBest
    by_cases q : (x (n + 1)).cps.toList < (x (argBest (fun i j => decide ((x i).cps.toList < (x j).cps.toList)) n)).cps.toList
    · rw [if_pos (decide_eq_true q)]
      have hle : leS (x (n + 1)) (x (argBest (fun i j => decide ((x i).cps.toList < (x j).cps.toList)) n)) = true := by
        unfold leS
        exact decide_eq_true (List.le_of_lt q)
      refine ⟨Nat.le_refl _, fun j hj => ?_⟩
      by_cases e : j = n + 1
      · rw [e]; exact leS_refl _
      · exact leS_trans _ _ _ hle (h2 j (by omega))
    · rw [if_neg (by simpa using q)]
      refine ⟨by omega, fun j hj => ?_⟩
      by_cases e : j = n + 1
      · rw [e]
        unfold leS
        exact decide_eq_true (List.not_lt.mp q)
      · exact h2 j (by omega)
section
variable {prog : Program} {w : World} {A : Around} {E : Value → Shared → Prop} {s : Shared} {l : Addr} {its : Array Value} {xs : List Str}
theorem cmpOf_strs (h : StrsAre its.toList xs) : CmpOf prog w A .Lt (fun i v => its[i]? = some v) (fun i j => decide ((xs.getD i Str.empty).cps.toList < (xs.getD j Str.empty).cps.toList)) := fun i j vi vj s Q E hi hj hQ => by
  obtain ⟨t, rfl⟩ := SS.strs_at h i vi (by rw [Array.getElem?_toList]; exact hi)
  obtain ⟨u, rfl⟩ := SS.strs_at h j vj (by rw [Array.getElem?_toList]; exact hj)
  exact lt_str hQ
theorem minS_raw {Q : Value → Shared → Prop} (hh : A.handled = none) (hl : s.heap.IsList l its) (hi : StrsAre its.toList xs) (hne : 0 < xs.length)
    (h : ∀ h' tk m t', (∀ b o, s.heap.get? b = some o → h'.get? b = some o) → m ∈ xs → (∀ y, y ∈ xs → leS m y = true) → Q (.str m t') { s with heap := h', toks := tk }) :
    wpAny (model prog w) A (call (.builtin "min") [.ref l]) Q E s := by
  have hsz : its.size = xs.length := by rw [← Array.length_toList]; exact StrsAre.len_eq hi
  refine call_min_walk (iter_anyList hl fun s₂ e st hfp hlI => ?_)
  subst e
  refine ⟨_, _, _, _, _, _, _, rfl, Walks.list (A := A.in1) hh _ l hlI its, st, hfp, by rw [hsz]; exact hne, cmpOf_strs hi, fun v h' tk hP hk => ?_⟩
  obtain ⟨h1, h2⟩ := argBest_min (fun i => xs.getD i Str.empty) (its.size - 1)
  obtain ⟨t, rfl⟩ := SS.strs_at hi _ v (by rw [Array.getElem?_toList]; exact hP)
  refine h h' tk _ t (PySem.old_kept hk) ?_ fun y hy => ?_
  · have hlt : argBest (fun i j => decide ((xs.getD i Str.empty).cps.toList < (xs.getD j Str.empty).cps.toList)) (its.size - 1) < xs.length := by
      have : argBest (fun i j => decide ((xs.getD i Str.empty).cps.toList < (xs.getD j Str.empty).cps.toList)) (its.size - 1) ≤ its.size - 1 := h1
      omega
    rw [List.getD_eq_getElem?_getD, List.getElem?_eq_getElem hlt]
    exact List.getElem_mem hlt
  · obtain ⟨j, hj, e⟩ := List.mem_iff_getElem.mp hy
    have := h2 j (by omega)
    rw [show xs.getD j Str.empty = y by
      rw [List.getD_eq_getElem?_getD, List.getElem?_eq_getElem hj, ← e]
      rfl] at this
    exact this
end
section
variable {X : Cx} {G : Sig}
def rMinS (K : PySem.W.Frag) : List V → Hp → VK → Prop := fun vs H Q => ∃ (a : Addr) (xs : List Str), vs = [V.ref a] ∧ SqL K H a (xs.map V.str) ∧ 0 < xs.length ∧ ∀ m, m ∈ xs → (∀ y, y ∈ xs → leS m y = true) → Q (.str m) H
theorem cr_minS (hc : X.calm = true) : CallR X (.builtin "min") (rMinS X.K) := by
  intro pins s σ H vs us Q I r h
  obtain ⟨a, xs, rfl, hs, hne, q⟩ := h
  obtain ⟨its, rv, hl, _⟩ := I.list hs
  rw [Vals.ref1 r]
  exact minS_raw (I.ok.hd hc) hl.isList rv.strs hne fun h' tk m t' hk h1 h2 => ⟨.str _, H, I.kept hk, ⟨_, rfl⟩, q m h1 h2⟩
def gMin2 (M : Store) (l : List Va) : Option Va := match gMin M l with
  | some r => some r
  | none => match l with
    | [x] => (match (lstOf M x).bind strsOf with
      | some (z :: zs) => some (.str (minS z zs))
      | _ => none)
    | _ => none
theorem s_min2 (hK : X.K = G.K) : OpL G (fun xs H Q => ((∃ i j, xs = [.int i, .int j] ∧ Q (.int (if j < i then j else i)) H) ∨ rMin X.K xs H Q) ∨ rMinS X.K xs H Q) (kPure gMin2) := pure_of fun R ρ M H xs l res Q w rv h g => by
  unfold gMin2 at h
  split at h
  · rename_i r hr
    cases h
    left
    unfold gMin at hr
    split at hr
    · obtain ⟨v, u, rfl, r, q⟩ := two_of rv
      cases r; cases q; cases hr
      exact .inl ⟨_, _, rfl, gives_now w (.int _) g⟩
    · obtain ⟨v, rfl, r⟩ := one_of rv
      split at hr
      · rename_i l hl
        split at hr
        · rename_i n ns hn
          cases hr
          obtain ⟨a, rfl, sq⟩ := lst_ints w r hl hn
          refine .inr ⟨a, n :: ns, rfl, by rw [hK]; exact sq, by simp, fun m h1 h2 => ?_⟩
          have e : m = minL n ns := Int.le_antisymm (h2 _ (minL_mem ns n)) (minL_le ns n m h1)
          rw [e]
          exact gives_now w (.int _) g
        · cases hr
      · cases hr
    · cases hr
  · split at h
    · rename_i x _
      obtain ⟨v, rfl, r⟩ := one_of rv
      split at h
      · rename_i z zs hz
        cases h
        right
        cases hq : lstOf M x with
        | none => rw [hq] at hz; cases hz
        | some l' =>
          rw [hq] at hz
          obtain ⟨a, vs, rfl, sq, rv', _⟩ := lst_read w r hq
          rw [strs_of rv' hz] at sq
          refine ⟨a, z :: zs, rfl, by rw [hK]; exact sq, by simp, fun m h1 h2 => ?_⟩
          have e : m = minS z zs := leS_antisymm _ _ (h2 _ (minS_mem zs z)) (minS_le zs z m h1)
          rw [e]
          exact gives_now w (.str _) g
      · cases h
    · cases h
end
end PV

set_option Elab.async false
set_option linter.all false
set_option maxRecDepth 100000
set_option maxHeartbeats 4000000
namespace PV
open PySem PySem.Spec L2
open PyProof.Rows
/-! ### making and methods that may raise -/
section
variable {P : Program} {w : World} {K : PySem.W.Frag} {mg : Str → Option Value} {base : Heap} {CA : Nat → Addr} {x qual : Str} {st : Stmt} {f p : Addr} {fd : FuncData} {N ps : List Str} {k n N' c : Nat} {es : SS} {fM : FM}
theorem fnG_byE (F : Fun K x qual st f fd) (S : FnScope N ps (defScope st)) (hn : ps.length = n) (hN : N.length = N') (hc : fM = runF N' es)
    (body : ∀ (cdv : Value) (A : Around) (outer : List Env) (s : Shared) (H : Hp) (E : XK), Room k (A.deeper (envOfC qual (defScope st) s.heap.objs.size f cdv)) → A.guards = some [] →
      PSs (cxOf (L2.CX P w) P w K mg base N qual (defScope st) f cdv A outer s H E) (defBody st) (tS ⟨K, CA⟩ E es)) : FnG P w K mg base (L2.CX P w) (k + 1) f fd ps (spE ⟨K, CA⟩ n fM) := by
  subst hn hN hc
  exact ok_fnE F S body
end
structure MkE (P : Program) (w : World) (K : PySem.W.Frag) (mg : Str → Option Value) (base : Heap) (G : Sig) (x : Str) (c : Nat) (lv n : Nat) (fM : FM) : Prop where
  ex : ∃ (f : Addr) (fd : FuncData) (ps : List Str), mg x = some (.ref (G.CA c)) ∧ Mk K (G.CA c) f ∧ Binds K fd ps [] ∧ FnG P w K mg base (L2.CX P w) lv f fd ps (spE G (n + 1) fM)
structure MeE (P : Program) (w : World) (K : PySem.W.Frag) (mg : Str → Option Value) (base : Heap) (G : Sig) (c : Nat) (x : Str) (lv n : Nat) (fM : FM) : Prop where
  ex : ∃ (f : Addr) (fd : FuncData) (ps : List Str), Cls K (G.CA c) ∧ Meth K (G.CA c) x f ∧ Binds K fd ps [] ∧ FnG P w K mg base (L2.CX P w) lv f fd ps (spE G (n + 1) fM)
section
variable {P : Program} {w : World} {K : PySem.W.Frag} {mg : Str → Option Value} {base : Heap} {CA : Nat → Addr} {f p : Addr} {fd : FuncData} {ps : List Str} {k n c : Nat} {fM : FM}
theorem mk_ofE {y : Str} (hm : mg y = some (.ref (CA c))) (M : Mk K (CA c) f) (hb : Binds K fd ps []) (F : FnG P w K mg base (L2.CX P w) k f fd ps (spE ⟨K, CA⟩ (n + 1) fM)) : MkE P w K mg base ⟨K, CA⟩ y c k n fM := ⟨f, fd, ps, hm, M, hb, F⟩
theorem me_ofE {y : Str} (C : Cls K (CA c)) (hp : Meth K (CA c) y f) (hb : Binds K fd ps []) (F : FnG P w K mg base (L2.CX P w) k f fd ps (spE ⟨K, CA⟩ (n + 1) fM)) : MeE P w K mg base ⟨K, CA⟩ c y k n fM := ⟨f, fd, ps, C, hp, hb, F⟩
end
section
variable {X : Cx} {G : Sig} {E : XK} {a o e : Expr} {es : List Expr} {ea eo : SE} {pos p' apos : Pos} {c n k lv : Nat} {f C : Addr} {x m : Str} {fM : FM}
theorem make_simE {R : Hp} {ρ : List Addr} {M : Store} {H : Hp} {l : List Va} {vs : List V} {Q : VK} (w : Wd G R ρ M H) (r : VRs G R ρ l vs) (q : Post G R ρ H (kMake c n fM l M) Q E) (hC : G.CA c = C) :
    ∀ x dx, H x = none → H dx = none → dx ≠ x → spE G (n + 1) fM (.ref x :: (vs ++ [])) (upd (upd H dx (.own x)) x (.ins C dx [])) (fun v H2 => v = .non ∧ Q (.ref x) H2) E := by
  intro x dx hx hdx ne
  unfold kMake at q
  by_cases hl : l.length = n
  · rw [if_pos hl] at q
    have e0 : Ext R ρ H R ρ (upd H dx (.own x)) := Ext.heapNew hdx
    have w0 : Wd G R ρ M (upd H dx (.own x)) := w.heap fun b o h => by rw [upd_ne (ne_of_none h hdx)]; exact h
    have hx' : (upd H dx (.own x)) x = none := by rw [upd_ne ne.symm]; exact hx
    obtain ⟨e1, w1, g1⟩ := alloc_cel (o := .ins C dx []) (x := .ins c []) w0 hx' ⟨dx, [], by rw [hC, upd_same], .nil⟩
    refine ⟨by rw [List.append_nil, List.length_cons, ← r.length, hl], R, _, _, .cel M.nx :: l, w1, .cons (.cel g1) (by rw [List.append_nil]; exact r.mono e1.gr), ?_⟩
    rcases z : fM (.cel M.nx :: l) (M.new (.ins c [])) with _ | ⟨y | ⟨k, y⟩, M2⟩ <;> rw [z] at q
    · exact q
    · cases y <;> first | exact q.elim | skip
      intro R' ρ' H' v e w' rv
      cases rv
      exact ⟨rfl, q R' ρ' H' (.ref x) ((e0.trans e1).trans e) w' (.cel (e.get g1))⟩
    · intro R' ρ' H' d v e w' h rv
      exact q R' ρ' H' d v ((e0.trans e1).trans e) w' h rv
  · rw [if_neg hl] at q; exact q.elim
theorem q_makeE (B : MkE X.prog X.w X.K X.mg X.base G x c lv n fM) (tk : Tk X E) (hr : Room k X.A) (hl : lv + 1 ≤ k) (hgd : X.A.guards = some []) (hg : Gl X x) (ha : PA X (e :: es) (tA G E ea)) (hdb : (x == ("__debug__" : Str)) = false := by decide)
    (he : starEach (e :: es) X.env = (false, eval e X.env) :: starEach es X.env := by rfl) (hpl : (backTo pos (starEach es X.env)).any (·.1) = false := by rfl) :
    PE X (.Call (.Name x p') (e :: es) [] pos) (tE G E (evL (kMake c n fM) ea)) := by
  obtain ⟨f, fd, ps, hm, hk, hb, F⟩ := B.ex
  exact pe_imp (pe_makeG hk F (hr.mono hl) hgd hg hm hb .nil (passes_call tk fun _ _ _ _ h => h) ha hdb he hpl) fun σ H Q ⟨R, ρ, s, M, w, sr, p⟩ => stepA w sr p fun R1 ρ1 M1 H1 l vs e1 w1 sr1 r1 p1 => make_simE w1 r1 p1 rfl
theorem q_methE {pl : Sem Bool} (B : MeE X.prog X.w X.K X.mg X.base G c m lv n fM) (tk : Tk X E) (hr : Room k X.A) (hl : lv ≤ k) (hgd : X.A.guards = some []) (ho : PE X o (tE G E eo)) (ha : PA X (e :: es) (tA G E ea))
    (hst : starEach (e :: es) X.env = (false, eval e X.env) :: starEach es X.env := by rfl) (hpl : (backTo pos (starEach es X.env)).any (·.1) = false := by rfl)
    (ht : eval (.Call (.Attribute o m apos) (e :: es) [] pos) X.env = (do
      let ov ← eval o X.env
      standAt apos.atName
      let (f, first) ← holding [ov] (getMethod ov m pl)
      callWith pos f first (backTo pos (starEach (e :: es) X.env)) (backToKw pos (keywordEach [] X.env))) := by rfl) :
    PE X (.Call (.Attribute o m apos) (e :: es) [] pos) (tE G E (evMeth c m n fM eo ea)) := by
  obtain ⟨f, fd, ps, hc, hm, hb, F⟩ := B.ex
  refine ⟨fun pins s σ H Q I h => ?_⟩
  have h' : tE G E eo σ H fun x H1 => ∃ b dx fs, x = .ref b ∧ H1 b = some (.ins (G.CA c) dx fs) ∧ fs.lookup m = none ∧ tA G E ea σ H1 fun vs H2 => spE G (n + 1) fM (x :: vs) H2 Q E := by
    obtain ⟨R, ρ, s', M, w, sr, p⟩ := h
    refine stepE w sr p fun R1 ρ1 M1 H1 va v e1 w1 sr1 r1 p1 => ?_
    split at p1
    · rename_i hob
      obtain ⟨b, dx, fs, rfl, hb', hn⟩ := meth_obj w1 r1 hob
      refine ⟨b, dx, fs, rfl, hb', hn, stepA w1 sr1 p1 fun R2 ρ2 M2 H2 l vs e2 w2 sr2 r2 p2 => ?_⟩
      by_cases hl : l.length = n
      · rw [if_pos hl] at p2
        exact ⟨by rw [List.length_cons, ← r2.length, hl], R2, ρ2, M2, va :: l, w2, .cons (r1.mono e2.gr) r2, p2⟩
      · rw [if_neg hl] at p2; exact p2.elim
    · exact p1.elim
  refine PySem.W.methodCall_KW (pl := pl) (thn (ho.run pins s σ H _ I h') fun u s1 ⟨x, H1, I1, rx, b, dx, fs, ex, ea, l, q⟩ => ?_) ht
  subst ex
  obtain rfl : u = Value.ref b := rx
  refine getmeth_ok I1 ea hc hm l ?_
  refine PySem.W.callWith_K (first := [.ref b]) (h₀ := X.base) I.ok.mod.kin hm.kp (thn (ha.run pos pins s1 σ H1 _ I1 q) fun us s2 ⟨vs, H2, I2, r, q2⟩ => ⟨I2.kIn, ?_⟩) hst hpl
  exact run_fnG (us := .ref b :: us) (vs := .ref b :: vs) F (hr.mono hl) hgd hb .nil (passes_call tk fun _ _ _ _ h => h) I2 (.cons rfl r) (by rw [List.append_nil]; exact q2)
/-- a def that raises nothing, its arguments may -/
def fnNo (fM : FM) : FM := fun l M => noX (fM l M)
theorem q_calM (B : Cal X.prog X.w X.K X.mg X.base G x lv n fM) (hr : Room k X.A) (hl : lv ≤ k) (hgd : X.A.guards = some []) (hg : Gl X x) (ha : PA X (e :: es) (tA G E ea)) (hdb : (x == ("__debug__" : Str)) = false := by decide)
    (he : starEach (e :: es) X.env = (false, eval e X.env) :: starEach es X.env := by rfl) (hpl : (backTo pos (starEach es X.env)).any (·.1) = false := by rfl) :
    PE X (.Call (.Name x p') (e :: es) [] pos) (tE G E (evL (kFn n (fnNo fM)) ea)) := by
  obtain ⟨f, fd, ps, hm, hk, hb, F⟩ := B.ex
  refine pe_imp (pe_callG F (hr.mono hl) hgd hg hm hk hb .nil (show Passes CX0 X E from fun _ _ _ _ _ _ _ h => h.elim) ha hdb he hpl) fun σ H Q ⟨R, ρ, s, M, w, sr, p⟩ => stepA w sr p fun R1 ρ1 M1 H1 l vs e1 w1 sr1 r1 p1 => ?_
  unfold kFn at p1
  by_cases hl : l.length = n
  · rw [if_pos hl] at p1
    refine ⟨by rw [List.append_nil, ← r1.length]; exact hl, R1, ρ1, M1, l, w1, by rw [List.append_nil]; exact r1, ?_⟩
    unfold fnNo noX at p1
    rcases q : fM l M1 with _ | ⟨y | ⟨c, y⟩, M2⟩ <;> rw [q] at p1
    · exact p1
    · exact p1
    · exact p1.elim
  · rw [if_neg hl] at p1; exact False.elim p1
theorem x_fnNo {fM : FM} {l : List Va} {M M1 : Store} {v : Va} (h : fM l M = some (.val v, M1)) : fnNo fM l M = some (.val v, M1) := by
  unfold fnNo
  rw [h]
  rfl
end
end PV

set_option Elab.async false
set_option linter.all false
set_option maxRecDepth 100000
set_option maxHeartbeats 4000000
namespace Lw
open PySem L2 PV
noncomputable section
def m__law_draw : SS :=
    (sSeq (sIf (ev2 opGt (ev2 opIx (evVar 0) (evC (.int 0))) (evC (.int 0))) (sSeq (sSet 3 (ev2 opMod (evL (kPure gInt) (evCons (ev2 opIx (evVar 0) (evC (.int 0))) evNil)) (evVar 1)))
    (sSeq (sSub (ev2 opDiv (ev2 opIx (evVar 0) (evC (.int 0))) (evVar 1)) (evVar 0) (evC (.int 0)) cSetAt)
    (sRet (evVar 3)))) sNx)
    (sSeq (sSub (ev2 opAdd (ev2 opIx (evVar 0) (evC (.int 2))) (evC (.int 1))) (evVar 0) (evC (.int 2)) cSetAt)
    (sSeq (sSet 2 (ev2 opMod (evL (kPure gInt) (evCons (ev2 opPow (ev2 opAdd (ev2 opIx (evVar 0) (evC (.int 1))) (ev2 opMul (ev2 opIx (evVar 0) (evC (.int 2))) (evC (.int 49979693)))) (evC (.int 3))) evNil)) (ev2 opAdd (ev2 opPow (evC (.int 10)) (evC (.int 28))) (evC (.int 333)))))
    (sRet (ev2 opMod (ev2 opDiv (ev2 opMod (evL (kPure gInt) (evCons (ev2 opAdd (ev2 opMul (evVar 2) (evVar 2)) (ev2 opDiv (evVar 2) (evC (.int 7927)))) evNil)) (ev2 opAdd (ev2 opPow (evC (.int 10)) (evC (.int 24))) (evC (.int 403)))) (evC (.int 104759))) (evVar 1))))))
def c__law_draw : FM := runF 4 m__law_draw
def m__law_word : SS :=
    (sSeq (sSet 2 (evC (.str "abcdefghijklmnopqrstuvwxyz")))
    (sSeq (sSet 3 (evL (kFn 2 c__law_draw) (evCons (evVar 0) (evCons (evC (.int 6)) evNil))))
    (sSeq (sSet 4 (ev2 opIx (evL kLst (evCons (evC (.str "columns")) (evCons (evC (.str "kind")) (evCons (evC (.str "check")) (evCons (evC (.str "new")) (evCons (evC (.str "step")) (evCons (evC (.str "held")) (evCons (evC (.str "taken")) evNil)))))))) (evL (kFn 2 c__law_draw) (evCons (evVar 0) (evCons (evC (.int 7)) evNil)))))
    (sSeq (sIf (evAnd (ev2 opEq (evVar 3) (evC (.int 5))) (ev2 opNe (evVar 1) (evL kLst evNil))) (sSeq (sSet 6 (ev2 opIx (evVar 1) (evL (kFn 2 c__law_draw) (evCons (evVar 0) (evCons (evL (kPure gLen) (evCons (evVar 1) evNil)) evNil)))))
    (sSeq (sSet 7 (evL (kFn 2 c__law_draw) (evCons (evVar 0) (evCons (ev2 opAdd (evL (kPure gLen) (evCons (evVar 6) evNil)) (evC (.int 1))) evNil))))
    (sSet 4 (evSl (ev2 opAdd (ev2 opAdd (evSl (evVar 6) (evC .non) (evB (evVar 7))) (ev2 opIx (evVar 2) (evL (kFn 2 c__law_draw) (evCons (evVar 0) (evCons (evC (.int 26)) evNil))))) (evSl (evVar 6) (evB (ev2 opAdd (evVar 7) (evL (kFn 2 c__law_draw) (evCons (evVar 0) (evCons (evC (.int 2)) evNil))))) (evC .non))) (evC .non) (evB (evC (.int 8))))))) (sIf (ev2 opLt (evVar 3) (evC (.int 4))) (sSet 4 (evM2 isStrA (kVal gJoin) (evC (.str "")) (evCons (evLc (itR1 (evCons (ev2 opAdd (evC (.int 1)) (evL (kFn 2 c__law_draw) (evCons (evVar 0) (evCons (evC (.int 8)) evNil)))) evNil)) (tgName 8) evYes (ev2 opIx (evVar 2) (evL (kFn 2 c__law_draw) (evCons (evVar 0) (evCons (evC (.int 26)) evNil)))) [8]) evNil))) sNx))
    (sSeq (sFor (itR1 (evCons (evC (.int 676)) evNil)) (tgName 5) (sSeq (sIf (ev2 opNotInD (evVar 4) (evVar 1)) (sRet (evVar 4)) sNx)
    (sSet 4 (ev2 opAdd (ev2 opIx (evVar 2) (ev2 opMod (evVar 5) (evC (.int 26)))) (ev2 opIx (evVar 2) (ev2 opDiv (evVar 5) (evC (.int 26))))))))
    (sRet (evVar 4)))))))
def c__law_word : FM := runF 9 m__law_word
def m__law_steps : SS :=
    (sSeq (sSet 4 (evL kNew evNil))
    (sSeq (sFor (itR1 (evCons (evL (kFn 2 c__law_draw) (evCons (evVar 0) (evCons (ev2 opAdd (evVar 3) (evC (.int 1))) evNil))) evNil)) (tgName 5) (sSeq (sSet 6 (evIf (ev2 opEq (evL (kFn 2 c__law_draw) (evCons (evVar 0) (evCons (evC (.int 2)) evNil))) (evC (.int 1))) (evL (kFn 2 c__law_draw) (evCons (evVar 0) (evCons (evVar 1) evNil))) (ev2 opMod (evVar 5) (evVar 1))))
    (sSeq (sSet 7 (evIf (ev2 opEq (evL (kFn 2 c__law_draw) (evCons (evVar 0) (evCons (evC (.int 2)) evNil))) (evC (.int 1))) (evL (kFn 2 c__law_draw) (evCons (evVar 0) (evCons (evVar 1) evNil))) (evL (kPure gMin) (evCons (ev2 opAdd (evVar 6) (evC (.int 1))) (evCons (ev2 opSub (evVar 1) (evC (.int 1))) evNil)))))
    (sSeq (sIf (ev2 opGt (evL (kFn 2 c__law_draw) (evCons (evVar 0) (evCons (evC (.int 3)) evNil))) (evC (.int 0))) (sSet 2 (ev2 opAdd (evVar 2) (evL kLst (evCons (evL (kFn 2 c__law_word) (evCons (evVar 0) (evCons (evVar 2) evNil))) evNil)))) sNx)
    (sSeq (sSet 8 (ev2 opIx (evVar 2) (ev2 opSub (ev2 opSub (evC (.int 0)) (evC (.int 1))) (evL (kFn 2 c__law_draw) (evCons (evVar 0) (evCons (evL (kPure gLen) (evCons (evVar 2) evNil)) evNil))))))
    (sIf (ev2 opNotInD (evL kTup (evCons (evVar 8) (evCons (evVar 6) evNil))) (evLc (itA (evVar 4)) (tgName 9) evYes (evSl (evVar 9) (evC .non) (evB (evC (.int 2)))) [9])) (sDrop (evM2 isLstA (kMut cAppend) (evVar 4) (evCons (evL kTup (evCons (evVar 8) (evCons (evVar 6) (evCons (evVar 7) evNil)))) evNil))) sNx))))))
    (sRet (evFrz (evVar 4)))))
def c__law_steps : FM := runF 10 m__law_steps
def m__law_number : SS :=
    (sSeq (sSet 2 (evL (kFn 2 c__law_draw) (evCons (evVar 0) (evCons (evC (.int 4)) evNil))))
    (sSeq (sIf (ev2 opEq (evVar 2) (evC (.int 0))) (sRet (evC (.int 0))) sNx)
    (sSeq (sIf (ev2 opEq (evVar 2) (evC (.int 3))) (sRet (ev2 opSub (evL (kFn 2 c__law_draw) (evCons (evVar 0) (evCons (ev2 opAdd (ev2 opMul (evC (.int 2)) (evVar 1)) (evC (.int 1))) evNil))) (evVar 1))) sNx)
    (sRet (ev2 opSub (evL (kFn 2 c__law_draw) (evCons (evVar 0) (evCons (evC (.int 7)) evNil))) (evC (.int 3)))))))
def c__law_number : FM := runF 3 m__law_number
def m__law_counts : SS :=
    (sRet (evLc (itR1 (evCons (evVar 1) evNil)) (tgName 3) evYes (evL (kFn 2 c__law_number) (evCons (evVar 0) (evCons (evVar 2) evNil))) [3]))
def c__law_counts : FM := runF 4 m__law_counts
def m__law_data : SS :=
    (sSeq (sSet 3 (evL kNew evNil))
    (sSeq (sFor (itR1 (evCons (ev2 opIx (evL kLst (evCons (ev2 opIx (evVar 1) (evC (.int 0))) (evCons (evC (.int 0)) (evCons (evC (.int 1)) (evCons (evC (.int 2)) (evCons (evC (.int 2)) (evCons (evC (.int 3)) (evCons (evC (.int 3)) (evCons (evC (.int 4)) evNil))))))))) (evL (kFn 2 c__law_draw) (evCons (evVar 0) (evCons (evC (.int 8)) evNil)))) evNil)) (tgName 4) (sDrop (evM2 isLstA (kMut cAppend) (evVar 3) (evCons (evL (kFn 2 c__law_word) (evCons (evVar 0) (evCons (evVar 3) evNil))) evNil))))
    (sSeq (sSet 5 (evL kNew evNil))
    (sSeq (sSet 6 (evL kNew evNil))
    (sSeq (sSet 7 (ev2 opIx (evL kLst (evCons (ev2 opIx (evVar 1) (evC (.int 1))) (evCons (evC (.int 0)) (evCons (evC (.int 1)) (evCons (evC (.int 2)) (evCons (evC (.int 2)) (evCons (evC (.int 3)) evNil))))))) (evL (kFn 2 c__law_draw) (evCons (evVar 0) (evCons (evC (.int 6)) evNil)))))
    (sSeq (sFor (itR1 (evCons (evVar 7) evNil)) (tgName 4) (sSeq (sDrop (evM2 isLstA (kMut cAppend) (evVar 6) (evCons (evL (kFn 2 c__law_word) (evCons (evVar 0) (evCons (evVar 6) evNil))) evNil)))
    (sSeq (sSet 9 (evL kNew (evCons (ev2 opMul (evL kLst (evCons (evC (.int 0)) evNil)) (evL (kPure gLen) (evCons (evVar 3) evNil))) evNil)))
    (sSeq (sFor (itR1 (evCons (evL (kFn 2 c__law_draw) (evCons (evVar 0) (evCons (evIf (ev2 opEq (evVar 7) (evC (.int 1))) (evC (.int 30)) (ev2 opIx (evVar 1) (evC (.int 2)))) evNil))) evNil)) (tgName 10) (sDrop (evM2 isLstA (kMut cAppend) (evVar 9) (evCons (evL (kFn 3 c__law_counts) (evCons (evVar 0) (evCons (evL (kPure gLen) (evCons (evVar 3) evNil)) (evCons (evVar 2) evNil)))) evNil))))
    (sSeq (sSet 11 (evL (kFn 4 c__law_steps) (evCons (evVar 0) (evCons (evL (kPure gLen) (evCons (evVar 9) evNil)) (evCons (evL (kPure gList) (evCons (evVar 6) evNil)) (evCons (evIf (ev2 opEq (evVar 7) (evC (.int 1))) (evC (.int 30)) (ev2 opIx (evVar 1) (evC (.int 3)))) evNil))))))
    (sDrop (evM2 isLstA (kMut cAppend) (evVar 5) (evCons (evL kTup (evCons (ev2 opIx (evVar 6) (ev1 opNeg (evC (.int 1)))) (evCons (evFrz (evVar 9)) (evCons (evVar 11) evNil)))) evNil))))))))
    (sSeq (sSet 8 (evL kNew evNil))
    (sSeq (sFor (itR1 (evCons (evL (kFn 2 c__law_draw) (evCons (evVar 0) (evCons (ev2 opAdd (ev2 opIx (evVar 1) (evC (.int 4))) (evC (.int 1))) evNil))) evNil)) (tgName 4) (sDrop (evM2 isLstA (kMut cAppend) (evVar 8) (evCons (evL (kFn 3 c__law_counts) (evCons (evVar 0) (evCons (evL (kPure gLen) (evCons (evVar 3) evNil)) (evCons (evVar 2) evNil)))) evNil))))
    (sRet (evL kTup (evCons (evFrz (evVar 3)) (evCons (evFrz (evVar 5)) (evCons (evFrz (evVar 8)) evNil)))))))))))))
def c__law_data : FM := runF 12 m__law_data
def m__law_sum : SS :=
    (sSeq (sSet 3 (evL (kFn 2 c__law_draw) (evCons (evVar 0) (evCons (evC (.int 2)) evNil))))
    (sSeq (sSet 4 (evL (kFn 2 c__law_draw) (evCons (evVar 0) (evCons (evC (.int 2)) evNil))))
    (sSeq (sSet 5 evDNew)
    (sSeq (sFor (itR1 (evCons (evL (kPure gLen) (evCons (evVar 1) evNil)) evNil)) (tgName 6) (sSeq (sSet 7 (ev2 opIx (evL kLst (evCons (evVar 6) (evCons (ev2 opSub (ev2 opSub (evL (kPure gLen) (evCons (evVar 1) evNil)) (evC (.int 1))) (evVar 6)) evNil))) (evVar 3)))
    (sIf (evOr (ev2 opNe (ev2 opIx (evVar 2) (evVar 7)) (evC (.int 0))) (ev2 opEq (evVar 4) (evC (.int 0)))) (sSub (ev2 opIx (evVar 2) (evVar 7)) (evVar 5) (ev2 opIx (evVar 1) (evVar 7)) cSetK) sNx)))
    (sRet (evVar 5))))))
def c__law_sum : FM := runF 8 m__law_sum
def m__law_handed : SS :=
    (sSeq (sSet 2 (evL kNew evNil))
    (sSeq (sFor (itA (ev2 opIx (evVar 1) (evC (.int 1)))) (tgTup [(tgName 3), (tgName 4), (tgName 5)]) (sDrop (evM2 isLstA (kMut cAppend) (evVar 2) (evCons (evL kTup (evCons (evVar 3) (evCons (evLcC (itA (evVar 4)) (tgName 7) evYes (evL (kFn 3 c__law_sum) (evCons (evVar 0) (evCons (ev2 opIx (evVar 1) (evC (.int 0))) (evCons (evVar 7) evNil)))) [7]) (evCons (evL kList (evCons (evVar 5) evNil)) evNil)))) evNil))))
    (sRet (evL kTup (evCons (evL kList (evCons (ev2 opIx (evVar 1) (evC (.int 0))) evNil)) (evCons (evVar 2) (evCons (evLcC (itA (ev2 opIx (evVar 1) (evC (.int 2)))) (tgName 6) evYes (evL (kFn 3 c__law_sum) (evCons (evVar 0) (evCons (ev2 opIx (evVar 1) (evC (.int 0))) (evCons (evVar 6) evNil)))) [6]) evNil)))))))
def c__law_handed : FM := runF 8 m__law_handed
def m_is_name : SS :=
    (sRet (evAnd (evChain opLe opLe (evC (.int 1)) (evL (kPure gLen) (evCons (evVar 0) evNil)) (evC (.int 8))) (evL (kPure gAll) (evCons (evLc (itA (evVar 0)) (tgName 1) evYes (ev2 opInD (evVar 1) (evC (.str "abcdefghijklmnopqrstuvwxyz"))) [1]) evNil))))
def c_is_name : FM := runF 2 m_is_name
def m_look_at_columns : SS :=
    (sFor (itEn (evCons (evVar 0) evNil)) (tgTup [(tgName 1), (tgName 2)]) (sSeq (sIf (evNot (evTru (evL (kFn 1 c_is_name) (evCons (evVar 2) evNil)))) sNever sNx)
    (sIf (ev2 opInD (evVar 2) (evSl (evVar 0) (evC .non) (evB (evVar 1)))) sNever sNx)))
def c_look_at_columns : FM := runF 3 m_look_at_columns
def m_look_at_steps : SS :=
    (sFor (itEn (evCons (evVar 0) evNil)) (tgTup [(tgName 2), (tgName 3)]) (sSeq (sAsg (evVar 3) (tgTup [(tgName 4), (tgName 5), (tgName 6)]))
    (sSeq (sIf (evNot (evTru (evL (kFn 1 c_is_name) (evCons (evVar 4) evNil)))) sNever sNx)
    (sSeq (sIf (evOr (evNot (evChain opLe opLt (evC (.int 0)) (evVar 5) (evVar 1))) (evNot (evChain opLe opLt (evC (.int 0)) (evVar 6) (evVar 1)))) sNever sNx)
    (sIf (ev2 opInD (evL kTup (evCons (evVar 4) (evCons (evVar 5) evNil))) (evLc (itA (evSl (evVar 0) (evC .non) (evB (evVar 2)))) (tgName 7) evYes (evSl (evVar 7) (evC .non) (evB (evC (.int 2)))) [7])) sNever sNx)))))
def c_look_at_steps : FM := runF 8 m_look_at_steps
def m_factors_of : SS :=
    (sSeq (sFor (itA (evL (kPure gSorted) (evCons (evVar 1) evNil))) (tgName 2) (sIf (ev2 opNotInD (evVar 2) (evVar 0)) sNever sNx))
    (sRet (evLc (itA (evVar 0)) (tgName 2) evYes (evM2 isDicA (kVal gGetD) (evVar 1) (evCons (evVar 2) (evCons (evC (.int 0)) evNil))) [2])))
def c_factors_of : FM := runF 3 m_factors_of
def m_kind_rows_of : SS :=
    (sSeq (sSet 2 (evL kNew evNil))
    (sSeq (sFor (itA (evVar 1)) (tgTup [(tgName 3), (tgName 4), (tgName 5)]) (sSeq (sIf (evNot (evTru (evL (kFn 1 c_is_name) (evCons (evVar 3) evNil)))) sNever sNx)
    (sSeq (sIf (ev2 opInD (evVar 3) (evLc (itA (evVar 2)) (tgName 8) evYes (ev2 opIx (evVar 8) (evC (.int 0))) [8])) sNever sNx)
    (sSeq (sIf (ev2 opEqX (evVar 4) (evL kLst evNil)) sNever sNx)
    (sSeq (sSet 6 (evLc (itA (evVar 4)) (tgName 7) evYes (evL (kFn 2 c_factors_of) (evCons (evVar 0) (evCons (evVar 7) evNil))) [7]))
    (sSeq (sIf (evTru (evL (kPure gAny) (evCons (evLc (itA (ev2 opIx (evVar 6) (evC (.int 0)))) (tgName 9) evYes (ev2 opNeX (evVar 9) (evC (.int 0))) [9]) evNil))) sNever sNx)
    (sSeq (sDrop (evL (kFn 2 c_look_at_steps) (evCons (evVar 5) (evCons (evL (kPure gLen) (evCons (evVar 4) evNil)) evNil))))
    (sDrop (evM2 isLstA (kMut cAppend) (evVar 2) (evCons (evL kTup (evCons (evVar 3) (evCons (evVar 6) (evCons (evL (kPure gList) (evCons (evVar 5) evNil)) evNil)))) evNil))))))))))
    (sRet (evFrz (evVar 2)))))
def c_kind_rows_of : FM := runF 10 m_kind_rows_of
def m_Plan___init__ : SS :=
    (sSeq (sDrop (evL (kFn 1 c_look_at_columns) (evCons (evVar 1) evNil)))
    (sSeq (sFldS (evL (kPure gList) (evCons (evVar 1) evNil)) (evVar 0) (cSetF 0 "column_names"))
    (sSeq (sFldS (evL (kFn 2 c_kind_rows_of) (evCons (evVar 1) (evCons (evVar 2) evNil))) (evVar 0) (cSetF 0 "kind_rows"))
    (sFldS (evLc (itA (evVar 3)) (tgName 4) evYes (evL (kFn 2 c_factors_of) (evCons (evVar 1) (evCons (evVar 4) evNil))) [4]) (evVar 0) (cSetF 0 "check_rows")))))
def c_Plan___init__ : FM := runF 5 m_Plan___init__
def m__law_plan : SS :=
    (sSeq (sAsg (evL (kFn 2 c__law_handed) (evCons (evVar 0) (evCons (evVar 1) evNil))) (tgTup [(tgName 4), (tgName 5), (tgName 6)]))
    (sSeq (sSet 2 (evL (kMake 0 3 c_Plan___init__) (evCons (evVar 4) (evCons (evVar 5) (evCons (evVar 6) evNil)))))
    (sSeq (sDrop (evM2 isLstA (kMut cAppend) (evVar 4) (evCons (evC (.str "Late")) evNil)))
    (sSeq (sFor (itA (evVar 5)) (tgTup [(tgName 7), (tgName 8), (tgName 9)]) (sSeq (sFor (itA (evVar 8)) (tgName 10) (sDrop (evClear (evVar 10))))
    (sSeq (sDrop (evM2 isLstA (kMut cAppend) (evVar 8) (evCons evDNew evNil)))
    (sDrop (evClear (evVar 9))))))
    (sSeq (sFor (itA (evVar 6)) (tgName 3) (sDrop (evClear (evVar 3))))
    (sSeq (sDrop (evClear (evVar 5)))
    (sSeq (sDrop (evM2 isLstA (kMut cAppend) (evVar 6) (evCons evDNew evNil)))
    (sRet (evVar 2)))))))))
def c__law_plan : FM := runF 11 m__law_plan
def m__law_due : SS :=
    (sSeq (sSet 2 (evC (.str "")))
    (sSeq (sFor (itR1 (evCons (evL (kPure gLen) (evCons (evVar 0) evNil)) evNil)) (tgName 3) (sIf (ev2 opNe (ev2 opIx (evVar 1) (evVar 3)) (evC (.int 0))) (sSet 2 (ev2 opAdd (ev2 opAdd (ev2 opAdd (evVar 2) (evC (.str " "))) (evL (kPure gStr) (evCons (ev2 opIx (evVar 1) (evVar 3)) evNil))) (ev2 opIx (evVar 0) (evVar 3)))) sNx))
    (sRet (evL kTup (evCons (evC (.str "text")) (evCons (evIf (ev2 opNe (evVar 2) (evC (.str ""))) (evSl (evVar 2) (evB (evC (.int 1))) (evC .non)) (evC (.str "0"))) evNil))))))
def c__law_due : FM := runF 4 m__law_due
def m_factors_ofX : SS :=
    (sSeq (sFor (itA (evL (kPure gSorted) (evCons (evVar 1) evNil))) (tgName 2) (sIf (evNo (ev2 opNotInD (evVar 2) (evVar 0))) (sRaise 4 (evVar 2)) sNx))
    (stNo (sRet (evLc (itA (evVar 0)) (tgName 2) evYes (evM2 isDicA (kVal gGetD) (evVar 1) (evCons (evVar 2) (evCons (evC (.int 0)) evNil))) [2]))))
def c_factors_ofX : FM := runF 3 m_factors_ofX
def m_show_sumX : SS :=
    (sSeq (sSet 2 (evL (kFn 2 c_factors_ofX) (evCons (evNo (ev1 (opFld 0 "column_names") (evVar 0))) (evCons (evVar 1) evNil))))
    (sSeq (stNo (sSet 3 (evLc (itZp (evCons (evVar 2) (evCons (ev1 (opFld 0 "column_names") (evVar 0)) evNil))) (tgTup [(tgName 4), (tgName 5)]) (ev2 opNe (evVar 4) (evC (.int 0))) (evJs [(evFmt (evVar 4)), (evFmt (evVar 5))] Str.empty) [4, 5])))
    (stNo (sRet (evIf (ev2 opNe (evVar 3) (evL kLst evNil)) (evM2 isStrA (kVal gJoin) (evC (.str " ")) (evCons (evVar 3) evNil)) (evC (.str "0")))))))
def c_show_sumX : FM := runF 6 m_show_sumX
def m__law_said : SS :=
    (sSeq (sSet 2 (evC .non))
    (sSeq (sTry (sSet 2 (evL kTup (evCons (evC (.str "text")) (evCons (evL (kFn 2 c_show_sumX) (evCons (evVar 0) (evCons (evVar 1) evNil))) evNil)))) [4] (subOf [(4, 1)]) [(4, 3, (fun x => sSet 2 (evL kTup (evCons (evC (.str "UnknownColumn")) (evCons (evXv x) evNil))))), (1, 3, (fun _ _ _ => none))])
    (sRet (evVar 2))))
def c__law_said : FM := runF 4 m__law_said
def m__law_right : SS :=
    (sSeq (sSet 1 (evL (kFn 3 c__law_data) (evCons (evVar 0) (evCons (evL kTup (evCons (evC (.int 12)) (evCons (evC (.int 2)) (evCons (evC (.int 2)) (evCons (evC (.int 2)) (evCons (evC (.int 2)) evNil)))))) (evCons (ev2 opSub (ev2 opPow (evC (.int 10)) (evC (.int 12))) (evC (.int 1))) evNil)))))
    (sSeq (sSet 2 (evL (kFn 2 c__law_plan) (evCons (evVar 0) (evCons (evVar 1) evNil))))
    (sSeq (sFor (itR1 (evCons (evC (.int 6)) evNil)) (tgName 3) (sSeq (sSet 4 (evL (kFn 3 c__law_counts) (evCons (evVar 0) (evCons (evL (kPure gLen) (evCons (ev2 opIx (evVar 1) (evC (.int 0))) evNil)) (evCons (ev2 opIx (evL kLst (evCons (evC (.int 1)) (evCons (ev2 opSub (ev2 opPow (evC (.int 10)) (evC (.int 12))) (evC (.int 1))) evNil))) (evL (kFn 2 c__law_draw) (evCons (evVar 0) (evCons (evC (.int 2)) evNil)))) evNil)))))
    (sSeq (sSet 5 (evL (kFn 3 c__law_sum) (evCons (evVar 0) (evCons (ev2 opIx (evVar 1) (evC (.int 0))) (evCons (evVar 4) evNil)))))
    (sSeq (sSet 6 (evL kDict (evCons (evVar 5) evNil)))
    (sSeq (sSet 7 (evL kNew evNil))
    (sSeq (sFor (itR1 (evCons (ev2 opAdd (evC (.int 1)) (evL (kFn 2 c__law_draw) (evCons (evVar 0) (evCons (evC (.int 3)) evNil)))) evNil)) (tgName 8) (sSeq (sSet 11 (evL kLst (evCons (evC (.str "")) (evCons (evC (.str "Held")) (evCons (ev2 opAdd (ev2 opIx (ev2 opAdd (ev2 opIx (evVar 1) (evC (.int 0))) (evL kLst (evCons (evC (.str "held")) evNil))) (evC (.int 0))) (evC (.str " "))) (evCons (evL (kFn 2 c__law_word) (evCons (evVar 0) (evCons (ev2 opIx (evVar 1) (evC (.int 0))) evNil))) evNil))))))
    (sSeq (sDrop (evM2 isLstA (kMut cAppend) (evVar 7) (evCons (ev2 opIx (evVar 11) (evL (kFn 2 c__law_draw) (evCons (evVar 0) (evCons (evC (.int 4)) evNil)))) evNil)))
    (sSub (evL (kFn 2 c__law_number) (evCons (evVar 0) (evCons (evC (.int 9)) evNil))) (evVar 6) (ev2 opIx (evVar 7) (ev1 opNeg (evC (.int 1)))) cSetK))))
    (sSeq (sSet 9 (evL kRepr (evCons (evL kLst (evCons (evVar 5) (evCons (evVar 6) evNil))) evNil)))
    (sSeq (sSet 10 (evL (kFn 2 c__law_due) (evCons (ev2 opIx (evVar 1) (evC (.int 0))) (evCons (evVar 4) evNil))))
    (sSeq (sIf (ev2 opNe (evL kRepr (evCons (evL (kFn 2 c__law_said) (evCons (evVar 2) (evCons (evVar 5) evNil))) evNil)) (evL kRepr (evCons (evVar 10) evNil))) (sRet (evC (.bl false))) sNx)
    (sSeq (sIf (ev2 opNe (evL kRepr (evCons (evL (kFn 2 c__law_said) (evCons (evVar 2) (evCons (evVar 6) evNil))) evNil)) (evL kRepr (evCons (evL kTup (evCons (evC (.str "UnknownColumn")) (evCons (evL (kPure gMin2) (evCons (evVar 7) evNil)) evNil))) evNil))) (sRet (evC (.bl false))) sNx)
    (sSeq (sIf (evOr (ev2 opNe (evL kRepr (evCons (evL (kFn 2 c__law_said) (evCons (evVar 2) (evCons (evVar 5) evNil))) evNil)) (evL kRepr (evCons (evVar 10) evNil))) (ev2 opNe (evL kRepr (evCons (evL kLst (evCons (evVar 5) (evCons (evVar 6) evNil))) evNil)) (evVar 9))) (sRet (evC (.bl false))) sNx)
    (sIf (ev2 opNe (evVar 4) (evL kLst evNil)) (sSeq (sSet 12 (evL (kFn 2 c__law_draw) (evCons (evVar 0) (evCons (evL (kPure gLen) (evCons (evVar 4) evNil)) evNil))))
    (sSeq (sSet 13 (evL kList (evCons (evVar 4) evNil)))
    (sSeq (sSub (evIf (ev2 opLt (evL (kPure gAbs) (evCons (ev2 opIx (evVar 4) (evVar 12)) evNil)) (evC (.int 2))) (ev2 opSub (evC (.int 1)) (ev2 opIx (evVar 4) (evVar 12))) (evC (.int 0))) (evVar 13) (evVar 12) cSetAt)
    (sSeq (sSub (ev2 opIx (evVar 13) (evVar 12)) (evVar 5) (ev2 opIx (ev2 opIx (evVar 1) (evC (.int 0))) (evVar 12)) cSetK)
    (sSeq (sIf (ev2 opNe (evL kRepr (evCons (evL (kFn 2 c__law_said) (evCons (evVar 2) (evCons (evVar 5) evNil))) evNil)) (evL kRepr (evCons (evL (kFn 2 c__law_due) (evCons (ev2 opIx (evVar 1) (evC (.int 0))) (evCons (evVar 13) evNil))) evNil))) (sRet (evC (.bl false))) sNx)
    (sSeq (sSub (ev2 opIx (evVar 4) (evVar 12)) (evVar 5) (ev2 opIx (ev2 opIx (evVar 1) (evC (.int 0))) (evVar 12)) cSetK)
    (sIf (ev2 opNe (evL kRepr (evCons (evL (kFn 2 c__law_said) (evCons (evVar 2) (evCons (evVar 5) evNil))) evNil)) (evL kRepr (evCons (evVar 10) evNil))) (sRet (evC (.bl false))) sNx))))))) sNx))))))))))))
    (sRet (evC (.bl true))))))
def c__law_right : FM := runF 14 m__law_right
def m__law_well : SS :=
    (sSeq (sSet 2 (evL (kPure gMax) (evCons (evVar 0) (evCons (ev2 opSub (evC (.int 0)) (evVar 0)) evNil))))
    (sRet (evL kNew (evCons (evL (kPure gMax) (evCons (evC (.int 0)) (evCons (ev2 opSub (evVar 2) (ev2 opPow (evC (.int 10)) (evC (.int 18)))) evNil))) (evCons (ev2 opMod (evL (kPure gInt) (evCons (ev2 opAdd (ev2 opMul (evVar 0) (evC (.int 86028157))) (ev2 opMul (ev2 opAdd (evVar 1) (evC (.int 5))) (evC (.int 32452867)))) evNil)) (ev2 opAdd (ev2 opPow (evC (.int 10)) (evC (.int 26))) (evC (.int 711)))) (evCons (evC (.int 0)) evNil))))))
def c__law_well : FM := runF 3 m__law_well
def m_law : SS :=
    (sSeq (sSet 1 (ev2 opAdd (evSl (evVar 0) (evC .non) (evB (evC (.int 10)))) (ev2 opMul (evL kLst (evCons (evC (.int 0)) evNil)) (evL (kPure gInt) (evCons (ev2 opEq (evVar 0) (evL kLst evNil)) evNil)))))
    (sSeq (sFor (itR1 (evCons (evL (kPure gLen) (evCons (evVar 1) evNil)) evNil)) (tgName 2) (sIf (evNot (evTru (evL (kFn 1 c__law_right) (evCons (evL (kFn 2 c__law_well) (evCons (ev2 opIx (evVar 1) (evVar 2)) (evCons (evVar 2) evNil))) evNil)))) (sRet (evC (.bl false))) sNx))
    (sRet (evC (.bl true)))))
def c_law : FM := runF 3 m_law
end
end Lw

set_option Elab.async false
set_option linter.all false
set_option maxRecDepth 100000
set_option maxHeartbeats 1000000
set_option exponentiation.threshold 3000
namespace Lw
open PySem L2 PV
/-- a source of numbers stands at w, less than b of its mixed ones drawn -/
structure Wl (M : Store) (w : Nat) (b : Nat) : Prop where
  ex : ∃ x y z : Int, M.c w = some (.lst [.int x, .int y, .int z]) ∧ 0 ≤ y ∧ y < 2 ^ 100 ∧ 0 ≤ z ∧ z ≤ b
  lt : w < M.nx
/-- all below stays but the source -/
structure Kp (M M' : Store) (w : Nat) : Prop where
  nx : M.nx ≤ M'.nx
  kp : ∀ n, n < M.nx → n ≠ w → M'.c n = M.c n
theorem Kp.refl {M : Store} {w : Nat} : Kp M M w := ⟨Nat.le_refl _, fun _ _ _ => rfl⟩
theorem Kp.trans {M M1 M2 : Store} {w : Nat} (a : Kp M M1 w) (b : Kp M1 M2 w) : Kp M M2 w := ⟨Nat.le_trans a.nx b.nx, fun n h1 h2 => (b.kp n (Nat.lt_of_lt_of_le h1 a.nx) h2).trans (a.kp n h1 h2)⟩
theorem Kp.put {M : Store} {w : Nat} {x : Cell} : Kp M (M.put w x) w := ⟨Nat.le_refl _, fun n _ h => put_ne h⟩
theorem Wl.mono {M : Store} {w b b' : Nat} (h : Wl M w b) (hb : b ≤ b') : Wl M w b' := by
  obtain ⟨⟨x, y, z, h1, h2, h3, h4, h5⟩, h6⟩ := h
  exact ⟨⟨x, y, z, h1, h2, h3, h4, by omega⟩, h6⟩
theorem ix3_0 : ixN 3 0 = some 0 := rfl
theorem ix3_2 : ixN 3 2 = some 2 := rfl
theorem draw1 (M : Store) (w : Nat) (x y z m : Int) (h : M.c w = some (.lst [.int x, .int y, .int z])) (hm : 0 < m) (hm2 : m < 2 ^ 200) (hx : 0 < x) : c__law_draw [.cel w, .int m] M = some (.val (.int (x % m)), M.put w (.lst [.int (x / m), .int y, .int z])) := by
  unfold c__law_draw runF m__law_draw
  simp [startI, h, hx, y_mod hm, y_div hm hm2, cSetAt, ix3_0]
theorem draw2 (M : Store) (w : Nat) (x y z m : Int) (h : M.c w = some (.lst [.int x, .int y, .int z])) (hm : 0 < m) (hm2 : m < 2 ^ 200) (hx : ¬ 0 < x) (hy : 0 ≤ y) (hy2 : y < 2 ^ 100) (hz : 0 ≤ z) (hz2 : z < 2 ^ 60) :
    ∃ r, c__law_draw [.cel w, .int m] M = some (.val (.int r), M.put w (.lst [.int x, .int y, .int (z + 1)])) ∧ 0 ≤ r ∧ r < m := by
  unfold c__law_draw runF m__law_draw
  simp (disch := omega) [startI, h, hx, y_mod, y_div, y_pow, y_pow3, y_mulR, y_mulN, cSetAt, ix3_2]
  exact ⟨Int.emod_nonneg _ (by omega), Int.emod_lt_of_pos _ hm⟩
theorem draw {M : Store} {w b : Nat} (h : Wl M w b) (m : Int) (hm : 0 < m) (hm2 : m < 2 ^ 200) (hb : b < 2 ^ 50) : ∃ r M', c__law_draw [.cel w, .int m] M = some (.val (.int r), M') ∧ 0 ≤ r ∧ r < m ∧ Wl M' w (b + 1) ∧ Kp M M' w := by
  obtain ⟨⟨x, y, z, h1, h2, h3, h4, h5⟩, h6⟩ := h
  by_cases hx : 0 < x
  · exact ⟨_, _, draw1 M w x y z m h1 hm hm2 hx, Int.emod_nonneg _ (by omega), Int.emod_lt_of_pos _ hm, ⟨⟨_, _, _, put_same, h2, h3, h4, by omega⟩, h6⟩, Kp.put⟩
  · obtain ⟨r, e, r0, r1⟩ := draw2 M w x y z m h1 hm hm2 hx h2 h3 h4 (by omega)
    exact ⟨r, _, e, r0, r1, ⟨⟨_, _, _, put_same, h2, h3, by omega, by omega⟩, h6⟩, Kp.put⟩
theorem well (cell k : Int) (M : Store) : ∃ M', c__law_well [.int cell, .int k] M = some (.val (.cel M.nx), M') ∧ Wl M' M.nx 0 ∧ M'.nx = M.nx + 1 ∧ ∀ n, n ≠ M.nx → M'.c n = M.c n := by
  unfold c__law_well runF m__law_well
  simp (disch := omega) [startI, y_mod, y_pow, y_mulR]
  exact ⟨⟨⟨_, _, _, new_same, by omega, by omega, by omega, by omega⟩, by simp⟩, fun n h => new_ne h⟩
/-! ### words -/
def Nm (z : Str) : Prop := 1 ≤ (tl z).length ∧ (tl z).length ≤ 8 ∧ ∀ c ∈ tl z, 97 ≤ c ∧ c ≤ 122
instance (z : Str) : Decidable (Nm z) := by unfold Nm; infer_instance
theorem Nm.ok {z : Str} (h : Nm z) : PyData.strOk z = true := by
  unfold PyData.strOk
  rw [Array.all_eq_true_iff_forall_mem]
  intro c hc
  have := h.2.2 c (Array.mem_toList_iff.mpr hc)
  exact decide_eq_true (by omega)
theorem Nm.len {z : Str} (h : Nm z) : 1 ≤ z.length ∧ z.length ≤ 8 := by
  rw [tl_len]; exact ⟨h.1, h.2.1⟩
/-- the word that a turn of the loop tries next -/
def two (i : Nat) : Str := (⟨#[97 + i % 26]⟩ : Str) ++ ⟨#[97 + i / 26]⟩
theorem tl_two (i : Nat) : tl (two i) = [97 + i % 26, 97 + i / 26] := by
  show TL.tl _ = _
  unfold two
  rw [TL.tl_append]; rfl
theorem two_nm {i : Nat} (h : i < 676) : Nm (two i) := by
  unfold Nm
  rw [tl_two]
  refine ⟨by simp, by simp, fun c hc => ?_⟩
  simp at hc
  omega
theorem two_inj {i j : Nat} (h : two i = two j) : i = j := by
  have e := congrArg tl h
  rw [tl_two, tl_two] at e
  simp at e
  omega
/-- d turns on, a word that is not taken -/
def Fnd (zs : List Str) : Nat → Nat → Str → Prop
  | 0, _, cur => cur ∉ zs
  | d + 1, i, cur => cur ∈ zs ∧ Fnd zs d (i + 1) (two i)
theorem fnd_or (zs : List Str) : ∀ (m i : Nat) (cur : Str), (∃ d, d ≤ m ∧ Fnd zs d i cur) ∨ (cur ∈ zs ∧ ∀ j, j < m → two (i + j) ∈ zs)
  | 0, i, cur => by
    by_cases h : cur ∈ zs
    · exact .inr ⟨h, fun j hj => by omega⟩
    · exact .inl ⟨0, Nat.le_refl _, h⟩
  | m + 1, i, cur => by
    by_cases h : cur ∈ zs
    · rcases fnd_or zs m (i + 1) (two i) with ⟨d, hd, hf⟩ | ⟨h1, h2⟩
      · exact .inl ⟨d + 1, by omega, h, hf⟩
      · refine .inr ⟨h, fun j hj => ?_⟩
        cases j with
        | zero => exact h1
        | succ j =>
          have := h2 j (by omega)
          have e : i + 1 + j = i + (j + 1) := by omega
          rw [← e]; exact this
    · exact .inl ⟨0, by omega, h⟩
theorem fnd (zs : List Str) (z : Str) : ∃ d, d ≤ zs.length + 1 ∧ Fnd zs d 0 z := by
  rcases fnd_or zs (zs.length + 1) 0 z with h | ⟨_, h⟩
  · exact h
  · exfalso
    have nd : ((List.range (zs.length + 1)).map two).Nodup := by
      rw [List.nodup_iff_pairwise_ne, List.pairwise_map]
      exact List.Pairwise.imp (fun hne e => hne (two_inj e)) (List.nodup_iff_pairwise_ne.mp List.nodup_range)
    have := nd.length_le_of_subset (l₂ := zs) fun x hx => by
      obtain ⟨j, hj, rfl⟩ := List.mem_map.mp hx
      have := h j (List.mem_range.mp hj)
      rwa [Nat.zero_add] at this
    simp at this
    omega
theorem loop_word (M : Store) (x : Va) (zs : List Str) (hx : LstAt M x (zs.map Va.str)) (W : Va) (s3 s6 s7 s8 : Option Va) : ∀ (d i k : Nat) (cur : Str) (s5 : Option Va), d < k → i + k ≤ 676 → Nm cur → Fnd zs d i cur →
    ∃ z s5', loopF (fun _ => True) (tgName 5) (sSeq (sIf (ev2 opNotInD (evVar 4) (evVar 1)) (sRet (evVar 4)) sNx)
      (sSet 4 (ev2 opAdd (ev2 opIx (evVar 2) (ev2 opMod (evVar 5) (evC (.int 26)))) (ev2 opIx (evVar 2) (ev2 opDiv (evVar 5) (evC (.int 26))))))) ((List.range' i k).map fun (i : Nat) => Va.int i)
      [some W, some x, some (.str "abcdefghijklmnopqrstuvwxyz"), s3, some (.str cur), s5, s6, s7, s8] M = some (.ret (.str z), [some W, some x, some (.str "abcdefghijklmnopqrstuvwxyz"), s3, some (.str z), s5', s6, s7, s8], M) ∧ Nm z ∧ z ∉ zs
  | 0, i, k, cur, s5, hk, _, hn, hf => by
    obtain ⟨k, rfl⟩ : ∃ k', k = k' + 1 := ⟨k - 1, by omega⟩
    have hf' : cur ∉ zs := hf
    refine ⟨cur, some (.int i), ?_, hn, hf'⟩
    rw [List.range'_succ, List.map_cons]
    unfold loopF
    simp [hx.notIn, hf']
  | d + 1, i, k, cur, s5, hk, hi, hn, hf => by
    obtain ⟨k, rfl⟩ : ∃ k', k = k' + 1 := ⟨k - 1, by omega⟩
    obtain ⟨hc, hf⟩ := hf
    obtain ⟨z, s5', e, hz, hz2⟩ := loop_word M x zs hx W s3 s6 s7 s8 d (i + 1) k (two i) (some (.int i)) (by omega) (by omega) (two_nm (by omega)) hf
    refine ⟨z, s5', ?_, hz, hz2⟩
    rw [List.range'_succ, List.map_cons]
    unfold loopF
    have l1 := let_is (M := M) (r := (i : Int) % 26) (by omega) (by omega)
    have l2 := let_is (M := M) (r := (i : Int) / 26) (by omega) (by omega)
    have t1 : ((i : Int) % 26).toNat = i % 26 := by omega
    have t2 : ((i : Int) / 26).toNat = i / 26 := by omega
    rw [t1] at l1
    rw [t2] at l2
    have ha : opAdd M (.str ⟨#[97 + i % 26]⟩) (.str ⟨#[97 + i / 26]⟩) = some (.str (two i)) := y_addS (by simp [Str.length])
    simp (disch := omega) [hx.notIn, hc, y_mod, y_div, l1, l2, ha]
    exact e
theorem LstAt.kp {M M' : Store} {w : Nat} {x : Va} {l : List Va} (h : LstAt M x l) (hw : x ≠ .cel w) (k : Kp M M' w) (hn : ∀ n, x = .cel n → n < M.nx) : LstAt M' x l := by
  cases h with
  | lst => exact .lst _
  | @cel n _ h => exact .cel (by rw [k.kp n (hn n rfl) (fun e => hw (by rw [e]))]; exact h)
end Lw

set_option Elab.async false
set_option linter.all false
set_option maxRecDepth 100000
set_option maxHeartbeats 1000000
set_option exponentiation.threshold 3000
namespace Lw
open PySem L2 PV
theorem cutS_to {z : Str} (k : Nat) : tl (cutS z none (some (k : Int))) = (tl z).take k := by
  show (((tl z).drop (HT.sIx z.length 0 none)).take (HT.sIx z.length z.length (some (k : Int)) - HT.sIx z.length 0 none)) = _
  rw [HT.sIx_nat, HT.sIx_none]
  have e : z.length = (tl z).length := tl_len z
  rw [e]
  generalize tl z = l
  clear e
  by_cases h : k ≤ l.length
  · rw [Nat.min_eq_left h]; simp
  · rw [Nat.min_eq_right (by omega), List.drop_zero, List.take_of_length_le (by omega), List.take_of_length_le (by omega)]
theorem strsOf_one : ∀ {ys : List Va}, (∀ y ∈ ys, ∃ c, y = .str ⟨#[c]⟩ ∧ 97 ≤ c ∧ c ≤ 122) → ∃ zs : List Str, strsOf ys = some zs ∧ zs.length = ys.length ∧ ∀ z ∈ zs, ∃ c, tl z = [c] ∧ 97 ≤ c ∧ c ≤ 122
  | [], _ => ⟨[], rfl, rfl, fun _ h => by cases h⟩
  | y :: ys, h => by
    obtain ⟨c, rfl, hc⟩ := h y (by simp)
    obtain ⟨zs, e, l, a⟩ := strsOf_one (ys := ys) fun z hz => h z (by simp [hz])
    refine ⟨⟨#[c]⟩ :: zs, by simp [strsOf, e], by simp [l], fun z hz => ?_⟩
    rcases List.mem_cons.mp hz with e | hz
    · subst e; exact ⟨c, rfl, hc⟩
    · exact a z hz
theorem join_one : ∀ {zs : List Str}, (∀ z ∈ zs, ∃ c, tl z = [c] ∧ 97 ≤ c ∧ c ≤ 122) → (TL.joinL [] (zs.map TL.tl)).length = zs.length ∧ (∀ c ∈ TL.joinL [] (zs.map TL.tl), 97 ≤ c ∧ c ≤ 122) ∧ (zs.map (·.length)).sum = zs.length
  | [], _ => ⟨rfl, fun _ h => (nomatch h), rfl⟩
  | [z], h => by
    obtain ⟨c, e, hc⟩ := h z (by simp)
    have e' : TL.tl z = [c] := e
    refine ⟨by simp [TL.joinL, e'], fun d hd => ?_, by rw [List.map_cons, List.map_nil, List.sum_cons, tl_len, e]; rfl⟩
    simp [TL.joinL, e'] at hd
    subst hd; exact hc
  | z :: y :: r, h => by
    obtain ⟨c, e, hc⟩ := h z (by simp)
    have e' : TL.tl z = [c] := e
    obtain ⟨h1, h2, h3⟩ := join_one (zs := y :: r) fun x hx => h x (by simp [hx])
    have q : TL.joinL [] ((z :: y :: r).map TL.tl) = c :: TL.joinL [] ((y :: r).map TL.tl) := by
      simp [TL.joinL, e']
    refine ⟨by rw [q, List.length_cons, h1]; rfl, fun d hd => ?_, ?_⟩
    · rw [q] at hd
      rcases List.mem_cons.mp hd with e2 | hd
      · subst e2; exact hc
      · exact h2 d hd
    · rw [List.map_cons, List.sum_cons, h3, tl_len, e]
      simp only [List.length_cons, List.length_nil]; omega
/-- a taken word with one letter otherwise, more or less -/
theorem near_ok {z c : Str} {at_ r : Nat} (hz : Nm z) (ha : at_ ≤ z.length) (hr : r ≤ 1) (hc : ∃ k, tl c = [k] ∧ 97 ≤ k ∧ k ≤ 122) :
    Nm (cutS (cutS z none (some (at_ : Int)) ++ c ++ cutS z (some ((at_ + r : Nat) : Int)) none) none (some 8)) := by
  obtain ⟨k, ec, hk⟩ := hc
  have e : tl (cutS (cutS z none (some (at_ : Int)) ++ c ++ cutS z (some ((at_ + r : Nat) : Int)) none) none (some 8)) = ((tl z).take at_ ++ [k] ++ (tl z).drop (at_ + r)).take 8 := by
    rw [show (some 8 : Option Int) = some ((8 : Nat) : Int) from rfl, cutS_to]
    congr 1
    show TL.tl _ = _
    rw [TL.tl_append, TL.tl_append]
    show tl _ ++ tl c ++ tl _ = _
    rw [cutS_to, cut_from, ec]
  unfold Nm
  rw [e]
  rw [tl_len] at ha
  have h1 := hz.1
  have h2 := hz.2.1
  refine ⟨?_, ?_, fun d hd => ?_⟩
  · rw [List.length_take, List.length_append, List.length_append, List.length_take, List.length_drop]
    simp only [List.length_cons, List.length_nil]; omega
  · rw [List.length_take]; omega
  · have hd := List.mem_of_mem_take hd
    rcases List.mem_append.mp hd with hd | hd
    · rcases List.mem_append.mp hd with hd | hd
      · exact hz.2.2 d (List.mem_of_mem_take hd)
      · rw [List.mem_singleton.mp hd]; exact hk
    · exact hz.2.2 d (List.mem_of_mem_drop hd)
theorem word {M : Store} {w b : Nat} {x : Va} {zs : List Str} (h : Wl M w b) (hb : b < 2 ^ 40) (hx : LstAt M x (zs.map Va.str)) (hxw : x ≠ .cel w) (hxn : ∀ n, x = .cel n → n < M.nx) (hz : ∀ z ∈ zs, Nm z) (hl : zs.length ≤ 600) :
    ∃ z M', c__law_word [.cel w, x] M = some (.val (.str z), M') ∧ Nm z ∧ z ∉ zs ∧ Wl M' w (b + 12) ∧ Kp M M' w := by
  obtain ⟨r1, M1, e1, a1, a2, h1, k1⟩ := draw h 6 (by omega) (by omega) (by omega)
  obtain ⟨r2, M2, e2, b1, b2, h2, k2⟩ := draw h1 7 (by omega) (by omega) (by omega)
  have k12 := k1.trans k2
  have hx2 : LstAt M2 x (zs.map Va.str) := LstAt.kp hx hxw k12 hxn
  have hx1 : LstAt M1 x (zs.map Va.str) := LstAt.kp hx hxw k1 hxn
  obtain ⟨w0, q0, q1, _⟩ := at_nat (l := [Va.str "columns", .str "kind", .str "check", .str "new", .str "step", .str "held", .str "taken"]) b1 (by simpa using b2)
  have hw0 : ∃ z0, w0 = .str z0 ∧ Nm z0 := by
    simp at q1
    rcases q1 with q | q | q | q | q | q | q <;> exact ⟨_, q, by decide⟩
  obtain ⟨z0, rfl, hz0⟩ := hw0
  have hnil : ∀ M, LstAt M x (zs.map Va.str) → opNe M x (.lst []) = some (.bl (!decide (zs = []))) := fun M hM => hM.ne_nil fun z hz' => (hz z hz').ok
  have loop : ∀ (M' : Store) (cur : Str) (s3 s5 s6 s7 s8 : Option Va), LstAt M' x (zs.map Va.str) → Nm cur → ∃ z s5', loopF (fun _ => True) (tgName 5) (sSeq (sIf (ev2 opNotInD (evVar 4) (evVar 1)) (sRet (evVar 4)) sNx)
      (sSet 4 (ev2 opAdd (ev2 opIx (evVar 2) (ev2 opMod (evVar 5) (evC (.int 26)))) (ev2 opIx (evVar 2) (ev2 opDiv (evVar 5) (evC (.int 26))))))) ((List.range 676).map fun (i : Nat) => Va.int i)
      [some (.cel w), some x, some (.str "abcdefghijklmnopqrstuvwxyz"), s3, some (.str cur), s5, s6, s7, s8] M' = some (.ret (.str z), [some (.cel w), some x, some (.str "abcdefghijklmnopqrstuvwxyz"), s3, some (.str z), s5', s6, s7, s8], M') ∧ Nm z ∧ z ∉ zs := by
    intro M' cur s3 s5 s6 s7 s8 hM hn
    obtain ⟨d, hd, hf⟩ := fnd zs cur
    have := loop_word M' x zs hM (.cel w) s3 s6 s7 s8 d 0 676 cur s5 (by omega) (by omega) hn hf
    rwa [← List.range_eq_range'] at this
  unfold c__law_word runF m__law_word
  by_cases hn : r1 = 5 ∧ zs ≠ []
  · obtain ⟨hr5, hne⟩ := hn
    have hlen : 0 < zs.length := List.length_pos_iff.mpr hne
    obtain ⟨r3, M3, e3, c1, c2, h3, k3⟩ := draw h2 zs.length (by omega) (by omega) (by omega)
    have hx3 := LstAt.kp hx hxw (k12.trans k3) hxn
    obtain ⟨nv, n0, n1, _⟩ := at_nat (l := zs.map Va.str) c1 (by rw [List.length_map]; exact c2)
    obtain ⟨near, hnear, rfl⟩ := List.mem_map.mp n1
    have nn := hz near hnear
    have nl := nn.len
    obtain ⟨r4, M4, e4, d1, d2, h4, k4⟩ := draw h3 (near.length + 1) (by omega) (by omega) (by omega)
    obtain ⟨r5, M5, e5, f1, f2, h5, k5⟩ := draw h4 26 (by omega) (by omega) (by omega)
    obtain ⟨r6, M6, e6, g1, g2, h6, k6⟩ := draw h5 2 (by omega) (by omega) (by omega)
    have hx6 := LstAt.kp hx hxw ((((k12.trans k3).trans k4).trans k5).trans k6) hxn
    obtain ⟨at_, rfl⟩ : ∃ n : Nat, r4 = n := ⟨r4.toNat, by omega⟩
    obtain ⟨rr, rfl⟩ : ∃ n : Nat, r6 = n := ⟨r6.toNat, by omega⟩
    have hcur := near_ok (z := near) (c := ⟨#[97 + r5.toNat]⟩) (at_ := at_) (r := rr) nn (by omega) (by omega) ⟨97 + r5.toNat, rfl, by omega, by omega⟩
    rw [Int.natCast_add] at hcur
    obtain ⟨z, s5', el, hzn, hzz⟩ := loop M6 _ (some (.int r1)) none (some (.str near)) (some (.int at_)) none hx6 hcur
    refine ⟨z, M6, ?_, hzn, hzz, h6.mono (by omega), ((((k12.trans k3).trans k4).trans k5).trans k6)⟩
    have s1 : opSl M4 (.str near) none (some (at_ : Int)) = some (.str (cutS near none (some (at_ : Int)))) := if_pos (le_line (by omega))
    have s2 : opSl M6 (.str near) (some ((at_ : Int) + (rr : Int))) none = some (.str (cutS near (some ((at_ : Int) + (rr : Int))) none)) := if_pos (le_line (by omega))
    have l1 := let_is (M := M5) f1 f2
    have c1' := cutS_length near none (some (at_ : Int))
    have c2' := cutS_length near (some ((at_ : Int) + (rr : Int))) none
    have lc : (⟨#[97 + r5.toNat]⟩ : Str).length = 1 := rfl
    have p1 : opAdd M5 (.str (cutS near none (some (at_ : Int)))) (.str ⟨#[97 + r5.toNat]⟩) = some (.str (cutS near none (some (at_ : Int)) ++ ⟨#[97 + r5.toNat]⟩)) := y_addS (by omega)
    have p2 : opAdd M6 (.str (cutS near none (some (at_ : Int)) ++ ⟨#[97 + r5.toNat]⟩)) (.str (cutS near (some ((at_ : Int) + (rr : Int))) none)) = some (.str (cutS near none (some (at_ : Int)) ++ ⟨#[97 + r5.toNat]⟩ ++ cutS near (some ((at_ : Int) + (rr : Int))) none)) := y_addS (by rw [len_app]; omega)
    have p3 : opSl M6 (.str (cutS near none (some (at_ : Int)) ++ ⟨#[97 + r5.toNat]⟩ ++ cutS near (some ((at_ : Int) + (rr : Int))) none)) none (some 8) = some (.str (cutS (cutS near none (some (at_ : Int)) ++ ⟨#[97 + r5.toNat]⟩ ++ cutS near (some ((at_ : Int) + (rr : Int))) none) none (some 8))) := if_pos (le_line (by rw [len_app, len_app]; omega))
    subst hr5
    simp (disch := omega) [startI, e1, e2, q0, hnil M2 hx2, hne, hx2.len, e3, hx3.ix, n0, y_lenS, e4, boundOf, s1, e5, l1, p1, e6, s2, p2, p3, z_rng, el]
  · by_cases hr : r1 < 4
    · obtain ⟨r3, M3, e3, c1, c2, h3, k3⟩ := draw h2 8 (by omega) (by omega) (by omega)
      obtain ⟨ys, M4, e4, al, h4, k4⟩ := compL_inv (chk := fun _ => True) (tg := tgName 8) (tt := evYes) (te := ev2 opIx (evVar 2) (evL (kFn 2 c__law_draw) (evCons (evVar 0) (evCons (evC (.int 26)) evNil))))
        (sw := [some (.cel w), some x, some (.str "abcdefghijklmnopqrstuvwxyz"), some (.int r1), some (.str z0), none, none, none, none])
        (fun i M => Wl M w (b + 3 + i) ∧ Kp M3 M w) (fun _ y => ∃ c, y = .str ⟨#[c]⟩ ∧ 97 ≤ c ∧ c ≤ 122) (1 + r3).toNat ((List.range (1 + r3).toNat).map fun (i : Nat) => Va.int i) 0 M3 (by simp) ⟨h3, Kp.refl⟩ (fun _ _ _ => trivial) (fun i y N hi hy ⟨hN, kN⟩ => by
          obtain ⟨r, N', e, d1, d2, h', k'⟩ := draw hN 26 (by omega) (by omega) (by omega)
          have ec := let_is (M := N') d1 d2
          refine ⟨_, rfl, rfl, .str ⟨#[97 + r.toNat]⟩, N', ?_, ⟨_, rfl, by omega, by omega⟩, h'.mono (by omega), kN.trans k'⟩
          simp [e, ec])
      obtain ⟨ts, f1, f2, f3⟩ := strsOf_one (ys := ys) (fun y hy => al.all (Q := fun y => ∃ c, y = .str ⟨#[c]⟩ ∧ 97 ≤ c ∧ c ≤ 122) (fun _ _ h => h) y hy)
      obtain ⟨g1, g2, g3⟩ := join_one f3
      have hlen : ys.length = (1 + r3).toNat := by have := al.len; simp at this; omega
      have e : tl (Txt.join "" ts) = TL.joinL [] (ts.map TL.tl) := by
        show TL.tl _ = _
        rw [TL.join_eq, TL.tl_join]; rfl
      have hcur : Nm (Txt.join "" ts) := by
        unfold Nm
        rw [e, g1]
        exact ⟨by omega, by omega, g2⟩
      have kk := (k12.trans k3).trans k4
      have hx4 := LstAt.kp hx hxw kk hxn
      obtain ⟨z, s5', el, hzn, hzz⟩ := loop M4 _ (some (.int r1)) none none none none hx4 hcur
      refine ⟨z, M4, ?_, hzn, hzz, h4.mono (by omega), kk⟩
      have h5 : ¬ r1 = 5 := by omega
      have hj : gJoin M4 (.str "") [.lst ys] = some (.str (Txt.join "" ts)) := by
        unfold gJoin
        simp only [y_seqL, f1]
        have : (Str.ofString "").length = 0 := rfl
        rw [if_pos (by rw [this]; omega)]
      simp (disch := omega) [startI, e1, e2, q0, hnil M2 hx2, hr, h5, e3, z_rng, e4, hj, el]
    · obtain ⟨z, s5', el, hzn, hzz⟩ := loop M2 z0 (some (.int r1)) none none none none hx2 hz0
      refine ⟨z, M2, ?_, hzn, hzz, h2.mono (by omega), k12⟩
      by_cases h5 : r1 = 5
      · have hz' : zs = [] := by
          refine Decidable.byContradiction fun hne => hn ⟨h5, hne⟩
        subst h5
        simp (disch := omega) [startI, e1, e2, q0, hnil M2 hx2, hz', z_rng, el]
      · simp (disch := omega) [startI, e1, e2, q0, hnil M2 hx2, hr, h5, z_rng, el]
end Lw

set_option Elab.async false
set_option linter.all false
set_option maxRecDepth 100000
set_option maxHeartbeats 1000000
set_option exponentiation.threshold 3000
namespace Lw
open PySem L2 PV
theorem number {M : Store} {w b : Nat} (far : Int) (hf : 0 ≤ far ∧ far < 2 ^ 60) (h : Wl M w b) (hb : b < 2 ^ 40) : ∃ n M', c__law_number [.cel w, .int far] M = some (.val (.int n), M') ∧ (-far - 3 ≤ n ∧ n ≤ far + 3) ∧ Wl M' w (b + 2) ∧ Kp M M' w := by
  obtain ⟨r1, M1, e1, a1, a2, h1, k1⟩ := draw h 4 (by omega) (by omega) (by omega)
  unfold c__law_number runF m__law_number
  by_cases h0 : r1 = 0
  · refine ⟨0, M1, ?_, by omega, h1.mono (by omega), k1⟩
    subst h0
    simp [startI, e1]
  · by_cases h3 : r1 = 3
    · obtain ⟨r2, M2, e2, b1, b2, h2, k2⟩ := draw h1 (2 * far + 1) (by omega) (by omega) (by omega)
      refine ⟨r2 - far, M2, ?_, by omega, h2.mono (by omega), k1.trans k2⟩
      subst h3
      simp (disch := omega) [startI, e1, y_mulL, e2]
    · obtain ⟨r2, M2, e2, b1, b2, h2, k2⟩ := draw h1 7 (by omega) (by omega) (by omega)
      refine ⟨r2 - 3, M2, ?_, by omega, h2.mono (by omega), k1.trans k2⟩
      simp [startI, e1, h0, h3, e2]
theorem ints_of_all {P : Int → Prop} : ∀ {ys : List Va}, (∀ y ∈ ys, ∃ n, y = .int n ∧ P n) → ∃ ns : List Int, ys = ns.map Va.int ∧ ∀ n ∈ ns, P n
  | [], _ => ⟨[], rfl, fun _ h => nomatch h⟩
  | y :: ys, h => by
    obtain ⟨n, rfl, hn⟩ := h y (by simp)
    obtain ⟨ns, rfl, hs⟩ := ints_of_all (ys := ys) fun z hz => h z (by simp [hz])
    exact ⟨n :: ns, rfl, fun m hm => by rcases List.mem_cons.mp hm with e | hm; (subst e; exact hn); exact hs m hm⟩
theorem counts {M : Store} {w b : Nat} (many far : Int) (hm : 0 ≤ many ∧ many ≤ 1000) (hf : 0 ≤ far ∧ far < 2 ^ 60) (h : Wl M w b) (hb : b < 2 ^ 39) : ∃ (ns : List Int) (M' : Store), c__law_counts [.cel w, .int many, .int far] M = some (.val (.lst (ns.map Va.int)), M') ∧ ns.length = many.toNat ∧ (∀ n ∈ ns, -far - 3 ≤ n ∧ n ≤ far + 3) ∧ Wl M' w (b + 2 * many.toNat) ∧ Kp M M' w := by
  obtain ⟨ys, M4, e4, al, h4, k4⟩ := compL_inv (chk := fun _ => True) (tg := tgName 3) (tt := evYes) (te := (evL (kFn 2 c__law_number) (evCons (evVar 0) (evCons (evVar 2) evNil))))
    (sw := [some (.cel w), some (.int many), some (.int far), none])
    (fun i N => Wl N w (b + 2 * i) ∧ Kp M N w) (fun _ y => ∃ n, y = .int n ∧ -far - 3 ≤ n ∧ n ≤ far + 3) many.toNat ((List.range many.toNat).map fun (i : Nat) => Va.int i) 0 M (by simp) ⟨h, Kp.refl⟩ (fun _ _ _ => trivial) (fun i y N hi hy ⟨hN, kN⟩ => by
      obtain ⟨n, N', e, hn, h', k'⟩ := number far hf hN (by omega)
      refine ⟨_, rfl, rfl, .int n, N', ?_, ⟨n, rfl, hn⟩, h'.mono (by omega), kN.trans k'⟩
      simp [e])
  obtain ⟨ns, rfl, hs⟩ := ints_of_all (P := fun n => -far - 3 ≤ n ∧ n ≤ far + 3) (ys := ys) (fun y hy => al.all (Q := fun y => ∃ n, y = .int n ∧ -far - 3 ≤ n ∧ n ≤ far + 3) (fun _ _ h => h) y hy)
  have hlen := al.len
  simp at hlen
  refine ⟨ns, M4, ?_, by omega, hs, h4, k4⟩
  unfold c__law_counts runF m__law_counts
  simp (disch := omega) [startI, z_rng, e4]
/-! ### steps -/
def stV (t : Str × Int × Int) : Va := .tup [.str t.1, .int t.2.1, .int t.2.2]
def prV (t : Str × Int × Int) : Va := .tup [.str t.1, .int t.2.1]
def prD (t : Str × Int × Int) : PyData := .tuple [.str t.1, .int t.2.1]
def hasP (l : List (Str × Int × Int)) (z : Str) (i : Int) : Bool := l.any fun t => t.1 == z && t.2.1 == i
theorem prs_reads {M : Store} : ∀ l : List (Str × Int × Int), PdRs M (l.map prV) (l.map prD)
  | [] => .nil
  | t :: l => .cons (.tup (.cons (.str _) (.cons (.int _) .nil))) (prs_reads l)
theorem prs_lay : ∀ {l : List (Str × Int × Int)}, (∀ t ∈ l, PyData.strOk t.1 = true) → PyData.canLayAll0 (l.map prD) = true ∧ PyData.depthAll (l.map prD) ≤ 1
  | [], _ => by simp [PyData.canLayAll0, PyData.depthAll]
  | t :: l, h => by
    have h1 := h t (by simp)
    obtain ⟨h2, h3⟩ := prs_lay (l := l) fun y hy => h y (by simp [hy])
    refine ⟨by simp [prD, PyData.canLayAll0, PyData.canLay0, h1, h2], ?_⟩
    simp only [List.map_cons, PyData.depthAll, prD, PyData.depth]
    omega
theorem inP_pairs {M : Store} {z : Str} {i : Int} {l : List (Str × Int × Int)} (ok : ∀ t ∈ l, PyData.strOk t.1 = true) (oz : PyData.strOk z = true) : inP M (.tup [.str z, .int i]) (.lst (l.map prV)) = some (hasP l z i) := by
  unfold inP
  rw [pdOf_eq (.tup (.cons (.str _) (.cons (.int _) .nil))), pdOf_eq (.lst rfl (prs_reads l))]
  obtain ⟨h1, h2⟩ := prs_lay ok
  have s1 : SeqAt.shaped (.tuple [.str z, .int i]) = true := by simp [SeqAt.shaped, PyData.canLay0, PyData.canLayAll0, PyData.depth, PyData.depthAll, oz]
  have s2 : SeqAt.shaped (.list (l.map prD)) = true := by
    unfold SeqAt.shaped
    simp only [PyData.canLay0, PyData.depth, h1]
    simp; omega
  simp only [Option.bind_some, pdList]
  rw [if_pos ⟨s1, s2⟩]
  congr 1
  unfold hasP
  rw [List.any_map]
  congr 1
  funext t
  simp [prD, PyData.eqv, PyData.eqvAll]
theorem notIn_pairs {M : Store} {z : Str} {i : Int} {l : List (Str × Int × Int)} (ok : ∀ t ∈ l, PyData.strOk t.1 = true) (oz : PyData.strOk z = true) : opNotInD M (.tup [.str z, .int i]) (.lst (l.map prV)) = some (.bl (!hasP l z i)) := by
  have e : opNotIn M (.tup [.str z, .int i]) (.lst (l.map prV)) = none := by
    show (if flatA (.tup [.str z, .int i]) = true ∧ (l.map prV).all flatA = true then some (Va.bl (!inA (.tup [.str z, .int i]) (l.map prV))) else none) = none
    rw [if_neg (by simp [flatA])]
  unfold opNotInD
  rw [e, inP_pairs ok oz]; rfl
theorem in_pairs {M : Store} {z : Str} {i : Int} {l : List (Str × Int × Int)} (ok : ∀ t ∈ l, PyData.strOk t.1 = true) (oz : PyData.strOk z = true) : opInD M (.tup [.str z, .int i]) (.lst (l.map prV)) = some (.bl (hasP l z i)) := by
  have e : opIn M (.tup [.str z, .int i]) (.lst (l.map prV)) = none := by
    show (if flatA (.tup [.str z, .int i]) = true ∧ (l.map prV).all flatA = true then some (Va.bl (inA (.tup [.str z, .int i]) (l.map prV))) else none) = none
    rw [if_neg (by simp [flatA])]
  unfold opInD
  rw [e, inP_pairs ok oz]; rfl
theorem sl_pair {M : Store} (t : Str × Int × Int) : opSl M (stV t) none (some 2) = some (prV t) := rfl
/-- the steps of one kind: names, places, no two alike -/
structure Sts (size : Int) (l : List (Str × Int × Int)) : Prop where
  ok : ∀ t ∈ l, Nm t.1 ∧ 0 ≤ t.2.1 ∧ t.2.1 < size ∧ 0 ≤ t.2.2 ∧ t.2.2 < size
  nd : (l.map fun t => (t.1, t.2.1)).Nodup
theorem hasP_iff {l : List (Str × Int × Int)} {z : Str} {i : Int} : hasP l z i = true ↔ (z, i) ∈ l.map fun t => (t.1, t.2.1) := by
  unfold hasP
  rw [List.any_eq_true, List.mem_map]
  constructor
  · rintro ⟨t, ht, h⟩
    rw [Bool.and_eq_true, beq_iff_eq, beq_iff_eq] at h
    exact ⟨t, ht, by rw [h.1, h.2]⟩
  · rintro ⟨t, ht, h⟩
    cases h
    exact ⟨t, ht, by simp⟩
theorem Sts.snoc {size : Int} {l : List (Str × Int × Int)} {z : Str} {i j : Int} (h : Sts size l) (hz : Nm z) (hi : 0 ≤ i ∧ i < size) (hj : 0 ≤ j ∧ j < size) (hn : hasP l z i = false) : Sts size (l ++ [(z, i, j)]) := by
  refine ⟨fun t ht => ?_, ?_⟩
  · rcases List.mem_append.mp ht with ht | ht
    · exact h.ok t ht
    · rw [List.mem_singleton.mp ht]; exact ⟨hz, hi.1, hi.2, hj.1, hj.2⟩
  · rw [List.map_append, List.nodup_append]
    refine ⟨h.nd, by simp, fun a ha b hb e => ?_⟩
    simp at hb
    subst hb
    rw [e] at ha
    have := hasP_iff.mpr ha
    rw [hn] at this
    cases this
end Lw

set_option Elab.async false
set_option linter.all false
set_option maxRecDepth 100000
set_option maxHeartbeats 2000000
set_option exponentiation.threshold 3000
namespace Lw
open PySem L2 PV
theorem at_neg {α : Type} {l : List α} {i : Int} (h0 : i < 0) (h : -(l.length : Int) ≤ i) : ∃ x, atI l i = some x ∧ x ∈ l ∧ l[(i + l.length).toNat]? = some x := by
  have e : ixN l.length i = some (i + l.length).toNat := by unfold ixN; rw [if_neg (by omega), if_pos h]
  have hl : (i + l.length).toNat < l.length := by omega
  refine ⟨l[(i + l.length).toNat], ?_, List.getElem_mem hl, by simp [hl]⟩
  unfold atI
  rw [e]
  simp [hl]
theorem y_addL {M : Store} {a b : List Va} (h : a.length + b.length ≤ 16777216) : opAdd M (.lst a) (.lst b) = some (.lst (a ++ b)) := by
  show (match ownOf M (.lst a), ownOf M (.lst b) with | some l, some m => if l.length + m.length ≤ sizeLine then some (Va.lst (l ++ m)) else none | _, _ => none) = _
  simp only [y_ownL]
  rw [if_pos (le_line h)]
/-- what stays below a mark, but the source -/
theorem Kp.lift {M0 M M' : Store} {w : Nat} (a : Kp M0 M w) (b : Kp M M' w) : Kp M0 M' w := a.trans b
theorem Kp.new {M : Store} {w : Nat} {x : Cell} : Kp M (M.new x) w := ⟨Nat.le_succ _, fun n h _ => new_ne (Nat.ne_of_lt h)⟩
theorem Kp.putAbove {M0 M : Store} {w n : Nat} {x : Cell} (a : Kp M0 M w) (h : M0.nx ≤ n) : Kp M0 (M.put n x) w := ⟨a.nx, fun m h1 h2 => by rw [put_ne (by omega)]; exact a.kp m h1 h2⟩
theorem Kp.delAbove {M0 M : Store} {w n : Nat} (a : Kp M0 M w) (h : M0.nx ≤ n) : Kp M0 (M.del n) w := ⟨a.nx, fun m h1 h2 => by rw [PV.del_ne (by omega)]; exact a.kp m h1 h2⟩
theorem Wl.put {M : Store} {w b n : Nat} {x : Cell} (h : Wl M w b) (hn : n ≠ w) : Wl (M.put n x) w b := by
  obtain ⟨⟨x', y, z, h1, h2⟩, h3⟩ := h
  exact ⟨⟨x', y, z, by rw [put_ne (Ne.symm hn)]; exact h1, h2⟩, h3⟩
theorem Wl.new {M : Store} {w b : Nat} {x : Cell} (h : Wl M w b) : Wl (M.new x) w b := by
  obtain ⟨⟨x', y, z, h1, h2⟩, h3⟩ := h
  exact ⟨⟨x', y, z, by rw [new_ne (by omega)]; exact h1, h2⟩, by simp; omega⟩
theorem Wl.del {M : Store} {w b n : Nat} (h : Wl M w b) (hn : n ≠ w) : Wl (M.del n) w b := by
  obtain ⟨⟨x', y, z, h1, h2⟩, h3⟩ := h
  exact ⟨⟨x', y, z, by rw [PV.del_ne (Ne.symm hn)]; exact h1, h2⟩, h3⟩
theorem steps_loop (M0 : Store) (w sc : Nat) (size most : Int) (hsz : 0 < size ∧ size < 2 ^ 60) (hsc : sc = M0.nx) (hw : w < M0.nx) : ∀ (ks : List Nat) (zs : List Str) (l : List (Str × Int × Int)) (s5 s6 s7 s8 : Option Va) (M : Store) (b : Nat),
    (∀ k ∈ ks, k < 2 ^ 60) → (∀ z ∈ zs, Nm z) → 0 < zs.length → zs.length + ks.length ≤ 500 → l.length + ks.length ≤ 500 → Wl M w b → b + 20 * ks.length < 2 ^ 38 → Kp M0 M w → sc < M.nx → M.c sc = some (.lst (l.map stV)) → Sts size l →
    ∃ (zs' : List Str) (l' : List (Str × Int × Int)) (s5' s6' s7' s8' : Option Va) (M' : Store), loopF (fun _ => True) (tgName 5) (sSeq (sSet 6 (evIf (ev2 opEq (evL (kFn 2 c__law_draw) (evCons (evVar 0) (evCons (evC (.int 2)) evNil))) (evC (.int 1))) (evL (kFn 2 c__law_draw) (evCons (evVar 0) (evCons (evVar 1) evNil))) (ev2 opMod (evVar 5) (evVar 1))))
    (sSeq (sSet 7 (evIf (ev2 opEq (evL (kFn 2 c__law_draw) (evCons (evVar 0) (evCons (evC (.int 2)) evNil))) (evC (.int 1))) (evL (kFn 2 c__law_draw) (evCons (evVar 0) (evCons (evVar 1) evNil))) (evL (kPure gMin) (evCons (ev2 opAdd (evVar 6) (evC (.int 1))) (evCons (ev2 opSub (evVar 1) (evC (.int 1))) evNil)))))
    (sSeq (sIf (ev2 opGt (evL (kFn 2 c__law_draw) (evCons (evVar 0) (evCons (evC (.int 3)) evNil))) (evC (.int 0))) (sSet 2 (ev2 opAdd (evVar 2) (evL kLst (evCons (evL (kFn 2 c__law_word) (evCons (evVar 0) (evCons (evVar 2) evNil))) evNil)))) sNx)
    (sSeq (sSet 8 (ev2 opIx (evVar 2) (ev2 opSub (ev2 opSub (evC (.int 0)) (evC (.int 1))) (evL (kFn 2 c__law_draw) (evCons (evVar 0) (evCons (evL (kPure gLen) (evCons (evVar 2) evNil)) evNil))))))
    (sIf (ev2 opNotInD (evL kTup (evCons (evVar 8) (evCons (evVar 6) evNil))) (evLc (itA (evVar 4)) (tgName 9) evYes (evSl (evVar 9) (evC .non) (evB (evC (.int 2)))) [9])) (sDrop (evM2 isLstA (kMut cAppend) (evVar 4) (evCons (evL kTup (evCons (evVar 8) (evCons (evVar 6) (evCons (evVar 7) evNil)))) evNil))) sNx))))) (ks.map fun (i : Nat) => Va.int i)
      [some (.cel w), some (.int size), some (.lst (zs.map Va.str)), some (.int most), some (.cel sc), s5, s6, s7, s8, none] M = some (.nx, [some (.cel w), some (.int size), some (.lst (zs'.map Va.str)), some (.int most), some (.cel sc), s5', s6', s7', s8', none], M') ∧
      l'.length ≤ l.length + ks.length ∧ Wl M' w (b + 20 * ks.length) ∧ Kp M0 M' w ∧ sc < M'.nx ∧ M'.c sc = some (.lst (l'.map stV)) ∧ Sts size l'
  | [], zs, l, s5, s6, s7, s8, M, b, _, _, _, _, _, h, _, hk, hn, hc, hs => by
    refine ⟨zs, l, s5, s6, s7, s8, M, ?_, by simp, by simpa using h, hk, hn, hc, hs⟩
    unfold loopF
    simp
  | k :: ks, zs, l, s5, s6, s7, s8, M, b, hks, hz, hz0, hzl, hll, h, hb, hk, hn, hc, hs => by
    rw [List.length_cons] at hzl hll hb
    have scw : sc ≠ w := by omega
    have keep : ∀ {N N' : Store}, Kp M0 N w → sc < N.nx → N.c sc = some (.lst (l.map stV)) → Kp N N' w → Kp M0 N' w ∧ sc < N'.nx ∧ N'.c sc = some (.lst (l.map stV)) := fun a1 a2 a3 a4 => ⟨a1.trans a4, Nat.lt_of_lt_of_le a2 a4.nx, by rw [a4.kp sc a2 scw]; exact a3⟩
    have hk0 := hks k (by simp)
    -- start
    obtain ⟨r1, M1, e1, a1, a2, h1, k1⟩ := draw h 2 (by omega) (by omega) (by omega)
    obtain ⟨K1, n1, c1⟩ := keep hk hn hc k1
    obtain ⟨st, M2, E1, b1, b2, h2, K2, n2, c2⟩ : ∃ st M2, evIf (ev2 opEq (evL (kFn 2 c__law_draw) (evCons (evVar 0) (evCons (evC (.int 2)) evNil))) (evC (.int 1))) (evL (kFn 2 c__law_draw) (evCons (evVar 0) (evCons (evVar 1) evNil))) (ev2 opMod (evVar 5) (evVar 1))
        [some (.cel w), some (.int size), some (.lst (zs.map Va.str)), some (.int most), some (.cel sc), some (.int k), s6, s7, s8, none] M = some (.val (.int st), M2) ∧ 0 ≤ st ∧ st < size ∧ Wl M2 w (b + 2) ∧ Kp M0 M2 w ∧ sc < M2.nx ∧ M2.c sc = some (.lst (l.map stV)) := by
      by_cases hr : r1 = 1
      · obtain ⟨r2, M2, e2, b1, b2, h2, k2⟩ := draw h1 size (by omega) (by omega) (by omega)
        obtain ⟨K2, n2, c2⟩ := keep K1 n1 c1 k2
        refine ⟨r2, M2, ?_, b1, b2, h2, K2, n2, c2⟩
        subst hr
        simp [e1, e2]
      · refine ⟨(k : Int) % size, M1, ?_, Int.emod_nonneg _ (by omega), Int.emod_lt_of_pos _ (by omega), h1.mono (by omega), K1, n1, c1⟩
        simp (disch := omega) [e1, hr, y_mod]
    -- end
    obtain ⟨r3, M3, e3, _, _, h3, k3⟩ := draw h2 2 (by omega) (by omega) (by omega)
    obtain ⟨K3, n3, c3⟩ := keep K2 n2 c2 k3
    obtain ⟨en, M4, E2, d1, d2, h4, K4, n4, c4⟩ : ∃ en M4, evIf (ev2 opEq (evL (kFn 2 c__law_draw) (evCons (evVar 0) (evCons (evC (.int 2)) evNil))) (evC (.int 1))) (evL (kFn 2 c__law_draw) (evCons (evVar 0) (evCons (evVar 1) evNil))) (evL (kPure gMin) (evCons (ev2 opAdd (evVar 6) (evC (.int 1))) (evCons (ev2 opSub (evVar 1) (evC (.int 1))) evNil)))
        [some (.cel w), some (.int size), some (.lst (zs.map Va.str)), some (.int most), some (.cel sc), some (.int k), some (.int st), s7, s8, none] M2 = some (.val (.int en), M4) ∧ 0 ≤ en ∧ en < size ∧ Wl M4 w (b + 4) ∧ Kp M0 M4 w ∧ sc < M4.nx ∧ M4.c sc = some (.lst (l.map stV)) := by
      by_cases hr : r3 = 1
      · obtain ⟨r4, M4, e4, d1, d2, h4, k4⟩ := draw h3 size (by omega) (by omega) (by omega)
        obtain ⟨K4, n4, c4⟩ := keep K3 n3 c3 k4
        refine ⟨r4, M4, ?_, d1, d2, h4, K4, n4, c4⟩
        subst hr
        simp [e3, e4]
      · refine ⟨if size - 1 < st + 1 then size - 1 else st + 1, M3, ?_, ?_, ?_, h3.mono (by omega), K3, n3, c3⟩
        · simp [e3, hr]
        · split <;> omega
        · split <;> omega
    -- words
    obtain ⟨r5, M5, e5, _, _, h5, k5⟩ := draw h4 3 (by omega) (by omega) (by omega)
    obtain ⟨K5, n5, c5⟩ := keep K4 n4 c4 k5
    obtain ⟨zs1, M6, E3, hz1, hz10, hz1l, h6, K6, n6, c6⟩ : ∃ (zs1 : List Str) (M6 : Store), sIf (ev2 opGt (evL (kFn 2 c__law_draw) (evCons (evVar 0) (evCons (evC (.int 3)) evNil))) (evC (.int 0))) (sSet 2 (ev2 opAdd (evVar 2) (evL kLst (evCons (evL (kFn 2 c__law_word) (evCons (evVar 0) (evCons (evVar 2) evNil))) evNil)))) sNx
        [some (.cel w), some (.int size), some (.lst (zs.map Va.str)), some (.int most), some (.cel sc), some (.int k), some (.int st), some (.int en), s8, none] M4 = some (.nx, [some (.cel w), some (.int size), some (.lst (zs1.map Va.str)), some (.int most), some (.cel sc), some (.int k), some (.int st), some (.int en), s8, none], M6) ∧
        (∀ z ∈ zs1, Nm z) ∧ 0 < zs1.length ∧ zs1.length ≤ zs.length + 1 ∧ Wl M6 w (b + 17) ∧ Kp M0 M6 w ∧ sc < M6.nx ∧ M6.c sc = some (.lst (l.map stV)) := by
      by_cases hr : 0 < r5
      · obtain ⟨z, M6, e6, nz, _, h6, k6⟩ := word h5 (by omega) (.lst _) (by intro h; cases h) (by intro n h; cases h) hz (by omega)
        obtain ⟨K6, n6, c6⟩ := keep K5 n5 c5 k6
        refine ⟨zs ++ [z], M6, ?_, fun y hy => ?_, by simp, by simp, h6, K6, n6, c6⟩
        · simp [e5, hr, e6]
          rw [y_addL (by rw [List.length_map]; simp; omega)]
        · rcases List.mem_append.mp hy with hy | hy
          · exact hz y hy
          · rw [List.mem_singleton.mp hy]; exact nz
      · refine ⟨zs, M5, ?_, hz, hz0, by omega, h5.mono (by omega), K5, n5, c5⟩
        simp [e5, hr]
    -- name
    obtain ⟨r7, M7, e7, f1, f2, h7, k7⟩ := draw h6 zs1.length (by omega) (by omega) (by omega)
    obtain ⟨K7, n7, c7⟩ := keep K6 n6 c6 k7
    obtain ⟨nv, g0, g1, _⟩ := at_neg (l := zs1.map Va.str) (i := -1 - r7) (by omega) (by rw [List.length_map]; omega)
    obtain ⟨nm, hnm, rfl⟩ := List.mem_map.mp g1
    have nn := hz1 nm hnm
    have okl : ∀ t ∈ l, PyData.strOk t.1 = true := fun t ht => (hs.ok t ht).1.ok
    have cm := compL_map (M := M7) (chk := fun M => lstOf M (.cel sc) = some (l.map stV)) (tg := tgName 9) (tt := evYes) (te := evSl (evVar 9) (evC .non) (evB (evC (.int 2))))
      (sw := [some (.cel w), some (.int size), some (.lst (zs1.map Va.str)), some (.int most), some (.cel sc), some (.int k), some (.int st), some (.int en), some (.str nm), none]) stV prV (by rw [y_lstC, c7]) l (fun t ht => ⟨_, rfl, rfl, by simp [boundOf, sl_pair]⟩)
    simp only [y_lstC] at cm
    have E4 : ∀ s8 : Option Va, (ev2 opIx (evVar 2) (ev2 opSub (ev2 opSub (evC (.int 0)) (evC (.int 1))) (evL (kFn 2 c__law_draw) (evCons (evVar 0) (evCons (evL (kPure gLen) (evCons (evVar 2) evNil)) evNil))))) [some (.cel w), some (.int size), some (.lst (zs1.map Va.str)), some (.int most), some (.cel sc), some (.int k), some (.int st), some (.int en), s8, none] M6 = some (.val (.str nm), M7) := fun s8 => by
      simp [e7, g0]
    have hni := notIn_pairs (M := M7) (z := nm) (i := st) okl nn.ok
    by_cases hp : hasP l nm st = true
    · obtain ⟨zs', l', s5', s6', s7', s8', M', e8, q1, q2, q3⟩ := steps_loop M0 w sc size most hsz hsc hw ks zs1 l (some (.int k)) (some (.int st)) (some (.int en)) (some (.str nm)) M7 (b + 18) (fun j hj => hks j (by simp [hj])) hz1 hz10 (by omega) (by omega) (h7.mono (by omega)) (by omega) K7 n7 c7 hs
      refine ⟨zs', l', s5', s6', s7', s8', M', ?_, by rw [List.length_cons]; omega, q2.mono (by rw [List.length_cons]; omega), q3⟩
      exact loop_nx trivial rfl (seq_nx (set_val E1) (seq_nx (set_val E2) (seq_nx E3 (seq_nx (set_val (E4 _)) (by simp [c7, cm, hni, hp]))))) e8
    · have hp' : hasP l nm st = false := by simpa using hp
      have hlen : (l.map stV).length < 16777216 := by rw [List.length_map]; omega
      obtain ⟨zs', l', s5', s6', s7', s8', M', e8, q1, q2, q3⟩ := steps_loop M0 w sc size most hsz hsc hw ks zs1 (l ++ [(nm, st, en)]) (some (.int k)) (some (.int st)) (some (.int en)) (some (.str nm)) (M7.put sc (.lst ((l ++ [(nm, st, en)]).map stV))) (b + 18)
        (fun j hj => hks j (by simp [hj])) hz1 hz10 (by omega) (by simp; omega) ((h7.mono (by omega)).put scw) (by omega) (K7.putAbove (by omega)) n7 put_same (hs.snoc nn ⟨b1, b2⟩ ⟨d1, d2⟩ hp')
      refine ⟨zs', l', s5', s6', s7', s8', M', ?_, by rw [List.length_cons]; simp at q1; omega, q2.mono (by rw [List.length_cons]; omega), q3⟩
      rw [List.map_append] at e8
      have hl2 : l.length < 16777216 := by omega
      exact loop_nx trivial rfl (seq_nx (set_val E1) (seq_nx (set_val E2) (seq_nx E3 (seq_nx (set_val (E4 _)) (by simp [c7, cm, hni, hp', isLstA, cAppend, hl2]; rfl))))) e8
end Lw

set_option Elab.async false
set_option linter.all false
set_option maxRecDepth 100000
set_option maxHeartbeats 2000000
set_option exponentiation.threshold 3000
namespace Lw
open PySem L2 PV
/-- all that stood stays, but these -/
structure Kx (S : List Nat) (M M' : Store) : Prop where
  nx : M.nx ≤ M'.nx
  kp : ∀ n, n < M.nx → n ∉ S → M'.c n = M.c n
theorem Kx.refl {S : List Nat} {M : Store} : Kx S M M := ⟨Nat.le_refl _, fun _ _ _ => rfl⟩
theorem Kx.trans {S : List Nat} {M M1 M2 : Store} (a : Kx S M M1) (b : Kx S M1 M2) : Kx S M M2 := ⟨Nat.le_trans a.nx b.nx, fun n h1 h2 => (b.kp n (Nat.lt_of_lt_of_le h1 a.nx) h2).trans (a.kp n h1 h2)⟩
theorem Kx.mono {S T : List Nat} {M M' : Store} (a : Kx S M M') (h : ∀ n ∈ S, n ∈ T) : Kx T M M' := ⟨a.nx, fun n h1 h2 => a.kp n h1 fun z => h2 (h n z)⟩
theorem Kp.kx {M M' : Store} {w : Nat} (a : Kp M M' w) : Kx [w] M M' := ⟨a.nx, fun n h1 h2 => a.kp n h1 fun e => h2 (by simp [e])⟩
theorem Kx.toKp {M M' : Store} {w : Nat} (a : Kx [w] M M') : Kp M M' w := ⟨a.nx, fun n h1 h2 => a.kp n h1 (by simpa using h2)⟩
theorem Kx.put {S : List Nat} {M : Store} {n : Nat} {x : Cell} (h : n ∈ S) : Kx S M (M.put n x) := ⟨Nat.le_refl _, fun m _ h2 => put_ne fun e => h2 (e ▸ h)⟩
theorem Kx.new {S : List Nat} {M : Store} {x : Cell} : Kx S M (M.new x) := ⟨Nat.le_succ _, fun n h _ => new_ne (Nat.ne_of_lt h)⟩
theorem Kx.del {S : List Nat} {M : Store} {n : Nat} (h : n ∈ S) : Kx S M (M.del n) := ⟨Nat.le_refl _, fun m _ h2 => PV.del_ne fun e => h2 (e ▸ h)⟩
/-- what is above the first store counts for nothing -/
theorem Kx.cut {S T : List Nat} {M M' : Store} (a : Kx T M M') (h : ∀ n ∈ T, n < M.nx → n ∈ S) : Kx S M M' := ⟨a.nx, fun n h1 h2 => a.kp n h1 fun z => h2 (h n z h1)⟩
theorem Kx.cut1 {S T : List Nat} {M M1 M' : Store} (a0 : Kx S M M1) (a : Kx T M1 M') (h : ∀ n ∈ T, n < M.nx → n ∈ S) : Kx S M M' :=
  ⟨Nat.le_trans a0.nx a.nx, fun n h1 h2 => (a.kp n (Nat.lt_of_lt_of_le h1 a0.nx) fun z => h2 (h n z h1)).trans (a0.kp n h1 h2)⟩
theorem Kx.get {S : List Nat} {M M' : Store} {n : Nat} {x : Cell} (a : Kx S M M') (h1 : n < M.nx) (h2 : n ∉ S) (h : M.c n = some x) : M'.c n = some x := (a.kp n h1 h2).trans h

/-- for i in ..: c.append(e) -/
theorem app_loop {cn v t B : Nat} {e : SE} {s : SL} (P : List Va → Store → Prop) (hB : B ≤ 16777216) (hv : ∀ (x : Va) N, evVar v (s.set t (some x)) N = some (.val (.cel cn), N))
    (step : ∀ (acc : List Va) (N : Store) (x : Va), P acc N → acc.length < B → ∃ y N', e (s.set t (some x)) N = some (.val y, N') ∧ N'.c cn = some (.lst acc) ∧ P (acc ++ [y]) (N'.put cn (.lst (acc ++ [y])))) (hcn : ∀ acc N, P acc N → N.c cn = some (.lst acc)) :
    ∀ (xs : List Va) (acc : List Va) (M : Store), P acc M → acc.length + xs.length ≤ B →
      ∃ (acc' : List Va) (s' : SL) (M' : Store), loopF (fun _ => True) (tgName t) (sDrop (evM2 isLstA (kMut cAppend) (evVar v) (evCons e evNil))) xs s M = some (.nx, s', M') ∧ P acc' M' ∧ acc'.length = acc.length + xs.length ∧ ((xs = [] ∧ s' = s) ∨ ∃ x, s' = s.set t (some x))
  | [], acc, M, h, _ => ⟨acc, s, M, loop_nil trivial, h, by simp, .inl ⟨rfl, rfl⟩⟩
  | x :: xs, acc, M, h, hl => by
    rw [List.length_cons] at hl
    obtain ⟨y, N', e1, c1, h1⟩ := step acc M x h (by omega)
    obtain ⟨acc', s', M', e2, h2, h3, h4⟩ := app_loop (s := s.set t (some x)) P hB (fun x' N => by rw [List.set_set]; exact hv x' N)
      (fun acc N x' hp hlt => by rw [List.set_set]; exact step acc N x' hp hlt) hcn xs (acc ++ [y]) (N'.put cn (.lst (acc ++ [y]))) h1 (by simp; omega)
    refine ⟨acc', s', M', ?_, h2, by rw [h3, List.length_append, List.length_cons, List.length_cons, List.length_nil]; omega, .inr ?_⟩
    · refine loop_nx trivial rfl ?_ e2
      have c0 := hcn acc M h
      have hlt : acc.length < 16777216 := by omega
      rw [x_drop, x_M2, hv, bindO_val]
      have hL : isLstA M (.cel cn) = true := by
        unfold isLstA; rw [y_lstC, c0]; rfl
      rw [if_pos hL, x_cons, e1, bindO_val, x_nil, bindO_val, bindO_val]
      simp [c1, cAppend, hlt]
    · rcases h4 with ⟨_, h4⟩ | ⟨x', h4⟩
      · exact ⟨x, h4⟩
      · exact ⟨x', by rw [h4, List.set_set]⟩

theorem steps {M : Store} {w b : Nat} (size most : Int) (zs : List Str) (hsz : 0 < size ∧ size < 2 ^ 60) (hm : 0 ≤ most ∧ most ≤ 100) (hz : ∀ z ∈ zs, Nm z) (hz0 : 0 < zs.length) (hz1 : zs.length ≤ 100) (h : Wl M w b) (hb : b < 2 ^ 37) :
    ∃ (l : List (Str × Int × Int)) (M' : Store), c__law_steps [.cel w, .int size, .lst (zs.map Va.str), .int most] M = some (.val (.lst (l.map stV)), M') ∧ l.length ≤ most.toNat ∧ Sts size l ∧ Wl M' w (b + 2100) ∧ Kp M M' w := by
  have hw := h.lt
  obtain ⟨r1, M1, e1, a1, a2, h1, k1⟩ := draw (h.new (x := .lst [])) (most + 1) (by omega) (by omega) (by omega)
  obtain ⟨zs', l', s5', s6', s7', s8', M', e2, q1, q2, q3, q4, q5, q6⟩ := steps_loop M w M.nx size most hsz rfl hw (List.range r1.toNat) zs [] none none none none M1 (b + 1) (fun k hk => by have := List.mem_range.mp hk; omega) hz hz0 (by simp; omega) (by simp; omega) h1 (by simp; omega)
    (Kp.new.trans k1) (Nat.lt_of_lt_of_le (Nat.lt_succ_self _) k1.nx) (by rw [k1.kp M.nx (Nat.lt_succ_self _) (by omega)]; exact new_same) ⟨(fun _ h => nomatch h), by simp⟩
  simp at q1 q2
  refine ⟨l', M'.del M.nx, ?_, by omega, q6, (q2.mono (by omega)).del (by omega), q3.delAbove (Nat.le_refl _)⟩
  unfold c__law_steps runF m__law_steps
  simp (disch := omega) [startI, e1, z_rng, e2, q5]
end Lw

set_option Elab.async false
set_option linter.all false
set_option maxRecDepth 100000
set_option maxHeartbeats 2000000
set_option exponentiation.threshold 3000
namespace Lw
open PySem L2 PV
/-! ### the data of a plan -/
abbrev Kd := Str × List (List Int) × List (Str × Int × Int)
def rowV (ns : List Int) : Va := .lst (ns.map Va.int)
def kdV (k : Kd) : Va := .tup [.str k.1, .lst (k.2.1.map rowV), .lst (k.2.2.map stV)]
structure Dat where
  cols : List Str
  kinds : List Kd
  checks : List (List Int)
def Dat.va (D : Dat) : Va := .tup [.lst (D.cols.map Va.str), .lst (D.kinds.map kdV), .lst (D.checks.map rowV)]
def RowOk (m : Nat) (B : Int) (ns : List Int) : Prop := ns.length = m ∧ ∀ n ∈ ns, -B ≤ n ∧ n ≤ B
structure KdOk (m : Nat) (B : Int) (k : Kd) : Prop where
  nm : Nm k.1
  st : ∃ rest, k.2.1 = List.replicate m 0 :: rest
  row : ∀ ns ∈ k.2.1, RowOk m B ns
  sts : Sts k.2.1.length k.2.2
  n1 : k.2.1.length ≤ 50
  n2 : k.2.2.length ≤ 50
structure Dat.Ok (D : Dat) (B : Int) : Prop where
  cn : ∀ z ∈ D.cols, Nm z
  cd : D.cols.Nodup
  cl : D.cols.length ≤ 20
  kn : (D.kinds.map (·.1)).Nodup
  kd : ∀ k ∈ D.kinds, KdOk D.cols.length B k
  kl : D.kinds.length ≤ 20
  ck : ∀ ns ∈ D.checks, RowOk D.cols.length B ns
  hl : D.checks.length ≤ 20
theorem at_last {α : Type} (l : List α) (a : α) : atI (l ++ [a]) (-1) = some a := by
  have e : ixN (l ++ [a]).length (-1) = some l.length := by
    unfold ixN
    rw [if_neg (by omega), if_pos (by simp; omega)]
    simp
    omega
  unfold atI
  rw [e]
  simp
theorem y_neg {M : Store} {i : Int} : opNeg M (.int i) = some (.int (-i)) := rfl
theorem y_mulZ {M : Store} {m : Nat} (h : m ≤ 1000) : opMul M (.lst [.int 0]) (.int m) = some (.lst ((List.replicate m (0 : Int)).map Va.int)) := by
  show (match ownOf M (.lst [.int 0]) with | some l => if -(2 ^ 63) ≤ (m : Int) ∧ (m : Int) < 2 ^ 63 ∧ l.length * (m : Int).toNat ≤ sizeLine then some (Va.lst (List.replicate (m : Int).toNat l).flatten) else none | none => none) = _
  simp only [y_ownL]
  rw [if_pos ⟨by omega, by omega, by simp; omega⟩]
  congr 2
  rw [Int.toNat_natCast, List.map_replicate]
  induction m with
  | zero => rfl
  | succ m ih =>
    rw [List.replicate_succ, List.replicate_succ, List.flatten_cons, ih (by omega)]; rfl
theorem strs_all {P : Str → Prop} : ∀ {ys : List Va}, (∀ y ∈ ys, ∃ z, y = .str z ∧ P z) → ∃ zs : List Str, ys = zs.map Va.str ∧ ∀ z ∈ zs, P z
  | [], _ => ⟨[], rfl, fun _ h => nomatch h⟩
  | y :: ys, h => by
    obtain ⟨n, rfl, hn⟩ := h y (by simp)
    obtain ⟨ns, rfl, hs⟩ := strs_all (ys := ys) fun z hz => h z (by simp [hz])
    exact ⟨n :: ns, rfl, fun m hm => by rcases List.mem_cons.mp hm with e | hm; (subst e; exact hn); exact hs m hm⟩
theorem rows_all {P : List Int → Prop} : ∀ {ys : List Va}, (∀ y ∈ ys, ∃ z, y = rowV z ∧ P z) → ∃ zs : List (List Int), ys = zs.map rowV ∧ ∀ z ∈ zs, P z
  | [], _ => ⟨[], rfl, fun _ h => nomatch h⟩
  | y :: ys, h => by
    obtain ⟨n, rfl, hn⟩ := h y (by simp)
    obtain ⟨ns, rfl, hs⟩ := rows_all (ys := ys) fun z hz => h z (by simp [hz])
    exact ⟨n :: ns, rfl, fun m hm => by rcases List.mem_cons.mp hm with e | hm; (subst e; exact hn); exact hs m hm⟩
theorem snoc_map {α : Type} (f : α → Va) (l : List α) (a : α) : l.map f ++ [f a] = (l ++ [a]).map f := by simp
/-- for k in ..: c.append(_law_word(well, c)) -/
theorem words_loop (w cn v t : Nat) (s : SL) (hvw : ∀ (x : Va) N, evVar 0 (s.set t (some x)) N = some (.val (.cel w), N)) (hv : ∀ (x : Va) N, evVar v (s.set t (some x)) N = some (.val (.cel cn), N)) (hne : cn ≠ w) (xs : List Va) (hxs : xs.length ≤ 100) (zs : List Str) (hzs : zs.length ≤ 100) (hz : ∀ z ∈ zs, Nm z) (hd : zs.Nodup) (M : Store) (b : Nat) (hb : b < 2 ^ 36)
    (h : Wl M w b) (hc : M.c cn = some (.lst (zs.map Va.str))) (hcn : cn < M.nx) :
    ∃ (zs' : List Str) (s' : SL) (M' : Store), loopF (fun _ => True) (tgName t) (sDrop (evM2 isLstA (kMut cAppend) (evVar v) (evCons (evL (kFn 2 c__law_word) (evCons (evVar 0) (evCons (evVar v) evNil))) evNil))) xs s M = some (.nx, s', M') ∧
      zs'.length = zs.length + xs.length ∧ (∀ z ∈ zs', Nm z) ∧ zs'.Nodup ∧ Wl M' w (b + 1200) ∧ Kx [w, cn] M M' ∧ M'.c cn = some (.lst (zs'.map Va.str)) ∧ ((xs = [] ∧ s' = s) ∨ ∃ x, s' = s.set t (some x)) := by
  obtain ⟨acc', s', M', e, ⟨zs', rfl, p1, p2, p3, p4, p5, p6⟩, hl, hs⟩ := app_loop (cn := cn) (v := v) (t := t) (B := 200) (s := s) (e := evL (kFn 2 c__law_word) (evCons (evVar 0) (evCons (evVar v) evNil)))
    (fun acc N => ∃ ys : List Str, acc = ys.map Va.str ∧ (∀ z ∈ ys, Nm z) ∧ ys.Nodup ∧ zs.length ≤ ys.length ∧ Wl N w (b + 12 * (ys.length - zs.length)) ∧ Kx [w, cn] M N ∧ N.c cn = some (.lst (ys.map Va.str)))
    (by decide) hv (fun acc N x ⟨ys, ea, q1, q2, q3, q4, q5, q6⟩ hlt => by
      subst ea
      rw [List.length_map] at hlt
      obtain ⟨z, N', e1, n1, n2, w1, k1⟩ := word q4 (by omega) (.cel q6) (by intro z; cases z; exact hne rfl) (by intro n z; cases z; exact Nat.lt_of_lt_of_le hcn q5.nx) q1 (by omega)
      have c1 := k1.kx.get (Nat.lt_of_lt_of_le hcn q5.nx) (by simp [hne]) q6
      refine ⟨.str z, N', ?_, c1, ys ++ [z], by simp, fun y hy => ?_, ?_, by simp; omega, ?_, ?_, by rw [snoc_map Va.str]; exact put_same⟩
      · rw [x_L, x_cons, hvw, bindO_val, x_cons, hv, bindO_val, x_nil, bindO_val, bindO_val, bindO_val]
        simp [e1]
      · rcases List.mem_append.mp hy with hy | hy
        · exact q1 y hy
        · rw [List.mem_singleton.mp hy]; exact n1
      · rw [List.nodup_append]
        exact ⟨q2, by simp, fun a ha b hb e => by rw [List.mem_singleton.mp hb] at e; exact n2 (e ▸ ha)⟩
      · refine (w1.mono ?_).put hne
        simp; omega
      · exact (q5.trans (k1.kx.mono (by simp))).trans (Kx.put (by simp))) (fun acc N ⟨ys, ea, _, _, _, _, _, q6⟩ => by subst ea; exact q6)
    xs (zs.map Va.str) M ⟨zs, rfl, hz, hd, Nat.le_refl _, h.mono (by omega), Kx.refl, hc⟩ (by rw [List.length_map]; omega)
  rw [List.length_map, List.length_map] at hl
  exact ⟨zs', s', M', e, hl, p1, p2, p4.mono (by omega), p5, p6, hs⟩
/-- for k in ..: c.append(_law_counts(well, len(columns), far)) -/
theorem rows_loop (w cn cc v t : Nat) (m : Nat) (far : Int) (cols : List Str) (hm : cols.length = m) (hm2 : m ≤ 20) (hf : 0 ≤ far ∧ far < 2 ^ 60) (s : SL) (hvw : ∀ (x : Va) N, evVar 0 (s.set t (some x)) N = some (.val (.cel w), N)) (hv : ∀ (x : Va) N, evVar v (s.set t (some x)) N = some (.val (.cel cn), N))
    (hvc : ∀ (x : Va) N, evVar 3 (s.set t (some x)) N = some (.val (.cel cc), N)) (hvf : ∀ (x : Va) N, evVar 2 (s.set t (some x)) N = some (.val (.int far), N)) (hne : cn ≠ w) (hcw : cc ≠ w) (hcc : cc ≠ cn) (xs : List Va) (hxs : xs.length ≤ 100) (rows : List (List Int)) (hrl : rows.length ≤ 100) (hr : ∀ r ∈ rows, RowOk m (far + 3) r) (M : Store) (b : Nat) (hb : b < 2 ^ 36)
    (h : Wl M w b) (hc : M.c cn = some (.lst (rows.map rowV))) (hcn : cn < M.nx) (hC : M.c cc = some (.lst (cols.map Va.str))) (hCn : cc < M.nx) :
    ∃ (rows' : List (List Int)) (s' : SL) (M' : Store), loopF (fun _ => True) (tgName t) (sDrop (evM2 isLstA (kMut cAppend) (evVar v) (evCons (evL (kFn 3 c__law_counts) (evCons (evVar 0) (evCons (evL (kPure gLen) (evCons (evVar 3) evNil)) (evCons (evVar 2) evNil)))) evNil))) xs s M = some (.nx, s', M') ∧
      rows'.length = rows.length + xs.length ∧ (∀ r ∈ rows', RowOk m (far + 3) r) ∧ (∃ more, rows' = rows ++ more) ∧ Wl M' w (b + 4000) ∧ Kx [w, cn] M M' ∧ M'.c cn = some (.lst (rows'.map rowV)) ∧ ((xs = [] ∧ s' = s) ∨ ∃ x, s' = s.set t (some x)) := by
  obtain ⟨acc', s', M', e, ⟨more, rfl, p1, p4, p5, p6⟩, hl, hs⟩ := app_loop (cn := cn) (v := v) (t := t) (B := 200) (s := s) (e := (evL (kFn 3 c__law_counts) (evCons (evVar 0) (evCons (evL (kPure gLen) (evCons (evVar 3) evNil)) (evCons (evVar 2) evNil)))))
    (fun acc N => ∃ ys : List (List Int), acc = (rows ++ ys).map rowV ∧ (∀ z ∈ rows ++ ys, RowOk m (far + 3) z) ∧ Wl N w (b + 40 * ys.length) ∧ Kx [w, cn] M N ∧ N.c cn = some (.lst ((rows ++ ys).map rowV)))
    (by decide) hv (fun acc N x ⟨ys, ea, q1, q4, q5, q6⟩ hlt => by
      subst ea
      rw [List.length_map, List.length_append] at hlt
      have hC' := q5.get hCn (by simp [hcw, hcc]) hC
      obtain ⟨ns, N', e1, n1, n2, w1, k1⟩ := counts m far (by omega) hf q4 (by omega)
      have c1 := k1.kx.get (Nat.lt_of_lt_of_le hcn q5.nx) (by simp [hne]) q6
      refine ⟨rowV ns, N', ?_, c1, ys ++ [ns], by simp, fun y hy => ?_, ?_, ?_, by rw [snoc_map rowV, List.append_assoc]; exact put_same⟩
      · have hlen : gLen N [.cel cc] = some (.int m) := by
          have := (LstAt.cel hC').len
          rw [List.length_map, hm] at this
          exact this
        rw [x_L, x_cons, hvw, bindO_val, x_cons, x_L, x_cons, hvc, bindO_val, x_nil, bindO_val, bindO_val]
        simp only [x_kPure, hlen]
        rw [bindO_val, x_cons, hvf, bindO_val, x_nil, bindO_val, bindO_val, bindO_val, bindO_val]
        simp [e1, rowV]
      · rw [← List.append_assoc] at hy
        rcases List.mem_append.mp hy with hy | hy
        · exact q1 y hy
        · rw [List.mem_singleton.mp hy]
          exact ⟨by omega, fun n hn => by have := n2 n hn; omega⟩
      · refine (w1.mono ?_).put hne
        simp; omega
      · exact (q5.trans (k1.kx.mono (by simp))).trans (Kx.put (by simp))) (fun acc N ⟨ys, ea, _, _, _, q6⟩ => by subst ea; exact q6)
    xs (rows.map rowV) M ⟨[], by simp, by simpa using hr, h.mono (by omega), Kx.refl, by simpa using hc⟩ (by rw [List.length_map]; omega)
  rw [List.length_map, List.length_map, List.length_append] at hl
  exact ⟨rows ++ more, s', M', e, by rw [List.length_append]; omega, p1, ⟨more, rfl⟩, p4.mono (by omega), p5, p6, hs⟩
end Lw

set_option Elab.async false
set_option linter.all false
set_option maxRecDepth 1000000
set_option maxHeartbeats 2000000
set_option exponentiation.threshold 3000
namespace Lw
open PySem L2 PV
theorem list1_new {e : SE} {s : SL} {M M1 : Store} {v : Va} (h : e s M = some (.val v, M1)) : evL kNew (evCons e evNil) s M = some (.val (.cel M1.nx), M1.new (.lst [v])) := by
  rw [x_L, x_cons, h, bindO_val, x_nil, bindO_val, bindO_val]
  show kNew [v] M1 = _
  unfold kNew
  rw [if_pos (by show 1 ≤ sizeLine; decide)]
theorem mulZ_len {e : SE} {s : SL} {M : Store} {m : Nat} (hm : m ≤ 1000) (h : e s M = some (.val (.int m), M)) : ev2 opMul (evL kLst (evCons (evC (.int 0)) evNil)) e s M = some (.val (rowV (List.replicate m 0)), M) := by
  rw [x_2, x_L, x_cons, x_c, bindO_val, x_nil, bindO_val, bindO_val]
  have e1 : kLst [.int 0] M = some (.val (.lst [.int 0]), M) := by
    unfold kLst
    rw [if_pos (by show 1 ≤ sizeLine; decide)]
  show bindO (kLst [.int 0] M) _ = _
  rw [e1, bindO_val, h, bindO_val, y_mulZ hm]
  rfl
noncomputable abbrev kBody : SS := (sSeq (sDrop (evM2 isLstA (kMut cAppend) (evVar 6) (evCons (evL (kFn 2 c__law_word) (evCons (evVar 0) (evCons (evVar 6) evNil))) evNil)))
    (sSeq (sSet 9 (evL kNew (evCons (ev2 opMul (evL kLst (evCons (evC (.int 0)) evNil)) (evL (kPure gLen) (evCons (evVar 3) evNil))) evNil)))
    (sSeq (sFor (itR1 (evCons (evL (kFn 2 c__law_draw) (evCons (evVar 0) (evCons (evIf (ev2 opEq (evVar 7) (evC (.int 1))) (evC (.int 30)) (ev2 opIx (evVar 1) (evC (.int 2)))) evNil))) evNil)) (tgName 10) (sDrop (evM2 isLstA (kMut cAppend) (evVar 9) (evCons (evL (kFn 3 c__law_counts) (evCons (evVar 0) (evCons (evL (kPure gLen) (evCons (evVar 3) evNil)) (evCons (evVar 2) evNil)))) evNil))))
    (sSeq (sSet 11 (evL (kFn 4 c__law_steps) (evCons (evVar 0) (evCons (evL (kPure gLen) (evCons (evVar 9) evNil)) (evCons (evL (kPure gList) (evCons (evVar 6) evNil)) (evCons (evIf (ev2 opEq (evVar 7) (evC (.int 1))) (evC (.int 30)) (ev2 opIx (evVar 1) (evC (.int 3)))) evNil))))))
    (sDrop (evM2 isLstA (kMut cAppend) (evVar 5) (evCons (evL kTup (evCons (ev2 opIx (evVar 6) (ev1 opNeg (evC (.int 1)))) (evCons (evFrz (evVar 9)) (evCons (evVar 11) evNil)))) evNil)))))))
theorem kinds_turn (w cn kn nn : Nat) (m0 m1 m2 m3 m4 far size : Int) (cols : List Str) (hcl : cols.length ≤ 20) (h2 : 1 ≤ m2 ∧ m2 ≤ 40) (h3 : 0 ≤ m3 ∧ m3 ≤ 40) (hf : 0 ≤ far ∧ far < 2 ^ 60) (n1 : cn ≠ w) (n2 : kn ≠ w) (n3 : nn ≠ w) (n4 : cn ≠ kn) (n5 : cn ≠ nn) (n6 : kn ≠ nn) (x : Va) (s9 s10 s11 : Option Va) (ks : List Kd) (M : Store) (b : Nat) : ks.length + 1 ≤ 20 → b + 10000 < 2 ^ 35 → (∀ k ∈ ks, KdOk cols.length (far + 3) k) → (ks.map (·.1)).Nodup → Wl M w b → cn < M.nx → kn < M.nx → nn < M.nx →
      M.c cn = some (.lst (cols.map Va.str)) → M.c kn = some (.lst (ks.map kdV)) → M.c nn = some (.lst ((ks.map (·.1)).map Va.str)) →
      ∃ (s9' s10' s11' : Option Va) (k : Kd) (M' : Store), kBody [some (.cel w), some (.tup [.int m0, .int m1, .int m2, .int m3, .int m4]), some (.int far), some (.cel cn), some x, some (.cel kn), some (.cel nn), some (.int size), none, s9, s10, s11] M = some (.nx, [some (.cel w), some (.tup [.int m0, .int m1, .int m2, .int m3, .int m4]), some (.int far), some (.cel cn), some x, some (.cel kn), some (.cel nn), some (.int size), none, s9', s10', s11'], M') ∧
        KdOk cols.length (far + 3) k ∧ k.1 ∉ ks.map (·.1) ∧ Wl M' w (b + 10000) ∧ Kx [w, kn, nn] M M' ∧ M'.c kn = some (.lst ((ks ++ [k]).map kdV)) ∧ M'.c nn = some (.lst (((ks ++ [k]).map (·.1)).map Va.str)) ∧ M'.c cn = some (.lst (cols.map Va.str)) := by
  intro hl hb hk hd h l1 l2 l3 c1 c2 c3
  have nmOk : ∀ z ∈ ks.map (·.1), Nm z := fun z hz => by
    obtain ⟨k, hk', rfl⟩ := List.mem_map.mp hz
    exact (hk k hk').nm
  -- the name
  obtain ⟨z, M1, e1, nz, nd, w1, k1⟩ := word h (by omega) (.cel c3) (by intro q; cases q; exact n3 rfl) (by intro n q; cases q; exact l3) nmOk (by rw [List.length_map]; omega)
  have c31 := k1.kx.get l3 (by simp [n3]) c3
  let M2 := M1.put nn (.lst (((ks.map (·.1)).map Va.str) ++ [.str z]))
  have K2 : Kx [w, kn, nn] M M2 := (k1.kx.mono (by simp)).trans (Kx.put (by simp))
  have w2 : Wl M2 w (b + 12) := w1.put n3
  have l12 : cn < M2.nx := Nat.lt_of_lt_of_le l1 K2.nx
  have l22 : kn < M2.nx := Nat.lt_of_lt_of_le l2 K2.nx
  have l32 : nn < M2.nx := Nat.lt_of_lt_of_le l3 K2.nx
  have c12 : M2.c cn = some (.lst (cols.map Va.str)) := K2.get l1 (by simp [n1, n4, n5]) c1
  have c22 : M2.c kn = some (.lst (ks.map kdV)) := (put_ne n6).trans (k1.kx.get l2 (by simp [n2]) c2)
  have c32 : M2.c nn = some (.lst (((ks.map (·.1)) ++ [z]).map Va.str)) := by rw [← snoc_map Va.str]; exact put_same
  have E1 : ∀ (s9 s10 s11 : Option Va), sDrop (evM2 isLstA (kMut cAppend) (evVar 6) (evCons (evL (kFn 2 c__law_word) (evCons (evVar 0) (evCons (evVar 6) evNil))) evNil)) [some (.cel w), some (.tup [.int m0, .int m1, .int m2, .int m3, .int m4]), some (.int far), some (.cel cn), some x, some (.cel kn), some (.cel nn), some (.int size), none, s9, s10, s11] M =
      some (.nx, [some (.cel w), some (.tup [.int m0, .int m1, .int m2, .int m3, .int m4]), some (.int far), some (.cel cn), some x, some (.cel kn), some (.cel nn), some (.int size), none, s9, s10, s11], M2) := fun s9 s10 s11 => by
    have hlt : ks.length < 16777216 := by omega
    simp [isLstA, c3, e1, c31, cAppend, hlt, M2]
  -- states
  let sn := M2.nx
  let M3 := M2.new (.lst [rowV (List.replicate cols.length 0)])
  have K3 : Kx [w, kn, nn] M M3 := K2.trans Kx.new
  have hcolslen : gLen M2 [.cel cn] = some (.int cols.length) := by
    have := (LstAt.cel c12).len
    rwa [List.length_map] at this
  have E2 : ∀ (s9 s10 s11 : Option Va), (evL kNew (evCons (ev2 opMul (evL kLst (evCons (evC (.int 0)) evNil)) (evL (kPure gLen) (evCons (evVar 3) evNil))) evNil)) [some (.cel w), some (.tup [.int m0, .int m1, .int m2, .int m3, .int m4]), some (.int far), some (.cel cn), some x, some (.cel kn), some (.cel nn), some (.int size), none, s9, s10, s11] M2 = some (.val (.cel sn), M3) := fun s9 s10 s11 => by
    refine list1_new ?_
    refine mulZ_len (by omega) ?_
    rw [x_L, x_cons, show evVar 3 [some (.cel w), some (.tup [.int m0, .int m1, .int m2, .int m3, .int m4]), some (.int far), some (.cel cn), some x, some (.cel kn), some (.cel nn), some (.int size), none, s9, s10, s11] M2 = some (.val (.cel cn), M2) from rfl, bindO_val, x_nil, bindO_val, bindO_val]
    simp only [x_kPure, hcolslen]
  have c23 : M3.c kn = some (.lst (ks.map kdV)) := (new_ne (by omega)).trans c22
  have c13 : M3.c cn = some (.lst (cols.map Va.str)) := (new_ne (by omega)).trans c12
  have c33 : M3.c nn = some (.lst (((ks.map (·.1)) ++ [z]).map Va.str)) := (new_ne (by omega)).trans c32
  have w3 : Wl M3 w (b + 12) := w2.new
  have snw : sn ≠ w := by have := w2.lt; omega
  -- the other states
  obtain ⟨K1, hK1, hK2, hK3⟩ : ∃ K1 : Int, evIf (ev2 opEq (evVar 7) (evC (.int 1))) (evC (.int 30)) (ev2 opIx (evVar 1) (evC (.int 2))) [some (.cel w), some (.tup [.int m0, .int m1, .int m2, .int m3, .int m4]), some (.int far), some (.cel cn), some x, some (.cel kn), some (.cel nn), some (.int size), none, some (.cel sn), s10, s11] M3 = some (.val (.int K1), M3) ∧ 1 ≤ K1 ∧ K1 ≤ 40 := by
    by_cases hs : size = 1
    · exact ⟨30, by simp [hs], by omega, by omega⟩
    · exact ⟨m2, by simp [hs], h2.1, h2.2⟩
  obtain ⟨r4, M4, e4, a41, a42, w4, k4⟩ := draw w3 K1 (by omega) (by omega) (by omega)
  have sn3 : sn < M3.nx := Nat.lt_succ_self _
  have l14 : cn < M4.nx := Nat.lt_of_lt_of_le (Nat.lt_of_lt_of_le l12 (Nat.le_succ _)) k4.nx
  obtain ⟨rows, s', M5, e5, b1, b2, ⟨more, b3⟩, w5, k5, c5, hs'⟩ := rows_loop w sn cn 9 10 cols.length far cols rfl hcl hf
    [some (.cel w), some (.tup [.int m0, .int m1, .int m2, .int m3, .int m4]), some (.int far), some (.cel cn), some x, some (.cel kn), some (.cel nn), some (.int size), none, some (.cel sn), s10, s11] (fun _ _ => rfl) (fun _ _ => rfl) (fun _ _ => rfl) (fun _ _ => rfl) snw n1 (by omega)
    ((List.range r4.toNat).map fun (i : Nat) => Va.int i) (by simp; omega) [List.replicate cols.length 0] (by simp) (fun r hr => by
      rw [List.mem_singleton.mp hr]
      refine ⟨by simp, fun n hn => ?_⟩
      rw [List.eq_of_mem_replicate hn]; omega) M4 (b + 13) (by omega) w4 (by
        have := k4.kx.get sn3 (by simp [snw]) (show M3.c sn = some (.lst [rowV (List.replicate cols.length 0)]) from new_same)
        simpa using this) (Nat.lt_of_lt_of_le sn3 k4.nx) (k4.kx.get (Nat.lt_of_lt_of_le l12 (Nat.le_succ _)) (by simp [n1]) c13) l14
  obtain ⟨s10', hs10⟩ : ∃ s10', s' = [some (.cel w), some (.tup [.int m0, .int m1, .int m2, .int m3, .int m4]), some (.int far), some (.cel cn), some x, some (.cel kn), some (.cel nn), some (.int size), none, some (.cel sn), s10', s11] := by
    rcases hs' with ⟨_, hs'⟩ | ⟨y, hs'⟩
    · exact ⟨s10, hs'⟩
    · exact ⟨some y, hs'⟩
  subst hs10
  have E3 : sFor (itR1 (evCons (evL (kFn 2 c__law_draw) (evCons (evVar 0) (evCons (evIf (ev2 opEq (evVar 7) (evC (.int 1))) (evC (.int 30)) (ev2 opIx (evVar 1) (evC (.int 2)))) evNil))) evNil)) (tgName 10) (sDrop (evM2 isLstA (kMut cAppend) (evVar 9) (evCons (evL (kFn 3 c__law_counts) (evCons (evVar 0) (evCons (evL (kPure gLen) (evCons (evVar 3) evNil)) (evCons (evVar 2) evNil)))) evNil)))
      [some (.cel w), some (.tup [.int m0, .int m1, .int m2, .int m3, .int m4]), some (.int far), some (.cel cn), some x, some (.cel kn), some (.cel nn), some (.int size), none, some (.cel sn), s10, s11] M3 = some (.nx, [some (.cel w), some (.tup [.int m0, .int m1, .int m2, .int m3, .int m4]), some (.int far), some (.cel cn), some x, some (.cel kn), some (.cel nn), some (.int size), none, some (.cel sn), s10', s11], M5) := by
    refine for_it ?_ e5
    rw [z_itR1, x_cons, x_L, x_cons]
    rw [show evVar 0 [some (.cel w), some (.tup [.int m0, .int m1, .int m2, .int m3, .int m4]), some (.int far), some (.cel cn), some x, some (.cel kn), some (.cel nn), some (.int size), none, some (.cel sn), s10, s11] M3 = some (.val (.cel w), M3) from rfl, bindO_val, x_cons, hK1]
    simp (disch := omega) [e4, z_rng]
  have sn5 : sn < M5.nx := Nat.lt_of_lt_of_le (Nat.lt_of_lt_of_le sn3 k4.nx) k5.nx
  have K5 : Kx [w, kn, nn] M M5 := (K3.trans (k4.kx.mono (by simp))).cut1 k5 (fun n hn hlt => by
    simp at hn
    rcases hn with e | e
    · simp [e]
    · have := K2.nx; omega)
  have k25 : Kx [w, sn] M2 M5 := (Kx.new.trans (k4.kx.mono (by simp))).trans k5
  have c35 : M5.c nn = some (.lst (((ks.map (·.1)) ++ [z]).map Va.str)) := k25.get l32 (by simp [n3]; omega) c32
  have c25 : M5.c kn = some (.lst (ks.map kdV)) := k25.get l22 (by simp [n2]; omega) c22
  have c15 : M5.c cn = some (.lst (cols.map Va.str)) := k25.get l12 (by simp [n1]; omega) c12
  -- steps
  obtain ⟨K6, hK6, hK7, hK8⟩ : ∃ K6 : Int, evIf (ev2 opEq (evVar 7) (evC (.int 1))) (evC (.int 30)) (ev2 opIx (evVar 1) (evC (.int 3))) [some (.cel w), some (.tup [.int m0, .int m1, .int m2, .int m3, .int m4]), some (.int far), some (.cel cn), some x, some (.cel kn), some (.cel nn), some (.int size), none, some (.cel sn), s10', s11] M5 = some (.val (.int K6), M5) ∧ 0 ≤ K6 ∧ K6 ≤ 40 := by
    have at3 : atI [Va.int m0, Va.int m1, Va.int m2, Va.int m3, Va.int m4] 3 = some (Va.int m3) := rfl
    by_cases hs : size = 1
    · exact ⟨30, by simp [hs], by omega, by omega⟩
    · exact ⟨m3, by simp [hs, at3], h3.1, h3.2⟩
  have hrl : rows.length ≤ 41 := by rw [b1]; simp; omega
  have hr0 : 0 < rows.length := by rw [b1]; simp; omega
  obtain ⟨sts, M6, e6, d1, d2, w6, k6⟩ := steps rows.length K6 ((ks.map (·.1)) ++ [z]) (by omega) (by omega) (fun y hy => by
    rcases List.mem_append.mp hy with hy | hy
    · exact nmOk y hy
    · rw [List.mem_singleton.mp hy]; exact nz) (by simp) (by simp; omega) w5 (by omega)
  have E4 : (evL (kFn 4 c__law_steps) (evCons (evVar 0) (evCons (evL (kPure gLen) (evCons (evVar 9) evNil)) (evCons (evL (kPure gList) (evCons (evVar 6) evNil)) (evCons (evIf (ev2 opEq (evVar 7) (evC (.int 1))) (evC (.int 30)) (ev2 opIx (evVar 1) (evC (.int 3)))) evNil)))))
      [some (.cel w), some (.tup [.int m0, .int m1, .int m2, .int m3, .int m4]), some (.int far), some (.cel cn), some x, some (.cel kn), some (.cel nn), some (.int size), none, some (.cel sn), s10', s11] M5 = some (.val (.lst (sts.map stV)), M6) := by
    have g1 : gLen M5 [.cel sn] = some (.int rows.length) := by
      have := (LstAt.cel c5).len
      rwa [List.length_map] at this
    have g2 : gList M5 [.cel nn] = some (.lst (((ks.map (·.1)) ++ [z]).map Va.str)) := by
      show (seqOf M5 (.cel nn)).map Va.lst = _
      rw [(LstAt.cel c35).seq]; rfl
    rw [x_L, x_cons]
    rw [show evVar 0 [some (.cel w), some (.tup [.int m0, .int m1, .int m2, .int m3, .int m4]), some (.int far), some (.cel cn), some x, some (.cel kn), some (.cel nn), some (.int size), none, some (.cel sn), s10', s11] M5 = some (.val (.cel w), M5) from rfl, bindO_val, x_cons, x_L, x_cons]
    rw [show evVar 9 [some (.cel w), some (.tup [.int m0, .int m1, .int m2, .int m3, .int m4]), some (.int far), some (.cel cn), some x, some (.cel kn), some (.cel nn), some (.int size), none, some (.cel sn), s10', s11] M5 = some (.val (.cel sn), M5) from rfl, bindO_val, x_nil, bindO_val, bindO_val]
    simp only [x_kPure, g1]
    rw [bindO_val, x_cons, x_L, x_cons]
    rw [show evVar 6 [some (.cel w), some (.tup [.int m0, .int m1, .int m2, .int m3, .int m4]), some (.int far), some (.cel cn), some x, some (.cel kn), some (.cel nn), some (.int size), none, some (.cel sn), s10', s11] M5 = some (.val (.cel nn), M5) from rfl, bindO_val, x_nil, bindO_val, bindO_val]
    simp only [x_kPure, g2]
    rw [bindO_val, x_cons, hK6, bindO_val, x_nil, bindO_val, bindO_val, bindO_val, bindO_val, bindO_val]
    simp [-List.map_map, -List.map_append, e6]
  -- the kind
  have sn6 : sn < M6.nx := Nat.lt_of_lt_of_le sn5 k6.nx
  have c56 : M6.c sn = some (.lst (rows.map rowV)) := k6.kx.get sn5 (by simp [snw]) c5
  have c26 : M6.c kn = some (.lst (ks.map kdV)) := k6.kx.get (Nat.lt_of_lt_of_le l22 k25.nx) (by simp [n2]) c25
  have c36 : M6.c nn = some (.lst (((ks.map (·.1)) ++ [z]).map Va.str)) := k6.kx.get (Nat.lt_of_lt_of_le l32 k25.nx) (by simp [n3]) c35
  have c16 : M6.c cn = some (.lst (cols.map Va.str)) := k6.kx.get (Nat.lt_of_lt_of_le l12 k25.nx) (by simp [n1]) c15
  let M7 := (M6.del sn).put kn (.lst ((ks ++ [(z, rows, sts)]).map kdV))
  have knsn : kn ≠ sn := by omega
  have E5 : sDrop (evM2 isLstA (kMut cAppend) (evVar 5) (evCons (evL kTup (evCons (ev2 opIx (evVar 6) (ev1 opNeg (evC (.int 1)))) (evCons (evFrz (evVar 9)) (evCons (evVar 11) evNil)))) evNil))
      [some (.cel w), some (.tup [.int m0, .int m1, .int m2, .int m3, .int m4]), some (.int far), some (.cel cn), some x, some (.cel kn), some (.cel nn), some (.int size), none, some (.cel sn), s10', some (.lst (sts.map stV))] M6 = some (.nx, [some (.cel w), some (.tup [.int m0, .int m1, .int m2, .int m3, .int m4]), some (.int far), some (.cel cn), some x, some (.cel kn), some (.cel nn), some (.int size), none, some (.cel sn), s10', some (.lst (sts.map stV))], M7) := by
    have hl7 : ks.length < 16777216 := by omega
    have hix : atI ((ks.map (·.1)).map Va.str ++ [Va.str z]) (-1) = some (.str z) := at_last _ _
    have hdel : (M6.del sn).c kn = some (.lst (ks.map kdV)) := (PV.del_ne knsn).trans c26
    have hmap : ((ks.map (·.1)) ++ [z]).map Va.str = (ks.map (·.1)).map Va.str ++ [Va.str z] := by simp
    rw [hmap] at c36
    have hL : isLstA M6 (.cel kn) = true := by unfold isLstA; rw [y_lstC, c26]; rfl
    rw [x_drop, x_M2, show evVar 5 [some (.cel w), some (.tup [.int m0, .int m1, .int m2, .int m3, .int m4]), some (.int far), some (.cel cn), some x, some (.cel kn), some (.cel nn), some (.int size), none, some (.cel sn), s10', some (.lst (sts.map stV))] M6 = some (.val (.cel kn), M6) from rfl, bindO_val, if_pos hL]
    simp [-List.map_map, c36, y_neg, hix, c56, hdel, cAppend, hl7, M7, kdV]
  have K7 : Kx [w, kn, nn] M M7 := (K5.trans (k6.kx.mono (by simp))).cut1 (T := [sn, kn]) ((Kx.del (by simp)).trans (Kx.put (by simp))) (fun n hn hlt => by
    simp at hn
    rcases hn with e | e
    · have := K2.nx; omega
    · simp [e])
  have w7 : Wl M7 w (b + 7000) := ((w6.mono (by omega)).del snw).put n2
  have kdok : KdOk cols.length (far + 3) (z, rows, sts) := ⟨nz, ⟨more, by rw [b3]; rfl⟩, b2, d2, by show rows.length ≤ 50; omega, by show sts.length ≤ 50; omega⟩
  refine ⟨some (.cel sn), s10', some (.lst (sts.map stV)), (z, rows, sts), M7, ?_, kdok, nd, w7.mono (by omega), K7, put_same, ?_, (put_ne n4).trans ((PV.del_ne (by omega)).trans c16)⟩
  · exact seq_nx (E1 _ _ _) (seq_nx (set_val (E2 _ _ _)) (seq_nx E3 (seq_nx (set_val E4) E5)))
  · show ((M6.del sn).put kn _).c nn = _
    rw [put_ne (Ne.symm n6), PV.del_ne (by omega), c36]
    simp
theorem kinds_loop (w cn kn nn : Nat) (m0 m1 m2 m3 m4 far size : Int) (cols : List Str) (hcl : cols.length ≤ 20) (h2 : 1 ≤ m2 ∧ m2 ≤ 40) (h3 : 0 ≤ m3 ∧ m3 ≤ 40) (hf : 0 ≤ far ∧ far < 2 ^ 60) (n1 : cn ≠ w) (n2 : kn ≠ w) (n3 : nn ≠ w) (n4 : cn ≠ kn) (n5 : cn ≠ nn) (n6 : kn ≠ nn) : ∀ (xs : List Va) (s4 s9 s10 s11 : Option Va) (ks : List Kd) (M : Store) (b : Nat), ks.length + xs.length ≤ 20 → b + 10000 * xs.length < 2 ^ 35 → (∀ k ∈ ks, KdOk cols.length (far + 3) k) → (ks.map (·.1)).Nodup → Wl M w b → cn < M.nx → kn < M.nx → nn < M.nx →
      M.c cn = some (.lst (cols.map Va.str)) → M.c kn = some (.lst (ks.map kdV)) → M.c nn = some (.lst ((ks.map (·.1)).map Va.str)) →
      ∃ (s4' s9' s10' s11' : Option Va) (ks' : List Kd) (M' : Store), loopF (fun _ => True) (tgName 4) kBody xs [some (.cel w), some (.tup [.int m0, .int m1, .int m2, .int m3, .int m4]), some (.int far), some (.cel cn), s4, some (.cel kn), some (.cel nn), some (.int size), none, s9, s10, s11] M = some (.nx, [some (.cel w), some (.tup [.int m0, .int m1, .int m2, .int m3, .int m4]), some (.int far), some (.cel cn), s4', some (.cel kn), some (.cel nn), some (.int size), none, s9', s10', s11'], M') ∧
        ks'.length = ks.length + xs.length ∧ (∀ k ∈ ks', KdOk cols.length (far + 3) k) ∧ (ks'.map (·.1)).Nodup ∧ Wl M' w (b + 10000 * xs.length) ∧ Kx [w, kn, nn] M M' ∧ M'.c kn = some (.lst (ks'.map kdV)) := by
  intro xs
  induction xs with
  | nil => exact fun s4 s9 s10 s11 ks M b hl hb hk hd h l1 l2 l3 c1 c2 c3 => ⟨s4, s9, s10, s11, ks, M, loop_nil trivial, by simp, hk, hd, by simpa using h, Kx.refl, c2⟩
  | cons x xs ih =>
    intro s4 s9 s10 s11 ks M b hl hb hk hd h l1 l2 l3 c1 c2 c3
    rw [List.length_cons] at hl hb
    obtain ⟨s9', s10', s11', k, M7, e7, kdok, nd, w7, K7, d2, d3, d1⟩ := kinds_turn w cn kn nn m0 m1 m2 m3 m4 far size cols hcl h2 h3 hf n1 n2 n3 n4 n5 n6 x s9 s10 s11 ks M b (by omega) (by omega) hk hd h l1 l2 l3 c1 c2 c3
    obtain ⟨s4'', s9'', s10'', s11'', ks', M8, e8, q1, q2, q3, q4, q5, q6⟩ := ih (some x) s9' s10' s11' (ks ++ [k]) M7 (b + 10000) (by simp; omega) (by omega) (fun k' hk' => by
        rcases List.mem_append.mp hk' with hk' | hk'
        · exact hk k' hk'
        · rw [List.mem_singleton.mp hk']; exact kdok) (by
        rw [List.map_append, List.nodup_append]
        refine ⟨hd, by simp, fun a ha b' hb' e => ?_⟩
        simp at hb'
        subst hb'
        exact nd (e ▸ ha)) w7 (Nat.lt_of_lt_of_le l1 K7.nx) (Nat.lt_of_lt_of_le l2 K7.nx) (Nat.lt_of_lt_of_le l3 K7.nx) d1 d2 d3
    exact ⟨s4'', s9'', s10'', s11'', ks', M8, loop_nx trivial rfl e7 e8, by rw [q1, List.length_append, List.length_cons, List.length_cons, List.length_nil]; omega, q2, q3, q4.mono (by rw [List.length_cons]; omega), K7.trans q5, q6⟩
end Lw

set_option Elab.async false
set_option linter.all false
set_option maxRecDepth 100000
set_option maxHeartbeats 2000000
set_option exponentiation.threshold 3000
namespace Lw
open PySem L2 PV
theorem list0_new {s : SL} {M : Store} : evL kNew evNil s M = some (.val (.cel M.nx), M.new (.lst [])) := by
  rw [x_L, x_nil, bindO_val]
  show kNew [] M = _
  unfold kNew
  rw [if_pos (by show 0 ≤ sizeLine; decide)]
theorem frz_now {i : Nat} {s : SL} {M : Store} {n : Nat} {l : List Va} (h : evVar i s M = some (.val (.cel n), M)) (h2 : M.c n = some (.lst l)) : evFrz (evVar i) s M = some (.val (.lst l), M.del n) := by
  rw [x_frz, h, frz_cel, h2]
theorem data2 {M : Store} {w b : Nat} (m0 m1 m2 m3 m4 far : Int) (g0 : 0 ≤ m0 ∧ m0 ≤ 20) (g1 : 0 ≤ m1 ∧ m1 ≤ 20) (g2 : 1 ≤ m2 ∧ m2 ≤ 40) (g3 : 0 ≤ m3 ∧ m3 ≤ 40) (g4 : 0 ≤ m4 ∧ m4 ≤ 20) (hf : 0 ≤ far ∧ far < 2 ^ 60) (h : Wl M w b) (hb : b < 2 ^ 33) :
    ∃ (D : Dat) (M' : Store), c__law_data [.cel w, .tup [.int m0, .int m1, .int m2, .int m3, .int m4], .int far] M = some (.val D.va, M') ∧ D.Ok (far + 3) ∧ Wl M' w (b + 300000) ∧ Kp M M' w ∧ ((D.kinds.length : Int) ≤ m1 ∨ D.kinds.length ≤ 3) ∧ (D.checks.length : Int) ≤ m4 := by
  have hw := h.lt
  -- columns
  let cn := M.nx
  let A1 := M.new (.lst [])
  have w1 : Wl A1 w b := h.new
  obtain ⟨r1, A2, e1, a1, a2, w2, k2⟩ := draw w1 8 (by omega) (by omega) (by omega)
  obtain ⟨v1, p1, p2, _⟩ := at_nat (l := [Va.int m0, .int 0, .int 1, .int 2, .int 2, .int 3, .int 3, .int 4]) a1 (by simpa using a2)
  obtain ⟨n1, rfl, q1, q2⟩ : ∃ n : Int, v1 = .int n ∧ 0 ≤ n ∧ n ≤ 20 := by
    simp only [List.mem_cons, List.not_mem_nil, or_false] at p2
    rcases p2 with e | e | e | e | e | e | e | e <;> exact ⟨_, e, by omega, by omega⟩
  have cnw : cn ≠ w := by have : w < M.nx := hw; show M.nx ≠ w; omega
  have cn2 : cn < A2.nx := Nat.lt_of_lt_of_le (Nat.lt_succ_self _) k2.nx
  have c2 : A2.c cn = some (.lst (([] : List Str).map Va.str)) := k2.kx.get (Nat.lt_succ_self _) (by simp [cnw]) new_same
  obtain ⟨cols, s3, A3, e3, b1, b2, b3, w3, k3, c3, hs3⟩ := words_loop w cn 3 4 [some (.cel w), some (.tup [.int m0, .int m1, .int m2, .int m3, .int m4]), some (.int far), some (.cel cn), none, none, none, none, none, none, none, none] (fun _ _ => rfl) (fun _ _ => rfl) cnw
    ((List.range n1.toNat).map fun (i : Nat) => Va.int i) (by simp; omega) [] (by simp) (fun _ q => nomatch q) List.nodup_nil A2 (b + 1) (by omega) w2 c2 cn2
  obtain ⟨s4, hs4⟩ : ∃ s4, s3 = [some (.cel w), some (.tup [.int m0, .int m1, .int m2, .int m3, .int m4]), some (.int far), some (.cel cn), s4, none, none, none, none, none, none, none] := by
    rcases hs3 with ⟨_, hs⟩ | ⟨y, hs⟩
    · exact ⟨none, hs⟩
    · exact ⟨some y, hs⟩
  subst hs4
  have hcl : cols.length ≤ 20 := by rw [b1]; simp; omega
  have cn3 : cn < A3.nx := Nat.lt_of_lt_of_le cn2 k3.nx
  -- kinds, names
  let kn := A3.nx
  let A4 := A3.new (.lst [])
  let nn := A4.nx
  let A5 := A4.new (.lst [])
  have hkn : nn = kn + 1 := rfl
  have hcnM : cn = M.nx := rfl
  have w5 : Wl A5 w (b + 1201) := (w3.mono (by omega)).new.new
  obtain ⟨r6, A6, e6, a61, a62, w6, k6⟩ := draw w5 6 (by omega) (by omega) (by omega)
  obtain ⟨v6, p61, p62, _⟩ := at_nat (l := [Va.int m1, .int 0, .int 1, .int 2, .int 2, .int 3]) a61 (by simpa using a62)
  obtain ⟨sz, rfl, q61, q62, q63⟩ : ∃ n : Int, v6 = .int n ∧ 0 ≤ n ∧ n ≤ 20 ∧ (n ≤ m1 ∨ n ≤ 3) := by
    simp only [List.mem_cons, List.not_mem_nil, or_false] at p62
    rcases p62 with e | e | e | e | e | e <;> exact ⟨_, e, by omega, by omega, by omega⟩
  have wl3 := w3.lt
  have wcn : w < cn := hw
  have k36 : Kx [w] A3 A6 := (Kx.new.trans Kx.new).trans k6.kx
  have c6 : A6.c cn = some (.lst (cols.map Va.str)) := k36.get cn3 (by simp [cnw]) c3
  have ck6 : A6.c kn = some (.lst (([] : List Kd).map kdV)) := (Kx.trans (S := [w]) Kx.new k6.kx).get (M := A4) (Nat.lt_succ_self _) (by simp; omega) new_same
  have cn6 : A6.c nn = some (.lst ((([] : List Kd).map (·.1)).map Va.str)) := k6.kx.get (Nat.lt_succ_self _) (by simp; omega) new_same
  have lA6 : nn < A6.nx := Nat.lt_of_lt_of_le (Nat.lt_succ_self _) k6.nx
  obtain ⟨s4', s9', s10', s11', ks, A7, e7, d1, d2, d3, w7, k7, c7⟩ := kinds_loop w cn kn nn m0 m1 m2 m3 m4 far sz cols hcl g2 g3 hf cnw (by omega) (by omega) (by omega) (by omega) (by omega) ((List.range sz.toNat).map fun (i : Nat) => Va.int i) s4 none none none [] A6 (b + 1202)
    (by simp; omega) (by simp; omega) (fun _ q => nomatch q) List.nodup_nil (w6.mono (by omega)) (Nat.lt_of_lt_of_le cn3 k36.nx) (by omega) lA6 c6 ck6 cn6
  simp at d1 w7
  have cn7 : A7.c cn = some (.lst (cols.map Va.str)) := k7.get (Nat.lt_of_lt_of_le cn3 k36.nx) (by simp; omega) c6
  -- checks
  let hn := A7.nx
  let A8 := A7.new (.lst [])
  have l67 : A6.nx ≤ A7.nx := k7.nx
  obtain ⟨r9, A9, e9, a91, a92, w9, k9⟩ := draw (w7.new (x := .lst [])) (m4 + 1) (by omega) (by omega) (by omega)
  have hnw : hn ≠ w := by have := w7.lt; omega
  have l9 : hn < A9.nx := Nat.lt_of_lt_of_le (Nat.lt_succ_self _) k9.nx
  have cn7l : cn < A7.nx := by omega
  have cn9 : A9.c cn = some (.lst (cols.map Va.str)) := (Kx.trans (S := [w]) Kx.new k9.kx).get cn7l (by simp [cnw]) cn7
  obtain ⟨rows, sA, A10, e10, f1, f2, _, w10, k10, c10, hsA⟩ := rows_loop w hn cn 8 4 cols.length far cols rfl hcl hf
    [some (.cel w), some (.tup [.int m0, .int m1, .int m2, .int m3, .int m4]), some (.int far), some (.cel cn), s4', some (.cel kn), some (.cel nn), some (.int sz), some (.cel hn), s9', s10', s11'] (fun _ _ => rfl) (fun _ _ => rfl) (fun _ _ => rfl) (fun _ _ => rfl) hnw cnw (by omega)
    ((List.range r9.toNat).map fun (i : Nat) => Va.int i) (by simp; omega) [] (by simp) (fun _ q => nomatch q) A9 (b + 1203 + 10000 * sz.toNat) (by omega) (w9.mono (by omega)) (by
      have := k9.kx.get (M := A8) (Nat.lt_succ_self _) (by simp; exact hnw) (show A8.c hn = some (.lst []) from new_same)
      simpa using this) l9 cn9 (by omega)
  obtain ⟨s4'', hs4⟩ : ∃ s4'', sA = [some (.cel w), some (.tup [.int m0, .int m1, .int m2, .int m3, .int m4]), some (.int far), some (.cel cn), s4'', some (.cel kn), some (.cel nn), some (.int sz), some (.cel hn), s9', s10', s11'] := by
    rcases hsA with ⟨_, hs⟩ | ⟨y, hs⟩
    · exact ⟨s4', hs⟩
    · exact ⟨some y, hs⟩
  subst hs4
  have k710 : Kx [w, hn] A7 A10 := (Kx.new.trans (k9.kx.mono (by simp))).trans k10
  have cc10 : A10.c cn = some (.lst (cols.map Va.str)) := k710.get cn7l (by simp; omega) cn7
  have ck10 : A10.c kn = some (.lst (ks.map kdV)) := k710.get (by omega) (by simp; omega) c7
  -- the whole
  let A13 := ((A10.del cn).del kn).del hn
  have kAll : Kx [w] M A10 := by
    have a : Kx [w] M A3 := (Kx.new.trans k2.kx).cut1 k3 (fun n hn hlt => by
      simp at hn
      rcases hn with e | e
      · simp [e]
      · omega)
    have b' : Kx [w] M A7 := (a.trans k36).cut1 k7 (fun n hn hlt => by
      have := a.nx
      simp at hn; rcases hn with e | e | e
      · simp [e]
      · omega
      · omega)
    exact b'.cut1 k710 (fun n hn' hlt => by
      have := b'.nx
      simp at hn'; rcases hn' with e | e
      · simp [e]
      · omega)
  have kEnd : Kx [w] M A13 := kAll.cut1 (T := [cn, kn, hn]) (((Kx.del (by simp)).trans (Kx.del (by simp))).trans (Kx.del (by simp))) (fun n hn' hlt => by
      have := k36.nx
      simp at hn'; rcases hn' with e | e | e <;> omega)
  refine ⟨⟨cols, ks, rows⟩, A13, ?_, ⟨b2, b3, hcl, d3, d2, by show ks.length ≤ 20; omega, f2, by show rows.length ≤ 20; rw [f1]; simp; omega⟩, ((((w10.mono (by omega)).del cnw).del (by omega)).del hnw), kEnd.toKp, (by show (ks.length : Int) ≤ m1 ∨ ks.length ≤ 3; omega), by show ((rows.length : Nat) : Int) ≤ m4; rw [f1]; simp; omega⟩
  unfold c__law_data runF
  refine end_ret (s1 := [some (.cel w), some (.tup [.int m0, .int m1, .int m2, .int m3, .int m4]), some (.int far), some (.cel cn), s4'', some (.cel kn), some (.cel nn), some (.int sz), some (.cel hn), s9', s10', s11']) ?_
  unfold m__law_data
  refine seq_nx (set_val list0_new) (seq_nx (for_it ?_ e3) (seq_nx (set_val list0_new) (seq_nx (set_val list0_new) (seq_nx (set_val (M1 := A6) (v := .int sz) ?_) (seq_nx (for_it ?_ e7) (seq_nx (set_val list0_new) (seq_nx (for_it ?_ e10) ?_)))))))
  · show itR1 _ [some (.cel w), some (.tup [.int m0, .int m1, .int m2, .int m3, .int m4]), some (.int far), some (.cel cn), none, none, none, none, none, none, none, none] A1 = _
    simp (disch := omega) [e1, p1, z_rng]
  · show ev2 opIx _ _ [some (.cel w), some (.tup [.int m0, .int m1, .int m2, .int m3, .int m4]), some (.int far), some (.cel cn), s4, some (.cel kn), some (.cel nn), none, none, none, none, none] A5 = some (.val (.int sz), A6)
    simp (disch := omega) [e6, p61]
  · show itR1 _ [some (.cel w), some (.tup [.int m0, .int m1, .int m2, .int m3, .int m4]), some (.int far), some (.cel cn), s4, some (.cel kn), some (.cel nn), some (.int sz), none, none, none, none] A6 = _
    simp (disch := omega) [z_rng]
  · have at4 : atI [Va.int m0, Va.int m1, Va.int m2, Va.int m3, Va.int m4] 4 = some (Va.int m4) := rfl
    show itR1 _ [some (.cel w), some (.tup [.int m0, .int m1, .int m2, .int m3, .int m4]), some (.int far), some (.cel cn), s4', some (.cel kn), some (.cel nn), some (.int sz), some (.cel hn), s9', s10', s11'] A8 = _
    simp (disch := omega) [at4, A8, e9, z_rng]
  · refine ret_val ?_
    rw [x_L, x_cons, frz_now (n := cn) rfl cc10, bindO_val, x_cons, frz_now (n := kn) rfl ((PV.del_ne (by omega)).trans ck10), bindO_val, x_cons, frz_now (n := hn) rfl ((PV.del_ne (by omega)).trans ((PV.del_ne (by omega)).trans c10)), bindO_val, x_nil, bindO_val, bindO_val, bindO_val, bindO_val]
    show kTup _ _ = _
    unfold kTup
    rw [if_pos (by show 3 ≤ sizeLine; decide)]
    rfl
theorem data {M : Store} {w b : Nat} (m0 m1 m2 m3 m4 far : Int) (g0 : 0 ≤ m0 ∧ m0 ≤ 20) (g1 : 0 ≤ m1 ∧ m1 ≤ 20) (g2 : 1 ≤ m2 ∧ m2 ≤ 40) (g3 : 0 ≤ m3 ∧ m3 ≤ 40) (g4 : 0 ≤ m4 ∧ m4 ≤ 20) (hf : 0 ≤ far ∧ far < 2 ^ 60) (h : Wl M w b) (hb : b < 2 ^ 33) :
    ∃ (D : Dat) (M' : Store), c__law_data [.cel w, .tup [.int m0, .int m1, .int m2, .int m3, .int m4], .int far] M = some (.val D.va, M') ∧ D.Ok (far + 3) ∧ Wl M' w (b + 300000) ∧ Kp M M' w := by
  obtain ⟨D, M', e, ok, w1, k1, _, _⟩ := data2 m0 m1 m2 m3 m4 far g0 g1 g2 g3 g4 hf h hb
  exact ⟨D, M', e, ok, w1, k1⟩
end Lw

set_option Elab.async false
set_option linter.all false
set_option maxRecDepth 100000
set_option maxHeartbeats 2000000
set_option exponentiation.threshold 3000
namespace Lw
open PySem L2 PV
theorem vaK_map {α : Type} (k : Key) (v : α) (k' : Key) : ∀ l : List (Key × α), vaK (l.map fun kv => if kv.1 = k then (kv.1, v) else kv) k' = if k' = k then (vaK l k').map (fun _ => v) else vaK l k'
  | [] => by unfold vaK; simp
  | p :: l => by
    have ih := vaK_map k v k' l
    unfold vaK at *
    rw [List.map_cons, List.find?_cons, List.find?_cons]
    by_cases h : p.1 = k
    · rw [if_pos h]
      by_cases h2 : p.1 = k'
      · have : k' = k := by rw [← h2]; exact h
        simp [h2, this]
      · have : ¬ k' = k := by intro e; exact h2 (by rw [h, e])
        simp only [h2, decide_false]
        rw [ih]
    · rw [if_neg h]
      by_cases h2 : p.1 = k'
      · have : ¬ k' = k := by intro e; exact h (by rw [h2, e])
        simp [h2, this]
      · simp only [h2, decide_false]
        rw [ih]
theorem vaK_any {α : Type} (l : List (Key × α)) (k : Key) : (l.any fun kv => decide (kv.1 = k)) = (vaK l k).isSome := by
  unfold vaK
  induction l with
  | nil => rfl
  | cons p l ih =>
    rw [List.any_cons, List.find?_cons]
    by_cases h : p.1 = k
    · simp [h]
    · simp only [h, decide_false, Bool.false_or]; exact ih
theorem vaK_app {α : Type} (l : List (Key × α)) (k : Key) (v : α) (k' : Key) : vaK (l ++ [(k, v)]) k' = (vaK l k').or (if k = k' then some v else none) := by
  unfold vaK
  rw [List.find?_append]
  cases h : List.find? (fun kv => decide (kv.1 = k')) l with
  | some x => rfl
  | none =>
    by_cases h2 : k = k' <;> simp [h2]
theorem vaK_put {α : Type} (l : List (Key × α)) (k : Key) (v : α) (k' : Key) : vaK (puK l k v) k' = if k = k' then some v else vaK l k' := by
  unfold puK
  split
  · rename_i h
    rw [vaK_map]
    by_cases h2 : k = k'
    · subst h2
      rw [if_pos rfl, if_pos rfl]
      rw [vaK_any] at h
      cases q : vaK l k with
      | none => rw [q] at h; cases h
      | some x => rfl
    · rw [if_neg (Ne.symm h2), if_neg h2]
  · rename_i h
    rw [vaK_app]
    rw [vaK_any] at h
    by_cases h2 : k = k'
    · subst h2
      cases q : vaK l k with
      | some x => rw [q] at h; exact absurd rfl h
      | none => simp
    · simp [h2]
theorem puK_keys {α : Type} {P : Key → Prop} {l : List (Key × α)} {k : Key} {v : α} (hl : ∀ p ∈ l, P p.1) (hk : P k) : ∀ p ∈ puK l k v, P p.1 := by
  intro p hp
  unfold puK at hp
  split at hp
  · obtain ⟨q, hq, rfl⟩ := List.mem_map.mp hp
    split
    · exact hl q hq
    · exact hl q hq
  · rcases List.mem_append.mp hp with hp | hp
    · exact hl p hp
    · rw [List.mem_singleton.mp hp]; exact hk
theorem puK_all {α : Type} {P : Key × α → Prop} {l : List (Key × α)} {k : Key} {v : α} (hl : ∀ p ∈ l, P p) (hk : P (k, v)) : ∀ p ∈ puK l k v, P p := by
  intro p hp
  unfold puK at hp
  split at hp
  · obtain ⟨q, hq, rfl⟩ := List.mem_map.mp hp
    split
    · rename_i e
      rw [e]; exact hk
    · exact hl q hq
  · rcases List.mem_append.mp hp with hp | hp
    · exact hl p hp
    · rw [List.mem_singleton.mp hp]; exact hk
/-- a dict that tells these numbers of these columns -/
structure Tells (cols : List Str) (row : List Int) (l : List (Key × Va)) : Prop where
  ks : ∀ p ∈ l, ∃ c ∈ cols, p.1 = .inr c
  vs : ∀ p ∈ l, ∃ n ∈ row, p.2 = .int n
  ln : l.length ≤ 20
  eq : cols.map (fun c => (vaK l (.inr c)).getD (.int 0)) = row.map Va.int
def ord (t : Int) (n i : Nat) : Nat := if t = 0 then i else n - 1 - i
theorem sum_loop (w dn : Nat) (cols : List Str) (row : List Int) (hr : row.length = cols.length) (hc : cols.length ≤ 20) (hd : cols.Nodup) (t bare : Int) (ht : t = 0 ∨ t = 1) : ∀ (m j : Nat) (s6 s7 : Option Va) (l : List (Key × Va)) (M : Store), j + m = cols.length → M.c dn = some (.dic l) → l.length ≤ j → (∀ p ∈ l, (∃ c ∈ cols, p.1 = .inr c) ∧ ∃ n ∈ row, p.2 = .int n) →
    (∀ i c, cols[i]? = some c → vaK l (.inr c) = if ord t cols.length i < j ∧ (row[i]?.getD 0 ≠ 0 ∨ bare = 0) then some (.int (row[i]?.getD 0)) else none) →
    ∃ (s6' s7' : Option Va) (l' : List (Key × Va)) (M' : Store), loopF (fun _ => True) (tgName 6) (sSeq (sSet 7 (ev2 opIx (evL kLst (evCons (evVar 6) (evCons (ev2 opSub (ev2 opSub (evL (kPure gLen) (evCons (evVar 1) evNil)) (evC (.int 1))) (evVar 6)) evNil))) (evVar 3)))
    (sIf (evOr (ev2 opNe (ev2 opIx (evVar 2) (evVar 7)) (evC (.int 0))) (ev2 opEq (evVar 4) (evC (.int 0)))) (sSub (ev2 opIx (evVar 2) (evVar 7)) (evVar 5) (ev2 opIx (evVar 1) (evVar 7)) cSetK) sNx)) ((List.range' j m).map fun (i : Nat) => Va.int i)
      [some (.cel w), some (.lst (cols.map Va.str)), some (.lst (row.map Va.int)), some (.int t), some (.int bare), some (.cel dn), s6, s7] M = some (.nx, [some (.cel w), some (.lst (cols.map Va.str)), some (.lst (row.map Va.int)), some (.int t), some (.int bare), some (.cel dn), s6', s7'], M') ∧
      M'.c dn = some (.dic l') ∧ Tells cols row l' ∧ Kx [dn] M M' ∧ M'.nx = M.nx := by
  intro m
  induction m with
  | zero =>
    intro j s6 s7 l M hj hM hl hk hv
    refine ⟨s6, s7, l, M, loop_nil trivial, hM, ⟨fun p hp => (hk p hp).1, fun p hp => (hk p hp).2, by omega, ?_⟩, Kx.refl, rfl⟩
    refine List.ext_getElem? fun i => ?_
    rw [List.getElem?_map, List.getElem?_map]
    cases q : cols[i]? with
    | none =>
      have : cols.length ≤ i := by simpa using q
      rw [show row[i]? = none from by simp; omega]
      rfl
    | some c =>
      have hi : i < cols.length := (List.getElem?_eq_some_iff.mp q).1
      have hri : row[i]? = some (row[i]'(by omega)) := by simp [show i < row.length by omega]
      have := hv i c q
      rw [hri] at this ⊢
      simp only [Option.getD_some, Option.map_some] at this ⊢
      rw [this]
      have ho : ord t cols.length i < j := by unfold ord; split <;> omega
      by_cases h0 : row[i]'(by omega) ≠ 0 ∨ bare = 0
      · rw [if_pos ⟨ho, h0⟩]; rfl
      · rw [if_neg (fun h => h0 h.2)]
        have : row[i]'(by omega) = 0 := by
          refine Decidable.byContradiction fun z => h0 (.inl z)
        rw [this]; rfl
  | succ m ih =>
    intro j s6 s7 l M hj hM hl hk hv
    have hjl : j < cols.length := by omega
    let a : Nat := ord t cols.length j
    have ha : a < cols.length := by show ord t cols.length j < _; unfold ord; split <;> omega
    have hra : a < row.length := by omega
    let c := cols[a]
    let v := row[a]
    have hca : cols[a]? = some c := by simp [c, ha]
    have hva : row[a]? = some v := by simp [v, hra]
    have e1 : ev2 opIx (evL kLst (evCons (evVar 6) (evCons (ev2 opSub (ev2 opSub (evL (kPure gLen) (evCons (evVar 1) evNil)) (evC (.int 1))) (evVar 6)) evNil))) (evVar 3) [some (.cel w), some (.lst (cols.map Va.str)), some (.lst (row.map Va.int)), some (.int t), some (.int bare), some (.cel dn), some (.int j), s7] M = some (.val (.int a), M) := by
      rcases ht with h | h
      · subst h; simp [a, ord]
      · subst h
        have : ((cols.length : Int) - 1 - j) = ((cols.length - 1 - j : Nat) : Int) := by omega
        simp [a, ord, this]
    have ix1 : atI (row.map Va.int) (a : Int) = some (.int v) := by
      obtain ⟨x, h1, _, h3⟩ := at_nat (l := row.map Va.int) (i := (a : Int)) (by omega) (by rw [List.length_map]; omega)
      rw [h1, ← h3, List.getElem?_map, Int.toNat_natCast, hva]; rfl
    have ix2 : atI (cols.map Va.str) (a : Int) = some (.str c) := by
      obtain ⟨x, h1, _, h3⟩ := at_nat (l := cols.map Va.str) (i := (a : Int)) (by omega) (by rw [List.length_map]; omega)
      rw [h1, ← h3, List.getElem?_map, Int.toNat_natCast, hca]; rfl
    have inj : ∀ i c', cols[i]? = some c' → c' = c → i = a := fun i c' h e => by
      have hi := (List.getElem?_eq_some_iff.mp h)
      have : cols[i]'hi.1 = cols[a] := by rw [hi.2]; exact e
      exact (List.getElem_inj hd).mp this
    have ordj : ∀ i, i < cols.length → (ord t cols.length i = j ↔ i = a) := fun i hi => by
      show _ ↔ i = ord t cols.length j
      unfold ord
      split <;> omega
    rw [List.range'_succ, List.map_cons]
    by_cases h0 : v ≠ 0 ∨ bare = 0
    · let l2 := puK l (.inr c) (.int v)
      have hl2 : l2.length ≤ j + 1 := by have := puK_len l (.inr c) (Va.int v); show (puK l _ _).length ≤ _; omega
      obtain ⟨s6', s7', l', M', e, q1, q2, q3, q4⟩ := ih (j + 1) (some (.int j)) (some (.int a)) l2 (M.put dn (.dic l2)) (by omega) put_same hl2 (puK_all (P := fun (p : Key × Va) => (∃ c ∈ cols, p.1 = .inr c) ∧ ∃ n ∈ row, p.2 = .int n) hk ⟨⟨c, List.getElem_mem ha, rfl⟩, v, List.getElem_mem hra, rfl⟩) (fun i c' hi => by
        rw [vaK_put]
        by_cases hcc : c' = c
        · have hia := inj i c' hi hcc
          subst hcc
          rw [if_pos rfl, hia, hva]
          have : ord t cols.length a < j + 1 := by have := (ordj a ha).mpr rfl; omega
          rw [if_pos ⟨this, h0⟩]; rfl
        · have hil := (List.getElem?_eq_some_iff.mp hi).1
          rw [if_neg (by intro e; injection e with e; exact hcc e.symm), hv i c' hi]
          have hne : i ≠ a := by intro e; subst e; rw [hca] at hi; cases hi; exact hcc rfl
          have : ord t cols.length i < j + 1 ↔ ord t cols.length i < j := by have := (not_congr (ordj i hil)).mpr hne; omega
          simp only [this])
      refine ⟨s6', s7', l', M', loop_nx trivial rfl (seq_nx (set_val e1) ?_) e, q1, q2, (Kx.put (by simp)).trans q3, q4⟩
      have hll : l.length < 16777216 := by omega
      have hor : (!decide (v = 0)) = true ∨ bare = 0 := by
        rcases h0 with h | h
        · left; simp [h]
        · right; exact h
      by_cases hv0 : v = 0
      · have hb0 : bare = 0 := by rcases h0 with h | h; exact absurd hv0 h; exact h
        simp [sE, ix1, ix2, hv0, hb0, cSetK, hM, keyA, hll]
        show M.put dn (.dic (puK l (.inr c) (.int 0))) = M.put dn (.dic (puK l (.inr c) (.int v)))
        rw [hv0]
      · simp [sE, ix1, ix2, hv0, cSetK, hM, keyA, hll]
        rfl
    · have hv0 : v = 0 := Decidable.byContradiction fun z => h0 (.inl z)
      have hb0 : ¬ bare = 0 := fun z => h0 (.inr z)
      obtain ⟨s6', s7', l', M', e, q1, q2, q3, q4⟩ := ih (j + 1) (some (.int j)) (some (.int a)) l M (by omega) hM (by omega) hk (fun i c' hi => by
        rw [hv i c' hi]
        have hil := (List.getElem?_eq_some_iff.mp hi).1
        by_cases hia : i = a
        · subst hia
          rw [hva]
          simp [hv0, hb0]
        · have : ord t cols.length i < j + 1 ↔ ord t cols.length i < j := by have := (not_congr (ordj i hil)).mpr hia; omega
          simp only [this])
      refine ⟨s6', s7', l', M', loop_nx trivial rfl (seq_nx (set_val e1) ?_) e, q1, q2, q3, q4⟩
      simp [ix1, hv0, hb0]
/-- a sum of the law's, as a dict that stands by itself -/
theorem sum {M : Store} {w b : Nat} (cols : List Str) (row : List Int) (hr : row.length = cols.length) (hc : cols.length ≤ 20) (hd : cols.Nodup) (h : Wl M w b) (hb : b < 2 ^ 40) :
    ∃ (dn : Nat) (l : List (Key × Va)) (M' : Store), c__law_sum [.cel w, .lst (cols.map Va.str), rowV row] M = some (.val (.cel dn), M') ∧ M.nx ≤ dn ∧ dn < M'.nx ∧ M'.c dn = some (.dic l) ∧ Tells cols row l ∧ Wl M' w (b + 2) ∧ Kp M M' w := by
  obtain ⟨t, M1, e1, a1, a2, w1, k1⟩ := draw h 2 (by omega) (by omega) (by omega)
  obtain ⟨bare, M2, e2, b1, b2, w2, k2⟩ := draw w1 2 (by omega) (by omega) (by omega)
  have w3 : Wl (M2.new (.dic [])) w (b + 2) := w2.new
  obtain ⟨s6, s7, l, M', e, q1, q2, q3, q4⟩ := sum_loop w M2.nx cols row hr hc hd t bare (by omega) cols.length 0 none none [] (M2.new (.dic [])) (by omega) new_same (Nat.le_refl _) (fun _ z => nomatch z) (fun i c _ => by
    rw [if_neg (fun z => by omega)]; rfl)
  have kp : Kp M M2 w := k1.trans k2
  have hw := h.lt
  have hnx := kp.nx
  refine ⟨M2.nx, l, M', ?_, hnx, ?_, q1, q2, ?_, ?_⟩
  · unfold c__law_sum runF
    refine end_ret (s1 := [some (.cel w), some (.lst (cols.map Va.str)), some (rowV row), some (.int t), some (.int bare), some (.cel M2.nx), s6, s7]) ?_
    unfold m__law_sum
    refine seq_nx (set_val (M1 := M1) (v := .int t) ?_) (seq_nx (set_val (M1 := M2) (v := .int bare) ?_) (seq_nx (set_val (M1 := M2.new (.dic [])) (v := .cel M2.nx) rfl) (seq_nx (for_it (chk := fun _ => True) (M1 := M2.new (.dic [])) (l := (List.range' 0 cols.length).map fun (i : Nat) => Va.int i) ?_ e) (ret_val rfl))))
    · simp [startI, e1]
    · simp [startI, e2]
    · show itR1 _ [some (.cel w), some (.lst (cols.map Va.str)), some (rowV row), some (.int t), some (.int bare), some (.cel M2.nx), none, none] _ = _
      rw [← List.range_eq_range']
      simp (disch := omega) [z_rng]
  · rw [q4]; exact Nat.lt_succ_self _
  · obtain ⟨⟨x, y, z, g1, g2⟩, g3⟩ := w3
    exact ⟨⟨x, y, z, q3.get g3 (by simp; omega) g1, g2⟩, by rw [q4]; exact g3⟩
  · exact (kp.kx.cut1 (Kx.trans (S := [M2.nx]) Kx.new q3) (fun n hn hlt => by
      simp at hn; omega)).toKp
end Lw

set_option Elab.async false
set_option linter.all false
set_option maxRecDepth 100000
set_option maxHeartbeats 2000000
set_option exponentiation.threshold 3000
namespace Lw
open PySem L2 PV
/-- y is a cell from B on, a dict that tells the row -/
def RowAt (B : Nat) (M : Store) (cols : List Str) (row : List Int) (y : Va) : Prop := ∃ d l, y = .cel d ∧ B ≤ d ∧ d < M.nx ∧ M.c d = some (.dic l) ∧ Tells cols row l
theorem RowAt.kp {B : Nat} {M M' : Store} {w : Nat} {cols : List Str} {row : List Int} {y : Va} (h : RowAt B M cols row y) (hB : w < B) (k : Kp M M' w) : RowAt B M' cols row y := by
  obtain ⟨d, l, e, h1, h2, h3, h4⟩ := h
  exact ⟨d, l, e, h1, Nat.lt_of_lt_of_le h2 k.nx, k.kx.get h2 (by simp; omega) h3, h4⟩
theorem Al2.imp {α β : Type} {P Q : α → β → Prop} (h : ∀ a b, P a b → Q a b) : ∀ {l : List α} {m : List β}, Al2 P l m → Al2 Q l m
  | _, _, .nil => .nil
  | _, _, .cons p t => .cons (h _ _ p) (Al2.imp h t)
theorem Al2.snoc {α β : Type} {P : α → β → Prop} {a : α} {b : β} (h : P a b) : ∀ {l : List α} {m : List β}, Al2 P l m → Al2 P (l ++ [a]) (m ++ [b])
  | _, _, .nil => .cons h .nil
  | _, _, .cons p t => .cons p (Al2.snoc h t)
theorem RowAt.low {B B' : Nat} {M : Store} {cols : List Str} {row : List Int} {y : Va} (h : RowAt B M cols row y) (hB : B' ≤ B) : RowAt B' M cols row y := by
  obtain ⟨d, l, e, h1, h2⟩ := h
  exact ⟨d, l, e, by omega, h2⟩
theorem sums_lc (w v : Nat) (cols : List Str) (hc : cols.length ≤ 20) (hd : cols.Nodup) (s : SL) (h0 : ∀ (x : Va) N, evVar 0 (s.set v (some x)) N = some (.val (.cel w), N)) (h1 : ∀ (x : Va) N, ev2 opIx (evVar 1) (evC (.int 0)) (s.set v (some x)) N = some (.val (.lst (cols.map Va.str)), N)) (hv : ∀ (x : Va) N, evVar v (s.set v (some x)) N = some (.val x, N)) :
    ∀ (rows : List (List Int)) (M : Store) (b : Nat), (∀ r ∈ rows, r.length = cols.length) → Wl M w b → b + 2 * rows.length < 2 ^ 39 →
      ∃ (ds : List Va) (M' : Store), compL (fun _ => True) (tgName v) evYes (evL (kFn 3 c__law_sum) (evCons (evVar 0) (evCons (ev2 opIx (evVar 1) (evC (.int 0))) (evCons (evVar v) evNil)))) s (rows.map rowV) M = some (ds, M') ∧ Al2 (RowAt M.nx M' cols) rows ds ∧ Wl M' w (b + 2 * rows.length) ∧ Kp M M' w
  | [], M, b, _, h, _ => ⟨[], M, by show compL _ _ _ _ _ [] M = _; unfold compL; rw [if_pos trivial], .nil, by simpa using h, Kp.refl⟩
  | r :: rows, M, b, hr, h, hb => by
    rw [List.length_cons] at hb
    obtain ⟨dn, l, M1, e1, g1, g2, g3, g4, w1, k1⟩ := sum cols r (hr r (by simp)) hc hd h (by omega)
    obtain ⟨ds, M', e2, al, w2, k2⟩ := sums_lc w v cols hc hd s h0 h1 hv rows M1 (b + 2) (fun x hx => hr x (by simp [hx])) w1 (by omega)
    have hw := h.lt
    refine ⟨.cel dn :: ds, M', ?_, .cons ?_ (Al2.imp (fun a y q => q.low k1.nx) al), w2.mono (by rw [List.length_cons]; omega), k1.trans k2⟩
    · show compL _ _ _ _ _ (rowV r :: rows.map rowV) M = _
      unfold compL
      rw [if_pos trivial, x_tgName]
      dsimp only
      rw [x_yes]
      dsimp only
      rw [x_L, x_cons, h0, bindO_val, x_cons, h1, bindO_val, x_cons, hv, bindO_val, x_nil, bindO_val, bindO_val, bindO_val, bindO_val]
      dsimp only
      rw [x_kFn, if_pos (show [Va.cel w, Va.lst (List.map Va.str cols), rowV r].length = 3 from rfl), e1]
      dsimp only
      rw [e2]
    · exact RowAt.kp (w := w) ⟨dn, l, rfl, g1, g2, g3, g4⟩ hw k2
/-- y is a kind as it is handed in -/
def KindAt (B : Nat) (M : Store) (cols : List Str) (k : Kd) (y : Va) : Prop := ∃ si ti ds, y = .tup [.str k.1, .cel si, .cel ti] ∧ B ≤ si ∧ si < M.nx ∧ B ≤ ti ∧ ti < M.nx ∧ M.c si = some (.lst ds) ∧ Al2 (RowAt B M cols) k.2.1 ds ∧ M.c ti = some (.lst (k.2.2.map stV))
theorem KindAt.kx {B w : Nat} {S : List Nat} {M M' : Store} {cols : List Str} {k : Kd} {y : Va} (h : KindAt B M cols k y) (hS : ∀ n ∈ S, n < B) (x : Kx S M M') : KindAt B M' cols k y := by
  obtain ⟨si, ti, ds, e, h1, h2, h3, h4, h5, h6, h7⟩ := h
  refine ⟨si, ti, ds, e, h1, Nat.lt_of_lt_of_le h2 x.nx, h3, Nat.lt_of_lt_of_le h4 x.nx, x.get h2 (fun z => by have := hS _ z; omega) h5, Al2.imp (fun a y q => ?_) h6, x.get h4 (fun z => by have := hS _ z; omega) h7⟩
  obtain ⟨d, l, e, g1, g2, g3, g4⟩ := q
  exact ⟨d, l, e, g1, Nat.lt_of_lt_of_le g2 x.nx, x.get g2 (fun z => by have := hS _ z; omega) g3, g4⟩
theorem handed_loop (w kc : Nat) (D : Dat) (hc : D.cols.length ≤ 20) (hd : D.cols.Nodup) (s6 s7 : Option Va) (hkw : kc ≠ w) (hwk : w < kc) : ∀ (ks done : List Kd) (ys : List Va) (s3 s4 s5 : Option Va) (M : Store) (b : Nat), (∀ k ∈ ks, ∀ r ∈ k.2.1, r.length = D.cols.length) → (∀ k ∈ ks, k.2.1.length ≤ 50 ∧ k.2.2.length ≤ 50) → done.length + ks.length ≤ 20 → Wl M w b → b + 200 * ks.length < 2 ^ 38 → kc < M.nx → M.c kc = some (.lst ys) → Al2 (KindAt (kc + 1) M D.cols) done ys →
    ∃ (ys' : List Va) (s3' s4' s5' : Option Va) (M' : Store), loopF (fun _ => True) (tgTup [(tgName 3), (tgName 4), (tgName 5)]) (sDrop (evM2 isLstA (kMut cAppend) (evVar 2) (evCons (evL kTup (evCons (evVar 3) (evCons (evLcC (itA (evVar 4)) (tgName 7) evYes (evL (kFn 3 c__law_sum) (evCons (evVar 0) (evCons (ev2 opIx (evVar 1) (evC (.int 0))) (evCons (evVar 7) evNil)))) [7]) (evCons (evL kList (evCons (evVar 5) evNil)) evNil)))) evNil))) (ks.map kdV)
      [some (.cel w), some D.va, some (.cel kc), s3, s4, s5, s6, s7] M = some (.nx, [some (.cel w), some D.va, some (.cel kc), s3', s4', s5', s6, s7], M') ∧ Al2 (KindAt (kc + 1) M' D.cols) (done ++ ks) ys' ∧ Wl M' w (b + 200 * ks.length) ∧ Kx [w, kc] M M' ∧ M'.c kc = some (.lst ys')
  | [], done, ys, s3, s4, s5, M, b, _, _, _, h, _, _, hM, al => ⟨ys, s3, s4, s5, M, loop_nil trivial, by simpa using al, by simpa using h, Kx.refl, hM⟩
  | k :: ks, done, ys, s3, s4, s5, M, b, hr, hn, hl, h, hb, hkc, hM, al => by
    rw [List.length_cons] at hl hb
    obtain ⟨n1, n2⟩ := hn k (by simp)
    obtain ⟨ds, M1, e1, a1, w1, k1⟩ := sums_lc w 7 D.cols hc hd [some (.cel w), some D.va, some (.cel kc), some (.str k.1), some (.lst (k.2.1.map rowV)), some (.lst (k.2.2.map stV)), s6, none] (fun _ _ => rfl) (fun _ _ => rfl) (fun _ _ => rfl) k.2.1 M b (hr k (by simp)) h (by omega)
    have kc1 : kc < M1.nx := Nat.lt_of_lt_of_le hkc k1.nx
    let M2 := M1.new (.lst ds)
    let M3 := M2.new (.lst (k.2.2.map stV))
    have x13 : Kx [w] M1 M3 := Kx.new.trans Kx.new
    have c3 : M3.c kc = some (.lst ys) := x13.get kc1 (by simp [hkw]) (k1.kx.get hkc (by simp [hkw]) hM)
    have hle : kc + 1 ≤ M.nx := hkc
    have hle1 := k1.nx
    have hyl : ys.length < 16777216 := by rw [← al.len]; omega
    let y : Va := .tup [.str k.1, .cel M1.nx, .cel M2.nx]
    let M4 := M3.put kc (.lst (ys ++ [y]))
    have x34 : Kx [w, kc] M3 M4 := Kx.put (by simp)
    have xall : Kx [w, kc] M M4 := ((k1.kx.mono (by simp)).trans (x13.mono (by simp))).trans x34
    have hw1 := h.lt
    have kat : KindAt (kc + 1) M4 D.cols k y := by
      refine KindAt.kx (w := w) (S := [w, kc]) (M := M3) ⟨M1.nx, M2.nx, ds, rfl, by omega, by show M1.nx < M1.nx + 1 + 1; omega, by show kc + 1 ≤ M1.nx + 1; omega, Nat.lt_succ_self _, ?_, Al2.imp (fun a y q => ?_) a1, new_same⟩ (fun n hn' => by simp at hn'; omega) x34
      · exact (new_ne (by show M1.nx ≠ M1.nx + 1; omega)).trans new_same
      · obtain ⟨d, l, e, g1, g2, g3, g4⟩ := q
        exact ⟨d, l, e, by omega, Nat.lt_of_lt_of_le g2 x13.nx, x13.get g2 (by simp; omega) g3, g4⟩
    obtain ⟨ys', s3', s4', s5', M', e2, al2, w2, x2, c2⟩ := handed_loop w kc D hc hd s6 s7 hkw hwk ks (done ++ [k]) (ys ++ [y]) (some (.str k.1)) (some (.lst (k.2.1.map rowV))) (some (.lst (k.2.2.map stV))) M4 (b + 200) (fun q hq => hr q (by simp [hq])) (fun q hq => hn q (by simp [hq])) (by simp; omega)
      (((w1.new.new).mono (by omega)).put hkw) (by omega) (Nat.lt_of_lt_of_le hkc xall.nx) put_same (Al2.snoc kat (Al2.imp (fun a y q => q.kx (w := w) (S := [w, kc]) (fun n hn' => by simp at hn'; omega) xall) al))
    refine ⟨ys', s3', s4', s5', M', ?_, by simpa using al2, w2.mono (by rw [List.length_cons]; omega), xall.trans x2, c2⟩
    refine loop_nx (s1 := [some (.cel w), some D.va, some (.cel kc), some (.str k.1), some (.lst (k.2.1.map rowV)), some (.lst (k.2.2.map stV)), s6, s7]) (s2 := [some (.cel w), some D.va, some (.cel kc), some (.str k.1), some (.lst (k.2.1.map rowV)), some (.lst (k.2.2.map stV)), s6, s7]) (M2 := M4) trivial rfl ?_ e2
    refine drop_val (v := .non) ?_
    have hL : isLstA M (.cel kc) = true := by unfold isLstA; rw [y_lstC, hM]; rfl
    rw [x_M2, show evVar 2 [some (.cel w), some D.va, some (.cel kc), some (.str k.1), some (.lst (k.2.1.map rowV)), some (.lst (k.2.2.map stV)), s6, s7] M = some (.val (.cel kc), M) from rfl, bindO_val, if_pos hL, x_cons, x_L, x_cons,
      show evVar 3 [some (.cel w), some D.va, some (.cel kc), some (.str k.1), some (.lst (k.2.1.map rowV)), some (.lst (k.2.2.map stV)), s6, s7] M = some (.val (.str k.1), M) from rfl, bindO_val, x_cons, z_lcC, z_itA,
      show evVar 4 [some (.cel w), some D.va, some (.cel kc), some (.str k.1), some (.lst (k.2.1.map rowV)), some (.lst (k.2.2.map stV)), s6, s7] M = some (.val (.lst (k.2.1.map rowV)), M) from rfl, z_anyL]
    dsimp only
    rw [show wipeI [some (.cel w), some D.va, some (.cel kc), some (.str k.1), some (.lst (k.2.1.map rowV)), some (.lst (k.2.2.map stV)), s6, s7] [7] = [some (.cel w), some D.va, some (.cel kc), some (.str k.1), some (.lst (k.2.1.map rowV)), some (.lst (k.2.2.map stV)), s6, none] from rfl, e1]
    dsimp only
    rw [bindO_val, x_cons, x_L, x_cons, show evVar 5 [some (.cel w), some D.va, some (.cel kc), some (.str k.1), some (.lst (k.2.1.map rowV)), some (.lst (k.2.2.map stV)), s6, s7] M2 = some (.val (.lst (k.2.2.map stV)), M2) from rfl, bindO_val, x_nil, bindO_val, bindO_val]
    show bindO (bindO (bindO (bindO (bindO (bindO (kList [.lst (k.2.2.map stV)] M2) _) _) _) _) _) _ = _
    rw [show kList [.lst (k.2.2.map stV)] M2 = some (.val (.cel M2.nx), M3) from rfl, bindO_val]
    simp [c3, cAppend, hyl, M4, y]
/-- what is handed to the class -/
structure Handed (M : Store) (w : Nat) (D : Dat) (cc kc hc B : Nat) : Prop where
  c1 : M.c cc = some (.lst (D.cols.map Va.str))
  k1 : ∃ ys, M.c kc = some (.lst ys) ∧ Al2 (KindAt (B + 1) M D.cols) D.kinds ys
  h1 : ∃ zs, M.c hc = some (.lst zs) ∧ Al2 (RowAt (B + 1) M D.cols) D.checks zs
  kb : kc = B
  lt : B < cc ∧ cc < M.nx ∧ B < hc ∧ hc < M.nx ∧ w < B
  ne : cc < hc
theorem handed {M : Store} {w b : Nat} (D : Dat) (F : Int) (ok : D.Ok F) (h : Wl M w b) (hb : b < 2 ^ 37) : ∃ (cc kc hc : Nat) (M' : Store), c__law_handed [.cel w, D.va] M = some (.val (.tup [.cel cc, .cel kc, .cel hc]), M') ∧ Handed M' w D cc kc hc M.nx ∧ Wl M' w (b + 5000) ∧ Kp M M' w := by
  have hw := h.lt
  have hkw : M.nx ≠ w := by omega
  obtain ⟨ys, s3, s4, s5, M2, e2, al, w2, x2, c2⟩ := handed_loop w M.nx D ok.cl ok.cd none none hkw hw D.kinds [] [] none none none (M.new (.lst [])) b (fun k hk r hr => ((ok.kd k hk).row r hr).1) (fun k hk => ⟨(ok.kd k hk).n1, (ok.kd k hk).n2⟩) (by have := ok.kl; simp; omega) h.new (by have := ok.kl; omega) (Nat.lt_succ_self _) new_same .nil
  have hkl := ok.kl
  have hhl := ok.hl
  let cc := M2.nx
  let M3 := M2.new (.lst (D.cols.map Va.str))
  have hM2 : M.nx + 1 ≤ M2.nx := x2.nx
  obtain ⟨zs, M4, e4, a4, w4, k4⟩ := sums_lc w 6 D.cols ok.cl ok.cd [some (.cel w), some D.va, some (.cel M.nx), s3, s4, s5, none, none] (fun _ _ => rfl) (fun _ _ => rfl) (fun _ _ => rfl) D.checks M3 (b + 4000) (fun r hr => (ok.ck r hr).1) ((w2.mono (by omega)).new) (by omega)
  let hc := M4.nx
  let M5 := M4.new (.lst zs)
  have x25 : Kx [w] M2 M5 := (Kx.trans (S := [w]) Kx.new k4.kx).trans Kx.new
  have n34 : M2.nx + 1 ≤ M4.nx := k4.nx
  have al' : Al2 (KindAt (M.nx + 1) M2 D.cols) D.kinds ys := by simpa using al
  have c5c : M5.c cc = some (.lst (D.cols.map Va.str)) := by
    have : M4.c cc = some (.lst (D.cols.map Va.str)) := k4.kx.get (Nat.lt_succ_self _) (by simp; omega) new_same
    exact (new_ne (by show M2.nx ≠ M4.nx; omega)).trans this
  have rowsAt : Al2 (RowAt (M.nx + 1) M5 D.cols) D.checks zs := Al2.imp (P := RowAt M3.nx M4 D.cols) (fun a y q => by
    obtain ⟨d, l, e, g1, g2, g3, g4⟩ := q
    have : M3.nx = M2.nx + 1 := rfl
    exact ⟨d, l, e, by omega, Nat.lt_succ_of_lt g2, (new_ne (Nat.ne_of_lt g2)).trans g3, g4⟩) a4
  have kindsAt : Al2 (KindAt (M.nx + 1) M5 D.cols) D.kinds ys := Al2.imp (P := KindAt (M.nx + 1) M2 D.cols) (fun a y q => KindAt.kx (w := w) (S := [w]) q (fun n hn => by simp at hn; omega) x25) al'
  have hn5 : M5.nx = M4.nx + 1 := rfl
  have kAll : Kx [w] M M5 := (Kx.new.cut1 x2 (fun n hn hlt => by
    simp at hn
    rcases hn with e | e
    · simp [e]
    · omega)).trans x25
  refine ⟨cc, M.nx, hc, M5, ?_, ⟨c5c, ⟨ys, x25.get (by omega) (by simp [hkw]) c2, kindsAt⟩, ⟨zs, new_same, rowsAt⟩, rfl, ⟨hM2, by show M2.nx < _; omega, by show M.nx < M4.nx; omega, Nat.lt_succ_self _, hw⟩, (by show M2.nx < M4.nx; omega)⟩, (w4.mono (by omega)).new, kAll.toKp⟩
  unfold c__law_handed runF
  refine end_ret (s1 := [some (.cel w), some D.va, some (.cel M.nx), s3, s4, s5, none, none]) ?_
  unfold m__law_handed
  refine seq_nx (set_val list0_new) (seq_nx (for_it (chk := fun _ => True) (M1 := M.new (.lst [])) (l := D.kinds.map kdV) ?_ e2) (ret_val ?_))
  · show itA _ [some (.cel w), some D.va, some (.cel M.nx), none, none, none, none, none] _ = _
    simp [Dat.va]
  · rw [x_L, x_cons, x_L, x_cons, show ev2 opIx (evVar 1) (evC (.int 0)) [some (.cel w), some D.va, some (.cel M.nx), s3, s4, s5, none, none] M2 = some (.val (.lst (D.cols.map Va.str)), M2) from rfl, bindO_val, x_nil, bindO_val, bindO_val]
    show bindO (bindO (kList [.lst (D.cols.map Va.str)] M2) _) _ = _
    rw [show kList [.lst (D.cols.map Va.str)] M2 = some (.val (.cel cc), M3) from rfl, bindO_val, x_cons, show evVar 2 [some (.cel w), some D.va, some (.cel M.nx), s3, s4, s5, none, none] M3 = some (.val (.cel M.nx), M3) from rfl, bindO_val, x_cons, z_lcC, z_itA,
      show ev2 opIx (evVar 1) (evC (.int 2)) [some (.cel w), some D.va, some (.cel M.nx), s3, s4, s5, none, none] M3 = some (.val (.lst (D.checks.map rowV)), M3) from rfl, z_anyL]
    dsimp only
    rw [show wipeI [some (.cel w), some D.va, some (.cel M.nx), s3, s4, s5, none, none] [6] = [some (.cel w), some D.va, some (.cel M.nx), s3, s4, s5, none, none] from rfl, e4]
    dsimp only
    rw [bindO_val, x_nil, bindO_val, bindO_val, bindO_val, bindO_val]
    show kTup _ _ = _
    unfold kTup
    rw [if_pos (by show 3 ≤ sizeLine; decide)]
end Lw

set_option Elab.async false
set_option linter.all false
set_option maxRecDepth 100000
set_option maxHeartbeats 2000000
set_option exponentiation.threshold 3000
namespace Lw
open PySem L2 PV
/-! ### lists and dicts, frozen or in a cell -/
structure LA (M : Store) (x : Va) (l : List Va) : Prop where
  at_ : LstAt M x l
  lt : ∀ n, x = .cel n → n < M.nx
structure DA (M : Store) (x : Va) (l : List (Key × Va)) : Prop where
  at_ : dicOf M x = some l
  lt : ∀ n, x = .cel n → n < M.nx
theorem LA.lst {M : Store} {l : List Va} : LA M (.lst l) l := ⟨.lst l, fun n e => by cases e⟩
theorem LA.cel {M : Store} {n : Nat} {l : List Va} (h : M.c n = some (.lst l)) (hn : n < M.nx) : LA M (.cel n) l := ⟨.cel h, fun m e => by cases e; exact hn⟩
theorem DA.dic {M : Store} {l : List (Key × Va)} : DA M (.dic l) l := ⟨rfl, fun n e => by cases e⟩
theorem DA.cel {M : Store} {n : Nat} {l : List (Key × Va)} (h : M.c n = some (.dic l)) (hn : n < M.nx) : DA M (.cel n) l := ⟨by show (match M.c n with | some (.dic l) => some l | _ => none) = _; rw [h], fun m e => by cases e; exact hn⟩
theorem LA.kx {M M' : Store} {x : Va} {l : List Va} (h : LA M x l) (k : Kx [] M M') : LA M' x l := by
  obtain ⟨h1, h2⟩ := h
  cases h1 with
  | lst l => exact LA.lst
  | cel h => exact LA.cel (k.get (h2 _ rfl) (by simp) h) (Nat.lt_of_lt_of_le (h2 _ rfl) k.nx)
theorem DA.kx {M M' : Store} {x : Va} {l : List (Key × Va)} (h : DA M x l) (k : Kx [] M M') : DA M' x l := by
  obtain ⟨h1, h2⟩ := h
  refine ⟨?_, fun n e => Nat.lt_of_lt_of_le (h2 n e) k.nx⟩
  cases x <;> first | exact h1 | skip
  rename_i n
  show (match M'.c n with | some (.dic l) => some l | _ => none) = _
  rw [k.kp n (h2 n rfl) (by simp)]
  exact h1
theorem LA.all {M : Store} {x : Va} {l : List Va} (h : LA M x l) : ∃ chk : Store → Prop, ∀ N, Kx [] M N → anyO (some (.val x, N)) = some (.it l chk, N) ∧ chk N := by
  obtain ⟨h1, h2⟩ := h
  cases h1 with
  | lst l => exact ⟨fun _ => True, fun N _ => ⟨rfl, trivial⟩⟩
  | cel h =>
    rename_i n
    refine ⟨fun N => lstOf N (.cel n) = some l, fun N k => ?_⟩
    have hN := k.get (h2 n rfl) (by simp) h
    exact ⟨by rw [z_anyC, hN], by show lstOf N (.cel n) = some l; rw [y_lstC, hN]⟩
theorem LA.any {M : Store} {x : Va} {l : List Va} (h : LA M x l) : ∃ chk : Store → Prop, anyO (some (.val x, M)) = some (.it l chk, M) ∧ chk M ∧ ∀ M', Kx [] M M' → chk M' := by
  obtain ⟨chk, q⟩ := h.all
  exact ⟨chk, (q M Kx.refl).1, (q M Kx.refl).2, fun M' k => (q M' k).2⟩
theorem blsOf_true {α : Type} : ∀ (l : List α), blsOf (l.map fun _ => Va.bl true) = some (l.map fun _ => true)
  | [] => rfl
  | _ :: l => by simp [blsOf, blsOf_true l]
theorem all1 {α : Type} {M : Store} (l : List α) : gAll M [.lst (l.map fun _ => Va.bl true)] = some (.bl true) := by
  unfold gAll
  simp only [y_lstL, blsOf_true, Option.map_some]
  congr 2
  induction l with
  | nil => rfl
  | cons a l ih => simpa using ih
theorem is_name {M : Store} {z : Str} (h : Nm z) : c_is_name [.str z] M = some (.val (.bl true), M) := by
  obtain ⟨h1, h2, h3⟩ := h
  have hl : z.length ≤ 16777216 := by rw [tl_len]; omega
  have hl1 : (1 : Int) ≤ z.length := by rw [tl_len]; omega
  have hl2 : (z.length : Int) ≤ 8 := by rw [tl_len]; omega
  have c := compL_map (M := M) (chk := fun _ => True) (tg := tgName 1) (tt := evYes) (te := (ev2 opInD (evVar 1) (evC (.str "abcdefghijklmnopqrstuvwxyz")))) (sw := [some (.str z), none]) (fun c => Va.str ⟨#[c]⟩) (fun _ => Va.bl true) trivial z.cps.toList (fun c hc => by
    refine ⟨_, rfl, rfl, ?_⟩
    have := h3 c hc
    have ho : opInD M (.str ⟨#[c]⟩) (.str "abcdefghijklmnopqrstuvwxyz") = some (.bl true) := by
      have : opIn M (.str ⟨#[c]⟩) (.str "abcdefghijklmnopqrstuvwxyz") = some (.bl (decide (c ∈ tl letS))) := rfl
      have hm : c ∈ tl letS := by
        have e : tl letS = (List.range 26).map (97 + ·) := by decide
        rw [e, List.mem_map]
        exact ⟨c - 97, List.mem_range.mpr (by omega), by omega⟩
      unfold opInD
      rw [this]
      simp [hm]
    simp [ho])
  unfold c_is_name runF m_is_name
  simp (disch := omega) [startI, y_lenS, hl1, hl2, z_anyS, c, all1]
/-- a loop whose turns do nothing -/
theorem loop_skip {chk : Store → Prop} {t : Nat} {body : SS} {M : Store} (hc : chk M) : ∀ (xs : List Va) (s : SL), (∀ x ∈ xs, body (s.set t (some x)) M = some (.nx, s.set t (some x), M)) → ∃ s', loopF chk (tgName t) body xs s M = some (.nx, s', M) ∧ (s' = s ∨ ∃ x, s' = s.set t (some x))
  | [], s, _ => ⟨s, loop_nil hc, .inl rfl⟩
  | x :: xs, s, h => by
    obtain ⟨s', e, hs⟩ := loop_skip (s := s.set t (some x)) hc xs (fun y hy => by
      rw [List.set_set]; exact h y (by simp [hy]))
    refine ⟨s', loop_nx hc rfl (h x (by simp)) e, .inr ?_⟩
    rcases hs with hs | ⟨y, hs⟩
    · exact ⟨x, hs⟩
    · exact ⟨y, by rw [hs, List.set_set]⟩
theorem keys_txt {cols : List Str} : ∀ {l : List (Key × Va)}, (∀ p ∈ l, ∃ c ∈ cols, p.1 = .inr c) → ∃ zs : List Str, l.map (·.1) = zs.map Sum.inr ∧ (∀ z ∈ zs, z ∈ cols) ∧ zs.length = l.length
  | [], _ => ⟨[], rfl, (fun _ h => nomatch h), rfl⟩
  | p :: l, h => by
    obtain ⟨c, hc, e⟩ := h p (by simp)
    obtain ⟨zs, e2, h2, h3⟩ := keys_txt (l := l) fun q hq => h q (by simp [hq])
    exact ⟨c :: zs, by rw [List.map_cons, List.map_cons, e, e2], fun z hz => by
      rcases List.mem_cons.mp hz with e | hz
      · rw [e]; exact hc
      · exact h2 z hz, by simp [h3]⟩
theorem factors {M : Store} {x y : Va} {cols : List Str} {row : List Int} {l : List (Key × Va)} (la : LA M x (cols.map Va.str)) (da : DA M y l) (ht : Tells cols row l) : c_factors_of [x, y] M = some (.val (rowV row), M) := by
  obtain ⟨zs, e1, z1, z2⟩ := keys_txt ht.ks
  have hdo := da.at_
  have gs : gSorted M [y] = some (.lst ((srtS zs).map Va.str)) := by
    show (match srtOf M y with | some zs => if zs.length < 64 then some (Va.lst ((srtS zs).map Va.str)) else none | none => none) = _
    have : srtOf M y = some zs := by
      unfold srtOf
      rw [hdo]
      dsimp only
      rw [e1, txtOfKeys_map]
    rw [this]
    dsimp only
    rw [if_pos (by have := ht.ln; omega)]
  obtain ⟨s', e2, hs⟩ := loop_skip (chk := fun _ => True) (t := 2) (body := sIf (ev2 opNotInD (evVar 2) (evVar 0)) sNever sNx) (M := M) trivial ((srtS zs).map Va.str) [some x, some y, none] (fun v hx => by
    obtain ⟨z, hz, rfl⟩ := List.mem_map.mp hx
    have hz' := z1 z ((srtS_perm zs).mem_iff.mp hz)
    simp [la.at_.notIn, hz'])
  obtain ⟨chk, ha, hck, _⟩ := la.any
  have hD : isDicA M y = true := by unfold isDicA; rw [hdo]; rfl
  have cm := compL_map (M := M) (chk := chk) (tg := tgName 2) (tt := evYes) (te := evM2 isDicA (kVal gGetD) (evVar 1) (evCons (evVar 2) (evCons (evC (.int 0)) evNil))) (sw := [some x, some y, none]) Va.str (fun c => (vaK l (.inr c)).getD (.int 0)) hck cols (fun c hc' => ⟨_, rfl, rfl, by
    have hg : gGetD M y [.str c, .int 0] = some ((vaK l (.inr c)).getD (.int 0)) := by
      show (match dicOf M y, keyA (.str c) with | some l, some key => some ((vaK l key).getD (.int 0)) | _, _ => none) = _
      rw [hdo]; rfl
    simp [hD, hg]⟩)
  rw [ht.eq] at cm
  unfold c_factors_of runF
  have hs' : ∃ o, s' = [some x, some y, o] := by
    rcases hs with hs | ⟨v, hs⟩
    · exact ⟨none, hs⟩
    · exact ⟨some v, hs⟩
  obtain ⟨o, rfl⟩ := hs'
  refine end_ret (s1 := [some x, some y, o]) ?_
  unfold m_factors_of
  refine seq_nx (for_it (chk := fun _ => True) (M1 := M) (l := (srtS zs).map Va.str) ?_ e2) (ret_val ?_)
  · show itA _ [some x, some y, none] M = _
    simp [gs]
  · rw [z_lc, z_itA, show ∀ N, evVar 0 [some x, some y, o] N = some (.val x, N) from fun _ => rfl, ha]
    simp only [z_wipeS, z_wipe0, List.set]
    rw [cm]
    rfl
/-! ### the columns looked at -/
theorem cut_to {α : Type} (l : List α) (k : Nat) : cutA l none (some (k : Int)) = l.take k := by
  unfold cutA
  rw [HT.sIx_nat, HT.sIx_none]
  by_cases h : k ≤ l.length
  · rw [Nat.min_eq_left h]; simp
  · rw [Nat.min_eq_right (by omega), List.drop_zero, List.take_of_length_le (by omega), List.take_of_length_le (by omega)]
theorem sl_to {M : Store} {x : Va} {l : List Va} (h : LstAt M x l) (k : Nat) : opSl M x none (some (k : Int)) = some (.lst (l.take k)) := by
  have e : opSl M x none (some (k : Int)) = (match lstOf M x with | some l => some (.lst (cutA l none (some (k : Int)))) | none => none) := by cases h <;> rfl
  rw [e, h.lof]
  dsimp only
  rw [cut_to]
theorem cols_loop {M : Store} {x : Va} {chk : Store → Prop} {cols : List Str} (la : LA M x (cols.map Va.str)) (hck : chk M) (hn : ∀ z ∈ cols, Nm z) (hd : cols.Nodup) : ∀ (rest done : List Str) (s1 s2 : Option Va), cols = done ++ rest →
    ∃ s1' s2', loopF chk (tgTup [(tgName 1), (tgName 2)]) (sSeq (sIf (evNot (evTru (evL (kFn 1 c_is_name) (evCons (evVar 2) evNil)))) sNever sNx)
    (sIf (ev2 opInD (evVar 2) (evSl (evVar 0) (evC .non) (evB (evVar 1)))) sNever sNx)) (enumL done.length (rest.map Va.str)) [some x, s1, s2] M = some (.nx, [some x, s1', s2'], M)
  | [], done, s1, s2, _ => ⟨s1, s2, loop_nil hck⟩
  | z :: rest, done, s1, s2, e => by
    obtain ⟨s1', s2', e2⟩ := cols_loop la hck hn hd rest (done ++ [z]) (some (.int done.length)) (some (.str z)) (by rw [e]; simp)
    rw [List.length_append, List.length_cons, List.length_nil] at e2
    refine ⟨s1', s2', ?_⟩
    show loopF _ _ _ (.tup [.int (done.length : Nat), .str z] :: enumL (done.length + 1) (rest.map Va.str)) _ M = _
    have hz : Nm z := hn z (by rw [e]; simp)
    have hni : z ∉ done := fun h => by
      rw [e] at hd
      have := (List.nodup_append.mp hd).2.2 z h z (by simp)
      exact this rfl
    have htk : (cols.map Va.str).take done.length = done.map Va.str := by rw [e, List.map_append, List.take_left' (by simp)]
    refine loop_nx (s1 := [some x, some (.int done.length), some (.str z)]) hck rfl ?_ e2
    have hs := sl_to la.at_ done.length
    rw [htk] at hs
    have hin := (LstAt.lst (M := M) (done.map Va.str)).in_ z
    simp [is_name hz, boundOf, hs, hin, hni]
theorem itEn_any {M : Store} {x : Va} {l : List Va} {e : SE} {s : SL} (la : LA M x l) (he : e s M = some (.val (.tup [x]), M)) : itEn e s M = some (.it (enumL 0 l) (fun M => lstOf M x = some l), M) := by
  unfold itEn
  rw [he]
  dsimp only
  rw [la.at_.lof]
theorem look_columns {M : Store} {x : Va} {cols : List Str} (la : LA M x (cols.map Va.str)) (hn : ∀ z ∈ cols, Nm z) (hd : cols.Nodup) : c_look_at_columns [x] M = some (.val .non, M) := by
  have hi := itEn_any (e := evCons (evVar 0) evNil) (s := [some x, none, none]) la rfl
  obtain ⟨s1', s2', e⟩ := cols_loop (chk := fun M => lstOf M x = some (cols.map Va.str)) la la.at_.lof hn hd cols [] none none rfl
  unfold c_look_at_columns runF m_look_at_columns
  rw [show startI 3 [x] = [some x, none, none] from rfl]
  rw [for_it (M1 := M) (chk := fun M => lstOf M x = some (cols.map Va.str)) (l := enumL 0 (cols.map Va.str)) hi e]
  rfl
end Lw

set_option Elab.async false
set_option linter.all false
set_option maxRecDepth 100000
set_option maxHeartbeats 2000000
set_option exponentiation.threshold 3000
namespace Lw
open PySem L2 PV
theorem steps_look {M : Store} {x : Va} {chk : Store → Prop} {size : Int} {l : List (Str × Int × Int)} (la : LA M x (l.map stV)) (hck : chk M) (hs : Sts size l) : ∀ (rest done : List (Str × Int × Int)) (s2 s3 s4 s5 s6 : Option Va), l = done ++ rest →
    ∃ s2' s3' s4' s5' s6', loopF chk (tgTup [(tgName 2), (tgName 3)]) (sSeq (sAsg (evVar 3) (tgTup [(tgName 4), (tgName 5), (tgName 6)]))
    (sSeq (sIf (evNot (evTru (evL (kFn 1 c_is_name) (evCons (evVar 4) evNil)))) sNever sNx)
    (sSeq (sIf (evOr (evNot (evChain opLe opLt (evC (.int 0)) (evVar 5) (evVar 1))) (evNot (evChain opLe opLt (evC (.int 0)) (evVar 6) (evVar 1)))) sNever sNx)
    (sIf (ev2 opInD (evL kTup (evCons (evVar 4) (evCons (evVar 5) evNil))) (evLc (itA (evSl (evVar 0) (evC .non) (evB (evVar 2)))) (tgName 7) evYes (evSl (evVar 7) (evC .non) (evB (evC (.int 2)))) [7])) sNever sNx)))) (enumL done.length (rest.map stV)) [some x, some (.int size), s2, s3, s4, s5, s6, none] M = some (.nx, [some x, some (.int size), s2', s3', s4', s5', s6', none], M)
  | [], done, s2, s3, s4, s5, s6, _ => ⟨s2, s3, s4, s5, s6, loop_nil hck⟩
  | t :: rest, done, s2, s3, s4, s5, s6, e => by
    obtain ⟨s2', s3', s4', s5', s6', e2⟩ := steps_look la hck hs rest (done ++ [t]) (some (.int done.length)) (some (stV t)) (some (.str t.1)) (some (.int t.2.1)) (some (.int t.2.2)) (by rw [e]; simp)
    rw [List.length_append, List.length_cons, List.length_nil] at e2
    refine ⟨s2', s3', s4', s5', s6', ?_⟩
    show loopF _ _ _ (.tup [.int (done.length : Nat), stV t] :: enumL (done.length + 1) (rest.map stV)) _ M = _
    obtain ⟨hz, b1, b2, b3, b4⟩ := hs.ok t (by rw [e]; simp)
    have hni : hasP done t.1 t.2.1 = false := by
      cases q : hasP done t.1 t.2.1 with
      | false => rfl
      | true =>
        have hd := hs.nd
        rw [e, List.map_append] at hd
        exact absurd rfl ((List.nodup_append.mp hd).2.2 _ (hasP_iff.mp q) (t.1, t.2.1) (by simp))
    have htk : (l.map stV).take done.length = done.map stV := by rw [e, List.map_append, List.take_left' (by simp)]
    have hsl := sl_to la.at_ done.length
    rw [htk] at hsl
    have okd : ∀ t' ∈ done, PyData.strOk t'.1 = true := fun t' ht => (hs.ok t' (by rw [e]; simp [ht])).1.ok
    have hin := in_pairs (M := M) (i := t.2.1) okd hz.ok
    have cm := compL_map (M := M) (chk := fun _ => True) (tg := tgName 7) (tt := evYes) (te := evSl (evVar 7) (evC .non) (evB (evC (.int 2)))) (sw := [some x, some (.int size), some (.int done.length), some (stV t), some (.str t.1), some (.int t.2.1), some (.int t.2.2), none]) stV prV trivial done (fun t ht => ⟨_, rfl, rfl, by simp [boundOf, sl_pair]⟩)
    refine loop_nx (s1 := [some x, some (.int size), some (.int done.length), some (stV t), s4, s5, s6, none]) hck rfl (seq_nx (s1 := [some x, some (.int size), some (.int done.length), some (stV t), some (.str t.1), some (.int t.2.1), some (.int t.2.2), none]) (M1 := M) rfl ?_) e2
    simp [is_name hz, b1, b2, b3, b4, boundOf, hsl, cm, hin, hni]
theorem look_steps {M : Store} {x : Va} {size : Int} {l : List (Str × Int × Int)} (la : LA M x (l.map stV)) (hs : Sts size l) : c_look_at_steps [x, .int size] M = some (.val .non, M) := by
  obtain ⟨s2', s3', s4', s5', s6', e⟩ := steps_look (chk := fun M => lstOf M x = some (l.map stV)) la la.at_.lof hs l [] none none none none none rfl
  have hi := itEn_any (e := evCons (evVar 0) evNil) (s := [some x, some (.int size), none, none, none, none, none, none]) la rfl
  unfold c_look_at_steps runF m_look_at_steps
  rw [show startI 8 [x, Va.int size] = [some x, some (.int size), none, none, none, none, none, none] from rfl]
  rw [for_it (M1 := M) (chk := fun M => lstOf M x = some (l.map stV)) (l := enumL 0 (l.map stV)) hi e]
  rfl
/-- a dict, frozen or in a cell, that tells the row -/
def RowAny (M : Store) (cols : List Str) (row : List Int) (y : Va) : Prop := ∃ l, DA M y l ∧ Tells cols row l
theorem RowAny.kx {M M' : Store} {cols : List Str} {row : List Int} {y : Va} (h : RowAny M cols row y) (k : Kx [] M M') : RowAny M' cols row y := by
  obtain ⟨l, h1, h2⟩ := h
  exact ⟨l, h1.kx k, h2⟩
theorem RowAt.any {B : Nat} {M : Store} {cols : List Str} {row : List Int} {y : Va} (h : RowAt B M cols row y) : RowAny M cols row y := by
  obtain ⟨d, l, rfl, _, h2, h3, h4⟩ := h
  exact ⟨l, DA.cel h3 h2, h4⟩
theorem factors_lc {M : Store} {x : Va} {cols : List Str} {s : SL} (la : LA M x (cols.map Va.str)) (chk : Store → Prop) (hk : chk M) (t : Nat) (ex : SE) (h0 : ∀ (v : Va) N, ex (s.set t (some v)) N = some (.val x, N)) (h7 : ∀ (v : Va) N, evVar t (s.set t (some v)) N = some (.val v, N)) : ∀ {rows : List (List Int)} {ds : List Va}, Al2 (RowAny M cols) rows ds →
    compL chk (tgName t) evYes (evL (kFn 2 c_factors_of) (evCons ex (evCons (evVar t) evNil))) s ds M = some (rows.map rowV, M)
  | _, _, .nil => by unfold compL; rw [if_pos hk]; rfl
  | _, _, .cons (a := r) (l := rows) (b := y) (m := ds) p tl => by
    obtain ⟨l, da, ht⟩ := p
    have ih := factors_lc la chk hk t ex h0 h7 tl
    unfold compL
    rw [if_pos hk, x_tgName]
    dsimp only
    rw [x_yes]
    dsimp only
    rw [x_L, x_cons, h0, bindO_val, x_cons, h7, bindO_val, x_nil, bindO_val, bindO_val, bindO_val]
    dsimp only
    rw [x_kFn, if_pos (show [x, y].length = 2 from rfl), factors la da ht]
    dsimp only
    rw [ih]; rfl
theorem DA.noLst {M : Store} {y : Va} {l : List (Key × Va)} (h : DA M y l) : lstOf M y = none := by
  have h1 := h.at_
  cases y <;> first | rfl | (cases h1; done) | skip
  rename_i n
  replace h1 : (match M.c n with | some (.dic l) => some l | _ => none) = some l := h1
  rw [y_lstC]
  cases q : M.c n with
  | none => rfl
  | some c =>
    rw [q] at h1
    cases c <;> first | rfl | (cases h1; done)
theorem LA.noDic {M : Store} {x : Va} {l : List Va} (h : LA M x l) : dicOf M x = none := by
  obtain ⟨h1, _⟩ := h
  cases h1 with
  | lst => rfl
  | cel h => show (match M.c _ with | some (.dic l) => some l | _ => none) = _; rw [h]
/-- a list of dicts is not [] -/
theorem eqX_states {M : Store} {x : Va} {cols : List Str} {rows : List (List Int)} {ds : List Va} (la : LA M x ds) (al : Al2 (RowAny M cols) rows ds) (hr : rows ≠ []) : opEqX M x (.lst []) = some (.bl false) := by
  cases al with
  | nil => exact absurd rfl hr
  | cons p t =>
    obtain ⟨l, da, _⟩ := p
    have no : eqP M x (.lst []) = none := by
      unfold eqP
      cases q : pdOf M x with
      | none => rfl
      | some d =>
        rw [pdOf_eq (.lst rfl .nil)]
        dsimp only
        have hp := pdOf_some q
        have hsh : SeqAt.shaped d = false := by
          cases hp with
          | lst h1 h2 =>
            rw [la.at_.lof] at h1
            cases h1
            cases h2 with
            | cons h3 h4 =>
              cases h3 with
              | lst h5 _ => rw [da.noLst] at h5; cases h5
              | dic h5 _ => simp [SeqAt.shaped, PyData.canLay0, PyData.canLayAll0]
              | _ => have := da.at_; cases this
          | dic h1 _ => rw [la.noDic] at h1; cases h1
          | _ => have := la.at_.lof; cases this
        rw [if_neg (by rw [hsh]; simp)]
    unfold opEqX
    have e1 : opEq M x (.lst []) = none := by
      unfold opEq
      rw [la.at_.eqS_nil, no]; rfl
    rw [e1]
    dsimp only
    rw [la.at_.lof, y_lstL]
    simp
end Lw

set_option Elab.async false
set_option linter.all false
set_option maxRecDepth 100000
set_option maxHeartbeats 2000000
set_option exponentiation.threshold 3000
namespace Lw
open PySem L2 PV
theorem blsOf_false {α : Type} : ∀ (l : List α), blsOf (l.map fun _ => Va.bl false) = some (l.map fun _ => false)
  | [] => rfl
  | _ :: l => by simp [blsOf, blsOf_false l]
theorem any0 {α : Type} {M : Store} (l : List α) : gAny M [.lst (l.map fun _ => Va.bl false)] = some (.bl false) := by
  unfold gAny
  simp only [y_lstL, blsOf_false, Option.map_some]
  congr 2
  induction l with
  | nil => rfl
  | cons a l ih => simpa using ih
/-- the store while the rows are made -/
def Mk0 (M : Store) (ks : List Kd) : Store := (M.new (.lst [])).put M.nx (.lst (ks.map kdV))
theorem Mk0.kx {M : Store} {ks : List Kd} : Kx [] M (Mk0 M ks) := ⟨Nat.le_succ _, fun n h _ => (put_ne (Nat.ne_of_lt h)).trans (new_ne (Nat.ne_of_lt h))⟩
theorem Mk0.rc {M : Store} {ks : List Kd} : (Mk0 M ks).c M.nx = some (.lst (ks.map kdV)) := put_same
noncomputable abbrev krBody : SS := (sSeq (sIf (evNot (evTru (evL (kFn 1 c_is_name) (evCons (evVar 3) evNil)))) sNever sNx)
    (sSeq (sIf (ev2 opInD (evVar 3) (evLc (itA (evVar 2)) (tgName 8) evYes (ev2 opIx (evVar 8) (evC (.int 0))) [8])) sNever sNx)
    (sSeq (sIf (ev2 opEqX (evVar 4) (evL kLst evNil)) sNever sNx)
    (sSeq (sSet 6 (evLc (itA (evVar 4)) (tgName 7) evYes (evL (kFn 2 c_factors_of) (evCons (evVar 0) (evCons (evVar 7) evNil))) [7]))
    (sSeq (sIf (evTru (evL (kPure gAny) (evCons (evLc (itA (ev2 opIx (evVar 6) (evC (.int 0)))) (tgName 9) evYes (ev2 opNeX (evVar 9) (evC (.int 0))) [9]) evNil))) sNever sNx)
    (sSeq (sDrop (evL (kFn 2 c_look_at_steps) (evCons (evVar 5) (evCons (evL (kPure gLen) (evCons (evVar 4) evNil)) evNil))))
    (sDrop (evM2 isLstA (kMut cAppend) (evVar 2) (evCons (evL kTup (evCons (evVar 3) (evCons (evVar 6) (evCons (evL (kPure gList) (evCons (evVar 5) evNil)) evNil)))) evNil)))))))))
/-- a kind as it may be handed in: its lists and dicts frozen or in cells -/
def KindAny (M : Store) (cols : List Str) (k : Kd) (y : Va) : Prop := ∃ st sp ds, y = .tup [.str k.1, st, sp] ∧ LA M st ds ∧ Al2 (RowAny M cols) k.2.1 ds ∧ LA M sp (k.2.2.map stV)
theorem KindAny.kx {M M' : Store} {cols : List Str} {k : Kd} {y : Va} (h : KindAny M cols k y) (x : Kx [] M M') : KindAny M' cols k y := by
  obtain ⟨st, sp, ds, e, h1, h2, h3⟩ := h
  exact ⟨st, sp, ds, e, h1.kx x, Al2.imp (P := RowAny M cols) (fun _ _ q => q.kx x) h2, h3.kx x⟩
theorem KindAt.any {B : Nat} {M : Store} {cols : List Str} {k : Kd} {y : Va} (h : KindAt B M cols k y) : KindAny M cols k y := by
  obtain ⟨si, ti, ds, e, h1, h2, h3, h4, h5, h6, h7⟩ := h
  exact ⟨.cel si, .cel ti, ds, e, LA.cel h5 h2, Al2.imp (P := RowAt B M cols) (fun _ _ q => q.any) h6, LA.cel h7 h4⟩
theorem kr_turn {M : Store} {x ky : Va} {F : Int} {cols : List Str} (la : LA M x (cols.map Va.str)) (k : Kd) (ok : KdOk cols.length F k) (done : List Kd) (hd : done.length ≤ 100) (hn : k.1 ∉ done.map (·.1)) (st sp : Va) (ds : List Va) (h5 : LA M st ds) (h6 : Al2 (RowAny M cols) k.2.1 ds) (h7 : LA M sp (k.2.2.map stV)) (s6 : Option Va) :
    krBody [some x, some ky, some (.cel M.nx), some (.str k.1), some st, some sp, s6, none, none, none] (Mk0 M done) = some (.nx, [some x, some ky, some (.cel M.nx), some (.str k.1), some st, some sp, some (.lst (k.2.1.map rowV)), none, none, none], Mk0 M (done ++ [k])) := by
  have kx := Mk0.kx (M := M) (ks := done)
  have c0 := la.kx kx
  have cs := h5.kx kx
  have ct := h7.kx kx
  have al : Al2 (RowAny (Mk0 M done) cols) k.2.1 ds := Al2.imp (P := RowAny M cols) (fun a y q => q.kx kx) h6
  have rc := Mk0.rc (M := M) (ks := done)
  obtain ⟨more, hst⟩ := ok.st
  have hne : k.2.1 ≠ [] := by rw [hst]; simp
  have cm1 := compL_map (M := Mk0 M done) (chk := fun N => lstOf N (.cel M.nx) = some (done.map kdV)) (tg := tgName 8) (tt := evYes) (te := ev2 opIx (evVar 8) (evC (.int 0))) (sw := [some x, some ky, some (.cel M.nx), some (.str k.1), some st, some sp, s6, none, none, none]) kdV (fun q => Va.str q.1) (LstAt.cel rc).lof done (fun q _ => ⟨_, rfl, rfl, by simp [kdV]⟩)
  simp only [y_lstC] at cm1
  have em : (done.map fun q => Va.str q.1) = (done.map (·.1)).map Va.str := by rw [List.map_map]; rfl
  have hin := (LstAt.lst (M := Mk0 M done) ((done.map (·.1)).map Va.str)).in_ k.1
  obtain ⟨chk, ha, hck, _⟩ := cs.any
  have cm2 := factors_lc (M := Mk0 M done) c0 chk hck 7 (evVar 0) (s := [some x, some ky, some (.cel M.nx), some (.str k.1), some st, some sp, s6, none, none, none]) (fun _ _ => rfl) (fun _ _ => rfl) al
  have cm3 := compL_map (M := Mk0 M done) (chk := fun _ => True) (tg := tgName 9) (tt := evYes) (te := ev2 opNeX (evVar 9) (evC (.int 0))) (sw := [some x, some ky, some (.cel M.nx), some (.str k.1), some st, some sp, some (.lst (k.2.1.map rowV)), none, none, none]) Va.int (fun _ => Va.bl false) trivial (List.replicate cols.length 0) (fun n hn => by
    rw [List.eq_of_mem_replicate hn]
    exact ⟨_, rfl, rfl, rfl⟩)
  have hix : atI (k.2.1.map rowV) 0 = some (rowV (List.replicate cols.length 0)) := by rw [hst]; exact at_0
  have hlen : gLen (Mk0 M done) [st] = some (.int k.2.1.length) := by rw [cs.at_.len, al.len]
  have hls := look_steps ct ok.sts
  have hgl : gList (Mk0 M done) [sp] = some (.lst (k.2.2.map stV)) := by
    show (seqOf _ sp).map Va.lst = _
    rw [ct.at_.seq]; rfl
  have hdl : done.length < 16777216 := by omega
  refine seq_nx (M1 := Mk0 M done) (s1 := [some x, some ky, some (.cel M.nx), some (.str k.1), some st, some sp, s6, none, none, none]) (by simp [is_name ok.nm]) ?_
  refine seq_nx (M1 := Mk0 M done) (s1 := [some x, some ky, some (.cel M.nx), some (.str k.1), some st, some sp, s6, none, none, none]) (by
    rw [x_sIf, x_2, show evVar 3 [some x, some ky, some (.cel M.nx), some (.str k.1), some st, some sp, s6, none, none, none] (Mk0 M done) = some (.val (.str k.1), Mk0 M done) from rfl, bindO_val]
    simp only [z_lc, z_itA, show evVar 2 [some x, some ky, some (.cel M.nx), some (.str k.1), some st, some sp, s6, none, none, none] (Mk0 M done) = some (.val (.cel M.nx), Mk0 M done) from rfl, z_anyC, rc, z_wipeS, z_wipe0, List.set, y_lstC]
    rw [cm1]
    dsimp only
    rw [bindO_val, em, hin]
    simp [hn]) ?_
  refine seq_nx (M1 := Mk0 M done) (s1 := [some x, some ky, some (.cel M.nx), some (.str k.1), some st, some sp, s6, none, none, none]) (by simp [eqX_states cs al hne]) ?_
  refine seq_nx (M1 := Mk0 M done) (s1 := [some x, some ky, some (.cel M.nx), some (.str k.1), some st, some sp, some (.lst (k.2.1.map rowV)), none, none, none]) (set_val (v := .lst (k.2.1.map rowV)) (by
    rw [z_lc, z_itA, show evVar 4 [some x, some ky, some (.cel M.nx), some (.str k.1), some st, some sp, s6, none, none, none] (Mk0 M done) = some (.val st, Mk0 M done) from rfl, ha]
    simp only [z_wipeS, z_wipe0, List.set]
    rw [cm2])) ?_
  refine seq_nx (M1 := Mk0 M done) (s1 := [some x, some ky, some (.cel M.nx), some (.str k.1), some st, some sp, some (.lst (k.2.1.map rowV)), none, none, none]) (by
    have he : ev2 opIx (evVar 6) (evC (.int 0)) [some x, some ky, some (.cel M.nx), some (.str k.1), some st, some sp, some (.lst (k.2.1.map rowV)), none, none, none] (Mk0 M done) = some (.val (rowV (List.replicate cols.length 0)), Mk0 M done) := by simp [hix]
    rw [x_sIf, x_tru, x_L, x_cons, z_lc, z_itA, he]
    simp only [rowV, z_anyL, z_wipeS, z_wipe0, List.set]
    rw [cm3]
    dsimp only
    rw [bindO_val, x_nil, bindO_val, bindO_val]
    dsimp only
    rw [x_kPure, any0]
    rfl) ?_
  refine seq_nx (M1 := Mk0 M done) (s1 := [some x, some ky, some (.cel M.nx), some (.str k.1), some st, some sp, some (.lst (k.2.1.map rowV)), none, none, none]) (drop_val (v := .non) (by simp [hlen, hls])) ?_
  refine drop_val (v := .non) ?_
  simp [isLstA, rc, hgl, cAppend, hdl]
  simp [Mk0, kdV]
theorem kr_loop {M : Store} {x ky : Va} {F : Int} {cols : List Str} (la : LA M x (cols.map Va.str)) {chk : Store → Prop} (hchk : ∀ N, Kx [] M N → chk N) : ∀ (ks : List Kd) (zs : List Va) (done : List Kd) (s3 s4 s5 s6 : Option Va), Al2 (KindAny M cols) ks zs → (∀ k ∈ ks, KdOk cols.length F k) → ((done ++ ks).map (·.1)).Nodup → done.length + ks.length ≤ 100 →
    ∃ s3' s4' s5' s6', loopF chk (tgTup [(tgName 3), (tgName 4), (tgName 5)]) krBody zs [some x, some ky, some (.cel M.nx), s3, s4, s5, s6, none, none, none] (Mk0 M done) = some (.nx, [some x, some ky, some (.cel M.nx), s3', s4', s5', s6', none, none, none], Mk0 M (done ++ ks)) := by
  intro ks
  induction ks with
  | nil =>
    intro zs done s3 s4 s5 s6 al _ _ _
    cases al
    exact ⟨s3, s4, s5, s6, by
      rw [List.append_nil]
      exact loop_nil (hchk _ Mk0.kx)⟩
  | cons k ks ih =>
    intro zs done s3 s4 s5 s6 al ok nd hl
    cases al with
    | cons p t =>
      obtain ⟨st, sp, ds, rfl, h5, h6, h7⟩ := p
      rw [List.length_cons] at hl
      have hn : k.1 ∉ done.map (·.1) := fun h => by
        rw [List.map_append] at nd
        exact absurd rfl ((List.nodup_append.mp nd).2.2 _ h k.1 (by simp))
      have e1 := kr_turn (ky := ky) la k (ok k (by simp)) done (by omega) hn st sp ds h5 h6 h7 s6
      obtain ⟨s3', s4', s5', s6', e2⟩ := ih _ (done ++ [k]) (some (.str k.1)) (some st) (some sp) (some (.lst (k.2.1.map rowV))) t (fun q hq => ok q (by simp [hq])) (by rw [List.append_assoc]; exact nd) (by simp; omega)
      rw [List.append_assoc] at e2
      exact ⟨s3', s4', s5', s6', loop_nx (hchk _ Mk0.kx) rfl e1 e2⟩
theorem kind_rows {M : Store} {x ky : Va} {F : Int} {cols : List Str} {ks : List Kd} {ys : List Va} (la : LA M x (cols.map Va.str)) (lk : LA M ky ys) (al : Al2 (KindAny M cols) ks ys) (ok : ∀ k ∈ ks, KdOk cols.length F k) (nd : (ks.map (·.1)).Nodup) (hl : ks.length ≤ 100) :
    c_kind_rows_of [x, ky] M = some (.val (.lst (ks.map kdV)), (Mk0 M ks).del M.nx) := by
  have h0 : Mk0 M [] = M.new (.lst []) := by
    unfold Mk0 Store.put Store.new
    congr 1
    funext m
    by_cases h : m = M.nx <;> simp [h]
  obtain ⟨chk, hall⟩ := lk.all
  have ha := (hall _ (Mk0.kx (M := M) (ks := []))).1
  obtain ⟨s3', s4', s5', s6', e⟩ := kr_loop (ky := ky) (chk := chk) la (fun N k => (hall N k).2) ks ys [] none none none none al ok (by simpa using nd) (by simpa using hl)
  rw [h0, List.nil_append] at e
  rw [h0] at ha
  unfold c_kind_rows_of runF
  refine end_ret (s1 := [some x, some ky, some (.cel M.nx), s3', s4', s5', s6', none, none, none]) ?_
  unfold m_kind_rows_of
  refine seq_nx (set_val list0_new) (seq_nx (for_it (chk := chk) (M1 := M.new (.lst [])) (l := ys) ?_ e) (ret_val ?_))
  · show itA _ [some x, some ky, some (.cel M.nx), none, none, none, none, none, none, none] _ = _
    rw [z_itA, show evVar 1 [some x, some ky, some (.cel M.nx), none, none, none, none, none, none, none] (M.new (.lst [])) = some (.val ky, M.new (.lst [])) from rfl, ha]
  · exact frz_now rfl Mk0.rc
end Lw

set_option Elab.async false
set_option linter.all false
set_option maxRecDepth 100000
set_option maxHeartbeats 2000000
set_option exponentiation.threshold 3000
namespace Lw
open PySem L2 PV
/-- the fields of a plan with these data -/
def planF (D : Dat) : List (Str × Va) := [("column_names", .lst (D.cols.map Va.str)), ("kind_rows", .lst (D.kinds.map kdV)), ("check_rows", .lst (D.checks.map rowV))]
theorem fld_step {e eo : SE} {c : Nat} {f : Str} {s : SL} {M M1 : Store} {v : Va} {n : Nat} {l : List (Str × Va)} (h : e s M = some (.val v, M1)) (ho : eo s M1 = some (.val (.cel n), M1)) (hc : M1.c n = some (.ins c l)) (hl : l.length < 1000) : sFldS e eo (cSetF c f) s M = some (.nx, s, M1.put n (.ins c (putA f v l))) := by
  unfold sFldS sE
  rw [h]
  dsimp only
  rw [ho]
  dsimp only
  unfold cSetF
  dsimp only
  rw [hc]
  dsimp only
  rw [if_pos ⟨rfl, hl⟩]
theorem putA_len (f : Str) (v : Va) : ∀ l : List (Str × Va), (putA f v l).length ≤ l.length + 1
  | [] => by simp [putA]
  | (g, u) :: r => by
    have := putA_len f v r
    unfold putA
    split
    · simp
    · rw [List.length_cons, List.length_cons]; omega
/-- what is handed to the class, in any form -/
structure Passed (M : Store) (D : Dat) (x y z : Va) : Prop where
  c : LA M x (D.cols.map Va.str)
  k : ∃ ys, LA M y ys ∧ Al2 (KindAny M D.cols) D.kinds ys
  h : ∃ zs, LA M z zs ∧ Al2 (RowAny M D.cols) D.checks zs
theorem Passed.kx {M M' : Store} {D : Dat} {x y z : Va} (h : Passed M D x y z) (k : Kx [] M M') : Passed M' D x y z := by
  obtain ⟨ys, k1, k2⟩ := h.k
  obtain ⟨zs, h1, h2⟩ := h.h
  exact ⟨h.c.kx k, ⟨ys, k1.kx k, Al2.imp (P := KindAny M D.cols) (fun _ _ q => q.kx k) k2⟩, ⟨zs, h1.kx k, Al2.imp (P := RowAny M D.cols) (fun _ _ q => q.kx k) h2⟩⟩
theorem Handed.passed {M : Store} {w cc kc hc B : Nat} {D : Dat} (H : Handed M w D cc kc hc B) : Passed M D (.cel cc) (.cel kc) (.cel hc) := by
  obtain ⟨ys, k1, k2⟩ := H.k1
  obtain ⟨zs, h1, h2⟩ := H.h1
  obtain ⟨lB, lc, lh0, lh, lw⟩ := H.lt
  have := H.kb
  exact ⟨LA.cel H.c1 lc, ⟨ys, LA.cel k1 (by omega), Al2.imp (P := KindAt (B + 1) M D.cols) (fun _ _ q => q.any) k2⟩, ⟨zs, LA.cel h1 lh, Al2.imp (P := RowAt (B + 1) M D.cols) (fun _ _ q => q.any) h2⟩⟩
theorem make_any {M : Store} {x y z : Va} {D : Dat} {F : Int} (ok : D.Ok F) (H : Passed M D x y z) : ∃ M', kMake 0 3 c_Plan___init__ [x, y, z] M = some (.val (.cel M.nx), M') ∧ M'.c M.nx = some (.ins 0 (planF D)) ∧ Kx [] M M' ∧ M.nx < M'.nx := by
  let p := M.nx
  let M1 := M.new (.ins 0 [])
  have x1 : Kx [] M M1 := Kx.new
  have H1 := H.kx x1
  have p1 : M1.c p = some (.ins 0 []) := new_same
  let M2 := M1.put p (.ins 0 (putA "column_names" (.lst (D.cols.map Va.str)) []))
  have x2 : Kx [] M M2 := ⟨Nat.le_succ _, fun n h _ => (put_ne (Nat.ne_of_lt h)).trans (new_ne (Nat.ne_of_lt h))⟩
  have H2 := H.kx x2
  obtain ⟨ys, k1, k2⟩ := H2.k
  have kr := kind_rows (M := M2) (x := x) (ky := y) (F := F) H2.c k1 k2 ok.kd ok.kn (by have := ok.kl; omega)
  let M3 := (Mk0 M2 D.kinds).del M2.nx
  have x23 : Kx [] M2 M3 := ⟨Nat.le_succ _, fun n h h' => (PV.del_ne (Nat.ne_of_lt h)).trans (Mk0.kx.kp n h h')⟩
  have pl : p < M2.nx := Nat.lt_succ_self _
  have p3 : M3.c p = some (.ins 0 (putA "column_names" (.lst (D.cols.map Va.str)) [])) := x23.get pl (by simp) put_same
  let M4 := M3.put p (.ins 0 (putA "kind_rows" (.lst (D.kinds.map kdV)) (putA "column_names" (.lst (D.cols.map Va.str)) [])))
  have x4 : Kx [] M M4 := ⟨Nat.le_trans x2.nx x23.nx, fun n h h' => (put_ne (Nat.ne_of_lt h)).trans ((x23.kp n (Nat.lt_of_lt_of_le h x2.nx) h').trans (x2.kp n h h'))⟩
  have H4 := H.kx x4
  obtain ⟨zs, h41, h42⟩ := H4.h
  obtain ⟨chk, ha, hck, _⟩ := h41.any
  have lcx := factors_lc (M := M4) H4.c chk hck 4 (evVar 1) (s := [some (.cel p), some x, some y, some z, none]) (fun _ _ => rfl) (fun _ _ => rfl) h42
  let M5 := M4.put p (.ins 0 (putA "check_rows" (.lst (D.checks.map rowV)) (putA "kind_rows" (.lst (D.kinds.map kdV)) (putA "column_names" (.lst (D.cols.map Va.str)) []))))
  refine ⟨M5, ?_, put_same, ⟨x4.nx, fun n h h' => (put_ne (Nat.ne_of_lt h)).trans (x4.kp n h h')⟩, Nat.lt_of_lt_of_le pl x23.nx⟩
  have run : c_Plan___init__ [.cel M.nx, x, y, z] M1 = some (.val .non, M5) := by
    unfold c_Plan___init__ runF m_Plan___init__
    rw [show startI 5 [Va.cel M.nx, x, y, z] = [some (.cel p), some x, some y, some z, none] from rfl]
    rw [seq_nx (M1 := M1) (s1 := [some (.cel p), some x, some y, some z, none]) (r := some (.nx, [some (.cel p), some x, some y, some z, none], M5)) (drop_val (v := .non) ?_) (seq_nx (M1 := M2) (fld_step (M1 := M1) (v := .lst (D.cols.map Va.str)) ?_ rfl p1 (by decide)) (seq_nx (M1 := M4) (fld_step (M1 := M3) (v := .lst (D.kinds.map kdV)) ?_ rfl p3 (by have := putA_len "column_names" (.lst (D.cols.map Va.str)) []; simp at this; omega)) (fld_step (M1 := M4) (v := .lst (D.checks.map rowV)) ?_ rfl put_same (by have := putA_len "column_names" (.lst (D.cols.map Va.str)) []; have := putA_len "kind_rows" (.lst (D.kinds.map kdV)) (putA "column_names" (.lst (D.cols.map Va.str)) []); simp at *; omega))))]
    · rfl
    · simp [look_columns H1.c ok.cn ok.cd]
    · have : gList M1 [x] = some (.lst (D.cols.map Va.str)) := by
        show (seqOf M1 x).map Va.lst = _
        rw [H1.c.at_.seq]; rfl
      simp [this]
    · rw [x_L, x_cons, show evVar 1 [some (.cel p), some x, some y, some z, none] M2 = some (.val x, M2) from rfl, bindO_val, x_cons, show evVar 2 [some (.cel p), some x, some y, some z, none] M2 = some (.val y, M2) from rfl, bindO_val, x_nil, bindO_val, bindO_val, bindO_val]
      dsimp only
      rw [x_kFn, if_pos (show [x, y].length = 2 from rfl), kr]
    · rw [z_lc, z_itA, show evVar 3 [some (.cel p), some x, some y, some z, none] M4 = some (.val z, M4) from rfl, ha]
      simp only [z_wipeS, z_wipe0, List.set]
      rw [lcx]
  unfold kMake
  rw [if_pos (show [x, y, z].length = 3 from rfl), run]
theorem make {M : Store} {w cc kc hc B : Nat} {D : Dat} {F : Int} (ok : D.Ok F) (H : Handed M w D cc kc hc B) : ∃ M', kMake 0 3 c_Plan___init__ [.cel cc, .cel kc, .cel hc] M = some (.val (.cel M.nx), M') ∧ M'.c M.nx = some (.ins 0 (planF D)) ∧ Kx [] M M' ∧ M.nx < M'.nx := make_any ok H.passed
end Lw

set_option Elab.async false
set_option linter.all false
set_option maxRecDepth 100000
set_option maxHeartbeats 2000000
set_option exponentiation.threshold 3000
namespace Lw
open PySem L2 PV
/-! ### what was passed is changed behind -/
def DicC (B : Nat) (M : Store) (n : Nat) : Prop := B ≤ n ∧ n < M.nx ∧ ∃ l, M.c n = some (.dic l)
def LstC (B : Nat) (M : Store) (n : Nat) : Prop := B ≤ n ∧ n < M.nx ∧ ∃ l, M.c n = some (.lst l)
def StC (L B : Nat) (M : Store) (n : Nat) : Prop := B ≤ n ∧ n < M.nx ∧ ∃ ds, M.c n = some (.lst ds) ∧ ds.length ≤ L ∧ ∀ y ∈ ds, ∃ d, y = .cel d ∧ DicC B M d
/-- from B on cells may change, but not their kind -/
structure Tp (k B : Nat) (M M' : Store) : Prop where
  nx : M.nx ≤ M'.nx
  low : ∀ n, n < M.nx → n < B → M'.c n = M.c n
  ins : ∀ n c fs, n < M.nx → M.c n = some (.ins c fs) → M'.c n = some (.ins c fs)
  dic : ∀ n, DicC B M n → DicC B M' n
  lst : ∀ n, LstC B M n → LstC B M' n
  st : ∀ n L, StC L B M n → StC (L + k) B M' n
theorem Tp.refl {B : Nat} {M : Store} : Tp 0 B M M := ⟨Nat.le_refl _, fun _ _ _ => rfl, fun _ _ _ _ h => h, fun _ h => h, fun _ h => h, fun _ _ h => h⟩
theorem Tp.trans {k j B : Nat} {M M1 M2 : Store} (a : Tp k B M M1) (b : Tp j B M1 M2) : Tp (k + j) B M M2 :=
  ⟨Nat.le_trans a.nx b.nx, fun n h1 h2 => (b.low n (Nat.lt_of_lt_of_le h1 a.nx) h2).trans (a.low n h1 h2), fun n c fs h1 h2 => b.ins n c fs (Nat.lt_of_lt_of_le h1 a.nx) (a.ins n c fs h1 h2), fun n h => b.dic n (a.dic n h), fun n h => b.lst n (a.lst n h), fun n L h => by have := b.st n _ (a.st n L h); rwa [Nat.add_assoc] at this⟩
theorem Tp.putDic {B : Nat} {M : Store} {d : Nat} {l : List (Key × Va)} (h : DicC B M d) : Tp 0 B M (M.put d (.dic l)) := by
  obtain ⟨hB, hn, l0, h0⟩ := h
  have ne : ∀ n x, M.c n = some x → (∀ l, x ≠ .dic l) → n ≠ d := fun n x hx hl e => by subst e; rw [h0] at hx; cases hx; exact hl _ rfl
  have dic : ∀ n, DicC B M n → DicC B (M.put d (.dic l)) n := fun n ⟨a, b, l', c⟩ => by
    by_cases e : n = d
    · subst e; exact ⟨a, b, l, put_same⟩
    · exact ⟨a, b, l', by rw [put_ne e]; exact c⟩
  refine ⟨Nat.le_refl _, fun n _ h2 => put_ne (by omega), fun n c fs _ h2 => by rw [put_ne (ne n _ h2 (by intro l e; cases e))]; exact h2, dic, fun n ⟨a, b, l', c⟩ => ⟨a, b, l', by rw [put_ne (ne n _ c (by intro l e; cases e))]; exact c⟩, fun n L ⟨a, b, ds, c, hL, q⟩ => ⟨a, b, ds, by rw [put_ne (ne n _ c (by intro l e; cases e))]; exact c, hL, fun y hy => ?_⟩⟩
  obtain ⟨d', e, hd⟩ := q y hy
  exact ⟨d', e, dic d' hd⟩
theorem Tp.putLst {k B : Nat} {M : Store} {t : Nat} {l l0 : List Va} (hB : B ≤ t) (hn : t < M.nx) (h0 : M.c t = some (.lst l0)) (hk : l.length ≤ l0.length + k) (hl : ∀ y ∈ l, ∃ d, y = .cel d ∧ DicC B M d) : Tp k B M (M.put t (.lst l)) := by
  have ne : ∀ n x, M.c n = some x → (∀ l, x ≠ .lst l) → n ≠ t := fun n x hx hl e => by subst e; rw [h0] at hx; cases hx; exact hl _ rfl
  have dic : ∀ n, DicC B M n → DicC B (M.put t (.lst l)) n := fun n ⟨a, b, l', c⟩ => ⟨a, b, l', by rw [put_ne (ne n _ c (by intro l e; cases e))]; exact c⟩
  refine ⟨Nat.le_refl _, fun n _ h2 => put_ne (by omega), fun n c fs _ h2 => by rw [put_ne (ne n _ h2 (by intro l e; cases e))]; exact h2, dic, fun n ⟨a, b, l', c⟩ => ?_, fun n L ⟨a, b, ds, c, hL, q⟩ => ?_⟩
  · by_cases e : n = t
    · subst e; exact ⟨a, b, l, put_same⟩
    · exact ⟨a, b, l', by rw [put_ne e]; exact c⟩
  · by_cases e : n = t
    · subst e
      rw [h0] at c
      cases c
      exact ⟨a, b, l, put_same, by omega, fun y hy => by obtain ⟨d', e, hd⟩ := hl y hy; exact ⟨d', e, dic d' hd⟩⟩
    · exact ⟨a, b, ds, by rw [put_ne e]; exact c, by omega, fun y hy => by obtain ⟨d', e, hd⟩ := q y hy; exact ⟨d', e, dic d' hd⟩⟩
theorem Tp.newDic {B : Nat} {M : Store} (hB : B ≤ M.nx) : Tp 0 B M (M.new (.dic [])) ∧ DicC B (M.new (.dic [])) M.nx := by
  have ne : ∀ n, n < M.nx → (M.new (.dic [])).c n = M.c n := fun n h => new_ne (Nat.ne_of_lt h)
  refine ⟨⟨Nat.le_succ _, fun n h _ => ne n h, fun n c fs h h2 => by rw [ne n h]; exact h2, fun n ⟨a, b, l, c⟩ => ⟨a, Nat.lt_succ_of_lt b, l, by rw [ne n b]; exact c⟩, fun n ⟨a, b, l, c⟩ => ⟨a, Nat.lt_succ_of_lt b, l, by rw [ne n b]; exact c⟩, fun n L ⟨a, b, ds, c, hL, q⟩ => ⟨a, Nat.lt_succ_of_lt b, ds, by rw [ne n b]; exact c, hL, fun y hy => ?_⟩⟩, hB, Nat.lt_succ_self _, [], new_same⟩
  obtain ⟨d, e, a', b', l', c'⟩ := q y hy
  exact ⟨d, e, a', Nat.lt_succ_of_lt b', l', by rw [ne d b']; exact c'⟩
/-- for x in c: x.clear() -/
theorem clear_loop {B cn t : Nat} {ds0 : List Va} : ∀ (ds : List Va) (s : SL) (M : Store), (∀ (x : Va) s' N, (∃ o, s' = s.set t o) → evVar t (s'.set t (some x)) N = some (.val x, N)) → (∀ y ∈ ds, ∃ d, y = .cel d ∧ DicC B M d) → M.c cn = some (.lst ds0) →
    ∃ (s' : SL) (M' : Store), loopF (fun N => lstOf N (.cel cn) = some ds0) (tgName t) (sDrop (evClear (evVar t))) ds s M = some (.nx, s', M') ∧ (s' = s ∨ ∃ x, s' = s.set t (some x)) ∧ Tp 0 B M M' ∧ M'.c cn = some (.lst ds0)
  | [], s, M, _, _, hc => ⟨s, M, loop_nil (by rw [y_lstC, hc]), .inl rfl, Tp.refl, hc⟩
  | y :: ds, s, M, hv, hd, hc => by
    obtain ⟨d, rfl, hdc⟩ := hd y (by simp)
    obtain ⟨hB, hn, l, h0⟩ := id hdc
    have tp := Tp.putDic (l := []) hdc
    have hc' : (M.put d (.dic [])).c cn = some (.lst ds0) := by
      rw [put_ne (fun e => by subst e; rw [h0] at hc; cases hc)]; exact hc
    obtain ⟨s', M', e, hs, tp2, hc2⟩ := clear_loop (B := B) (cn := cn) (t := t) (ds0 := ds0) ds (s.set t (some (.cel d))) (M.put d (.dic [])) (fun x s' N ⟨o, ho⟩ => hv x s' N ⟨o, by rw [ho, List.set_set]⟩) (fun y hy => by
      obtain ⟨d', e, h⟩ := hd y (by simp [hy])
      exact ⟨d', e, tp.dic d' h⟩) hc'
    refine ⟨s', M', loop_nx (s1 := s.set t (some (.cel d))) (s2 := s.set t (some (.cel d))) (M2 := M.put d (.dic [])) (by rw [y_lstC, hc]) rfl (drop_val (v := .non) ?_) e, ?_, tp.trans tp2, hc2⟩
    · unfold evClear
      have := hv (.cel d) (s.set t none) M ⟨none, rfl⟩
      rw [List.set_set] at this
      rw [this, bindO_val]
      unfold kClear
      dsimp only
      rw [h0]
    · rcases hs with hs | ⟨x, hs⟩
      · exact .inr ⟨_, hs⟩
      · exact .inr ⟨x, by rw [hs, List.set_set]⟩
end Lw

set_option Elab.async false
set_option linter.all false
set_option maxRecDepth 100000
set_option maxHeartbeats 2000000
set_option exponentiation.threshold 3000
namespace Lw
open PySem L2 PV
noncomputable def pBody : SS := (sSeq (sFor (itA (evVar 8)) (tgName 10) (sDrop (evClear (evVar 10))))
    (sSeq (sDrop (evM2 isLstA (kMut cAppend) (evVar 8) (evCons evDNew evNil)))
    (sDrop (evClear (evVar 9)))))
theorem pturn {L B si ti : Nat} {M : Store} {s0 s1 s2 s3 s4 s5 s6 s7 s10 : Option Va} (hs : StC L B M si) (hL : L < 16777216) (hb : B ≤ M.nx) (ht : LstC B M ti) : ∃ (s10' : Option Va) (M' : Store), pBody [s0, s1, s2, s3, s4, s5, s6, s7, some (.cel si), some (.cel ti), s10] M = some (.nx, [s0, s1, s2, s3, s4, s5, s6, s7, some (.cel si), some (.cel ti), s10'], M') ∧ Tp 1 B M M' := by
  obtain ⟨a, b, ds, c, hl, q⟩ := hs
  obtain ⟨s', M1, e1, hs', t1, c1⟩ := clear_loop (B := B) (cn := si) (t := 10) (ds0 := ds) ds [s0, s1, s2, s3, s4, s5, s6, s7, some (.cel si), some (.cel ti), s10] M (fun x s' N ⟨o, ho⟩ => by rw [ho]; rfl) q c
  have hs2 : ∃ o, s' = [s0, s1, s2, s3, s4, s5, s6, s7, some (.cel si), some (.cel ti), o] := by
    rcases hs' with h | ⟨x, h⟩
    · exact ⟨_, h⟩
    · exact ⟨_, h⟩
  obtain ⟨o, rfl⟩ := hs2
  obtain ⟨t2, dn⟩ := Tp.newDic (B := B) (M := M1) (Nat.le_trans hb t1.nx)
  have b1 : si < M1.nx := Nat.lt_of_lt_of_le b t1.nx
  have c2 : (M1.new (.dic [])).c si = some (.lst ds) := (new_ne (Nat.ne_of_lt b1)).trans c1
  have t3 := Tp.putLst (k := 1) (B := B) (M := M1.new (.dic [])) (t := si) (l := ds ++ [.cel M1.nx]) (l0 := ds) a (Nat.lt_succ_of_lt b1) c2 (by simp) (fun y hy => by
    rcases List.mem_append.mp hy with h | h
    · obtain ⟨d, e, hd⟩ := q y h
      exact ⟨d, e, t2.dic d (t1.dic d hd)⟩
    · exact ⟨_, List.mem_singleton.mp h, dn⟩)
  obtain ⟨g1, g2, lt, g3⟩ := t3.lst ti (t2.lst ti (t1.lst ti ht))
  have t4 := Tp.putLst (k := 0) (B := B) (t := ti) (l := []) (l0 := lt) g1 g2 g3 (by simp) (fun y hy => nomatch hy)
  refine ⟨o, _, ?_, (((t1.trans t2).trans t3).trans t4)⟩
  unfold pBody
  have hlt : ds.length < 16777216 := by omega
  refine seq_nx (for_it (M1 := M) (l := ds) (chk := fun N => lstOf N (.cel si) = some ds) ?_ e1) (seq_nx (s1 := [s0, s1, s2, s3, s4, s5, s6, s7, some (.cel si), some (.cel ti), o]) (M1 := (M1.new (.dic [])).put si (.lst (ds ++ [.cel M1.nx]))) (drop_val (v := .non) ?_) (drop_val (v := .non) ?_))
  · rw [z_itA, show evVar 8 [s0, s1, s2, s3, s4, s5, s6, s7, some (.cel si), some (.cel ti), s10] M = some (.val (.cel si), M) from rfl, z_anyC, c]
  · rw [x_M2, show evVar 8 [s0, s1, s2, s3, s4, s5, s6, s7, some (.cel si), some (.cel ti), o] M1 = some (.val (.cel si), M1) from rfl, bindO_val]
    have hT : isLstA M1 (.cel si) = true := by
      unfold isLstA; rw [y_lstC, c1]; rfl
    rw [if_pos hT, x_cons]
    unfold evDNew
    rw [bindO_val, x_nil, bindO_val, bindO_val]
    simp [c2, cAppend, hlt]
  · unfold evClear
    rw [show ∀ N, evVar 9 [s0, s1, s2, s3, s4, s5, s6, s7, some (.cel si), some (.cel ti), o] N = some (.val (.cel ti), N) from fun _ => rfl, bindO_val]
    unfold kClear
    dsimp only
    rw [g3]
/-- y is a kind whose cells may be changed -/
def KC (L B : Nat) (M : Store) (y : Va) : Prop := ∃ z si ti, y = .tup [.str z, .cel si, .cel ti] ∧ StC L B M si ∧ LstC B M ti
theorem KC.tp {k L B : Nat} {M M' : Store} {y : Va} (h : KC L B M y) (t : Tp k B M M') : KC (L + k) B M' y := by
  obtain ⟨z, si, ti, e, h1, h2⟩ := h
  exact ⟨z, si, ti, e, t.st _ _ h1, t.lst _ h2⟩
theorem ploop {B kc : Nat} {ys0 : List Va} {s0 s1 s2 s3 s4 s5 s6 : Option Va} (hkB : kc < B) : ∀ (ys : List Va) (L : Nat) (M : Store) (s7 s8 s9 s10 : Option Va), (∀ y ∈ ys, KC L B M y) → L + ys.length < 16777216 → B ≤ M.nx → M.c kc = some (.lst ys0) →
    ∃ (s7' s8' s9' s10' : Option Va) (M' : Store), loopF (fun N => lstOf N (.cel kc) = some ys0) (tgTup [(tgName 7), (tgName 8), (tgName 9)]) pBody ys [s0, s1, s2, s3, s4, s5, s6, s7, s8, s9, s10] M = some (.nx, [s0, s1, s2, s3, s4, s5, s6, s7', s8', s9', s10'], M') ∧ Tp ys.length B M M' := by
  intro ys
  induction ys with
  | nil => exact fun L M s7 s8 s9 s10 _ _ _ hc => ⟨s7, s8, s9, s10, M, loop_nil (by rw [y_lstC, hc]), Tp.refl⟩
  | cons y ys ih =>
    intro L M s7 s8 s9 s10 hy hl hb hc
    rw [List.length_cons] at hl
    obtain ⟨z, si, ti, rfl, h1, h2⟩ := hy y (by simp)
    obtain ⟨o, M1, e1, t1⟩ := pturn (s0 := s0) (s1 := s1) (s2 := s2) (s3 := s3) (s4 := s4) (s5 := s5) (s6 := s6) (s7 := some (.str z)) (s10 := s10) h1 (by omega) hb h2
    have hc1 : M1.c kc = some (.lst ys0) := (t1.low kc (by omega) hkB).trans hc
    obtain ⟨s7', s8', s9', s10', M', e2, t2⟩ := ih (L + 1) M1 (some (.str z)) (some (.cel si)) (some (.cel ti)) o (fun y hy' => (hy y (by simp [hy'])).tp t1) (by omega) (Nat.le_trans hb t1.nx) hc1
    refine ⟨s7', s8', s9', s10', M', loop_nx (by rw [y_lstC, hc]) rfl e1 e2, ?_⟩
    have := t1.trans t2
    rwa [Nat.add_comm] at this
end Lw

set_option Elab.async false
set_option linter.all false
set_option maxRecDepth 100000
set_option maxHeartbeats 2000000
set_option exponentiation.threshold 3000
namespace Lw
open PySem L2 PV
theorem al2_mem {α β : Type} {P : α → β → Prop} : ∀ {l : List α} {m : List β}, Al2 P l m → (l.length = m.length ∧ ∀ y ∈ m, ∃ a ∈ l, P a y)
  | _, _, .nil => ⟨rfl, fun _ h => nomatch h⟩
  | _, _, .cons p t => by
    obtain ⟨h1, h2⟩ := al2_mem t
    refine ⟨by simp [h1], fun y hy => ?_⟩
    rcases List.mem_cons.mp hy with h | h
    · exact ⟨_, by simp, h ▸ p⟩
    · obtain ⟨a, ha, hp⟩ := h2 y h
      exact ⟨a, by simp [ha], hp⟩
theorem row_dic {B cc : Nat} {M M' : Store} {cols : List Str} {row : List Int} {y : Va} {l0 : List Va} (h : RowAt B M cols row y) (hc : M.c cc = some (.lst l0)) (x : Kx [cc] M M') : ∃ d, y = .cel d ∧ DicC B M' d := by
  obtain ⟨d, l, e, h1, h2, h3, h4⟩ := h
  exact ⟨d, e, h1, Nat.lt_of_lt_of_le h2 x.nx, l, x.get h2 (by simp; intro q; subst q; rw [hc] at h3; cases h3) h3⟩
theorem kind_kc {B cc : Nat} {M M' : Store} {cols : List Str} {F : Int} {m : Nat} {k : Kd} {y : Va} {l1 : List Va} (h : KindAt B M cols k y) (ok : KdOk m F k) (hc : M.c cc = some (.lst (cols.map Va.str))) (x : Kx [cc] M M') (hc' : M'.c cc = some (.lst l1)) : KC 50 B M' y := by
  obtain ⟨si, ti, ds, e, h1, h2, h3, h4, h5, h6, h7⟩ := h
  obtain ⟨ln, mm⟩ := al2_mem h6
  have ne : si ≠ cc := by
    intro q
    subst q
    rw [hc] at h5
    obtain ⟨rest, hr⟩ := ok.st
    rw [hr] at h6
    have e5 : cols.map Va.str = ds := by injection h5 with h5; injection h5
    cases h6 with
    | cons p t =>
      obtain ⟨d, l, e, _⟩ := p
      subst e
      cases cols with
      | nil => simp at e5
      | cons a r => simp at e5
  refine ⟨k.1, si, ti, e, ⟨h1, Nat.lt_of_lt_of_le h2 x.nx, ds, x.get h2 (by simpa using ne) h5, by have := ok.n1; omega, fun y hy => ?_⟩, h3, Nat.lt_of_lt_of_le h4 x.nx, ?_⟩
  · obtain ⟨a, _, p⟩ := mm y hy
    exact row_dic p hc x
  · by_cases q : ti = cc
    · subst q; exact ⟨_, hc'⟩
    · exact ⟨_, x.get h4 (by simpa using q) h7⟩
end Lw

set_option Elab.async false
set_option linter.all false
set_option maxRecDepth 100000
set_option maxHeartbeats 2000000
set_option exponentiation.threshold 3000
namespace Lw
open PySem L2 PV
theorem asg_tup {e : SE} {ts : List Tgt} {s s1 : SL} {M M1 : Store} {l : List Va} (h : e s M = some (.val (.tup l), M1)) (ht : tgAll ts l s M1 = some s1) : sAsg e (tgTup ts) s M = some (.nx, s1, M1) := by
  unfold sAsg sE
  rw [h]
  dsimp only
  rw [x_tgTup, ht]
theorem plan {M : Store} {w b : Nat} {D : Dat} {F : Int} (ok : D.Ok F) (h : Wl M w b) (hb : b < 2 ^ 37) : ∃ (p : Nat) (M' : Store), c__law_plan [.cel w, D.va] M = some (.val (.cel p), M') ∧ M.nx ≤ p ∧ p < M'.nx ∧ M'.c p = some (.ins 0 (planF D)) ∧ Wl M' w (b + 5000) ∧ Kp M M' w := by
  have hw := h.lt
  obtain ⟨cc, kc, hc, M1, e1, H, w1, k1⟩ := handed D F ok h hb
  obtain ⟨M2, e2, p2, x2, l2⟩ := make ok H
  obtain ⟨ys, y1, y2⟩ := id H.k1
  obtain ⟨zs, z1, z2⟩ := id H.h1
  have hkb := H.kb
  obtain ⟨lB, lc, lh0, lh, lw⟩ := H.lt
  have hne := H.ne
  let l1 := D.cols.map Va.str ++ [.str "Late"]
  let M3 := M2.put cc (.lst l1)
  have x3 : Kx [cc] M1 M3 := (x2.mono (by simp)).trans (Kx.put (by simp))
  have c3 : M3.c cc = some (.lst l1) := put_same
  have kcl : kc < M1.nx := by omega
  have y3 : M3.c kc = some (.lst ys) := x3.get kcl (by simp; omega) y1
  have z3 : M3.c hc = some (.lst zs) := x3.get lh (by simp; omega) z1
  obtain ⟨yl, ym⟩ := al2_mem y2
  obtain ⟨zl, zm⟩ := al2_mem z2
  have kcs : ∀ y ∈ ys, KC 50 (M.nx + 1) M3 y := fun y hy => by
    obtain ⟨k, hk, q⟩ := ym y hy
    exact kind_kc q (ok.kd k hk) H.c1 x3 c3
  have hcs : StC 20 (M.nx + 1) M3 hc := ⟨lh0, Nat.lt_of_lt_of_le lh x3.nx, zs, z3, by have := ok.hl; omega, fun y hy => by
    obtain ⟨r, _, q⟩ := zm y hy
    exact row_dic q H.c1 x3⟩
  have hyl : ys.length ≤ 20 := by have := ok.kl; omega
  have nx3 : M.nx + 1 ≤ M3.nx := Nat.le_trans (by omega) x3.nx
  obtain ⟨s7, s8, s9, s10, M4, e4, t4⟩ := ploop (B := M.nx + 1) (kc := kc) (ys0 := ys) (s0 := some (.cel w)) (s1 := some D.va) (s2 := some (.cel M1.nx)) (s3 := none) (s4 := some (.cel cc)) (s5 := some (.cel kc)) (s6 := some (.cel hc)) (by omega) ys 50 M3 none none none none kcs (by omega) nx3 y3
  obtain ⟨ha, hbb, ds, hd, hdl, hdq⟩ := t4.st hc 20 hcs
  obtain ⟨s', M5, e5, hs', t5, c5⟩ := clear_loop (B := M.nx + 1) (cn := hc) (t := 3) (ds0 := ds) ds [some (.cel w), some D.va, some (.cel M1.nx), none, some (.cel cc), some (.cel kc), some (.cel hc), s7, s8, s9, s10] M4 (fun x s' N ⟨o, ho⟩ => by rw [ho]; rfl) hdq hd
  have hs2 : ∃ o, s' = [some (.cel w), some D.va, some (.cel M1.nx), o, some (.cel cc), some (.cel kc), some (.cel hc), s7, s8, s9, s10] := by
    rcases hs' with h | ⟨x, h⟩
    · exact ⟨_, h⟩
    · exact ⟨_, h⟩
  obtain ⟨o, rfl⟩ := hs2
  have t45 := t4.trans t5
  have kl3 : kc < M3.nx := by omega
  have y5 : M5.c kc = some (.lst ys) := (t45.low kc kl3 (by omega)).trans y3
  let M6 := M5.put kc (.lst [])
  let M7 := M6.new (.dic [])
  let M8 := M7.put hc (.lst (ds ++ [.cel M5.nx]))
  have nh : hc < M5.nx := Nat.lt_of_lt_of_le hbb t5.nx
  have c6 : M6.c hc = some (.lst ds) := (put_ne (by omega)).trans c5
  have c7 : M7.c hc = some (.lst ds) := (new_ne (M := M6) (Nat.ne_of_lt nh)).trans c6
  have x58 : Kx [kc, hc] M5 M8 := ((Kx.put (by simp)).trans Kx.new).trans (Kx.put (by simp))
  have low : ∀ n, n < M.nx → M8.c n = M1.c n := fun n hn => by
    have n1 : n < M1.nx := by omega
    have n3 : n < M3.nx := by omega
    rw [x58.kp n (Nat.lt_of_lt_of_le n3 t45.nx) (by simp; omega), t45.low n n3 (by omega), x3.kp n n1 (by simp; omega)]
  have pl3 : M1.nx < M3.nx := l2
  have p3 : M3.c M1.nx = some (.ins 0 (planF D)) := (put_ne (by omega)).trans p2
  have p5 := t45.ins _ _ _ pl3 p3
  have pl5 : M1.nx < M5.nx := Nat.lt_of_lt_of_le pl3 t45.nx
  have nx8 : M5.nx ≤ M8.nx := x58.nx
  refine ⟨M1.nx, M8, ?_, k1.nx, by omega, x58.get pl5 (by simp; omega) p5, ?_, ⟨by omega, fun n hn hnw => (low n hn).trans (k1.kp n hn hnw)⟩⟩
  · unfold c__law_plan runF m__law_plan
    rw [show startI 11 [Va.cel w, D.va] = [some (.cel w), some D.va, none, none, none, none, none, none, none, none, none] from rfl]
    refine end_ret (s1 := [some (.cel w), some D.va, some (.cel M1.nx), o, some (.cel cc), some (.cel kc), some (.cel hc), s7, s8, s9, s10]) (v := .cel M1.nx) (M1 := M8) ?_
    refine seq_nx (s1 := [some (.cel w), some D.va, none, none, some (.cel cc), some (.cel kc), some (.cel hc), none, none, none, none]) (M1 := M1) (asg_tup (l := [.cel cc, .cel kc, .cel hc]) ?_ rfl) (seq_nx (s1 := [some (.cel w), some D.va, some (.cel M1.nx), none, some (.cel cc), some (.cel kc), some (.cel hc), none, none, none, none]) (M1 := M2) (set_val (v := .cel M1.nx) ?_) (seq_nx (s1 := [some (.cel w), some D.va, some (.cel M1.nx), none, some (.cel cc), some (.cel kc), some (.cel hc), none, none, none, none]) (M1 := M3) (drop_val (v := .non) ?_) (seq_nx (M1 := M4) (for_it (M1 := M3) (l := ys) (chk := fun N => lstOf N (.cel kc) = some ys) ?_ e4) (seq_nx (M1 := M5) (for_it (M1 := M4) (l := ds) (chk := fun N => lstOf N (.cel hc) = some ds) ?_ e5) (seq_nx (s1 := [some (.cel w), some D.va, some (.cel M1.nx), o, some (.cel cc), some (.cel kc), some (.cel hc), s7, s8, s9, s10]) (M1 := M6) (drop_val (v := .non) ?_) (seq_nx (s1 := [some (.cel w), some D.va, some (.cel M1.nx), o, some (.cel cc), some (.cel kc), some (.cel hc), s7, s8, s9, s10]) (M1 := M8) (drop_val (v := .non) ?_) (ret_val rfl)))))))
    · rw [x_L, x_cons, show ∀ N, evVar 0 [some (Va.cel w), some D.va, none, none, none, none, none, none, none, none, none] N = some (.val (.cel w), N) from fun _ => rfl, bindO_val, x_cons, show ∀ N, evVar 1 [some (Va.cel w), some D.va, none, none, none, none, none, none, none, none, none] N = some (.val D.va, N) from fun _ => rfl, bindO_val, x_nil, bindO_val, bindO_val, bindO_val]
      dsimp only
      rw [x_kFn, if_pos (show [Va.cel w, D.va].length = 2 from rfl), e1]
    · rw [← e2]; rfl
    · rw [x_M2, show ∀ N, evVar 4 [some (Va.cel w), some D.va, some (.cel M1.nx), none, some (.cel cc), some (.cel kc), some (.cel hc), none, none, none, none] N = some (.val (.cel cc), N) from fun _ => rfl, bindO_val]
      have q2 : M2.c cc = some (.lst (D.cols.map Va.str)) := x2.get lc (by simp) H.c1
      have hT : isLstA M2 (.cel cc) = true := by
        unfold isLstA; rw [y_lstC, q2]; rfl
      have hlt : D.cols.length < 16777216 := by have := ok.cl; omega
      rw [if_pos hT]
      simp [q2, cAppend, hlt, M3, l1]
    · rw [z_itA, show ∀ N, evVar 5 [some (Va.cel w), some D.va, some (.cel M1.nx), none, some (.cel cc), some (.cel kc), some (.cel hc), none, none, none, none] N = some (.val (.cel kc), N) from fun _ => rfl, z_anyC, y3]
    · rw [z_itA, show ∀ N, evVar 6 [some (Va.cel w), some D.va, some (.cel M1.nx), none, some (.cel cc), some (.cel kc), some (.cel hc), s7, s8, s9, s10] N = some (.val (.cel hc), N) from fun _ => rfl, z_anyC, hd]
    · unfold evClear
      rw [show ∀ N, evVar 5 [some (Va.cel w), some D.va, some (.cel M1.nx), o, some (.cel cc), some (.cel kc), some (.cel hc), s7, s8, s9, s10] N = some (.val (.cel kc), N) from fun _ => rfl, bindO_val]
      unfold kClear
      dsimp only
      rw [y5]
    · rw [x_M2, show ∀ N, evVar 6 [some (Va.cel w), some D.va, some (.cel M1.nx), o, some (.cel cc), some (.cel kc), some (.cel hc), s7, s8, s9, s10] N = some (.val (.cel hc), N) from fun _ => rfl, bindO_val]
      have hT : isLstA M6 (.cel hc) = true := by
        unfold isLstA; rw [y_lstC, c6]; rfl
      rw [if_pos hT, x_cons]
      unfold evDNew
      rw [bindO_val, x_nil, bindO_val, bindO_val]
      dsimp only
      show kMut cAppend (.cel hc) [.cel M5.nx] M7 = some (.val .non, M8)
      have hlt : ds.length < 16777216 := by omega
      rw [x_kMut, c7]
      simp [cAppend, hlt, M8]
  · obtain ⟨⟨x, y, z, g1, g2, g3, g4, g5⟩, g6⟩ := w1
    exact ⟨⟨x, y, z, (low w hw).trans g1, g2, g3, g4, g5⟩, by omega⟩
end Lw

set_option Elab.async false
set_option linter.all false
set_option maxRecDepth 100000
set_option maxHeartbeats 2000000
set_option exponentiation.threshold 3000
namespace Lw
open PySem L2 PV
theorem al2_mem0' {α β : Type} {P : α → β → Prop} : ∀ {l : List α} {m : List β}, Al2 P l m → (l.length = m.length ∧ ∀ y ∈ m, ∃ a ∈ l, P a y)
  | _, _, .nil => ⟨rfl, fun _ h => nomatch h⟩
  | _, _, .cons p t => by
    obtain ⟨h1, h2⟩ := al2_mem0' t
    refine ⟨by simp [h1], fun y hy => ?_⟩
    rcases List.mem_cons.mp hy with h | h
    · exact ⟨_, by simp, h ▸ p⟩
    · obtain ⟨a, ha, hp⟩ := h2 y h
      exact ⟨a, by simp [ha], hp⟩
/-! ### data, and what is handed in, as they are shown -/
def rowPd (ns : List Int) : PyData := .list (ns.map PyData.int)
def stPd (t : Str × Int × Int) : PyData := .tuple [.str t.1, .int t.2.1, .int t.2.2]
def kdPd (k : Kd) : PyData := .tuple [.str k.1, .list (k.2.1.map rowPd), .list (k.2.2.map stPd)]
def colsPd (D : Dat) : PyData := .list (D.cols.map PyData.str)
def kindsPd (D : Dat) : PyData := .list (D.kinds.map kdPd)
def checksPd (D : Dat) : PyData := .list (D.checks.map rowPd)
theorem ints_reads {M : Store} : ∀ ns : List Int, PdRs M (ns.map Va.int) (ns.map PyData.int)
  | [] => .nil
  | n :: ns => .cons (.int n) (ints_reads ns)
theorem row_reads {M : Store} (ns : List Int) : PdR M (rowV ns) (rowPd ns) := .lst rfl (ints_reads ns)
theorem rows_reads {M : Store} : ∀ rs : List (List Int), PdRs M (rs.map rowV) (rs.map rowPd)
  | [] => .nil
  | r :: rs => .cons (row_reads r) (rows_reads rs)
theorem sts_reads {M : Store} : ∀ ts : List (Str × Int × Int), PdRs M (ts.map stV) (ts.map stPd)
  | [] => .nil
  | t :: ts => .cons (.tup (.cons (.str _) (.cons (.int _) (.cons (.int _) .nil)))) (sts_reads ts)
theorem Nm.sm {z : Str} (h : Nm z) : Sm 8 0 (.str z) := Sm.str (fun c hc => by have := h.2.2 c hc; omega) h.2.1
theorem row_sm {m : Nat} {F : Int} {ns : List Int} (h : RowOk m F ns) (hm : m ≤ 20) (hF : F < 2 ^ 40) : Sm 820 1 (rowPd ns) :=
  Sm.list (W := 40) (dp := 0) (n := 20) (fun d hd => by
    obtain ⟨n, hn, rfl⟩ := List.mem_map.mp hd
    have := h.2 n hn
    exact Sm.int (by omega) (by omega)) (by rw [List.length_map, h.1]; exact hm) (by decide)
theorem st_sm {n : Int} {l : List (Str × Int × Int)} (h : Sts n l) (hn : n ≤ 63) : ∀ d ∈ l.map stPd, Sm 23 1 d := fun d hd => by
  obtain ⟨t, ht, rfl⟩ := List.mem_map.mp hd
  obtain ⟨h1, h2, h3, h4, h5⟩ := h.ok t ht
  exact Sm.tup3 h1.sm (Sm.int (w := 6) (by omega) (by omega)) (Sm.int (w := 6) (by omega) (by omega)) (by decide)
theorem kd_sm {m : Nat} {F : Int} {k : Kd} (h : KdOk m F k) (hm : m ≤ 20) (hF : F < 2 ^ 40) : Sm 42261 3 (kdPd k) := by
  have hn1 := h.n1
  refine Sm.tup3 (W1 := 8) (W2 := 41050) (W3 := 1200) (dp := 2) (h.nm.sm.mono (Nat.le_refl _) (by decide)) (Sm.list (W := 820) (n := 50) (dp := 1) (fun d hd => ?_) (by rw [List.length_map]; exact h.n1) (by decide)) (Sm.list (W := 23) (n := 50) (dp := 1) (st_sm h.sts (by omega)) (by rw [List.length_map]; exact h.n2) (by decide)) (by decide)
  obtain ⟨r, hr, rfl⟩ := List.mem_map.mp hd
  exact row_sm (h.row r hr) hm hF
theorem cols_sm {D : Dat} {F : Int} (ok : D.Ok F) : Sm 1048570 60 (colsPd D) := (Sm.list (W := 8) (dp := 0) (n := 20) (W' := 180) (fun d hd => by
  obtain ⟨z, hz, rfl⟩ := List.mem_map.mp hd
  exact (ok.cn z hz).sm) (by rw [List.length_map]; exact ok.cl) (by decide)).mono (by decide) (by decide)
theorem kinds_sm {D : Dat} {F : Int} (ok : D.Ok F) (hF : F < 2 ^ 40) : Sm 1048570 60 (kindsPd D) := (Sm.list (W := 42261) (dp := 3) (n := 20) (W' := 845240) (fun d hd => by
  obtain ⟨z, hz, rfl⟩ := List.mem_map.mp hd
  exact kd_sm (ok.kd z hz) ok.cl hF) (by rw [List.length_map]; exact ok.kl) (by decide)).mono (by decide) (by decide)
theorem checks_sm {D : Dat} {F : Int} (ok : D.Ok F) (hF : F < 2 ^ 40) : Sm 1048570 60 (checksPd D) := (Sm.list (W := 820) (dp := 1) (n := 20) (W' := 16420) (fun d hd => by
  obtain ⟨z, hz, rfl⟩ := List.mem_map.mp hd
  exact row_sm (ok.ck z hz) ok.cl hF) (by rw [List.length_map]; exact ok.hl) (by decide)).mono (by decide) (by decide)
theorem row_shaped (ns : List Int) : (rowPd ns).canLay0 = true ∧ (rowPd ns).depth ≤ 1 := by
  have h := PySem.W.ke_shaped_ints ns
  refine ⟨SeqAt.canLay_of_shaped h, ?_⟩
  unfold rowPd
  simp only [PyData.depth]
  have : ∀ ns : List Int, PyData.depthAll (ns.map PyData.int) = 0 := fun ns => by
    induction ns with
    | nil => rfl
    | cons n ns ih => simp [PyData.depthAll, PyData.depth, ih]
  rw [this]; exact Nat.le_refl _
theorem rows_shaped (rs : List (List Int)) : SeqAt.shaped (.list (rs.map rowPd)) = true := by
  have h : PyData.canLayAll0 (rs.map rowPd) = true ∧ PyData.depthAll (rs.map rowPd) ≤ 1 := by
    induction rs with
    | nil => exact ⟨rfl, by simp [PyData.depthAll]⟩
    | cons r rs ih =>
      obtain ⟨a1, a2⟩ := row_shaped r
      refine ⟨by simp only [List.map_cons, PyData.canLayAll0, a1, ih.1, Bool.and_self], ?_⟩
      simp only [List.map_cons, PyData.depthAll]
      have := ih.2
      omega
  have hd := h.2
  unfold SeqAt.shaped
  simp only [PyData.canLay0, h.1, PyData.depth, Bool.true_and]
  exact decide_eq_true (by omega)
/-! ### == of data -/
theorem eqvAll_dec {α : Type} [DecidableEq α] {f : α → PyData} (h : ∀ a b, PyData.eqv (f a) (f b) = decide (a = b)) : ∀ xs ys : List α, PyData.eqvAll (xs.map f) (ys.map f) = decide (xs = ys)
  | [], [] => by simp [PyData.eqvAll]
  | [], _ :: _ => by simp [PyData.eqvAll]
  | _ :: _, [] => by simp [PyData.eqvAll]
  | x :: xs, y :: ys => by
    simp only [List.map_cons, PyData.eqvAll, h, eqvAll_dec h xs ys]
    by_cases e : x = y <;> by_cases e2 : xs = ys <;> simp [e, e2]
theorem beq_dec {α : Type} [DecidableEq α] [BEq α] [LawfulBEq α] (a b : α) : (a == b) = decide (a = b) := by
  by_cases h : a = b
  · subst h; simp
  · simp [h]
theorem eqv_str (a b : Str) : PyData.eqv (.str a) (.str b) = decide (a = b) := by simp [PyData.eqv, beq_dec]
theorem eqv_int (a b : Int) : PyData.eqv (.int a) (.int b) = decide (a = b) := by simp [PyData.eqv, beq_dec]
theorem eqv_row (a b : List Int) : PyData.eqv (rowPd a) (rowPd b) = decide (a = b) := by
  unfold rowPd
  simp only [PyData.eqv]
  exact eqvAll_dec eqv_int a b
theorem eqv_st (a b : Str × Int × Int) : PyData.eqv (stPd a) (stPd b) = decide (a = b) := by
  obtain ⟨a1, a2, a3⟩ := a
  obtain ⟨b1, b2, b3⟩ := b
  simp [stPd, PyData.eqv, PyData.eqvAll, beq_dec]
theorem eqv_kd (a b : Kd) : PyData.eqv (kdPd a) (kdPd b) = decide (a = b) := by
  obtain ⟨a1, a2, a3⟩ := a
  obtain ⟨b1, b2, b3⟩ := b
  have h1 := eqvAll_dec eqv_row a2 b2
  have h2 := eqvAll_dec eqv_st a3 b3
  simp [kdPd, PyData.eqv, PyData.eqvAll, h1, h2, beq_dec]
theorem st_lay {t : Str × Int × Int} (h : PyData.strOk t.1 = true) : (stPd t).canLay0 = true ∧ (stPd t).depth ≤ 1 := by
  simp [stPd, PyData.canLay0, PyData.canLayAll0, PyData.depth, PyData.depthAll, h]
theorem lay_all {n : Nat} {ds : List PyData} (h : ∀ d ∈ ds, d.canLay0 = true ∧ d.depth ≤ n) : PyData.canLayAll0 ds = true ∧ PyData.depthAll ds ≤ n := by
  induction ds with
  | nil => exact ⟨rfl, by simp [PyData.depthAll]⟩
  | cons d ds ih =>
    obtain ⟨a1, a2⟩ := h d (by simp)
    obtain ⟨b1, b2⟩ := ih fun e he => h e (by simp [he])
    refine ⟨by simp only [PyData.canLayAll0, a1, b1, Bool.and_self], ?_⟩
    simp only [PyData.depthAll]; omega
theorem kd_lay {m : Nat} {F : Int} {k : Kd} (h : KdOk m F k) : (kdPd k).canLay0 = true ∧ (kdPd k).depth ≤ 3 := by
  obtain ⟨r1, r2⟩ := lay_all (n := 1) (ds := k.2.1.map rowPd) fun d hd => by
    obtain ⟨r, _, rfl⟩ := List.mem_map.mp hd
    exact row_shaped r
  obtain ⟨s1, s2⟩ := lay_all (n := 1) (ds := k.2.2.map stPd) fun d hd => by
    obtain ⟨t, ht, rfl⟩ := List.mem_map.mp hd
    exact st_lay (h.sts.ok t ht).1.ok
  refine ⟨by simp only [kdPd, PyData.canLay0, PyData.canLayAll0, h.nm.ok, r1, s1, Bool.and_self], ?_⟩
  simp only [kdPd, PyData.depth, PyData.depthAll]
  omega
theorem kinds_shaped {ks : List Kd} {m : Nat} {F : Int} (h : ∀ k ∈ ks, KdOk m F k) : SeqAt.shaped (.list (ks.map kdPd)) = true := by
  obtain ⟨r1, r2⟩ := lay_all (n := 3) (ds := ks.map kdPd) fun d hd => by
    obtain ⟨r, hr, rfl⟩ := List.mem_map.mp hd
    exact kd_lay (h r hr)
  unfold SeqAt.shaped
  simp only [PyData.canLay0, r1, PyData.depth, Bool.true_and]
  exact decide_eq_true (by omega)
theorem eq_lists {M : Store} {x y : Va} {ds es : List PyData} (hx : PdR M x (.list ds)) (hy : PdR M y (.list es)) (h1 : SeqAt.shaped (.list ds) = true) (h2 : SeqAt.shaped (.list es) = true) (hs : eqS x y = none) : opEq M x y = some (.bl (PyData.eqvAll ds es)) ∧ opNe M x y = some (.bl (!PyData.eqvAll ds es)) := by
  have : eqP M x y = some (PyData.eqvAll ds es) := by
    unfold eqP
    rw [pdOf_eq hx, pdOf_eq hy]
    dsimp only
    rw [if_pos ⟨h1, h2⟩]
    simp only [PyData.eqv]
  unfold opEq opNe
  rw [hs, this]
  exact ⟨rfl, rfl⟩
theorem kinds_reads {M : Store} : ∀ ks : List Kd, PdRs M (ks.map kdV) (ks.map kdPd)
  | [] => .nil
  | k :: ks => .cons (.tup (.cons (.str _) (.cons (.lst rfl (rows_reads _)) (.cons (.lst rfl (sts_reads _)) .nil)))) (kinds_reads ks)
end Lw

set_option Elab.async false
set_option linter.all false
set_option maxRecDepth 100000
set_option maxHeartbeats 2000000
set_option exponentiation.threshold 3000
namespace Lw
open PySem L2 PV
/-! ### deeds, and what they do -/
/-- a part: its kind, amount and state -/
abbrev Part := Nat × Int × Int
def ptV (p : Part) : Va := .tup [.int (p.1 : Nat), .int p.2.1, .int p.2.2]
abbrev Here := List Part × List Int
def hereV (h : Here) : Va := .tup [.lst (h.1.map ptV), rowV h.2]
inductive Deed
  | new (z : Str) (a : Int)
  | step (i : Int) (z : Str)
def Deed.va : Deed → Va
  | .new z a => .tup [.str "new", .str z, .int a]
  | .step i z => .tup [.str "step", .int i, .str z]
def valR : List Int → List Int → Int
  | f :: fs, c :: cs => f * c + valR fs cs
  | _, _ => 0
def movR (a : Int) : List Int → List Int → List Int → List Int
  | s :: ss, o :: os, n :: ns => (s + a * (n - o)) :: movR a ss os ns
  | _, _, _ => []
theorem movR_len (a : Int) : ∀ {ss os ns : List Int}, os.length = ss.length → ns.length = ss.length → (movR a ss os ns).length = ss.length
  | [], _, _, _, _ => by unfold movR; rfl
  | s :: ss, [], _, h, _ => by cases h
  | s :: ss, _ :: _, [], _, h => by cases h
  | s :: ss, o :: os, n :: ns, h1, h2 => by
    simp only [List.length_cons, Nat.add_right_cancel_iff] at h1 h2
    unfold movR
    rw [List.length_cons, movR_len a h1 h2, List.length_cons]
/-- where the step of this name leads from this state -/
def tgtR (z : Str) (s : Int) : List (Str × Int × Int) → Option Int
  | [] => none
  | t :: ts => if t.1 = z ∧ t.2.1 = s then some t.2.2 else tgtR z s ts
theorem tgtR_ok {size : Int} {z : Str} {s e : Int} : ∀ {ts : List (Str × Int × Int)}, (∀ t ∈ ts, 0 ≤ t.2.2 ∧ t.2.2 < size) → tgtR z s ts = some e → 0 ≤ e ∧ e < size
  | [], _, h => by cases h
  | t :: ts, ok, h => by
    unfold tgtR at h
    split at h
    · cases h; exact ok t (by simp)
    · exact tgtR_ok (fun t ht => ok t (by simp [ht])) h
def rowR (rs : List (List Int)) (s : Int) : List Int := rs.getD s.toNat []
theorem rowR_at {rs : List (List Int)} {s : Int} (h0 : 0 ≤ s) (h : s < rs.length) : atI (rs.map rowV) s = some (rowV (rowR rs s)) ∧ rowR rs s ∈ rs := by
  obtain ⟨x, e, _, hx⟩ := at_nat (l := rs.map rowV) h0 (by rw [List.length_map]; exact h)
  have hl : s.toNat < rs.length := by omega
  have : rs[s.toNat]? = some rs[s.toNat] := List.getElem?_eq_getElem hl
  rw [List.getElem?_map, this] at hx
  have hr : rowR rs s = rs[s.toNat] := by unfold rowR; rw [List.getD_eq_getElem?_getD, this]; rfl
  cases hx
  exact ⟨by rw [e, hr], by rw [hr]; exact List.getElem_mem hl⟩
def below (D : Dat) (m : List Int) : Bool := D.checks.any fun f => decide (valR f m < 0)
def aft (D : Dat) (h : Here) : Deed → Option Here
  | .new z a => if 1 ≤ a then (idxS z (D.kinds.map (·.1))).map fun k => (h.1 ++ [(k, a, 0)], h.2) else none
  | .step i z => if 0 ≤ i ∧ i < h.1.length then (match h.1[i.toNat]? with
    | some (k, a, s) => (match D.kinds[k]? with
      | some kd => (match tgtR z s kd.2.2 with
        | some e => if below D (movR a h.2 (rowR kd.2.1 s) (rowR kd.2.1 e)) = true then none else some (h.1.set i.toNat (k, a, e), movR a h.2 (rowR kd.2.1 s) (rowR kd.2.1 e))
        | none => none)
      | none => none)
    | none => none) else none
structure HOk (D : Dat) (h : Here) : Prop where
  sm : h.2.length = D.cols.length
  pt : ∀ p ∈ h.1, ∃ kd, D.kinds[p.1]? = some kd ∧ 0 ≤ p.2.2 ∧ p.2.2 < kd.2.1.length
def here0 (D : Dat) : Here := ([], List.replicate D.cols.length 0)
theorem here0_ok {D : Dat} : HOk D (here0 D) := ⟨by simp [here0], fun _ h => nomatch h⟩
theorem aft_ok {D : Dat} {F : Int} {h h' : Here} {d : Deed} (ok : D.Ok F) (hk : HOk D h) (e : aft D h d = some h') : HOk D h' ∧ h'.1.length ≤ h.1.length + 1 := by
  cases d with
  | new z a =>
    unfold aft at e
    dsimp only at e
    split at e
    · cases q : idxS z (D.kinds.map (·.1)) with
      | none => rw [q] at e; cases e
      | some k =>
        rw [q] at e
        cases e
        refine ⟨⟨hk.sm, fun p hp => ?_⟩, by simp⟩
        rcases List.mem_append.mp hp with hp | hp
        · exact hk.pt p hp
        · rw [List.mem_singleton.mp hp]
          have hg := (idxS_get q).1
          rw [List.getElem?_map] at hg
          cases q2 : D.kinds[k]? with
          | none => rw [q2] at hg; cases hg
          | some kd =>
            have hm := List.mem_of_getElem? q2
            obtain ⟨r, hr⟩ := (ok.kd kd hm).st
            exact ⟨kd, rfl, Int.le_refl _, by rw [hr, List.length_cons]; show (0 : Int) < _; omega⟩
    · cases e
  | step i z =>
    unfold aft at e
    dsimp only at e
    split at e
    · rename_i hi
      cases q : h.1[i.toNat]? with
      | none => rw [q] at e; cases e
      | some p =>
        obtain ⟨k, a, s⟩ := p
        rw [q] at e
        dsimp only at e
        obtain ⟨kd, hkd, s0, s1⟩ := hk.pt _ (List.mem_of_getElem? q)
        dsimp only at hkd s0 s1
        rw [hkd] at e
        dsimp only at e
        cases q2 : tgtR z s kd.2.2 with
        | none => rw [q2] at e; cases e
        | some t =>
          rw [q2] at e
          dsimp only at e
          have kok := ok.kd kd (List.mem_of_getElem? hkd)
          obtain ⟨t0, t1⟩ := tgtR_ok (size := kd.2.1.length) (fun t ht => by
            obtain ⟨_, _, _, a, b⟩ := kok.sts.ok t ht
            exact ⟨a, b⟩) q2
          split at e
          · cases e
          · cases e
            have r1 := (kok.row _ (rowR_at s0 s1).2).1
            have r2 := (kok.row _ (rowR_at t0 t1).2).1
            refine ⟨⟨by rw [movR_len a (by rw [r1, hk.sm]) (by rw [r2, hk.sm])]; exact hk.sm, fun p hp => ?_⟩, by simp⟩
            rcases List.mem_or_eq_of_mem_set hp with hp | hp
            · exact hk.pt p hp
            · rw [hp]; exact ⟨kd, hkd, t0, t1⟩
    · cases e
/-- deed by deed -/
def runs (D : Dat) : Here → List Deed → Option Here
  | h, [] => some h
  | h, d :: ds => match aft D h d with
    | some h' => runs D h' ds
    | none => none
theorem runs_append (D : Dat) : ∀ (ds es : List Deed) (h : Here), runs D h (ds ++ es) = (match runs D h ds with | some h' => runs D h' es | none => none)
  | [], _, _ => rfl
  | d :: ds, es, h => by
    show (match aft D h d with | some h' => runs D h' (ds ++ es) | none => none) = (match (match aft D h d with | some h' => runs D h' ds | none => none) with | some h' => runs D h' es | none => none)
    cases aft D h d with
    | none => rfl
    | some h' => exact runs_append D ds es h'
def isR (D : Dat) (ds : List Deed) : Bool := (runs D (here0 D) ds).isSome
theorem isR_nil {D : Dat} : isR D [] = true := rfl
theorem isR_pre {D : Dat} {ds es : List Deed} (h : isR D (ds ++ es) = true) : isR D ds = true := by
  unfold isR at *
  rw [runs_append] at h
  cases q : runs D (here0 D) ds with
  | none => rw [q] at h; cases h
  | some x => rfl
theorem isR_bad {D : Dat} {ds es : List Deed} (h : isR D ds = false) : isR D (ds ++ es) = false := by
  cases q : isR D (ds ++ es) with
  | false => rfl
  | true => rw [isR_pre q] at h; cases h
theorem runs_ok {D : Dat} {F : Int} (ok : D.Ok F) : ∀ {ds : List Deed} {h h' : Here}, HOk D h → runs D h ds = some h' → HOk D h'
  | [], _, _, hk, e => by cases e; exact hk
  | d :: ds, h, h', hk, e => by
    unfold runs at e
    cases q : aft D h d with
    | none => rw [q] at e; cases e
    | some x =>
      rw [q] at e
      exact runs_ok ok (aft_ok ok hk q).1 e
end Lw

set_option Elab.async false
set_option linter.all false
set_option maxRecDepth 100000
set_option maxHeartbeats 4000000
set_option exponentiation.threshold 3000
namespace Lw
open PySem L2 PV
theorem call2 {f : FM} {a b : SE} {s : SL} {M M1 M2 : Store} {x y : Va} {r : Res} (ha : a s M = some (.val x, M1)) (hb : b s M1 = some (.val y, M2)) (hf : f [x, y] M2 = r) : evL (kFn 2 f) (evCons a (evCons b evNil)) s M = r := by
  rw [x_L, x_cons, ha, bindO_val, x_cons, hb, bindO_val, x_nil, bindO_val, bindO_val, bindO_val]
  dsimp only
  rw [x_kFn, if_pos (show [x, y].length = 2 from rfl), hf]
theorem fld_at {M : Store} {n c : Nat} {fs : List (Str × Va)} {f : Str} {v : Va} (h : M.c n = some (.ins c fs)) (hl : fs.lookup f = some v) : opFld c f M (.cel n) = some v := by
  unfold opFld
  dsimp only
  rw [h]
  dsimp only
  rw [if_pos rfl]
  exact hl
theorem ix_nat {α : Type} {l : List α} {n : Nat} {x : α} (h : l[n]? = some x) : atI l (n : Nat) = some x := by
  have hl : n < l.length := by
    by_cases q : n < l.length
    · exact q
    · rw [List.getElem?_eq_none (by omega)] at h; cases h
  obtain ⟨y, q1, _, q2⟩ := at_nat (l := l) (Int.natCast_nonneg n) (by omega)
  rw [Int.toNat_natCast, h] at q2
  cases q2
  exact q1
structure SmB (B W dp : Nat) (d : PyData) : Prop where
  sh : d.showable = true
  lf : d.leavesShort B = true
  wt : d.weight ≤ W
  dp : d.depth ≤ dp
theorem SmB.mono {B W W' dp dp' : Nat} {d : PyData} (h : SmB B W dp d) (h1 : W ≤ W') (h2 : dp ≤ dp') : SmB B W' dp' d := ⟨h.sh, h.lf, Nat.le_trans h.wt h1, Nat.le_trans h.dp h2⟩
theorem SmB.int {B k w : Nat} {n : Int} (hk : 1 ≤ k) (hk2 : k + 1 ≤ B) (hw : w ≤ 1920) (h : n.natAbs < 10 ^ k) (h2 : n.natAbs < 2 ^ w) : SmB B w 0 (.int n) := by
  have hl : n.natAbs.log2 < 1920 := by
    by_cases z : n.natAbs = 0
    · rw [z]; decide
    · exact Nat.lt_of_lt_of_le ((Nat.log2_lt z).mpr h2) hw
  refine ⟨by simp only [PyData.showable]; exact decide_eq_true hl, ?_, ?_, by simp only [PyData.depth]; exact Nat.le_refl _⟩
  · simp only [PyData.leavesShort]
    refine decide_eq_true ?_
    have := nm_len (n := n) (k := k) hk h
    rw [← tl_len] at this
    exact Nat.le_trans this hk2
  · simp only [PyData.weight]
    by_cases z : n = 0
    · rw [if_pos (by simp [z])]; exact Nat.zero_le _
    · rw [if_neg (by simp [z])]
      have : n.natAbs.log2 < w := (Nat.log2_lt (by omega)).mpr h2
      omega
theorem SmB.str {B w : Nat} {z : Str} (h : ∀ c ∈ tl z, c < 256) (hl : z.length ≤ w) : SmB B w 0 (.str z) := by
  refine ⟨by simp only [PyData.showable], ?_, ?_, by simp only [PyData.depth]; exact Nat.le_refl _⟩
  · unfold PyData.leavesShort
    rw [List.all_eq_true]
    intro c hc
    have := h c hc
    exact decide_eq_true (by omega)
  · simp only [PyData.weight]; exact hl
theorem smB_all {B W dp : Nat} : ∀ {ds : List PyData}, (∀ d ∈ ds, SmB B W dp d) → PyData.showableAll ds = true ∧ PyData.leavesShortAll B ds = true ∧ PyData.weightAll ds ≤ ds.length * (W + 1) ∧ PyData.depthAll ds ≤ dp
  | [], _ => ⟨by simp only [PyData.showableAll], by simp only [PyData.leavesShortAll], by simp only [PyData.weightAll]; exact Nat.zero_le _, by simp only [PyData.depthAll]; exact Nat.zero_le _⟩
  | d :: ds, h => by
    obtain ⟨a1, a2, a3, a4⟩ := h d (by simp)
    obtain ⟨b1, b2, b3, b4⟩ := smB_all (ds := ds) fun e he => h e (by simp [he])
    refine ⟨by simp only [PyData.showableAll, a1, b1, Bool.and_self], by simp only [PyData.leavesShortAll, a2, b2, Bool.and_self], ?_, ?_⟩
    · simp only [PyData.weightAll, List.length_cons]
      rw [Nat.add_mul]; omega
    · simp only [PyData.depthAll]; omega
theorem SmB.list {B W W' dp n : Nat} {ds : List PyData} (h : ∀ d ∈ ds, SmB B W dp d) (hn : ds.length ≤ n) (hW : n * (W + 1) ≤ W') : SmB B W' (dp + 1) (.list ds) := by
  obtain ⟨a1, a2, a3, a4⟩ := smB_all h
  refine ⟨by simp only [PyData.showable]; exact a1, by simp only [PyData.leavesShort]; exact a2, ?_, by simp only [PyData.depth]; omega⟩
  simp only [PyData.weight]
  exact Nat.le_trans a3 (Nat.le_trans (Nat.mul_le_mul_right _ hn) hW)
theorem SmB.tup3 {B W1 W2 W3 W' dp : Nat} {a b c : PyData} (h1 : SmB B W1 dp a) (h2 : SmB B W2 dp b) (h3 : SmB B W3 dp c) (hW : W1 + W2 + W3 + 3 ≤ W') : SmB B W' (dp + 1) (.tuple [a, b, c]) := by
  obtain ⟨a1, a2, a3, a4⟩ := h1
  obtain ⟨b1, b2, b3, b4⟩ := h2
  obtain ⟨c1, c2, c3, c4⟩ := h3
  refine ⟨by simp only [PyData.showable, PyData.showableAll, a1, b1, c1, Bool.and_self], by simp only [PyData.leavesShort, PyData.leavesShortAll, a2, b2, c2, Bool.and_self], ?_, ?_⟩
  · simp only [PyData.weight, PyData.weightAll]; omega
  · simp only [PyData.depth, PyData.depthAll]; omega
theorem SmB.repr {B W dp : Nat} {M : Store} {x : Va} {d : PyData} (h : SmB B W dp d) (hB : 8 ≤ B) (hW : (B + 2) * W + B ≤ 16777216) (hd : dp ≤ 60) (r : PdR M x d) : kRepr [x] M = some (.val (.str d.shown), M) :=
  repr_of r h.sh (shown_ok hB h.lf h.wt hW) (Nat.le_trans h.dp hd)
def TxtOk (z : Str) : Prop := z.length ≤ 12 ∧ ∀ c ∈ tl z, c < 256
theorem eq_same {M : Store} {z : Str} : opEq M (.str z) (.str z) = some (.bl true) := by rw [y_eqS, show decide (z = z) = true from decide_eq_true rfl]
theorem ne_same {M : Store} {z : Str} : opNe M (.str z) (.str z) = some (.bl false) := by rw [y_neS, show decide (z = z) = true from decide_eq_true rfl]; rfl
theorem repr_e {e : SE} {s : SL} {M M1 : Store} {x : Va} {r : Res} (he : e s M = some (.val x, M1)) (hr : kRepr [x] M1 = r) : evL kRepr (evCons e evNil) s M = r := by
  rw [x_L, x_cons, he, bindO_val, x_nil, bindO_val, bindO_val]
  exact hr
theorem len_at {M M1 : Store} {e : SE} {s : SL} {x : Va} {l : List Va} (he : e s M = some (.val x, M1)) (h : LstAt M1 x l) : evL (kPure gLen) (evCons e evNil) s M = some (.val (.int l.length), M1) := by
  rw [x_L, x_cons, he, bindO_val, x_nil, bindO_val, bindO_val]
  simp only [x_kPure]
  rw [h.len]
theorem pick {M : Store} {w b : Nat} {e0 e : SE} {s : SL} {x : Va} {l : List Va} (h : Wl M w b) (hb : b < 2 ^ 40) (h0 : ∀ N, e0 s N = some (.val (.cel w), N)) (he : ∀ N, e s N = some (.val x, N)) (hx : x = .lst l) (hl : l ≠ []) (hlen : l.length < 2 ^ 60) : ∃ y M', ev2 opIx e (evL (kFn 2 c__law_draw) (evCons e0 (evCons (evL (kPure gLen) (evCons e evNil)) evNil))) s M = some (.val y, M') ∧ y ∈ l ∧ Wl M' w (b + 1) ∧ Kp M M' w := by
  subst hx
  have hpos : 0 < l.length := List.length_pos_iff.mpr hl
  obtain ⟨r, M1, e1, a1, a2, w1, k1⟩ := draw h (l.length : Int) (by omega) (by omega) (by omega)
  obtain ⟨y, p1, p2, _⟩ := at_nat (l := l) a1 a2
  refine ⟨y, M1, ?_, p2, w1, k1⟩
  rw [x_2, he, bindO_val, call2 (h0 M) (len_at (he M) (.lst l)) e1, bindO_val, y_ixL, p1]
theorem drawE {N : Store} {w b : Nat} (wl : Wl N w b) (hb : b < 2 ^ 50) (m : Int) (hm : 0 < m) (hm2 : m < 2 ^ 200) {s : SL} {i : Nat} {e : SE} (hv : ∀ K, evVar i s K = some (.val (.cel w), K)) (he : e s N = some (.val (.int m), N)) : ∃ r N', evL (kFn 2 c__law_draw) (evCons (evVar i) (evCons e evNil)) s N = some (.val (.int r), N') ∧ 0 ≤ r ∧ r < m ∧ Wl N' w (b + 1) ∧ Kp N N' w := by
  obtain ⟨r, N', e1, h0, h1, h2, h3⟩ := draw wl m hm hm2 hb
  exact ⟨r, N', call2 (M1 := N) (M2 := N) (hv N) he e1, h0, h1, h2, h3⟩
theorem Nm.txt {z : Str} (h : Nm z) : TxtOk z := ⟨by have := h.len; omega, fun c hc => by have := h.2.2 c hc; omega⟩
theorem tup3 {a b c : SE} {s : SL} {M M1 M2 M3 : Store} {x y z : Va} (ha : a s M = some (.val x, M1)) (hb : b s M1 = some (.val y, M2)) (hc : c s M2 = some (.val z, M3)) : evL kTup (evCons a (evCons b (evCons c evNil))) s M = some (.val (.tup [x, y, z]), M3) := by
  rw [x_L, x_cons, ha, bindO_val, x_cons, hb, bindO_val, x_cons, hc, bindO_val, x_nil, bindO_val, bindO_val, bindO_val, bindO_val]
  dsimp only
  rw [x_tup, if_pos (by show 3 ≤ sizeLine; decide)]
theorem call3 {f : FM} {a b c : SE} {s : SL} {M M1 M2 M3 : Store} {x y z : Va} {r : Res} (ha : a s M = some (.val x, M1)) (hb : b s M1 = some (.val y, M2)) (hc : c s M2 = some (.val z, M3)) (hf : f [x, y, z] M3 = r) : evL (kFn 3 f) (evCons a (evCons b (evCons c evNil))) s M = r := by
  rw [x_L, x_cons, ha, bindO_val, x_cons, hb, bindO_val, x_cons, hc, bindO_val, x_nil, bindO_val, bindO_val, bindO_val, bindO_val]
  dsimp only
  rw [x_kFn, if_pos (show [x, y, z].length = 3 from rfl), hf]
theorem append_val {M M1 : Store} {s : SL} {v f : Nat} {e : SE} {x : Va} {l : List Va} (hv : ∀ N, evVar v s N = some (.val (.cel f), N)) (hc : M.c f = some (.lst l)) (he : e s M = some (.val x, M1)) (hc1 : M1.c f = some (.lst l)) (hl : l.length < 16777216) : sDrop (evM2 isLstA (kMut cAppend) (evVar v) (evCons e evNil)) s M = some (.nx, s, M1.put f (.lst (l ++ [x]))) := by
  refine drop_val (v := .non) ?_
  have hL : isLstA M (.cel f) = true := by unfold isLstA; rw [y_lstC, hc]; rfl
  rw [x_M2, hv, bindO_val, if_pos hL, x_cons, he, bindO_val, x_nil, bindO_val, bindO_val]
  simp [hc1, cAppend, hl]
theorem Wl.kx {M M' : Store} {w b : Nat} (h : Wl M w b) (k : Kx [] M M') : Wl M' w b := by
  obtain ⟨⟨a, b', c, h1, h2⟩, h3⟩ := h
  exact ⟨⟨a, b', c, k.get h3 (by simp) h1, h2⟩, Nat.lt_of_lt_of_le h3 k.nx⟩
theorem far12 {s : SL} {M : Store} : ev2 opSub (ev2 opPow (evC (.int 10)) (evC (.int 12))) (evC (.int 1)) s M = some (.val (.int 999999999999), M) := by
  rw [x_2, x_2, x_c, bindO_val, x_c, bindO_val, y_pow (by decide) (by decide) (by decide) (by decide)]
  dsimp only
  rw [bindO_val, x_c, bindO_val, y_sub]
  rfl
structure PlA (M : Store) (p : Nat) (D : Dat) : Prop where
  lt : p < M.nx
  f : M.c p = some (.ins 0 (planF D))
theorem PlA.kx {M M' : Store} {p : Nat} {D : Dat} (h : PlA M p D) (x : Kx [] M M') : PlA M' p D := ⟨Nat.lt_of_lt_of_le h.lt x.nx, x.get h.lt (by simp) h.f⟩
theorem data_0' {D : Dat} {s : SL} {N : Store} (hv : evVar 1 s N = some (.val D.va, N)) : ev2 opIx (evVar 1) (evC (.int 0)) s N = some (.val (.lst (D.cols.map Va.str)), N) := by
  rw [x_2, hv, bindO_val, x_c, bindO_val]
  unfold Dat.va
  rw [y_ixT, at_0]
theorem loop_exc {chk : Store → Prop} {tg : Tgt} {body : SS} {x : Va} {xs : List Va} {s s1 s2 : SL} {M M2 : Store} {c : Nat} {v : Va} (hc : chk M) (ht : tg x s M = some s1) (hb : body s1 M = some (.exc c v, s2, M2)) : loopF chk tg body (x :: xs) s M = some (.exc c v, s2, M2) := by
  unfold loopF
  rw [if_pos hc, ht]
  dsimp only
  rw [hb]
theorem seq_exc {a b : SS} {s s1 : SL} {M M1 : Store} {c : Nat} {v : Va} (h : a s M = some (.exc c v, s1, M1)) : sSeq a b s M = some (.exc c v, s1, M1) := by
  unfold sSeq
  rw [h]
theorem end_exc {a : SS} {s s1 : SL} {M M1 : Store} {c : Nat} {v : Va} (h : a s M = some (.exc c v, s1, M1)) : endF (a s M) = some (.exc c v, M1) := by rw [h]; rfl
theorem set_exc {i : Nat} {e : SE} {s : SL} {M M1 : Store} {c : Nat} {v : Va} (h : e s M = some (.exc c v, M1)) : sSet i e s M = some (.exc c v, s, M1) := by
  unfold sSet sE
  rw [h]
theorem ret_exc {e : SE} {s : SL} {M M1 : Store} {c : Nat} {v : Va} (h : e s M = some (.exc c v, M1)) : sRet e s M = some (.exc c v, s, M1) := by
  unfold sRet sE
  rw [h]
def hdR (zs : List Str) (x : Str) : Str := match zs with
  | [] => x
  | z :: _ => z
theorem hd_at (zs : List Str) (x : Str) : atI ((zs ++ [x]).map Va.str) 0 = some (.str (hdR zs x)) := by
  cases zs with
  | nil => exact at_0
  | cons z r => exact at_0
theorem hd_sp {zs : List Str} {x : Str} (hz : ∀ z ∈ zs, Nm z) (hx : Nm x) : (hdR zs x).length ≤ 8 ∧ TxtOk (hdR zs x ++ " ") := by
  have hn : Nm (hdR zs x) := by
    cases zs with
    | nil => exact hx
    | cons z r => exact hz z (by simp)
  have hl := hn.len
  refine ⟨hl.2, ?_, fun c hc => ?_⟩
  · rw [len_app]; show _ + 1 ≤ 12; omega
  · rw [show tl (hdR zs x ++ " ") = tl (hdR zs x) ++ tl " " from TL.tl_append _ _] at hc
    rcases List.mem_append.mp hc with hc | hc
    · have := hn.2.2 c hc; omega
    · have h32 : tl " " = [32] := rfl
      rw [h32] at hc
      rw [List.mem_singleton.mp hc]; decide
theorem hd_not {zs : List Str} {x : Str} : ¬ Nm (hdR zs x ++ " ") := fun h => by
  have := h.2.2 32 (by
    rw [show tl (hdR zs x ++ " ") = tl (hdR zs x) ++ tl " " from TL.tl_append _ _]
    exact List.mem_append_right _ (by simp [show tl " " = [32] from rfl]))
  omega
noncomputable def fxBody : SS := sIf (evNo (ev2 opNotInD (evVar 2) (evVar 0))) (sRaise 4 (evVar 2)) sNx
def offB (cols : List Str) (z : Str) : Bool := !decide (z ∈ cols)
theorem fx_loop {M : Store} {x y : Va} {cols : List Str} (la : LA M x (cols.map Va.str)) : ∀ (zs : List Str) (o : Option Va),
    (match zs.find? (offB cols) with
    | none => ∃ o', loopF (fun _ => True) (tgName 2) fxBody (zs.map Va.str) [some x, some y, o] M = some (.nx, [some x, some y, o'], M)
    | some m => ∃ s', loopF (fun _ => True) (tgName 2) fxBody (zs.map Va.str) [some x, some y, o] M = some (.exc 4 (.str m), s', M))
  | [], o => ⟨o, loop_nil trivial⟩
  | z :: zs, o => by
    let S : SL := [some x, some y, some (.str z)]
    have c : evNo (ev2 opNotInD (evVar 2) (evVar 0)) S M = some (.val (.bl (offB cols z)), M) := by
      refine x_no ?_
      rw [x_2, show evVar 2 S M = some (.val (.str z), M) from rfl, bindO_val, show evVar 0 S M = some (.val x, M) from rfl, bindO_val, la.at_.notIn]
      rfl
    have ih := fx_loop (x := x) (y := y) la zs (some (.str z))
    rw [List.find?_cons]
    cases hz : offB cols z with
    | false =>
      rw [hz] at c
      have b : fxBody S M = some (.nx, S, M) := by
        unfold fxBody
        rw [x_sIf, c]
        rfl
      dsimp only
      cases q : zs.find? (offB cols) with
      | none =>
        rw [q] at ih
        obtain ⟨o', e⟩ := ih
        exact ⟨o', loop_nx (s1 := S) (s2 := S) (M2 := M) trivial rfl b e⟩
      | some m =>
        rw [q] at ih
        obtain ⟨s', e⟩ := ih
        exact ⟨s', loop_nx (s1 := S) (s2 := S) (M2 := M) trivial rfl b e⟩
    | true =>
      rw [hz] at c
      refine ⟨S, loop_exc (s1 := S) trivial rfl ?_⟩
      unfold fxBody
      rw [x_sIf, c]
      rfl
theorem sorted_at {M : Store} {y : Va} {l : List (Key × Va)} {zs : List Str} (hdo : dicOf M y = some l) (e1 : l.map (·.1) = zs.map Sum.inr) (h : zs.length < 64) : gSorted M [y] = some (.lst ((srtS zs).map Va.str)) := by
  show (match srtOf M y with | some zs => if zs.length < 64 then some (Va.lst ((srtS zs).map Va.str)) else none | none => none) = _
  have : srtOf M y = some zs := by
    unfold srtOf
    rw [hdo]
    dsimp only
    rw [e1, txtOfKeys_map]
  rw [this]
  dsimp only
  rw [if_pos h]
/-- a dict that tells the row, whatever stands in it twice -/
structure TellsW (cols : List Str) (row : List Int) (l : List (Key × Va)) : Prop where
  ks : ∀ p ∈ l, ∃ c ∈ cols, p.1 = .inr c
  ln : l.length ≤ 50
  eq : cols.map (fun c => (vaK l (.inr c)).getD (.int 0)) = row.map Va.int
theorem Tells.w {cols : List Str} {row : List Int} {l : List (Key × Va)} (h : Tells cols row l) : TellsW cols row l := ⟨h.ks, Nat.le_trans h.ln (by decide), h.eq⟩
def RowW (M : Store) (cols : List Str) (row : List Int) (y : Va) : Prop := ∃ l, DA M y l ∧ TellsW cols row l
theorem RowW.kx {M M' : Store} {cols : List Str} {row : List Int} {y : Va} (h : RowW M cols row y) (k : Kx [] M M') : RowW M' cols row y := by
  obtain ⟨l, h1, h2⟩ := h
  exact ⟨l, h1.kx k, h2⟩
theorem puK_len {α : Type} {l : List (Key × α)} {k : Key} {v : α} : (puK l k v).length ≤ l.length + 1 := by
  unfold puK
  split
  · rw [List.length_map]; omega
  · rw [List.length_append]; exact Nat.le_refl _
theorem tellsW_put {cols : List Str} {row : List Int} {l : List (Key × Va)} (hd : cols.Nodup) (h : TellsW cols row l) (hl : l.length ≤ 40) {k : Nat} {c : Str} {g : Int} (hk : cols[k]? = some c) (hr : row.length = cols.length) : TellsW cols (row.set k g) (puK l (.inr c) (.int g)) := by
  have hkl : k < cols.length := by
    by_cases q : k < cols.length
    · exact q
    · rw [List.getElem?_eq_none (by omega)] at hk; cases hk
  refine ⟨puK_keys (P := fun x => ∃ c ∈ cols, x = .inr c) h.ks ⟨c, List.mem_of_getElem? hk, rfl⟩, by have := puK_len (l := l) (k := (.inr c : Key)) (v := Va.int g); omega, ?_⟩
  refine List.ext_getElem? fun i => ?_
  have e := congrArg (fun x => x[i]?) h.eq
  rw [List.getElem?_map, List.getElem?_map] at e ⊢
  rw [List.getElem?_set]
  cases q : cols[i]? with
  | none =>
    rw [q] at e
    have hil : ¬ i < cols.length := fun x => by rw [List.getElem?_eq_getElem x] at q; cases q
    have : k ≠ i := by omega
    rw [if_neg this]
    exact e
  | some d =>
    rw [q] at e
    show some ((vaK (puK l (.inr c) (.int g)) (.inr d)).getD (.int 0)) = _
    rw [vaK_put]
    by_cases ek : k = i
    · subst ek
      rw [hk] at q
      cases q
      rw [if_pos rfl, if_pos rfl, if_pos (by omega)]
      rfl
    · have ne : c ≠ d := fun x => by
        subst x
        have il : i < cols.length := by
          by_cases z : i < cols.length
          · exact z
          · rw [List.getElem?_eq_none (by omega)] at q; cases q
        exact ek ((List.getElem?_inj hkl hd).mp (hk.trans q.symm))
      rw [if_neg (fun x => ne (by injection x)), if_neg ek]
      exact e
theorem factorsX {M : Store} {x y : Va} {cols : List Str} {row : List Int} {l : List (Key × Va)} (la : LA M x (cols.map Va.str)) (da : DA M y l) (ht : TellsW cols row l) : c_factors_ofX [x, y] M = some (.val (rowV row), M) := by
  obtain ⟨zs, e1, z1, z2⟩ := keys_txt ht.ks
  have hdo := da.at_
  have gs := sorted_at (M := M) (y := y) hdo e1 (by have := ht.ln; omega)
  have nf : (srtS zs).find? (offB cols) = none := by
    rw [List.find?_eq_none]
    intro z hz
    have := z1 z ((srtS_perm zs).mem_iff.mp hz)
    simp [offB, this]
  have lp := fx_loop (x := x) (y := y) la (srtS zs) none
  rw [nf] at lp
  obtain ⟨o, e2⟩ := lp
  obtain ⟨chk, ha, hck, _⟩ := la.any
  have hD : isDicA M y = true := by unfold isDicA; rw [hdo]; rfl
  have cm := compL_map (M := M) (chk := chk) (tg := tgName 2) (tt := evYes) (te := evM2 isDicA (kVal gGetD) (evVar 1) (evCons (evVar 2) (evCons (evC (.int 0)) evNil))) (sw := [some x, some y, none]) Va.str (fun c => (vaK l (.inr c)).getD (.int 0)) hck cols (fun c hc' => ⟨_, rfl, rfl, by
    have hg : gGetD M y [.str c, .int 0] = some ((vaK l (.inr c)).getD (.int 0)) := by
      show (match dicOf M y, keyA (.str c) with | some l, some key => some ((vaK l key).getD (.int 0)) | _, _ => none) = _
      rw [hdo]; rfl
    simp [hD, hg]⟩)
  rw [ht.eq] at cm
  unfold c_factors_ofX runF m_factors_ofX
  rw [show startI 3 [x, y] = [some x, some y, none] from rfl]
  refine end_ret (s1 := [some x, some y, o]) ?_
  refine seq_nx (for_it (chk := fun _ => True) (M1 := M) (l := (srtS zs).map Va.str) ?_ e2) (x_stRet (ret_val ?_))
  · show itA _ [some x, some y, none] M = _
    simp [gs]
  · rw [z_lc, z_itA, show ∀ N, evVar 0 [some x, some y, o] N = some (.val x, N) from fun _ => rfl, ha]
    simp only [z_wipeS, z_wipe0, List.set]
    rw [cm]
    rfl
theorem factorsW {M : Store} {x y : Va} {cols : List Str} {row : List Int} {l : List (Key × Va)} (la : LA M x (cols.map Va.str)) (da : DA M y l) (ht : TellsW cols row l) : c_factors_of [x, y] M = some (.val (rowV row), M) := by
  obtain ⟨zs, e1, z1, z2⟩ := keys_txt ht.ks
  have hdo := da.at_
  have gs := sorted_at (M := M) (y := y) hdo e1 (by have := ht.ln; omega)
  obtain ⟨s', e2, hs⟩ := loop_skip (chk := fun _ => True) (t := 2) (body := sIf (ev2 opNotInD (evVar 2) (evVar 0)) sNever sNx) (M := M) trivial ((srtS zs).map Va.str) [some x, some y, none] (fun v hx => by
    obtain ⟨z, hz, rfl⟩ := List.mem_map.mp hx
    have hz' := z1 z ((srtS_perm zs).mem_iff.mp hz)
    simp [la.at_.notIn, hz'])
  have hs' : ∃ o, s' = [some x, some y, o] := by
    rcases hs with hs | ⟨v, hs⟩
    · exact ⟨none, hs⟩
    · exact ⟨some v, hs⟩
  obtain ⟨o, rfl⟩ := hs'
  obtain ⟨chk, ha, hck, _⟩ := la.any
  have hD : isDicA M y = true := by unfold isDicA; rw [hdo]; rfl
  have cm := compL_map (M := M) (chk := chk) (tg := tgName 2) (tt := evYes) (te := evM2 isDicA (kVal gGetD) (evVar 1) (evCons (evVar 2) (evCons (evC (.int 0)) evNil))) (sw := [some x, some y, none]) Va.str (fun c => (vaK l (.inr c)).getD (.int 0)) hck cols (fun c hc' => ⟨_, rfl, rfl, by
    have hg : gGetD M y [.str c, .int 0] = some ((vaK l (.inr c)).getD (.int 0)) := by
      show (match dicOf M y, keyA (.str c) with | some l, some key => some ((vaK l key).getD (.int 0)) | _, _ => none) = _
      rw [hdo]; rfl
    simp [hD, hg]⟩)
  rw [ht.eq] at cm
  unfold c_factors_of runF m_factors_of
  rw [show startI 3 [x, y] = [some x, some y, none] from rfl]
  refine end_ret (s1 := [some x, some y, o]) ?_
  refine seq_nx (for_it (chk := fun _ => True) (M1 := M) (l := (srtS zs).map Va.str) ?_ e2) (ret_val ?_)
  · show itA _ [some x, some y, none] M = _
    simp [gs]
  · rw [z_lc, z_itA, show ∀ N, evVar 0 [some x, some y, o] N = some (.val x, N) from fun _ => rfl, ha]
    simp only [z_wipeS, z_wipe0, List.set]
    rw [cm]
    rfl
/-- a dict with strange columns -/
structure Odd (cols : List Str) (z : Str) (zs : List Str) (l : List (Key × Va)) : Prop where
  ks : ∀ p ∈ l, ∃ c ∈ cols ++ z :: zs, p.1 = .inr c
  al : ∀ c ∈ z :: zs, (Sum.inr c : Key) ∈ l.map (·.1)
  no : ∀ c ∈ z :: zs, c ∉ cols
  ln : l.length ≤ 60
theorem find_first {L : List Str} {p : Str → Bool} {m : Str} (pw : L.Pairwise fun a b => leS a b = true) (h : L.find? p = some m) : m ∈ L ∧ p m = true ∧ ∀ y ∈ L, p y = true → leS m y = true := by
  induction L with
  | nil => cases h
  | cons x L ih =>
    rw [List.find?_cons] at h
    rw [List.pairwise_cons] at pw
    cases q : p x with
    | true =>
      rw [q] at h
      cases h
      refine ⟨by simp, q, fun y hy hp => ?_⟩
      rcases List.mem_cons.mp hy with e | hy
      · rw [e]; exact leS_refl _
      · exact pw.1 y hy
    | false =>
      rw [q] at h
      obtain ⟨h1, h2, h3⟩ := ih pw.2 h
      refine ⟨by simp [h1], h2, fun y hy hp => ?_⟩
      rcases List.mem_cons.mp hy with e | hy
      · rw [e, q] at hp; cases hp
      · exact h3 y hy hp
theorem factorsX_odd {M : Store} {x y : Va} {cols : List Str} {z : Str} {zs : List Str} {l : List (Key × Va)} (la : LA M x (cols.map Va.str)) (da : DA M y l) (ho : Odd cols z zs l) : c_factors_ofX [x, y] M = some (.exc 4 (.str (minS z zs)), M) := by
  obtain ⟨ks, e1, k1, k2⟩ := keys_txt ho.ks
  have hdo := da.at_
  have gs := sorted_at (M := M) (y := y) hdo e1 (by have := ho.ln; omega)
  have mem : ∀ c, c ∈ z :: zs → c ∈ srtS ks := fun c hc => by
    have := ho.al c hc
    rw [e1] at this
    obtain ⟨d, hd, e⟩ := List.mem_map.mp this
    injection e with e
    rw [← e]
    exact (srtS_perm ks).mem_iff.mpr hd
  have bad : ∀ c, c ∈ srtS ks → c ∉ cols → c ∈ z :: zs := fun c hc hn => by
    rcases List.mem_append.mp (k1 c ((srtS_perm ks).mem_iff.mp hc)) with q | q
    · exact absurd q hn
    · exact q
  have lp := fx_loop (x := x) (y := y) la (srtS ks) none
  cases q : (srtS ks).find? (offB cols) with
  | none =>
    exfalso
    rw [List.find?_eq_none] at q
    have := q z (mem z (by simp))
    have n := ho.no z (by simp)
    simp [offB, n] at this
  | some m =>
    rw [q] at lp
    obtain ⟨s', e2⟩ := lp
    obtain ⟨m1, m2, m3⟩ := find_first (srtS_pw ks) q
    have m2' : m ∉ cols := by simpa [offB] using m2
    have nb : offB cols (minS z zs) = true := by
      unfold offB
      rw [decide_eq_false (ho.no _ (minS_mem zs z))]
      rfl
    have em : m = minS z zs := leS_antisymm _ _ (m3 (minS z zs) (mem _ (minS_mem zs z)) nb) (minS_le zs z m (bad m m1 m2'))
    rw [em] at e2
    unfold c_factors_ofX runF m_factors_ofX
    rw [show startI 3 [x, y] = [some x, some y, none] from rfl]
    refine end_exc (s1 := s') (seq_exc (for_it (chk := fun _ => True) (M1 := M) (l := (srtS ks).map Va.str) ?_ e2))
    show itA _ [some x, some y, none] M = _
    simp [gs]
theorem SmB.tup2 {B W1 W2 W' dp : Nat} {a b : PyData} (h1 : SmB B W1 dp a) (h2 : SmB B W2 dp b) (hW : W1 + W2 + 2 ≤ W') : SmB B W' (dp + 1) (.tuple [a, b]) := by
  obtain ⟨a1, a2, a3, a4⟩ := h1
  obtain ⟨b1, b2, b3, b4⟩ := h2
  refine ⟨by simp only [PyData.showable, PyData.showableAll, a1, b1, Bool.and_self], by simp only [PyData.leavesShort, PyData.leavesShortAll, a2, b2, Bool.and_self], ?_, ?_⟩
  · simp only [PyData.weight, PyData.weightAll]; omega
  · simp only [PyData.depth, PyData.depthAll]; omega
theorem smB_kv {B W1 W2 dp : Nat} : ∀ {ds : List (PyData × PyData)}, (∀ d ∈ ds, SmB B W1 dp d.1 ∧ SmB B W2 dp d.2) → PyData.showableKv ds = true ∧ PyData.leavesShortKv B ds = true ∧ PyData.weightKv ds ≤ ds.length * (W1 + W2 + 2) ∧ PyData.depthKv ds ≤ dp
  | [], _ => ⟨by simp only [PyData.showableKv], by simp only [PyData.leavesShortKv], by simp only [PyData.weightKv]; exact Nat.zero_le _, by simp only [PyData.depthKv]; exact Nat.zero_le _⟩
  | (k, v) :: ds, h => by
    obtain ⟨⟨a1, a2, a3, a4⟩, ⟨c1, c2, c3, c4⟩⟩ := h (k, v) (by simp)
    obtain ⟨b1, b2, b3, b4⟩ := smB_kv (ds := ds) fun e he => h e (by simp [he])
    dsimp only at a1 a2 a3 a4 c1 c2 c3 c4
    refine ⟨by simp only [PyData.showableKv, a1, b1, c1, Bool.and_self], by simp only [PyData.leavesShortKv, a2, b2, c2, Bool.and_self], ?_, ?_⟩
    · simp only [PyData.weightKv, List.length_cons]
      rw [Nat.add_mul]; omega
    · simp only [PyData.depthKv]; omega
theorem SmB.dict {B W1 W2 W' dp n : Nat} {ds : List (PyData × PyData)} (h : ∀ d ∈ ds, SmB B W1 dp d.1 ∧ SmB B W2 dp d.2) (hn : ds.length ≤ n) (hW : n * (W1 + W2 + 2) ≤ W') : SmB B W' (dp + 1) (.dict ds) := by
  obtain ⟨a1, a2, a3, a4⟩ := smB_kv h
  refine ⟨by simp only [PyData.showable]; exact a1, by simp only [PyData.leavesShort]; exact a2, ?_, by simp only [PyData.depth]; omega⟩
  simp only [PyData.weight]
  exact Nat.le_trans a3 (Nat.le_trans (Nat.mul_le_mul_right _ hn) hW)
/-- a dict from texts to integers -/
structure DOk (l : List (Key × Va)) : Prop where
  ks : ∀ p ∈ l, ∃ z, p.1 = .inr z ∧ TxtOk z
  vs : ∀ p ∈ l, ∃ n : Int, p.2 = .int n ∧ n.natAbs ≤ 2 ^ 41
  ln : l.length ≤ 60
def vPd : Va → PyData
  | .int n => .int n
  | _ => .none
def kvPd (p : Key × Va) : PyData × PyData := (kPd p.1, vPd p.2)
theorem dic_reads {M : Store} : ∀ {l : List (Key × Va)}, (∀ p ∈ l, ∃ n : Int, p.2 = .int n ∧ n.natAbs ≤ 2 ^ 41) → PdRk M l (l.map kvPd)
  | [], _ => .nil
  | (k, v) :: l, h => by
    obtain ⟨n, e, _⟩ := h (k, v) (by simp)
    dsimp only at e
    subst e
    exact .cons (.int n) (dic_reads fun p hp => h p (by simp [hp]))
theorem dic_sm {l : List (Key × Va)} (h : DOk l) : SmB 70 5000 1 (.dict (l.map kvPd)) :=
  SmB.dict (B := 70) (W1 := 12) (W2 := 42) (dp := 0) (n := 60) (fun d hd => by
    obtain ⟨⟨k, v⟩, hp, rfl⟩ := List.mem_map.mp hd
    obtain ⟨z, e1, tz⟩ := h.ks _ hp
    obtain ⟨n, e2, hn⟩ := h.vs _ hp
    dsimp only at e1 e2
    subst e1
    subst e2
    exact ⟨SmB.str tz.2 tz.1, SmB.int (k := 20) (by decide) (by decide) (by decide) (by
      have : (2 : Nat) ^ 41 < 10 ^ 20 := by decide
      omega) (by
      have : (2 : Nat) ^ 41 < 2 ^ 42 := by decide
      omega)⟩) (by rw [List.length_map]; exact h.ln) (by decide)
theorem subK_val {e eo ei : SE} {s : SL} {M M1 M2 M3 M4 : Store} {v o i : Va} (he : e s M = some (.val v, M1)) (ho : eo s M1 = some (.val o, M2)) (hi : ei s M2 = some (.val i, M3)) (hg : cSetK o i v M3 = some M4) : sSub e eo ei cSetK s M = some (.nx, s, M4) := by
  rw [x_sub]
  simp [sE, he, ho, hi, hg]
theorem subA_val {e eo ei : SE} {s : SL} {M M1 M2 M3 M4 : Store} {v o i : Va} (he : e s M = some (.val v, M1)) (ho : eo s M1 = some (.val o, M2)) (hi : ei s M2 = some (.val i, M3)) (hg : cSetAt o i v M3 = some M4) : sSub e eo ei cSetAt s M = some (.nx, s, M4) := by
  rw [x_sub]
  simp [sE, he, ho, hi, hg]
theorem setK_now {M : Store} {dn : Nat} {l : List (Key × Va)} {c : Str} {v : Va} (h : M.c dn = some (.dic l)) (hl : l.length ≤ 1000) : cSetK (.cel dn) (.str c) v M = some (M.put dn (.dic (puK l (.inr c) v))) := by
  have hl' : l.length < sizeLine := by show l.length < 16777216; omega
  unfold cSetK
  dsimp only
  rw [h]
  show (if l.length < sizeLine then some (M.put dn (.dic (puK l (.inr c) v))) else none) = _
  rw [if_pos hl']
theorem setA_now {M : Store} {n k : Nat} {l : List Va} {v : Va} (h : M.c n = some (.lst l)) (hk : k < l.length) : cSetAt (.cel n) (.int (k : Nat)) v M = some (M.put n (.lst (l.set k v))) := by
  have e : ixN l.length ((k : Nat) : Int) = some k := by
    unfold ixN
    simp
    omega
  unfold cSetAt
  dsimp only
  rw [h]
  dsimp only
  rw [e]
theorem ints_ne_nil {M : Store} (l : List Int) : opNe M (.lst (l.map Va.int)) (.lst []) = some (.bl (!decide (l = []))) := by
  have hs : SeqAt.shaped (.list (l.map PyData.int)) = true := by
    obtain ⟨r1, r2⟩ := row_shaped l
    unfold SeqAt.shaped
    unfold rowPd at r1 r2
    simp only [r1, Bool.true_and]
    exact decide_eq_true (by omega)
  have e := (eq_lists (M := M) (x := .lst (l.map Va.int)) (y := .lst []) (.lst rfl (ints_reads l)) (.lst rfl .nil) hs (by decide) rfl).2
  rw [e]
  cases l <;> simp [PyData.eqvAll]
theorem tru_not {e : SE} {s : SL} {M M1 : Store} (he : e s M = some (.val (.bl true), M1)) : evNot (evTru e) s M = some (.val (.bl false), M1) := by
  rw [x_not, x_tru, he, bindO_val, y_truB]
  rfl
theorem puK_mem {l : List (Key × Va)} {k x : Key} {v : Va} : x ∈ (puK l k v).map (·.1) ↔ x ∈ l.map (·.1) ∨ x = k := by
  unfold puK
  split
  · rename_i h
    have hk : k ∈ l.map (·.1) := by
      rw [List.any_eq_true] at h
      obtain ⟨p, hp, e⟩ := h
      exact List.mem_map.mpr ⟨p, hp, of_decide_eq_true e⟩
    have e : (l.map fun kv => if kv.1 = k then (kv.1, v) else kv).map (·.1) = l.map (·.1) := by
      rw [List.map_map]
      refine List.map_congr_left fun p _ => ?_
      show (if p.1 = k then (p.1, v) else p).1 = p.1
      split <;> rfl
    rw [e]
    exact ⟨.inl, fun z => z.elim id fun q => q ▸ hk⟩
  · rw [List.map_append, List.mem_append]
    simp
theorem DOk.put {l : List (Key × Va)} (h : DOk l) (hl : l.length ≤ 50) {z : Str} {n : Int} (hz : TxtOk z) (hn : n.natAbs ≤ 2 ^ 41) : DOk (puK l (.inr z) (.int n)) :=
  ⟨puK_all (P := fun (p : Key × Va) => ∃ z, p.1 = Sum.inr z ∧ TxtOk z) h.ks ⟨z, rfl, hz⟩, puK_all (P := fun (p : Key × Va) => ∃ n : Int, p.2 = Va.int n ∧ n.natAbs ≤ 2 ^ 41) h.vs ⟨n, rfl, hn⟩, by have := puK_len (l := l) (k := (.inr z : Key)) (v := Va.int n); omega⟩
theorem min_at {M : Store} {f : Nat} {z : Str} {zs : List Str} (h : M.c f = some (.lst ((z :: zs).map Va.str))) : gMin2 M [.cel f] = some (.str (minS z zs)) := by
  have h1 : gMin M [.cel f] = none := by
    unfold gMin
    dsimp only
    rw [y_lstC, h]
    rfl
  unfold gMin2
  rw [h1]
  dsimp only
  rw [y_lstC, h]
  dsimp only
  rw [Option.bind_some, strsOf_map]
def PlainT (B : Nat) (s : Str) : Prop := (tl s).length ≤ B ∧ ∀ c ∈ tl s, c < 256
theorem PlainT.mono {A B : Nat} {s : Str} (h : PlainT A s) (hb : A ≤ B) : PlainT B s := ⟨Nat.le_trans h.1 hb, h.2⟩
theorem PlainT.app {A B : Nat} {x y : Str} (h : PlainT A x) (k : PlainT B y) : PlainT (A + B) (x ++ y) := by
  have e : tl (x ++ y) = tl x ++ tl y := TL.tl_append x y
  refine ⟨by rw [e, List.length_append]; have := h.1; have := k.1; omega, fun c hc => ?_⟩
  rw [e] at hc
  rcases List.mem_append.mp hc with q | q
  · exact h.2 c q
  · exact k.2 c q
theorem joinL_mem (S : List Nat) : ∀ (rows : List (List Nat)) (c : Nat), c ∈ TL.joinL S rows → c ∈ S ∨ ∃ r ∈ rows, c ∈ r
  | [], c, h => by simp [TL.joinL] at h
  | [r], c, h => by simp [TL.joinL] at h; exact .inr ⟨r, by simp, h⟩
  | r :: q :: t, c, h => by
    have e : TL.joinL S (r :: q :: t) = r ++ (S ++ TL.joinL S (q :: t)) := rfl
    rw [e, List.mem_append, List.mem_append] at h
    rcases h with h | h | h
    · exact .inr ⟨r, by simp, h⟩
    · exact .inl h
    · rcases joinL_mem S (q :: t) c h with h | ⟨x, hx, h⟩
      · exact .inl h
      · exact .inr ⟨x, by simp [hx], h⟩
theorem PlainT.join {A S n : Nat} {sep : Str} {l : List Str} (h : ∀ z ∈ l, PlainT A z) (hs : PlainT S sep) (hl : l.length ≤ n) : PlainT (n * (A + S)) (Txt.join sep l) := by
  have e := join_len sep l
  refine ⟨?_, fun c hc => ?_⟩
  · rw [e]
    have := joinL_len (tl sep) (l.map TL.tl) A (fun r hr => by
      obtain ⟨z, hz, rfl⟩ := List.mem_map.mp hr
      exact (h z hz).1)
    rw [List.length_map] at this
    exact Nat.le_trans this (Nat.mul_le_mul hl (Nat.add_le_add_left hs.1 A))
  · rw [e] at hc
    rcases joinL_mem _ _ _ hc with q | ⟨r, hr, q⟩
    · exact hs.2 c q
    · obtain ⟨z, hz, rfl⟩ := List.mem_map.mp hr
      exact (h z hz).2 c q
theorem gJoin_ok {M : Store} {A S n : Nat} {sep : Str} {l : List Str} (h : ∀ z ∈ l, PlainT A z) (hs : PlainT S sep) (hl : l.length ≤ n) (hb : n * A + n * S ≤ 16777216) {x : Va} (hx : seqOf M x = some (l.map Va.str)) : gJoin M (.str sep) [x] = some (.str (Txt.join sep l)) := by
  unfold gJoin
  dsimp only
  rw [hx]
  dsimp only
  rw [strsOf_map]
  dsimp only
  rw [if_pos]
  have h1 := sum_len (fun z : Str => z.length) A l (fun z hz => by rw [tl_len]; exact (h z hz).1)
  have h2 : l.length * A ≤ n * A := Nat.mul_le_mul_right A hl
  have h3 : l.length * sep.length ≤ n * S := Nat.mul_le_mul hl (by rw [tl_len]; exact hs.1)
  omega
theorem nm_tx {n : Int} {k : Nat} (hk : 0 < k) (h : n.natAbs < 10 ^ k) : PlainT (k + 1) (nmS n) := ⟨nm_len hk h, fun c hc => by
  rcases nm_digits hc with e | e <;> omega⟩
theorem Nm.tx {z : Str} (h : Nm z) : PlainT 8 z := ⟨h.2.1, fun c hc => by have := h.2.2 c hc; omega⟩
theorem tx1 {s : Str} (h : decide ((tl s).length ≤ 16 ∧ ∀ c ∈ tl s, c < 256) = true) : PlainT 16 s := by
  unfold PlainT
  exact of_decide_eq_true h
theorem tx0 {s : Str} {k : Nat} (h : decide ((tl s).length ≤ k ∧ ∀ c ∈ tl s, c < 256) = true) : PlainT k s := by
  unfold PlainT
  exact of_decide_eq_true h
theorem log40 {n : Int} (h : n.natAbs < 10 ^ 13) : n.natAbs.log2 < 1920 := by
  by_cases z : n.natAbs = 0
  · rw [z]; decide
  · rw [Nat.log2_lt z]; exact Nat.lt_trans h (by decide)
theorem pl_kp {M M' : Store} {p w : Nat} {D : Dat} (P : PlA M p D) (pw : p ≠ w) (k : Kp M M' w) : PlA M' p D := ⟨Nat.lt_of_lt_of_le P.lt k.nx, k.kx.get P.lt (by simp; exact pw) P.f⟩
end Lw

set_option Elab.async false
set_option linter.all false
set_option maxRecDepth 100000
set_option maxHeartbeats 4000000
set_option exponentiation.threshold 3000
namespace Lw
open PySem L2 PV
/-! ### the text of a sum -/
def wd (p : Int × Str) : Str := nmS p.1 ++ p.2
def nz (p : Int × Str) : Bool := !decide (p.1 = 0)
def wds (ps : List (Int × Str)) : List Str := (ps.filter nz).map wd
def sumT (ps : List (Int × Str)) : Str := if wds ps = [] then "0" else Txt.join " " (wds ps)
def PrOk (ps : List (Int × Str)) : Prop := (∀ p ∈ ps, p.1.natAbs < 10 ^ 13 ∧ Nm p.2) ∧ ps.length ≤ 20
theorem wd_tx {p : Int × Str} (h1 : p.1.natAbs < 10 ^ 13) (h2 : Nm p.2) : PlainT 22 (wd p) := (nm_tx (by decide) h1).app h2.tx
theorem wds_tx {ps : List (Int × Str)} (h : PrOk ps) : ∀ z ∈ wds ps, PlainT 22 z := fun z hz => by
  obtain ⟨p, hp, rfl⟩ := List.mem_map.mp hz
  obtain ⟨a, b⟩ := h.1 p (List.mem_filter.mp hp).1
  exact wd_tx a b
theorem wds_len {ps : List (Int × Str)} (h : PrOk ps) : (wds ps).length ≤ 20 := by
  unfold wds
  rw [List.length_map]
  exact Nat.le_trans (List.length_filter_le _ _) h.2
theorem sumT_tx {ps : List (Int × Str)} (h : PrOk ps) : PlainT 800 (sumT ps) := by
  unfold sumT
  split
  · exact (tx1 (s := "0") (by decide)).mono (by decide)
  · exact (PlainT.join (n := 20) (wds_tx h) (tx1 (s := " ") (by decide)) (wds_len h)).mono (by decide)
theorem strs_ne {M : Store} {x : Va} {zs : List Str} (hx : LstAt M x (zs.map Va.str)) (h : ∀ z ∈ zs, ∀ c ∈ tl z, c < 256) : opNe M x (.lst []) = some (.bl (!decide (zs = []))) :=
  hx.ne_nil fun z hz => by
    have := h z hz
    unfold PyData.strOk
    rw [Array.all_eq_true_iff_forall_mem]
    intro c hc
    have hm : c ∈ tl z := by
      show c ∈ z.cps.toList
      exact Array.mem_toList_iff.mpr hc
    have := this c hm
    simp
    omega
theorem zip_pr : ∀ (ps : List (Int × Str)), zipL ((ps.map (·.1)).map Va.int) ((ps.map (·.2)).map Va.str) = ps.map fun p => Va.tup [.int p.1, .str p.2]
  | [] => rfl
  | p :: ps => by
    show Va.tup [.int p.1, .str p.2] :: zipL ((ps.map (·.1)).map Va.int) ((ps.map (·.2)).map Va.str) = _
    rw [zip_pr ps]
    rfl
theorem le_ln {B : Nat} {x : Str} (q : PlainT B x) (hb : B ≤ 16777216) : x.length ≤ sizeLine := by
  show x.length ≤ 16777216
  rw [tl_len]
  exact Nat.le_trans q.1 hb
theorem emp_app (x : Str) : Str.empty ++ x = x := tl_ext (by rw [show tl (Str.empty ++ x) = tl Str.empty ++ tl x from TL.tl_append _ _]; rfl)
/-- what show_sum tells of a sum without strange columns -/
theorem show_ok {M : Store} {p : Nat} {D : Dat} {y : Va} {l : List (Key × Va)} {ps : List (Int × Str)} (P : PlA M p D) (hc : D.cols = ps.map (·.2)) (da : DA M y l) (tw : TellsW D.cols (ps.map (·.1)) l) (h : PrOk ps) : c_show_sumX [.cel p, y] M = some (.val (.str (sumT ps)), M) := by
  let S := fun (s2 s3 : Option Va) => ([some (.cel p), some y, s2, s3, none, none] : SL)
  have cols : ∀ (s2 s3 : Option Va), ev1 (opFld 0 "column_names") (evVar 0) (S s2 s3) M = some (.val (.lst (D.cols.map Va.str)), M) := fun s2 s3 => by
    rw [x_1, show evVar 0 (S s2 s3) M = some (.val (.cel p), M) from rfl, bindO_val, fld_at (v := .lst (D.cols.map Va.str)) P.f rfl]
  let F2 := some (rowV (ps.map (·.1)))
  have b2 : sSet 2 (evL (kFn 2 c_factors_ofX) (evCons (evNo (ev1 (opFld 0 "column_names") (evVar 0))) (evCons (evVar 1) evNil))) (S none none) M = some (.nx, S F2 none, M) :=
    set_val (v := rowV (ps.map (·.1))) (call2 (x := .lst (D.cols.map Va.str)) (y := y) (M1 := M) (M2 := M) (x_no (cols none none)) rfl (factorsX LA.lst da tw))
  let W3 := some (Va.lst ((wds ps).map Va.str))
  have b3 : stNo (sSet 3 (evLc (itZp (evCons (evVar 2) (evCons (ev1 (opFld 0 "column_names") (evVar 0)) evNil))) (tgTup [(tgName 4), (tgName 5)]) (ev2 opNe (evVar 4) (evC (.int 0))) (evJs [(evFmt (evVar 4)), (evFmt (evVar 5))] Str.empty) [4, 5])) (S F2 none) M = some (.nx, S F2 W3, M) := by
    refine x_stNo (set_val (v := .lst ((wds ps).map Va.str)) ?_)
    have it : itZp (evCons (evVar 2) (evCons (ev1 (opFld 0 "column_names") (evVar 0)) evNil)) (S F2 none) M = some (.it (zipL ((ps.map (·.1)).map Va.int) ((ps.map (·.2)).map Va.str)) (fun N => lstOf N (rowV (ps.map (·.1))) = some ((ps.map (·.1)).map Va.int) ∧ lstOf N (.lst (D.cols.map Va.str)) = some ((ps.map (·.2)).map Va.str)), M) := by
      unfold itZp
      rw [x_cons, show evVar 2 (S F2 none) M = some (.val (rowV (ps.map (·.1))), M) from rfl, bindO_val, x_cons, cols, bindO_val, x_nil, bindO_val, bindO_val]
      unfold rowV
      dsimp only
      rw [y_lstL, y_lstL, hc]
    rw [z_lc, it]
    dsimp only
    rw [zip_pr, show wipeI (S F2 none) [4, 5] = S F2 none from rfl]
    rw [compL_filter (M := M) (tg := tgTup [(tgName 4), (tgName 5)]) (tt := ev2 opNe (evVar 4) (evC (.int 0))) (te := evJs [(evFmt (evVar 4)), (evFmt (evVar 5))] Str.empty) (sw := S F2 none) (fun p => Va.tup [.int p.1, .str p.2]) (fun p => Va.str (wd p)) nz ⟨rfl, by rw [hc]; rfl⟩ ps fun q hq => ⟨[some (.cel p), some y, F2, none, some (.int q.1), some (.str q.2)], rfl, by
      rw [x_2, show evVar 4 [some (.cel p), some y, F2, none, some (.int q.1), some (.str q.2)] M = some (.val (.int q.1), M) from rfl, bindO_val, x_c, bindO_val, y_neI]
      rfl, fun _ => by
      obtain ⟨h1, h2⟩ := h.1 q hq
      let T : SL := [some (.cel p), some y, F2, none, some (.int q.1), some (.str q.2)]
      have f5 : evFmt (evVar 5) T M = some (.val (.str q.2), M) := by
        unfold evFmt ev1
        rw [show evVar 5 T M = some (.val (.str q.2), M) from rfl, bindO_val]
        dsimp only
        rw [if_pos (le_ln h2.tx (by decide))]
      have f4 : evFmt (evVar 4) T M = some (.val (.str (nmS q.1)), M) := by
        unfold evFmt ev1
        rw [show evVar 4 T M = some (.val (.int q.1), M) from rfl, bindO_val]
        dsimp only
        rw [if_pos (log40 h1)]
        rfl
      show evJs [(evFmt (evVar 4)), (evFmt (evVar 5))] Str.empty T M = _
      unfold evJs; rw [f4, bindO_val]; dsimp only; rw [emp_app, if_pos (le_ln (nm_tx (n := q.1) (k := 13) (by decide) h1) (by decide))]
      unfold evJs; rw [f5, bindO_val]; dsimp only; rw [if_pos (show (nmS q.1 ++ q.2).length ≤ sizeLine from le_ln (wd_tx h1 h2) (by decide))]
      rfl⟩]
    dsimp only
    unfold wds
    rw [List.map_map]
    rfl
  have r4 : sRet (evIf (ev2 opNe (evVar 3) (evL kLst evNil)) (evM2 isStrA (kVal gJoin) (evC (.str " ")) (evCons (evVar 3) evNil)) (evC (.str "0"))) (S F2 W3) M = some (.ret (.str (sumT ps)), S F2 W3, M) := by
    refine ret_val ?_
    rw [x_if, x_2, show evVar 3 (S F2 W3) M = some (.val (.lst ((wds ps).map Va.str)), M) from rfl, bindO_val, show evL kLst evNil (S F2 W3) M = some (.val (.lst []), M) from rfl, bindO_val, strs_ne (LstAt.lst _) (fun z hz => (wds_tx h z hz).2)]
    dsimp only
    rw [bindO_val]
    by_cases e : wds ps = []
    · rw [decide_eq_true e]
      dsimp only [Bool.not]
      rw [x_c]
      unfold sumT
      rw [if_pos e]
    · rw [decide_eq_false e]
      dsimp only [Bool.not]
      have j := gJoin_ok (M := M) (sep := " ") (wds_tx h) (tx1 (s := " ") (by decide)) (wds_len h) (n := 20) (by decide) (x := .lst ((wds ps).map Va.str)) rfl
      have hT : isStrA M (.str " ") = true := rfl
      rw [x_M2, x_c, bindO_val, if_pos hT, x_cons, show evVar 3 (S F2 W3) M = some (.val (.lst ((wds ps).map Va.str)), M) from rfl, bindO_val, x_nil, bindO_val, bindO_val]
      dsimp only
      rw [x_kVal, j]
      unfold sumT
      rw [if_neg e]
  unfold c_show_sumX runF m_show_sumX
  rw [show startI 6 [Va.cel p, y] = S none none from rfl]
  exact end_ret (s1 := S F2 W3) (seq_nx b2 (seq_nx b3 (x_stRet r4)))
theorem show_odd {M : Store} {p : Nat} {D : Dat} {y : Va} {l : List (Key × Va)} {z : Str} {zs : List Str} (P : PlA M p D) (da : DA M y l) (ho : Odd D.cols z zs l) : c_show_sumX [.cel p, y] M = some (.exc 4 (.str (minS z zs)), M) := by
  let S : SL := [some (.cel p), some y, none, none, none, none]
  have cols : ev1 (opFld 0 "column_names") (evVar 0) S M = some (.val (.lst (D.cols.map Va.str)), M) := by
    rw [x_1, show evVar 0 S M = some (.val (.cel p), M) from rfl, bindO_val, fld_at (v := .lst (D.cols.map Va.str)) P.f rfl]
  unfold c_show_sumX runF m_show_sumX
  rw [show startI 6 [Va.cel p, y] = S from rfl]
  exact end_exc (s1 := S) (seq_exc (set_exc (call2 (x := .lst (D.cols.map Va.str)) (y := y) (M1 := M) (M2 := M) (x_no cols) rfl (factorsX_odd LA.lst da ho))))
/-! ### what is said -/
theorem said_ok {M : Store} {p : Nat} {y : Va} {t : Str} (h : c_show_sumX [.cel p, y] M = some (.val (.str t), M)) : c__law_said [.cel p, y] M = some (.val (.tup [.str "text", .str t]), M) := by
  let S := fun (s2 : Option Va) => ([some (.cel p), some y, s2, none] : SL)
  have bt : sSet 2 (evL kTup (evCons (evC (.str "text")) (evCons (evL (kFn 2 c_show_sumX) (evCons (evVar 0) (evCons (evVar 1) evNil))) evNil))) (S (some .non)) M = some (.nx, S (some (.tup [.str "text", .str t])), M) := by
    refine set_val (v := .tup [.str "text", .str t]) ?_
    rw [x_L, x_cons, x_c, bindO_val, x_cons, call2 (x := .cel p) (y := y) (M1 := M) (M2 := M) rfl rfl h, bindO_val, x_nil]
    rfl
  unfold c__law_said runF m__law_said
  rw [show startI 4 [Va.cel p, y] = S none from rfl]
  refine end_ret (s1 := S (some (.tup [.str "text", .str t]))) (seq_nx (s1 := S (some .non)) (M1 := M) rfl (seq_nx (s1 := S (some (.tup [.str "text", .str t]))) (M1 := M) ?_ rfl))
  unfold sTry
  rw [bt]
theorem said_odd {M : Store} {p : Nat} {y : Va} {t : Str} (h : c_show_sumX [.cel p, y] M = some (.exc 4 (.str t), M)) : c__law_said [.cel p, y] M = some (.val (.tup [.str "UnknownColumn", .str t]), M) := by
  let S := fun (s2 : Option Va) => ([some (.cel p), some y, s2, none] : SL)
  have bt : sSet 2 (evL kTup (evCons (evC (.str "text")) (evCons (evL (kFn 2 c_show_sumX) (evCons (evVar 0) (evCons (evVar 1) evNil))) evNil))) (S (some .non)) M = some (.exc 4 (.str t), S (some .non), M) := by
    refine set_exc ?_
    rw [x_L, x_cons, x_c, bindO_val, x_cons, call2 (x := .cel p) (y := y) (M1 := M) (M2 := M) rfl rfl h]
    rfl
  unfold c__law_said runF m__law_said
  rw [show startI 4 [Va.cel p, y] = S none from rfl]
  let S2 : SL := [none, none, some (.tup [.str "UnknownColumn", .str t]), none]
  refine end_ret (s1 := S2) (seq_nx (s1 := S (some .non)) (M1 := M) rfl (seq_nx (s1 := S2) (M1 := M) ?_ rfl))
  unfold sTry
  rw [bt]
  rfl
/-! ### what is due -/
def accT : Str → List (Int × Str) → Str
  | t, [] => t
  | t, p :: r => accT (if p.1 = 0 then t else ((t ++ " ") ++ nmS p.1) ++ p.2) r
theorem accT_tl : ∀ (ps : List (Int × Str)) (t : Str), tl (accT t ps) = tl t ++ ((wds ps).map fun z => [32] ++ tl z).flatten
  | [], t => by simp [accT, wds]
  | p :: ps, t => by
    show tl (accT _ ps) = _
    rw [accT_tl ps]
    by_cases e : p.1 = 0
    · have : wds (p :: ps) = wds ps := by
        unfold wds
        rw [List.filter_cons]
        simp [nz, e]
      rw [if_pos e, this]
    · have : wds (p :: ps) = wd p :: wds ps := by
        unfold wds
        rw [List.filter_cons]
        simp [nz, e]
      rw [if_neg e, this, List.map_cons, List.flatten_cons]
      have a1 : tl (((t ++ " ") ++ nmS p.1) ++ p.2) = ((tl t ++ tl " ") ++ tl (nmS p.1)) ++ tl p.2 := by
        rw [show tl (((t ++ " ") ++ nmS p.1) ++ p.2) = tl ((t ++ " ") ++ nmS p.1) ++ tl p.2 from TL.tl_append _ _, show tl ((t ++ " ") ++ nmS p.1) = tl (t ++ " ") ++ tl (nmS p.1) from TL.tl_append _ _, show tl (t ++ " ") = tl t ++ tl " " from TL.tl_append _ _]
      have a2 : tl (wd p) = tl (nmS p.1) ++ tl p.2 := TL.tl_append _ _
      rw [a1, a2, show tl (" " : Str) = [32] from rfl]
      simp only [List.append_assoc]
theorem due_body {M : Store} {cols : List Str} {y : Va} {fs : List Int} {i : Nat} {f : Int} {c : Str} {t : Str} {B : Nat} (hy : LstAt M y (fs.map Va.int)) (hf : fs[i]? = some f) (hc : cols[i]? = some c) (h1 : f.natAbs < 10 ^ 13) (h2 : Nm c) (ht : PlainT B t) (hB : B ≤ 100000) :
    sIf (ev2 opNe (ev2 opIx (evVar 1) (evVar 3)) (evC (.int 0))) (sSet 2 (ev2 opAdd (ev2 opAdd (ev2 opAdd (evVar 2) (evC (.str " "))) (evL (kPure gStr) (evCons (ev2 opIx (evVar 1) (evVar 3)) evNil))) (ev2 opIx (evVar 0) (evVar 3)))) sNx [some (.lst (cols.map Va.str)), some y, some (.str t), some (.int i)] M = some (.nx, [some (.lst (cols.map Va.str)), some y, some (.str (if f = 0 then t else ((t ++ " ") ++ nmS f) ++ c)), some (.int i)], M) := by
  let S : SL := [some (.lst (cols.map Va.str)), some y, some (.str t), some (.int i)]
  have ef : ev2 opIx (evVar 1) (evVar 3) S M = some (.val (.int f), M) := by
    rw [x_2, show evVar 1 S M = some (.val y, M) from rfl, bindO_val, show evVar 3 S M = some (.val (.int i), M) from rfl, bindO_val]
    rw [hy.ix, ix_nat (x := Va.int f) (by rw [List.getElem?_map, hf]; rfl)]
  have ec : ev2 opIx (evVar 0) (evVar 3) S M = some (.val (.str c), M) := by
    rw [x_2, show evVar 0 S M = some (.val (.lst (cols.map Va.str)), M) from rfl, bindO_val, show evVar 3 S M = some (.val (.int i), M) from rfl, bindO_val, y_ixL, ix_nat (x := Va.str c) (by rw [List.getElem?_map, hc]; rfl)]
  rw [x_sIf, x_2, ef, bindO_val, x_c, bindO_val, y_neI]
  dsimp only
  by_cases e : f = 0
  · rw [decide_eq_true e, if_pos e]
    rfl
  · rw [decide_eq_false e, if_neg e]
    dsimp only [Bool.not]
    have a1 := ht.app (tx1 (s := " ") (by decide))
    have a2 := a1.app (nm_tx (n := f) (k := 13) (by decide) h1)
    have z1 := tl_len t
    have z2 := tl_len (t ++ " ")
    have z3 := tl_len (t ++ " " ++ nmS f)
    have z4 := tl_len (nmS f)
    have z5 := tl_len c
    have y1 := ht.1
    have y2 := a1.1
    have y3 := a2.1
    have y4 := nm_len (n := f) (k := 13) (by decide) h1
    have y5 := h2.2.1
    refine set_val (v := .str (((t ++ " ") ++ nmS f) ++ c)) ?_
    have es : evL (kPure gStr) (evCons (ev2 opIx (evVar 1) (evVar 3)) evNil) S M = some (.val (.str (nmS f)), M) := by
      rw [x_L, x_cons, ef, bindO_val, x_nil, bindO_val, bindO_val]
      dsimp only
      rw [x_kPure, y_strN (log40 h1)]
    rw [x_2, x_2, x_2, show evVar 2 S M = some (.val (.str t), M) from rfl, bindO_val, x_c, bindO_val, y_addS (by show t.length + 1 ≤ 16777216; omega)]
    dsimp only
    rw [bindO_val, es, bindO_val, y_addS (by omega)]
    dsimp only
    rw [bindO_val, ec, bindO_val, y_addS (by omega)]
theorem due_loop {M : Store} {cols : List Str} {y : Va} {fs : List Int} (hy : LstAt M y (fs.map Va.int)) : ∀ (ps : List (Int × Str)) (i : Nat) (t : Str) (B : Nat) (s3 : Option Va), (∀ (k : Nat) (p : Int × Str), ps[k]? = some p → fs[i + k]? = some p.1 ∧ cols[i + k]? = some p.2) → (∀ p ∈ ps, p.1.natAbs < 10 ^ 13 ∧ Nm p.2) → PlainT B t → B + 100 * ps.length ≤ 100000 →
    ∃ s3', loopF (fun _ => True) (tgName 3) (sIf (ev2 opNe (ev2 opIx (evVar 1) (evVar 3)) (evC (.int 0))) (sSet 2 (ev2 opAdd (ev2 opAdd (ev2 opAdd (evVar 2) (evC (.str " "))) (evL (kPure gStr) (evCons (ev2 opIx (evVar 1) (evVar 3)) evNil))) (ev2 opIx (evVar 0) (evVar 3)))) sNx) ((List.range' i ps.length).map fun (i : Nat) => Va.int i) [some (.lst (cols.map Va.str)), some y, some (.str t), s3] M = some (.nx, [some (.lst (cols.map Va.str)), some y, some (.str (accT t ps)), s3'], M)
  | [], i, t, B, s3, _, _, _, _ => ⟨s3, loop_nil trivial⟩
  | p :: ps, i, t, B, s3, h, hp, ht, hB => by
    rw [List.length_cons] at hB
    obtain ⟨h1, h2⟩ := h 0 p rfl
    obtain ⟨g1, g2⟩ := hp p (by simp)
    have a : PlainT (B + 100) (if p.1 = 0 then t else ((t ++ " ") ++ nmS p.1) ++ p.2) := by
      split
      · exact ht.mono (by omega)
      · exact (((ht.app (tx1 (s := " ") (by decide))).app (nm_tx (n := p.1) (k := 13) (by decide) g1)).app g2.tx).mono (by omega)
    obtain ⟨s3', e⟩ := due_loop hy ps (i + 1) _ (B + 100) (some (.int i)) (fun k q hk => by
      have := h (k + 1) q (by rw [List.getElem?_cons_succ]; exact hk)
      rw [show i + (k + 1) = i + 1 + k by omega] at this
      exact this) (fun q hq => hp q (by simp [hq])) a (by omega)
    refine ⟨s3', ?_⟩
    rw [List.length_cons, List.range'_succ, List.map_cons]
    exact loop_nx trivial rfl (due_body hy h1 h2 g1 g2 ht (by omega)) e
theorem due_at {M : Store} {y : Va} {ps : List (Int × Str)} (h : PrOk ps) (hy : LstAt M y ((ps.map (·.1)).map Va.int)) : c__law_due [.lst ((ps.map (·.2)).map Va.str), y] M = some (.val (.tup [.str "text", .str (sumT ps)]), M) := by
  let S := fun (s2 s3 : Option Va) => ([some (.lst ((ps.map (·.2)).map Va.str)), some y, s2, s3] : SL)
  have hl := h.2
  obtain ⟨s3, e⟩ := due_loop (M := M) (cols := ps.map (·.2)) hy ps 0 "" 0 none (fun k p hk => by
    rw [Nat.zero_add, List.getElem?_map, List.getElem?_map, hk]
    exact ⟨rfl, rfl⟩) h.1 (tx0 (s := "") (k := 0) (by decide)) (by omega)
  rw [← List.range_eq_range'] at e
  have at_ := accT_tl ps ""
  rw [show tl ("" : Str) = [] from rfl, List.nil_append] at at_
  let T := accT "" ps
  have hTl : T.length ≤ 16777216 := by
    have e1 : tl T = ((wds ps).map fun z => [32] ++ tl z).flatten := at_
    rw [tl_len, e1, List.length_flatten, List.map_map]
    have := sum_len (fun z : Str => ([32] ++ tl z).length) 23 (wds ps) (fun z hz => by
      have := (wds_tx h z hz).1
      rw [List.length_append]
      show 1 + _ ≤ 23
      omega)
    have wl := wds_len h
    have : (List.map (List.length ∘ fun z => [32] ++ tl z) (wds ps)).sum ≤ (wds ps).length * 23 := this
    omega
  have b4 : sFor (itR1 (evCons (evL (kPure gLen) (evCons (evVar 0) evNil)) evNil)) (tgName 3) (sIf (ev2 opNe (ev2 opIx (evVar 1) (evVar 3)) (evC (.int 0))) (sSet 2 (ev2 opAdd (ev2 opAdd (ev2 opAdd (evVar 2) (evC (.str " "))) (evL (kPure gStr) (evCons (ev2 opIx (evVar 1) (evVar 3)) evNil))) (ev2 opIx (evVar 0) (evVar 3)))) sNx) (S (some (.str "")) none) M = some (.nx, S (some (.str T)) s3, M) := by
    refine for_it (chk := fun _ => True) (M1 := M) (l := (List.range ps.length).map fun (i : Nat) => Va.int i) ?_ e
    have ln := len_at (e := evVar 0) (s := S (some (.str "")) none) (M := M) (M1 := M) (x := .lst ((ps.map (·.2)).map Va.str)) rfl (LstAt.lst _)
    rw [List.length_map, List.length_map] at ln
    rw [z_itR1, x_cons, ln, bindO_val, x_nil, bindO_val]
    dsimp only
    rw [z_rng (by omega) (by omega), Int.toNat_natCast]
  have r5 : sRet (evL kTup (evCons (evC (.str "text")) (evCons (evIf (ev2 opNe (evVar 2) (evC (.str ""))) (evSl (evVar 2) (evB (evC (.int 1))) (evC .non)) (evC (.str "0"))) evNil))) (S (some (.str T)) s3) M = some (.ret (.tup [.str "text", .str (sumT ps)]), S (some (.str T)) s3, M) := by
    refine ret_val ?_
    have ei : evIf (ev2 opNe (evVar 2) (evC (.str ""))) (evSl (evVar 2) (evB (evC (.int 1))) (evC .non)) (evC (.str "0")) (S (some (.str T)) s3) M = some (.val (.str (sumT ps)), M) := by
      rw [x_if, x_2, show evVar 2 (S (some (.str T)) s3) M = some (.val (.str T), M) from rfl, bindO_val, x_c, bindO_val, y_neS]
      dsimp only
      rw [bindO_val]
      by_cases q : wds ps = []
      · have eT : T = "" := tl_ext (by rw [show tl T = _ from at_, q]; rfl)
        rw [decide_eq_true eT]
        dsimp only [Bool.not]
        rw [x_c]
        unfold sumT
        rw [if_pos q]
      · have nT : T ≠ "" := fun x => q (by
          have e1 : tl T = ((wds ps).map fun z => [32] ++ tl z).flatten := at_
          rw [x, show tl ("" : Str) = [] from rfl] at e1
          cases hw : wds ps with
          | nil => rfl
          | cons z zs =>
            rw [hw, List.map_cons, List.flatten_cons] at e1
            cases e1)
        rw [decide_eq_false nT]
        dsimp only [Bool.not]
        have cut : cutS T (some 1) none = Txt.join " " (wds ps) := by
          apply tl_ext
          rw [show (some 1 : Option Int) = some ((1 : Nat) : Int) from rfl, cut_from, show tl T = _ from at_, join_len, join_glue, List.map_map]
          rfl
        unfold sumT
        rw [if_neg q, ← cut]
        show (match opSl M (.str T) (some 1) none with | some r => some (Out.val r, M) | none => none) = _
        unfold opSl
        dsimp only
        rw [if_pos (show T.length ≤ sizeLine from hTl)]
    rw [x_L, x_cons, x_c, bindO_val, x_cons, ei, bindO_val, x_nil]
    rfl
  unfold c__law_due runF m__law_due
  rw [show startI 4 [Va.lst ((ps.map (·.2)).map Va.str), y] = S none none from rfl]
  exact end_ret (s1 := S (some (.str T)) s3) (seq_nx (s1 := S (some (.str "")) none) (M1 := M) rfl (seq_nx b4 r5))
end Lw

set_option Elab.async false
set_option linter.all false
set_option maxRecDepth 100000
set_option maxHeartbeats 4000000
set_option exponentiation.threshold 3000
namespace Lw
open PySem L2 PV
/-- strange columns, and the dict with them -/
structure Sk (M : Store) (w dn f : Nat) (D : Dat) (l : List (Key × Va)) (ss : List Str) : Prop where
  c : M.c dn = some (.dic l)
  cf : M.c f = some (.lst (ss.map Va.str))
  lt : dn < M.nx
  lf : f < M.nx
  ne : dn ≠ w
  nf : f ≠ w
  nd : dn ≠ f
  ks : ∀ q ∈ l, ∃ c ∈ D.cols ++ ss, q.1 = .inr c
  al : ∀ c ∈ ss, (Sum.inr c : Key) ∈ l.map (·.1)
  no : ∀ c ∈ ss, c ∉ D.cols
  tx : ∀ c ∈ ss, TxtOk c
  ok : DOk l
  ln : l.length ≤ 20 + ss.length
theorem Sk.kp {M M' : Store} {w dn f : Nat} {D : Dat} {l : List (Key × Va)} {ss : List Str} (A : Sk M w dn f D l ss) (k : Kp M M' w) : Sk M' w dn f D l ss :=
  ⟨k.kx.get A.lt (by simp; exact A.ne) A.c, k.kx.get A.lf (by simp; exact A.nf) A.cf, Nat.lt_of_lt_of_le A.lt k.nx, Nat.lt_of_lt_of_le A.lf k.nx, A.ne, A.nf, A.nd, A.ks, A.al, A.no, A.tx, A.ok, A.ln⟩
def SK_ (w : Nat) (D : Dat) (s2 s3 s4 s5 s8 s9 s10 s11 s12 s13 : Option Va) (x6 x7 : Option Va) : SL := [some (.cel w), some D.va, s2, s3, s4, s5, x6, x7, s8, s9, s10, s11, s12, s13]
noncomputable def skBody : SS := (sSeq (sSet 11 (evL kLst (evCons (evC (.str "")) (evCons (evC (.str "Held")) (evCons (ev2 opAdd (ev2 opIx (ev2 opAdd (ev2 opIx (evVar 1) (evC (.int 0))) (evL kLst (evCons (evC (.str "held")) evNil))) (evC (.int 0))) (evC (.str " "))) (evCons (evL (kFn 2 c__law_word) (evCons (evVar 0) (evCons (ev2 opIx (evVar 1) (evC (.int 0))) evNil))) evNil))))))
    (sSeq (sDrop (evM2 isLstA (kMut cAppend) (evVar 7) (evCons (ev2 opIx (evVar 11) (evL (kFn 2 c__law_draw) (evCons (evVar 0) (evCons (evC (.int 4)) evNil)))) evNil)))
    (sSub (evL (kFn 2 c__law_number) (evCons (evVar 0) (evCons (evC (.int 9)) evNil))) (evVar 6) (ev2 opIx (evVar 7) (ev1 opNeg (evC (.int 1)))) cSetK)))
theorem sk_turn {D : Dat} {F : Int} (ok : D.Ok F) {w dn f b : Nat} {l : List (Key × Va)} {ss : List Str} {s2 s3 s4 s5 s8 s9 s10 s11 s12 s13 : Option Va} {M : Store} (A : Sk M w dn f D l ss) (hsl : ss.length ≤ 10) (wl : Wl M w b) (hb : b + 100 < 2 ^ 39) :
    ∃ (l' : List (Key × Va)) (z : Str) (s11' : Option Va) (M' : Store), skBody (SK_ w D s2 s3 s4 s5 s8 s9 s10 s11 s12 s13 (some (.cel dn)) (some (.cel f))) M = some (.nx, SK_ w D s2 s3 s4 s5 s8 s9 s10 s11' s12 s13 (some (.cel dn)) (some (.cel f)), M') ∧ Sk M' w dn f D l' (ss ++ [z]) ∧ Wl M' w (b + 20) ∧ Kx [w, dn, f] M M' := by
  have hcl := ok.cl
  have hHeld : Nm "held" := by unfold Nm; decide
  let S := fun (s11 : Option Va) => SK_ w D s2 s3 s4 s5 s8 s9 s10 s11 s12 s13 (some (.cel dn)) (some (.cel f))
  have c2 : ∀ N (s11 : Option Va), ev2 opIx (evVar 1) (evC (.int 0)) (S s11) N = some (.val (.lst (D.cols.map Va.str)), N) := fun N s11 => data_0' rfl
  obtain ⟨z, M1, e1, nz, hz, w1, k1⟩ := word (x := .lst (D.cols.map Va.str)) wl (by omega) (LstAt.lst _) (by intro q; cases q) (fun n q => by cases q) ok.cn (by omega)
  let odd : List Str := ["", "Held", hdR D.cols "held" ++ " ", z]
  have oddok : ∀ c ∈ odd, TxtOk c ∧ c ∉ D.cols := fun c hc => by
    have : c = "" ∨ c = "Held" ∨ c = hdR D.cols "held" ++ " " ∨ c = z := by simpa [odd] using hc
    rcases this with rfl | rfl | rfl | rfl
    · exact ⟨by unfold TxtOk; decide, fun hm => absurd (ok.cn _ hm) (by decide)⟩
    · exact ⟨by unfold TxtOk; decide, fun hm => absurd (ok.cn _ hm) (by decide)⟩
    · exact ⟨(hd_sp ok.cn hHeld).2, fun hm => hd_not (ok.cn _ hm)⟩
    · exact ⟨nz.txt, hz⟩
  let O := some (Va.lst (odd.map Va.str))
  have third : ∀ N, ev2 opAdd (ev2 opIx (ev2 opAdd (ev2 opIx (evVar 1) (evC (.int 0))) (evL kLst (evCons (evC (.str "held")) evNil))) (evC (.int 0))) (evC (.str " ")) (S s11) N = some (.val (.str (hdR D.cols "held" ++ " ")), N) := fun N => by
    have hs := (hd_sp ok.cn hHeld).1
    rw [x_2, x_2, x_2, c2, bindO_val, show evL kLst (evCons (evC (.str "held")) evNil) (S s11) N = some (.val (.lst ([("held" : Str)].map Va.str)), N) from rfl, bindO_val, y_addL (by simp; omega)]
    dsimp only
    rw [bindO_val, x_c, bindO_val, y_ixL, ← List.map_append, hd_at]
    dsimp only
    rw [bindO_val, x_c, bindO_val, y_addS (by show _ + 1 ≤ 16777216; omega)]
  have b16 : sSet 11 (evL kLst (evCons (evC (.str "")) (evCons (evC (.str "Held")) (evCons (ev2 opAdd (ev2 opIx (ev2 opAdd (ev2 opIx (evVar 1) (evC (.int 0))) (evL kLst (evCons (evC (.str "held")) evNil))) (evC (.int 0))) (evC (.str " "))) (evCons (evL (kFn 2 c__law_word) (evCons (evVar 0) (evCons (ev2 opIx (evVar 1) (evC (.int 0))) evNil))) evNil))))) (S s11) M = some (.nx, S O, M1) := by
    refine set_val (v := .lst (odd.map Va.str)) ?_
    rw [x_L, x_cons, x_c, bindO_val, x_cons, x_c, bindO_val, x_cons, third, bindO_val, x_cons, call2 (x := .cel w) (y := .lst (D.cols.map Va.str)) (M1 := M) (M2 := M) rfl (c2 M s11) e1, bindO_val, x_nil]
    rfl
  obtain ⟨q, M2, e2, q0, q1, w2, k2⟩ := drawE w1 (by omega) 4 (by decide) (by decide) (s := S O) (i := 0) (e := evC (.int 4)) (fun _ => rfl) rfl
  obtain ⟨y, ey, hy, _⟩ := at_nat (l := odd.map Va.str) q0 (by show q < 4; exact q1)
  obtain ⟨c, hc, rfl⟩ := List.mem_map.mp hy
  obtain ⟨ct, cno⟩ := oddok c hc
  have A1 := A.kp k1
  have A2 := A1.kp k2
  have e3 : ev2 opIx (evVar 11) (evL (kFn 2 c__law_draw) (evCons (evVar 0) (evCons (evC (.int 4)) evNil))) (S O) M1 = some (.val (.str c), M2) := by
    rw [x_2, show evVar 11 (S O) M1 = some (.val (.lst (odd.map Va.str)), M1) from rfl, bindO_val, e2, bindO_val, y_ixL, ey]
  have b10 := append_val (s := S O) (v := 7) (f := f) (x := .str c) (l := ss.map Va.str) (fun _ => rfl) A1.cf e3 A2.cf (by rw [List.length_map]; omega)
  rw [show ss.map Va.str ++ [Va.str c] = (ss ++ [c]).map Va.str by simp] at b10
  let M3 := M2.put f (.lst ((ss ++ [c]).map Va.str))
  have w3 : Wl M3 w (b + 15) := (w2.mono (by omega)).put A.nf
  obtain ⟨n, M4, e4, nb, w4, k4⟩ := number (M := M3) 9 (by decide) w3 (by omega)
  have cf4 : M4.c f = some (.lst ((ss ++ [c]).map Va.str)) := k4.kx.get A2.lf (by simp; exact A.nf) put_same
  have cd4 : M4.c dn = some (.dic l) := k4.kx.get A2.lt (by simp; exact A.ne) ((put_ne A.nd).trans A2.c)
  have eK : ev2 opIx (evVar 7) (ev1 opNeg (evC (.int 1))) (S O) M4 = some (.val (.str c), M4) := by
    rw [x_2, show evVar 7 (S O) M4 = some (.val (.cel f), M4) from rfl, bindO_val, show ev1 opNeg (evC (.int 1)) (S O) M4 = some (.val (.int (-1)), M4) from rfl, bindO_val, (LstAt.cel cf4).ix, List.map_append]
    rw [show [c].map Va.str = [Va.str c] from rfl, at_last]
  have hln := A.ln
  let l' := puK l (.inr c) (.int n)
  have b4 : sSub (evL (kFn 2 c__law_number) (evCons (evVar 0) (evCons (evC (.int 9)) evNil))) (evVar 6) (ev2 opIx (evVar 7) (ev1 opNeg (evC (.int 1)))) cSetK (S O) M3 = some (.nx, S O, M4.put dn (.dic l')) :=
    subK_val (o := .cel dn) (i := .str c) (call2 (x := .cel w) (y := .int 9) (M1 := M3) (M2 := M3) rfl rfl e4) rfl eK (setK_now cd4 (by omega))
  have n4 := k4.nx
  have l3 : M3.nx = M2.nx := rfl
  refine ⟨l', c, O, M4.put dn (.dic l'), ?_, ⟨put_same, (put_ne (Ne.symm A.nd)).trans cf4, by have := A2.lt; show dn < M4.nx; omega, by have := A2.lf; show f < M4.nx; omega, A.ne, A.nf, A.nd, ?_, ?_, ?_, ?_, A.ok.put (by omega) ct (by omega), ?_⟩, (w4.mono (by omega)).put A.ne, ((((k1.kx.mono (by simp)).trans (k2.kx.mono (by simp))).trans (Kx.put (by simp))).trans (k4.kx.mono (by simp))).trans (Kx.put (by simp))⟩
  · unfold skBody
    exact seq_nx b16 (seq_nx b10 b4)
  · exact puK_keys (P := fun x => ∃ d ∈ D.cols ++ (ss ++ [c]), x = .inr d) (fun q hq => by
      obtain ⟨d, hd, e⟩ := A.ks q hq
      exact ⟨d, by rw [← List.append_assoc]; exact List.mem_append_left _ hd, e⟩) ⟨c, by simp, rfl⟩
  · intro d hd
    rw [puK_mem]
    rcases List.mem_append.mp hd with q | q
    · exact .inl (A.al d q)
    · rw [List.mem_singleton.mp q]; exact .inr rfl
  · intro d hd
    rcases List.mem_append.mp hd with q | q
    · exact A.no d q
    · rw [List.mem_singleton.mp q]; exact cno
  · intro d hd
    rcases List.mem_append.mp hd with q | q
    · exact A.tx d q
    · rw [List.mem_singleton.mp q]; exact ct
  · have := puK_len (l := l) (k := (.inr c : Key)) (v := Va.int n)
    rw [List.length_append]
    show (puK l (.inr c) (.int n)).length ≤ 20 + (ss.length + 1)
    omega
theorem sk_loop {D : Dat} {F : Int} (ok : D.Ok F) {w dn f : Nat} {s2 s3 s4 s5 s9 s10 s12 s13 : Option Va} : ∀ (xs : List Va) (l : List (Key × Va)) (ss : List Str) (s8 s11 : Option Va) (M : Store) (b : Nat), Sk M w dn f D l ss → ss.length + xs.length ≤ 10 → Wl M w b → b + 20 * xs.length + 100 < 2 ^ 39 →
    ∃ (l' : List (Key × Va)) (ss' : List Str) (s8' s11' : Option Va) (M' : Store), loopF (fun _ => True) (tgName 8) skBody xs (SK_ w D s2 s3 s4 s5 s8 s9 s10 s11 s12 s13 (some (.cel dn)) (some (.cel f))) M = some (.nx, SK_ w D s2 s3 s4 s5 s8' s9 s10 s11' s12 s13 (some (.cel dn)) (some (.cel f)), M') ∧ Sk M' w dn f D l' ss' ∧ ss'.length = ss.length + xs.length ∧ Wl M' w (b + 20 * xs.length) ∧ Kx [w, dn, f] M M'
  | [], l, ss, s8, s11, M, b, A, hl, wl, hb => ⟨l, ss, s8, s11, M, loop_nil trivial, A, rfl, wl, Kx.refl⟩
  | x :: xs, l, ss, s8, s11, M, b, A, hl, wl, hb => by
    rw [List.length_cons] at hl hb
    obtain ⟨l1, z, t11, M1, e1, A1, w1, k1⟩ := sk_turn (s2 := s2) (s3 := s3) (s4 := s4) (s5 := s5) (s8 := some x) (s9 := s9) (s10 := s10) (s11 := s11) (s12 := s12) (s13 := s13) ok A (by omega) wl (by omega)
    obtain ⟨l2, ss2, u8, u11, M2, e2, A2, l2l, w2, k2⟩ := sk_loop (s2 := s2) (s3 := s3) (s4 := s4) (s5 := s5) (s9 := s9) (s10 := s10) (s12 := s12) (s13 := s13) ok xs l1 (ss ++ [z]) (some x) t11 M1 (b + 20) A1 (by rw [List.length_append]; show ss.length + 1 + _ ≤ 10; omega) w1 (by omega)
    refine ⟨l2, ss2, u8, u11, M2, loop_nx trivial rfl e1 e2, A2, ?_, ?_, k1.trans k2⟩
    · rw [l2l]
      simp only [List.length_append, List.length_cons, List.length_nil]
      omega
    · rw [List.length_cons, show b + 20 * (xs.length + 1) = b + 20 + 20 * xs.length by omega]
      exact w2
end Lw

set_option Elab.async false
set_option linter.all false
set_option maxRecDepth 100000
set_option maxHeartbeats 4000000
set_option exponentiation.threshold 3000
namespace Lw
open PySem L2 PV
def dueV (fs : List Int) (cols : List Str) : Va := .tup [.str "text", .str (sumT (fs.zip cols))]
theorem zip_ok {D : Dat} {F : Int} (ok : D.Ok F) {fs : List Int} (hl : fs.length = D.cols.length) (hb : ∀ x ∈ fs, x.natAbs < 10 ^ 13) : PrOk (fs.zip D.cols) ∧ (fs.zip D.cols).map (·.1) = fs ∧ (fs.zip D.cols).map (·.2) = D.cols := by
  have hcl := ok.cl
  refine ⟨⟨fun q hq => ?_, by rw [List.length_zip]; omega⟩, List.map_fst_zip (by omega), List.map_snd_zip (by omega)⟩
  obtain ⟨a, c⟩ := q
  obtain ⟨h1, h2⟩ := List.of_mem_zip hq
  exact ⟨hb a h1, ok.cn c h2⟩
theorem said_fs {D : Dat} {F : Int} (ok : D.Ok F) {M : Store} {p : Nat} {y : Va} {l : List (Key × Va)} {fs : List Int} (P : PlA M p D) (da : DA M y l) (tw : TellsW D.cols fs l) (hl : fs.length = D.cols.length) (hb : ∀ x ∈ fs, x.natAbs < 10 ^ 13) : c__law_said [.cel p, y] M = some (.val (dueV fs D.cols), M) := by
  obtain ⟨h, e1, e2⟩ := zip_ok ok hl hb
  exact said_ok (show_ok P e2.symm da (by rw [e1]; exact tw) h)
theorem due_fs {D : Dat} {F : Int} (ok : D.Ok F) {M : Store} {y : Va} {fs : List Int} (hy : LstAt M y (fs.map Va.int)) (hl : fs.length = D.cols.length) (hb : ∀ x ∈ fs, x.natAbs < 10 ^ 13) : c__law_due [.lst (D.cols.map Va.str), y] M = some (.val (dueV fs D.cols), M) := by
  obtain ⟨h, e1, e2⟩ := zip_ok ok hl hb
  have d := due_at (M := M) (y := y) h (by rw [e1]; exact hy)
  rw [e2] at d
  exact d
theorem dueV_repr {D : Dat} {F : Int} (ok : D.Ok F) {fs : List Int} (hl : fs.length = D.cols.length) (hb : ∀ x ∈ fs, x.natAbs < 10 ^ 13) : ∃ t : Str, ∀ M, kRepr [dueV fs D.cols] M = some (.val (.str t), M) := by
  obtain ⟨h, _, _⟩ := zip_ok ok hl hb
  have tx := sumT_tx h
  refine ⟨_, fun M => (SmB.tup2 (B := 8) (W1 := 20) (W2 := 800) (dp := 0) (W' := 900) (SmB.str (z := "text") (by decide) (by decide)) (SmB.str tx.2 (by rw [tl_len]; exact tx.1)) (by decide)).repr (by decide) (by decide) (by decide) (.tup (.cons (.str _) (.cons (.str _) .nil)))⟩
theorem odd_repr {z : Str} (h : TxtOk z) : ∃ t : Str, ∀ M, kRepr [.tup [.str "UnknownColumn", .str z]] M = some (.val (.str t), M) :=
  ⟨_, fun M => (SmB.tup2 (B := 8) (W1 := 20) (W2 := 20) (dp := 0) (W' := 900) (SmB.str (z := "UnknownColumn") (by decide) (by decide)) (SmB.str h.2 (Nat.le_trans h.1 (by decide))) (by decide)).repr (by decide) (by decide) (by decide) (.tup (.cons (.str _) (.cons (.str _) .nil)))⟩
noncomputable def tnBody : SS := (sSeq (sSet 12 (evL (kFn 2 c__law_draw) (evCons (evVar 0) (evCons (evL (kPure gLen) (evCons (evVar 4) evNil)) evNil))))
    (sSeq (sSet 13 (evL kList (evCons (evVar 4) evNil)))
    (sSeq (sSub (evIf (ev2 opLt (evL (kPure gAbs) (evCons (ev2 opIx (evVar 4) (evVar 12)) evNil)) (evC (.int 2))) (ev2 opSub (evC (.int 1)) (ev2 opIx (evVar 4) (evVar 12))) (evC (.int 0))) (evVar 13) (evVar 12) cSetAt)
    (sSeq (sSub (ev2 opIx (evVar 13) (evVar 12)) (evVar 5) (ev2 opIx (ev2 opIx (evVar 1) (evC (.int 0))) (evVar 12)) cSetK)
    (sSeq (sIf (ev2 opNe (evL kRepr (evCons (evL (kFn 2 c__law_said) (evCons (evVar 2) (evCons (evVar 5) evNil))) evNil)) (evL kRepr (evCons (evL (kFn 2 c__law_due) (evCons (ev2 opIx (evVar 1) (evC (.int 0))) (evCons (evVar 13) evNil))) evNil))) (sRet (evC (.bl false))) sNx)
    (sSeq (sSub (ev2 opIx (evVar 4) (evVar 12)) (evVar 5) (ev2 opIx (ev2 opIx (evVar 1) (evC (.int 0))) (evVar 12)) cSetK)
    (sIf (ev2 opNe (evL kRepr (evCons (evL (kFn 2 c__law_said) (evCons (evVar 2) (evCons (evVar 5) evNil))) evNil)) (evL kRepr (evCons (evVar 10) evNil))) (sRet (evC (.bl false))) sNx)))))))
theorem tn_part {D : Dat} {F : Int} (ok : D.Ok F) {M : Store} {w p dt b : Nat} {fs : List Int} {l : List (Key × Va)} {s3 s8 s9 s11 s12 s13 x6 x7 : Option Va} (P : PlA M p D) (pw : p ≠ w) (pd : p ≠ dt) (hdt : dt < M.nx) (hdw : dt ≠ w) (hc : M.c dt = some (.dic l)) (wl : Wl M w b) (hb : b + 10 < 2 ^ 40) (hln : l.length ≤ 20) (tw : TellsW D.cols fs l) (hfl : fs.length = D.cols.length) (hfb : ∀ x ∈ fs, x.natAbs ≤ 10 ^ 12 + 5) (hne : fs ≠ []) :
    ∃ s12' s13' M', tnBody (SK_ w D (some (.cel p)) s3 (some (rowV fs)) (some (.cel dt)) s8 s9 (some (dueV fs D.cols)) s11 s12 s13 x6 x7) M = some (.nx, SK_ w D (some (.cel p)) s3 (some (rowV fs)) (some (.cel dt)) s8 s9 (some (dueV fs D.cols)) s11 s12' s13' x6 x7, M') ∧ Wl M' w (b + 1) ∧ Kx [w, dt] M M' := by
  have hcl := ok.cl
  have hlt := P.lt
  have hfb' : ∀ x ∈ fs, x.natAbs < 10 ^ 13 := fun x hx => by have := hfb x hx; omega
  let S := fun (s12 s13 : Option Va) => SK_ w D (some (.cel p)) s3 (some (rowV fs)) (some (.cel dt)) s8 s9 (some (dueV fs D.cols)) s11 s12 s13 x6 x7
  have ln := len_at (e := evVar 4) (s := S s12 s13) (M := M) (M1 := M) (x := rowV fs) rfl (LstAt.lst _)
  rw [List.length_map] at ln
  have hpos : 0 < fs.length := List.length_pos_iff.mpr hne
  obtain ⟨q, M1, e1, q0, q1, w1, k1⟩ := drawE wl (by omega) (fs.length : Int) (by omega) (by
    have : (1000 : Int) < 2 ^ 200 := by decide
    omega) (s := S s12 s13) (i := 0) (fun _ => rfl) ln
  obtain ⟨c, rfl⟩ : ∃ c : Nat, q = (c : Nat) := ⟨q.toNat, (Int.toNat_of_nonneg q0).symm⟩
  have hcf : c < fs.length := by omega
  have hcl' : c < D.cols.length := by omega
  obtain ⟨cn, hcn⟩ : ∃ cn, D.cols[c]? = some cn := ⟨D.cols[c], List.getElem?_eq_getElem hcl'⟩
  obtain ⟨old, hold⟩ : ∃ o, fs[c]? = some o := ⟨fs[c], List.getElem?_eq_getElem hcf⟩
  have hom : old ∈ fs := List.mem_of_getElem? hold
  have hob := hfb old hom
  let C := some (Va.int (c : Nat))
  have b12 : sSet 12 (evL (kFn 2 c__law_draw) (evCons (evVar 0) (evCons (evL (kPure gLen) (evCons (evVar 4) evNil)) evNil))) (S s12 s13) M = some (.nx, S C s13, M1) := set_val e1
  let tn := M1.nx
  let M2 := M1.new (.lst (fs.map Va.int))
  let T := some (Va.cel tn)
  have b13 : sSet 13 (evL kList (evCons (evVar 4) evNil)) (S C s13) M1 = some (.nx, S C T, M2) := set_val (v := .cel tn) rfl
  have e4 : ∀ (s13 : Option Va) (N : Store), ev2 opIx (evVar 4) (evVar 12) (S C s13) N = some (.val (.int old), N) := fun s13 N => by
    rw [x_2, show evVar 4 (S C s13) N = some (.val (rowV fs), N) from rfl, bindO_val, show evVar 12 (S C s13) N = some (.val (.int (c : Nat)), N) from rfl, bindO_val]
    unfold rowV
    rw [y_ixL, ix_nat (x := Va.int old) (by rw [List.getElem?_map, hold]; rfl)]
  have eK : ∀ (s13 : Option Va) (N : Store), ev2 opIx (ev2 opIx (evVar 1) (evC (.int 0))) (evVar 12) (S C s13) N = some (.val (.str cn), N) := fun s13 N => by
    rw [x_2, data_0' (D := D) rfl, bindO_val, show evVar 12 (S C s13) N = some (.val (.int (c : Nat)), N) from rfl, bindO_val, y_ixL, ix_nat (x := Va.str cn) (by rw [List.getElem?_map, hcn]; rfl)]
  let g : Int := if (if old < 0 then -old else old) < 2 then 1 - old else 0
  have gb : g.natAbs ≤ 10 ^ 12 + 6 := by
    show (if (if old < 0 then -old else old) < 2 then 1 - old else 0).natAbs ≤ _
    split <;> omega
  have eg : evIf (ev2 opLt (evL (kPure gAbs) (evCons (ev2 opIx (evVar 4) (evVar 12)) evNil)) (evC (.int 2))) (ev2 opSub (evC (.int 1)) (ev2 opIx (evVar 4) (evVar 12))) (evC (.int 0)) (S C T) M2 = some (.val (.int g), M2) := by
    have ea : evL (kPure gAbs) (evCons (ev2 opIx (evVar 4) (evVar 12)) evNil) (S C T) M2 = some (.val (.int (if old < 0 then -old else old)), M2) := by
      rw [x_L, x_cons, e4, bindO_val, x_nil, bindO_val, bindO_val]
      dsimp only
      rw [x_kPure, y_abs]
    rw [x_if, x_2, ea, bindO_val, x_c, bindO_val, y_lt]
    dsimp only
    rw [bindO_val]
    by_cases h : (if old < 0 then -old else old) < 2
    · rw [decide_eq_true h]
      show ev2 opSub _ _ (S C T) M2 = _
      rw [x_2, x_c, bindO_val, e4, bindO_val, y_sub]
      show some (Out.val (Va.int (1 - old)), M2) = some (.val (.int (if (if old < 0 then -old else old) < 2 then 1 - old else 0)), M2)
      rw [if_pos h]
    · rw [decide_eq_false h]
      show some (Out.val (Va.int 0), M2) = some (.val (.int (if (if old < 0 then -old else old) < 2 then 1 - old else 0)), M2)
      rw [if_neg h]
  have nM := k1.nx
  have tnd : tn ≠ dt := by show M1.nx ≠ dt; omega
  have wlt := w1.lt
  have tnw : tn ≠ w := by show M1.nx ≠ w; omega
  have ptn : p ≠ tn := by show p ≠ M1.nx; omega
  have es : (fs.map Va.int).set c (.int g) = (fs.set c g).map Va.int := by rw [List.map_set]
  let M3 := M2.put tn (.lst ((fs.set c g).map Va.int))
  have b14 : sSub (evIf (ev2 opLt (evL (kPure gAbs) (evCons (ev2 opIx (evVar 4) (evVar 12)) evNil)) (evC (.int 2))) (ev2 opSub (evC (.int 1)) (ev2 opIx (evVar 4) (evVar 12))) (evC (.int 0))) (evVar 13) (evVar 12) cSetAt (S C T) M2 = some (.nx, S C T, M3) := by
    have h := subA_val (s := S C T) (o := .cel tn) (i := .int (c : Nat)) (eo := evVar 13) (ei := evVar 12) (M2 := M2) (M3 := M2) eg rfl rfl (setA_now (k := c) (v := .int g) (show M2.c tn = some (.lst (fs.map Va.int)) from new_same) (by rw [List.length_map]; exact hcf))
    rw [es] at h
    exact h
  have c3t : M3.c tn = some (.lst ((fs.set c g).map Va.int)) := put_same
  have c3d : M3.c dt = some (.dic l) := (put_ne (Ne.symm tnd)).trans ((new_ne (by omega)).trans (k1.kx.get hdt (by simp; exact hdw) hc))
  have hsl : (fs.set c g).length = D.cols.length := by rw [List.length_set]; exact hfl
  have e13 : ev2 opIx (evVar 13) (evVar 12) (S C T) M3 = some (.val (.int g), M3) := by
    rw [x_2, show evVar 13 (S C T) M3 = some (.val (.cel tn), M3) from rfl, bindO_val, show evVar 12 (S C T) M3 = some (.val (.int (c : Nat)), M3) from rfl, bindO_val, (LstAt.cel c3t).ix, ix_nat (x := Va.int g) (by rw [List.getElem?_map, List.getElem?_set_self hcf]; rfl)]
  let l1 := puK l (.inr cn) (.int g)
  let M4 := M3.put dt (.dic l1)
  have b15 : sSub (ev2 opIx (evVar 13) (evVar 12)) (evVar 5) (ev2 opIx (ev2 opIx (evVar 1) (evC (.int 0))) (evVar 12)) cSetK (S C T) M3 = some (.nx, S C T, M4) :=
    subK_val (o := .cel dt) (i := .str cn) e13 rfl (eK T M3) (setK_now c3d (by omega))
  have tw1 : TellsW D.cols (fs.set c g) l1 := tellsW_put ok.cd tw (by omega) hcn hfl
  have l1l : l1.length ≤ 21 := by
    have := puK_len (l := l) (k := (.inr cn : Key)) (v := Va.int g)
    show (puK l (.inr cn) (.int g)).length ≤ 21
    omega
  have gfb : ∀ x ∈ fs.set c g, x.natAbs < 10 ^ 13 := fun x hx => by
    rcases List.mem_or_eq_of_mem_set hx with y | y
    · exact hfb' x y
    · rw [y]; omega
  have PK : ∀ {N : Store}, N.nx = M1.nx + 1 → N.c p = M1.c p → PlA N p D := fun {N} h1 h2 => ⟨by omega, h2.trans (k1.kx.get P.lt (by simp; exact pw) P.f)⟩
  have P4 : PlA M4 p D := PK rfl ((put_ne pd).trans ((put_ne ptn).trans (new_ne (by omega))))
  have dl4 : dt < M4.nx := by show dt < M1.nx + 1; omega
  have c4d : M4.c dt = some (.dic l1) := put_same
  have c4t : M4.c tn = some (.lst ((fs.set c g).map Va.int)) := (put_ne tnd).trans c3t
  obtain ⟨t1, ht1⟩ := dueV_repr ok hsl gfb
  have n16 : sIf (ev2 opNe (evL kRepr (evCons (evL (kFn 2 c__law_said) (evCons (evVar 2) (evCons (evVar 5) evNil))) evNil)) (evL kRepr (evCons (evL (kFn 2 c__law_due) (evCons (ev2 opIx (evVar 1) (evC (.int 0))) (evCons (evVar 13) evNil))) evNil))) (sRet (evC (.bl false))) sNx (S C T) M4 = some (.nx, S C T, M4) := by
    have sd := said_fs ok P4 (DA.cel c4d dl4) tw1 hsl gfb
    have du := due_fs ok (LstAt.cel c4t) hsl gfb
    rw [x_sIf, x_2, repr_e (call2 (x := .cel p) (y := .cel dt) (M1 := M4) (M2 := M4) rfl rfl sd) (ht1 M4), bindO_val, repr_e (call2 (x := .lst (D.cols.map Va.str)) (y := .cel tn) (M1 := M4) (M2 := M4) (data_0' rfl) rfl du) (ht1 M4), bindO_val, ne_same]
    rfl
  let l2 := puK l1 (.inr cn) (.int old)
  let M5 := M4.put dt (.dic l2)
  have b17 : sSub (ev2 opIx (evVar 4) (evVar 12)) (evVar 5) (ev2 opIx (ev2 opIx (evVar 1) (evC (.int 0))) (evVar 12)) cSetK (S C T) M4 = some (.nx, S C T, M5) :=
    subK_val (o := .cel dt) (i := .str cn) (e4 T M4) rfl (eK T M4) (setK_now c4d (by omega))
  have eback : (fs.set c g).set c old = fs := by
    rw [List.set_set]
    refine List.ext_getElem? fun i => ?_
    rw [List.getElem?_set]
    by_cases e : c = i
    · subst e; rw [if_pos rfl, if_pos hcf, hold]
    · rw [if_neg e]
  have tw2 : TellsW D.cols fs l2 := by
    have := tellsW_put ok.cd tw1 (by omega) hcn hsl (g := old)
    rw [eback] at this
    exact this
  have P5 : PlA M5 p D := PK rfl ((put_ne pd).trans ((put_ne pd).trans ((put_ne ptn).trans (new_ne (by omega)))))
  have c5d : M5.c dt = some (.dic l2) := put_same
  obtain ⟨t2, ht2⟩ := dueV_repr ok hfl hfb'
  have n18 : sIf (ev2 opNe (evL kRepr (evCons (evL (kFn 2 c__law_said) (evCons (evVar 2) (evCons (evVar 5) evNil))) evNil)) (evL kRepr (evCons (evVar 10) evNil))) (sRet (evC (.bl false))) sNx (S C T) M5 = some (.nx, S C T, M5) := by
    have sd := said_fs ok P5 (DA.cel c5d dl4) tw2 hfl hfb'
    rw [x_sIf, x_2, repr_e (call2 (x := .cel p) (y := .cel dt) (M1 := M5) (M2 := M5) rfl rfl sd) (ht2 M5), bindO_val, repr_e (x := dueV fs D.cols) (M1 := M5) rfl (ht2 M5), bindO_val, ne_same]
    rfl
  refine ⟨C, T, M5, ?_, ((((w1.kx Kx.new).put tnw).put hdw).put hdw), ?_⟩
  · unfold tnBody
    exact seq_nx b12 (seq_nx b13 (seq_nx b14 (seq_nx b15 (seq_nx n16 (seq_nx b17 n18)))))
  · have kk : Kx [w, dt, tn] M M5 := ((((k1.kx.mono (by simp)).trans Kx.new).trans (Kx.put (by simp))).trans (Kx.put (by simp))).trans (Kx.put (by simp))
    exact kk.cut fun n hn hlt => by
      have : n = w ∨ n = dt ∨ n = tn := by simpa using hn
      rcases this with e | e | e
      · simp [e]
      · simp [e]
      · exfalso
        have : tn = M1.nx := rfl
        omega
end Lw

set_option Elab.async false
set_option linter.all false
set_option maxRecDepth 100000
set_option maxHeartbeats 4000000
set_option exponentiation.threshold 3000
namespace Lw
open PySem L2 PV
noncomputable def kB : SS := (sSeq (sSet 4 (evL (kFn 3 c__law_counts) (evCons (evVar 0) (evCons (evL (kPure gLen) (evCons (ev2 opIx (evVar 1) (evC (.int 0))) evNil)) (evCons (ev2 opIx (evL kLst (evCons (evC (.int 1)) (evCons (ev2 opSub (ev2 opPow (evC (.int 10)) (evC (.int 12))) (evC (.int 1))) evNil))) (evL (kFn 2 c__law_draw) (evCons (evVar 0) (evCons (evC (.int 2)) evNil)))) evNil)))))
    (sSeq (sSet 5 (evL (kFn 3 c__law_sum) (evCons (evVar 0) (evCons (ev2 opIx (evVar 1) (evC (.int 0))) (evCons (evVar 4) evNil)))))
    (sSeq (sSet 6 (evL kDict (evCons (evVar 5) evNil)))
    (sSeq (sSet 7 (evL kNew evNil))
    (sSeq (sFor (itR1 (evCons (ev2 opAdd (evC (.int 1)) (evL (kFn 2 c__law_draw) (evCons (evVar 0) (evCons (evC (.int 3)) evNil)))) evNil)) (tgName 8) skBody)
    (sSeq (sSet 9 (evL kRepr (evCons (evL kLst (evCons (evVar 5) (evCons (evVar 6) evNil))) evNil)))
    (sSeq (sSet 10 (evL (kFn 2 c__law_due) (evCons (ev2 opIx (evVar 1) (evC (.int 0))) (evCons (evVar 4) evNil))))
    (sSeq (sIf (ev2 opNe (evL kRepr (evCons (evL (kFn 2 c__law_said) (evCons (evVar 2) (evCons (evVar 5) evNil))) evNil)) (evL kRepr (evCons (evVar 10) evNil))) (sRet (evC (.bl false))) sNx)
    (sSeq (sIf (ev2 opNe (evL kRepr (evCons (evL (kFn 2 c__law_said) (evCons (evVar 2) (evCons (evVar 6) evNil))) evNil)) (evL kRepr (evCons (evL kTup (evCons (evC (.str "UnknownColumn")) (evCons (evL (kPure gMin2) (evCons (evVar 7) evNil)) evNil))) evNil))) (sRet (evC (.bl false))) sNx)
    (sSeq (sIf (evOr (ev2 opNe (evL kRepr (evCons (evL (kFn 2 c__law_said) (evCons (evVar 2) (evCons (evVar 5) evNil))) evNil)) (evL kRepr (evCons (evVar 10) evNil))) (ev2 opNe (evL kRepr (evCons (evL kLst (evCons (evVar 5) (evCons (evVar 6) evNil))) evNil)) (evVar 9))) (sRet (evC (.bl false))) sNx)
    (sIf (ev2 opNe (evVar 4) (evL kLst evNil)) tnBody sNx)))))))))))
theorem two_repr {M : Store} {dt dn : Nat} {l l' : List (Key × Va)} (h1 : M.c dt = some (.dic l)) (h2 : M.c dn = some (.dic l')) (n1 : dt < M.nx) (n2 : dn < M.nx) (o1 : DOk l) (o2 : DOk l') : kRepr [.lst [.cel dt, .cel dn]] M = some (.val (.str (PyData.list [.dict (l.map kvPd), .dict (l'.map kvPd)]).shown), M) :=
  (SmB.list (ds := [PyData.dict (l.map kvPd), PyData.dict (l'.map kvPd)]) (B := 70) (W := 5000) (dp := 1) (n := 2) (W' := 10010) (fun d hd => by
    rcases List.mem_cons.mp hd with e | hd
    · rw [e]; exact dic_sm o1
    · rw [List.mem_singleton.mp hd]; exact dic_sm o2) (Nat.le_refl 2) (by decide)).repr (by decide) (by decide) (by decide) (.lst rfl (.cons (.dic (DA.cel h1 n1).at_ (dic_reads o1.vs)) (.cons (.dic (DA.cel h2 n2).at_ (dic_reads o2.vs)) .nil)))
theorem k_turn {D : Dat} {F : Int} (ok : D.Ok F) {M : Store} {w p b : Nat} {s3 s4 s5 s6 s7 s8 s9 s10 s11 s12 s13 : Option Va} (P : PlA M p D) (pw : p ≠ w) (wl : Wl M w b) (hb : b + 1000 < 2 ^ 38) :
    ∃ t4 t5 t6 t7 t8 t9 t10 t11 t12 t13 M', kB (SK_ w D (some (.cel p)) s3 s4 s5 s8 s9 s10 s11 s12 s13 s6 s7) M = some (.nx, SK_ w D (some (.cel p)) s3 t4 t5 t8 t9 t10 t11 t12 t13 t6 t7, M') ∧ Wl M' w (b + 300) ∧ Kp M M' w := by
  have hcl := ok.cl
  let S := fun (s4 s5 s6 s7 s8 s9 s10 s11 s12 s13 : Option Va) => SK_ w D (some (.cel p)) s3 s4 s5 s8 s9 s10 s11 s12 s13 s6 s7
  -- the factors
  have le := len_at (e := ev2 opIx (evVar 1) (evC (.int 0))) (s := S s4 s5 s6 s7 s8 s9 s10 s11 s12 s13) (M := M) (M1 := M) (x := .lst (D.cols.map Va.str)) (data_0' rfl) (LstAt.lst _)
  rw [List.length_map] at le
  obtain ⟨q, M1, e1, q0, q1, w1, k1⟩ := drawE wl (by omega) 2 (by decide) (by decide) (s := S s4 s5 s6 s7 s8 s9 s10 s11 s12 s13) (i := 0) (e := evC (.int 2)) (fun _ => rfl) rfl
  obtain ⟨far, ef, f0, f1⟩ : ∃ far : Int, ev2 opIx (evL kLst (evCons (evC (.int 1)) (evCons (ev2 opSub (ev2 opPow (evC (.int 10)) (evC (.int 12))) (evC (.int 1))) evNil))) (evL (kFn 2 c__law_draw) (evCons (evVar 0) (evCons (evC (.int 2)) evNil))) (S s4 s5 s6 s7 s8 s9 s10 s11 s12 s13) M = some (.val (.int far), M1) ∧ 0 ≤ far ∧ far ≤ 999999999999 := by
    let fl : List Int := [1, 999999999999]
    obtain ⟨y, ey, hy, _⟩ := at_nat (l := fl.map Va.int) q0 (by show q < 2; exact q1)
    obtain ⟨v, hv, rfl⟩ := List.mem_map.mp hy
    have hv' : v = 1 ∨ v = 999999999999 := by simpa [fl] using hv
    have el : evL kLst (evCons (evC (.int 1)) (evCons (ev2 opSub (ev2 opPow (evC (.int 10)) (evC (.int 12))) (evC (.int 1))) evNil)) (S s4 s5 s6 s7 s8 s9 s10 s11 s12 s13) M = some (.val (.lst (fl.map Va.int)), M) := by
      rw [x_L, x_cons, x_c, bindO_val, x_cons, far12, bindO_val, x_nil, bindO_val, bindO_val, bindO_val]
      rfl
    refine ⟨v, ?_, by omega, by omega⟩
    rw [x_2, el, bindO_val, e1, bindO_val, y_ixL, ey]
  obtain ⟨fs, M2, e2, n1, n2, w2, k2⟩ := counts (M := M1) (D.cols.length : Int) far (by omega) (by omega) w1 (by omega)
  rw [Int.toNat_natCast] at n1 w2
  let F4 := some (rowV fs)
  have b4 : sSet 4 (evL (kFn 3 c__law_counts) (evCons (evVar 0) (evCons (evL (kPure gLen) (evCons (ev2 opIx (evVar 1) (evC (.int 0))) evNil)) (evCons (ev2 opIx (evL kLst (evCons (evC (.int 1)) (evCons (ev2 opSub (ev2 opPow (evC (.int 10)) (evC (.int 12))) (evC (.int 1))) evNil))) (evL (kFn 2 c__law_draw) (evCons (evVar 0) (evCons (evC (.int 2)) evNil)))) evNil)))) (S s4 s5 s6 s7 s8 s9 s10 s11 s12 s13) M = some (.nx, S F4 s5 s6 s7 s8 s9 s10 s11 s12 s13, M2) :=
    set_val (v := rowV fs) (call3 (x := .cel w) (y := .int (D.cols.length : Nat)) (z := .int far) (M1 := M) (M2 := M) (M3 := M1) rfl le ef e2)
  have hfb : ∀ x ∈ fs, x.natAbs ≤ 10 ^ 12 + 5 := fun x hx => by have := n2 x hx; omega
  have hfb' : ∀ x ∈ fs, x.natAbs < 10 ^ 13 := fun x hx => by have := hfb x hx; omega
  -- the sum, and the same with strange columns
  obtain ⟨dt, l0, M3, e3, d1, d2, d3, tl, w3, k3⟩ := sum D.cols fs n1 ok.cl ok.cd w2 (by omega)
  let T5 := some (Va.cel dt)
  have b5 : sSet 5 (evL (kFn 3 c__law_sum) (evCons (evVar 0) (evCons (ev2 opIx (evVar 1) (evC (.int 0))) (evCons (evVar 4) evNil)))) (S F4 s5 s6 s7 s8 s9 s10 s11 s12 s13) M2 = some (.nx, S F4 T5 s6 s7 s8 s9 s10 s11 s12 s13, M3) :=
    set_val (v := .cel dt) (call3 (x := .cel w) (y := .lst (D.cols.map Va.str)) (z := rowV fs) (M1 := M2) (M2 := M2) (M3 := M2) rfl (data_0' rfl) rfl e3)
  have dok0 : DOk l0 := ⟨fun p hp => by
    obtain ⟨c, hc, e⟩ := tl.ks p hp
    exact ⟨c, e, (ok.cn c hc).txt⟩, fun p hp => by
    obtain ⟨n, hm, e⟩ := tl.vs p hp
    exact ⟨n, e, by have := hfb n hm; omega⟩, by have := tl.ln; omega⟩
  let dn := M3.nx
  let M4 := M3.new (.dic l0)
  let O6 := some (Va.cel dn)
  have b6 : sSet 6 (evL kDict (evCons (evVar 5) evNil)) (S F4 T5 s6 s7 s8 s9 s10 s11 s12 s13) M3 = some (.nx, S F4 T5 O6 s7 s8 s9 s10 s11 s12 s13, M4) := by
    refine set_val (v := .cel dn) ?_
    rw [x_L, x_cons, show evVar 5 (S F4 T5 s6 s7 s8 s9 s10 s11 s12 s13) M3 = some (.val (.cel dt), M3) from rfl, bindO_val, x_nil, bindO_val, bindO_val]
    unfold kDict
    dsimp only
    rw [(DA.cel d3 d2).at_]
  let f := M4.nx
  let M5 := M4.new (.lst [])
  let G7 := some (Va.cel f)
  have b7 : sSet 7 (evL kNew evNil) (S F4 T5 O6 s7 s8 s9 s10 s11 s12 s13) M4 = some (.nx, S F4 T5 O6 G7 s8 s9 s10 s11 s12 s13, M5) := set_val list0_new
  have k13 : Kp M M3 w := (k1.trans k2).trans k3
  have nA := k13.nx
  have nB : M.nx ≤ M2.nx := (k1.trans k2).nx
  have wlt := w3.lt
  have wlM := wl.lt
  have fe : f = M3.nx + 1 := rfl
  have dne : dn = M3.nx := rfl
  have A5 : Sk M5 w dn f D l0 [] := ⟨(new_ne (by show dn ≠ M4.nx; exact Nat.ne_of_lt (Nat.lt_succ_self _))).trans new_same, new_same, by show dn < M4.nx + 1; exact Nat.lt_succ_of_lt (Nat.lt_succ_self _), Nat.lt_succ_self _, by omega, by omega, by omega, fun q hq => by
      obtain ⟨y, hy, e⟩ := tl.ks q hq
      exact ⟨y, by rw [List.append_nil]; exact hy, e⟩, (fun _ h => nomatch h), (fun _ h => nomatch h), (fun _ h => nomatch h), dok0, by have := tl.ln; show l0.length ≤ 20 + 0; omega⟩
  have w5 : Wl M5 w _ := (w3.kx Kx.new).kx Kx.new
  have k35 : Kx [w, dn, f] M3 M5 := Kx.new.trans Kx.new
  obtain ⟨n, M6, e6, r0, r1, w6, k6⟩ := drawE w5 (by omega) 3 (by decide) (by decide) (s := S F4 T5 O6 G7 s8 s9 s10 s11 s12 s13) (i := 0) (e := evC (.int 3)) (fun _ => rfl) rfl
  have xl : ((List.range (1 + n).toNat).map fun (i : Nat) => Va.int i).length = (1 + n).toNat := by rw [List.length_map, List.length_range]
  obtain ⟨l, ss, t8, t11, M7, e7, A7, sl, w7, k7⟩ := sk_loop (s2 := some (.cel p)) (s3 := s3) (s4 := F4) (s5 := T5) (s9 := s9) (s10 := s10) (s12 := s12) (s13 := s13) ok ((List.range (1 + n).toNat).map fun (i : Nat) => Va.int i) l0 [] s8 s11 M6 _ (A5.kp k6) (by rw [xl]; show 0 + _ ≤ 10; omega) w6 (by rw [xl]; omega)
  rw [xl] at sl w7
  have b8 : sFor (itR1 (evCons (ev2 opAdd (evC (.int 1)) (evL (kFn 2 c__law_draw) (evCons (evVar 0) (evCons (evC (.int 3)) evNil)))) evNil)) (tgName 8) skBody (S F4 T5 O6 G7 s8 s9 s10 s11 s12 s13) M5 = some (.nx, S F4 T5 O6 G7 t8 s9 s10 t11 s12 s13, M7) := by
    refine for_it (chk := fun _ => True) (M1 := M6) (l := (List.range (1 + n).toNat).map fun (i : Nat) => Va.int i) ?_ e7
    rw [z_itR1, x_cons, x_2, x_c, bindO_val, e6, bindO_val, y_add]
    dsimp only
    rw [bindO_val, x_nil, bindO_val]
    dsimp only
    rw [z_rng (by omega) (by omega)]
  have ss3 : ss.length ≤ 3 := by
    rw [sl]
    show 0 + (1 + n).toNat ≤ 3
    omega
  have k37 : Kx [w, dn, f] M3 M7 := (k35.trans (k6.kx.mono (by simp))).trans k7
  have dtn : dt ≠ dn := by omega
  have dtf : dt ≠ f := by omega
  have dtw : dt ≠ w := by omega
  have d7 : M7.c dt = some (.dic l0) := k37.get d2 (by simp; exact ⟨dtw, dtn, dtf⟩) d3
  have n37 := k37.nx
  have dl7 : dt < M7.nx := by omega
  have p13 := P.lt
  have P7 : PlA M7 p D := ⟨by omega, k37.get (by omega) (by simp; exact ⟨pw, by omega, by omega⟩) (k13.kx.get P.lt (by simp; exact pw) P.f)⟩
  let kept := (PyData.list [.dict (l0.map kvPd), .dict (l.map kvPd)]).shown
  have rp : kRepr [.lst [.cel dt, .cel dn]] M7 = some (.val (.str kept), M7) := two_repr d7 A7.c dl7 A7.lt dok0 A7.ok
  have e56 : ∀ (s8 s9 s10 s11 s12 s13 : Option Va), evL kRepr (evCons (evL kLst (evCons (evVar 5) (evCons (evVar 6) evNil))) evNil) (S F4 T5 O6 G7 s8 s9 s10 s11 s12 s13) M7 = some (.val (.str kept), M7) := fun s8 s9 s10 s11 s12 s13 => repr_e (x := .lst [.cel dt, .cel dn]) (M1 := M7) (by
    rw [x_L, x_cons, show evVar 5 (S F4 T5 O6 G7 s8 s9 s10 s11 s12 s13) M7 = some (.val (.cel dt), M7) from rfl, bindO_val, x_cons, show evVar 6 (S F4 T5 O6 G7 s8 s9 s10 s11 s12 s13) M7 = some (.val (.cel dn), M7) from rfl, bindO_val, x_nil]
    rfl) rp
  let K9 := some (Va.str kept)
  have b9 : sSet 9 (evL kRepr (evCons (evL kLst (evCons (evVar 5) (evCons (evVar 6) evNil))) evNil)) (S F4 T5 O6 G7 t8 s9 s10 t11 s12 s13) M7 = some (.nx, S F4 T5 O6 G7 t8 K9 s10 t11 s12 s13, M7) := set_val (e56 t8 s9 s10 t11 s12 s13)
  let E10 := some (dueV fs D.cols)
  have b10 : sSet 10 (evL (kFn 2 c__law_due) (evCons (ev2 opIx (evVar 1) (evC (.int 0))) (evCons (evVar 4) evNil))) (S F4 T5 O6 G7 t8 K9 s10 t11 s12 s13) M7 = some (.nx, S F4 T5 O6 G7 t8 K9 E10 t11 s12 s13, M7) :=
    set_val (v := dueV fs D.cols) (call2 (x := .lst (D.cols.map Va.str)) (y := rowV fs) (M1 := M7) (M2 := M7) (data_0' rfl) rfl (due_fs ok (LstAt.lst _) n1 hfb'))
  let Z := S F4 T5 O6 G7 t8 K9 E10 t11 s12 s13
  obtain ⟨t1, ht1⟩ := dueV_repr ok n1 hfb'
  have sd := said_fs ok P7 (DA.cel d7 dl7) tl.w n1 hfb'
  have test : ev2 opNe (evL kRepr (evCons (evL (kFn 2 c__law_said) (evCons (evVar 2) (evCons (evVar 5) evNil))) evNil)) (evL kRepr (evCons (evVar 10) evNil)) Z M7 = some (.val (.bl false), M7) := by
    rw [x_2, repr_e (call2 (x := .cel p) (y := .cel dt) (M1 := M7) (M2 := M7) rfl rfl sd) (ht1 M7), bindO_val, repr_e (x := dueV fs D.cols) (M1 := M7) rfl (ht1 M7), bindO_val, ne_same]
  have n11 : sIf (ev2 opNe (evL kRepr (evCons (evL (kFn 2 c__law_said) (evCons (evVar 2) (evCons (evVar 5) evNil))) evNil)) (evL kRepr (evCons (evVar 10) evNil))) (sRet (evC (.bl false))) sNx Z M7 = some (.nx, Z, M7) := by
    rw [x_sIf, test]
    rfl
  have n12 : sIf (ev2 opNe (evL kRepr (evCons (evL (kFn 2 c__law_said) (evCons (evVar 2) (evCons (evVar 6) evNil))) evNil)) (evL kRepr (evCons (evL kTup (evCons (evC (.str "UnknownColumn")) (evCons (evL (kPure gMin2) (evCons (evVar 7) evNil)) evNil))) evNil))) (sRet (evC (.bl false))) sNx Z M7 = some (.nx, Z, M7) := by
    cases hss : ss with
    | nil =>
      exfalso
      rw [hss] at sl
      have : (0 : Nat) = 0 + (1 + n).toNat := sl
      omega
    | cons c cs =>
      subst hss
      have ho : Odd D.cols c cs l := ⟨A7.ks, A7.al, A7.no, by have := A7.ln; omega⟩
      have so := said_odd (show_odd P7 (DA.cel A7.c A7.lt) ho)
      obtain ⟨t2, ht2⟩ := odd_repr (A7.tx _ (minS_mem cs c))
      have em : evL kTup (evCons (evC (.str "UnknownColumn")) (evCons (evL (kPure gMin2) (evCons (evVar 7) evNil)) evNil)) Z M7 = some (.val (.tup [.str "UnknownColumn", .str (minS c cs)]), M7) := by
        have e0 : evL (kPure gMin2) (evCons (evVar 7) evNil) Z M7 = some (.val (.str (minS c cs)), M7) := by
          rw [x_L, x_cons, show evVar 7 Z M7 = some (.val (.cel f), M7) from rfl, bindO_val, x_nil, bindO_val, bindO_val]
          dsimp only
          rw [x_kPure, min_at A7.cf]
        rw [x_L, x_cons, x_c, bindO_val, x_cons, e0, bindO_val, x_nil]
        rfl
      rw [x_sIf, x_2, repr_e (call2 (x := .cel p) (y := .cel dn) (M1 := M7) (M2 := M7) rfl rfl so) (ht2 M7), bindO_val, repr_e em (ht2 M7), bindO_val, ne_same]
      rfl
  have n13 : sIf (evOr (ev2 opNe (evL kRepr (evCons (evL (kFn 2 c__law_said) (evCons (evVar 2) (evCons (evVar 5) evNil))) evNil)) (evL kRepr (evCons (evVar 10) evNil))) (ev2 opNe (evL kRepr (evCons (evL kLst (evCons (evVar 5) (evCons (evVar 6) evNil))) evNil)) (evVar 9))) (sRet (evC (.bl false))) sNx Z M7 = some (.nx, Z, M7) := by
    have c2 : ev2 opNe (evL kRepr (evCons (evL kLst (evCons (evVar 5) (evCons (evVar 6) evNil))) evNil)) (evVar 9) Z M7 = some (.val (.bl false), M7) := by
      rw [x_2, e56, bindO_val, show evVar 9 Z M7 = some (.val (.str kept), M7) from rfl, bindO_val, ne_same]
    rw [x_sIf, x_or, test, bindO_val]
    dsimp only
    rw [c2]
    rfl
  have cne : ev2 opNe (evVar 4) (evL kLst evNil) Z M7 = some (.val (.bl (!decide (fs = []))), M7) := by
    rw [x_2, show evVar 4 Z M7 = some (.val (.lst (fs.map Va.int)), M7) from rfl, bindO_val, show evL kLst evNil Z M7 = some (.val (.lst []), M7) from rfl, bindO_val, ints_ne_nil]
  have kM7 : Kp M M7 w := Kx.toKp (Kx.cut1 (k13.kx.mono (by simp)) k37 fun m hm hlt => by
    have : m = w ∨ m = dn ∨ m = f := by simpa using hm
    simp
    omega)
  by_cases hne : fs = []
  · refine ⟨F4, T5, O6, G7, t8, K9, E10, t11, s12, s13, M7, ?_, w7.mono (by omega), kM7⟩
    unfold kB
    refine seq_nx b4 (seq_nx b5 (seq_nx b6 (seq_nx b7 (seq_nx b8 (seq_nx b9 (seq_nx b10 (seq_nx n11 (seq_nx n12 (seq_nx n13 ?_)))))))))
    rw [x_sIf, cne, decide_eq_true hne]
    rfl
  · obtain ⟨t12, t13, M8, e8, w8, k8⟩ := tn_part (s3 := s3) (s8 := t8) (s9 := K9) (s11 := t11) (s12 := s12) (s13 := s13) (x6 := O6) (x7 := G7) ok P7 pw (by omega) dl7 dtw d7 w7 (by omega) (by have := tl.ln; omega) tl.w n1 hfb hne
    refine ⟨F4, T5, O6, G7, t8, K9, E10, t11, t12, t13, M8, ?_, w8.mono (by omega), Kx.toKp (Kx.cut1 kM7.kx k8 fun m hm hlt => by
      have : m = w ∨ m = dt := by simpa using hm
      simp
      omega)⟩
    unfold kB
    refine seq_nx b4 (seq_nx b5 (seq_nx b6 (seq_nx b7 (seq_nx b8 (seq_nx b9 (seq_nx b10 (seq_nx n11 (seq_nx n12 (seq_nx n13 ?_)))))))))
    rw [x_sIf, cne, decide_eq_false hne]
    exact e8
theorem k_loop {D : Dat} {F : Int} (ok : D.Ok F) {w p : Nat} (pw : p ≠ w) : ∀ (xs : List Va) (s3 s4 s5 s6 s7 s8 s9 s10 s11 s12 s13 : Option Va) (M : Store) (b : Nat), PlA M p D → Wl M w b → b + 300 * xs.length + 1000 < 2 ^ 38 →
    ∃ t3 t4 t5 t6 t7 t8 t9 t10 t11 t12 t13 M', loopF (fun _ => True) (tgName 3) kB xs (SK_ w D (some (.cel p)) s3 s4 s5 s8 s9 s10 s11 s12 s13 s6 s7) M = some (.nx, SK_ w D (some (.cel p)) t3 t4 t5 t8 t9 t10 t11 t12 t13 t6 t7, M')
  | [], s3, s4, s5, s6, s7, s8, s9, s10, s11, s12, s13, M, b, P, wl, hb => ⟨s3, s4, s5, s6, s7, s8, s9, s10, s11, s12, s13, M, loop_nil trivial⟩
  | x :: xs, s3, s4, s5, s6, s7, s8, s9, s10, s11, s12, s13, M, b, P, wl, hb => by
    rw [List.length_cons] at hb
    obtain ⟨t4, t5, t6, t7, t8, t9, t10, t11, t12, t13, M1, e1, w1, k1⟩ := k_turn (s3 := some x) (s4 := s4) (s5 := s5) (s6 := s6) (s7 := s7) (s8 := s8) (s9 := s9) (s10 := s10) (s11 := s11) (s12 := s12) (s13 := s13) ok P pw wl (by omega)
    obtain ⟨u3, u4, u5, u6, u7, u8, u9, u10, u11, u12, u13, M2, e2⟩ := k_loop ok pw xs (some x) t4 t5 t6 t7 t8 t9 t10 t11 t12 t13 M1 (b + 300) (pl_kp P pw k1) w1 (by omega)
    exact ⟨u3, u4, u5, u6, u7, u8, u9, u10, u11, u12, u13, M2, loop_nx trivial rfl e1 e2⟩
theorem right {M : Store} {w : Nat} (hw : Wl M w 0) : ∃ M', c__law_right [.cel w] M = some (.val (.bl true), M') := by
  let S0 : SL := [some (.cel w), none, none, none, none, none, none, none, none, none, none, none, none, none]
  let MV : Va := .tup [.int 12, .int 2, .int 2, .int 2, .int 2]
  obtain ⟨D, M1, e1, ok, w1, k1⟩ := data 12 2 2 2 2 999999999999 (by decide) (by decide) (by decide) (by decide) (by decide) (by omega) hw (by omega)
  obtain ⟨p, M2, e2, pl, pn, pf, w2, k2⟩ := plan ok w1 (by omega)
  have pw : p ≠ w := by have := w1.lt; omega
  have P2 : PlA M2 p D := ⟨pn, pf⟩
  let Q := fun (s1 s2 : Option Va) => ([some (.cel w), s1, s2, none, none, none, none, none, none, none, none, none, none, none] : SL)
  have b1 : sSet 1 (evL (kFn 3 c__law_data) (evCons (evVar 0) (evCons (evL kTup (evCons (evC (.int 12)) (evCons (evC (.int 2)) (evCons (evC (.int 2)) (evCons (evC (.int 2)) (evCons (evC (.int 2)) evNil)))))) (evCons (ev2 opSub (ev2 opPow (evC (.int 10)) (evC (.int 12))) (evC (.int 1))) evNil)))) S0 M = some (.nx, Q (some D.va) none, M1) := set_val (v := D.va) (call3 (x := .cel w) (y := MV) (z := .int 999999999999) (M1 := M) (M2 := M) (M3 := M) rfl rfl far12 e1)
  have b2 : sSet 2 (evL (kFn 2 c__law_plan) (evCons (evVar 0) (evCons (evVar 1) evNil))) (Q (some D.va) none) M1 = some (.nx, Q (some D.va) (some (.cel p)), M2) := set_val (v := .cel p) (call2 (x := .cel w) (y := D.va) (M1 := M1) (M2 := M1) rfl rfl e2)
  obtain ⟨t3, t4, t5, t6, t7, t8, t9, t10, t11, t12, t13, M3, e3⟩ := k_loop ok pw ((List.range 6).map fun (i : Nat) => Va.int i) none none none none none none none none none none none M2 _ P2 w2 (by rw [List.length_map, List.length_range]; omega)
  refine ⟨M3, ?_⟩
  unfold c__law_right runF m__law_right
  rw [show startI 14 [Va.cel w] = S0 from rfl]
  refine end_ret (s1 := SK_ w D (some (.cel p)) t3 t4 t5 t8 t9 t10 t11 t12 t13 t6 t7) (seq_nx b1 (seq_nx b2 (seq_nx (for_it (chk := fun _ => True) (M1 := M2) (l := (List.range 6).map fun (i : Nat) => Va.int i) ?_ e3) rfl)))
  rw [z_itR1, x_cons, x_c, bindO_val, x_nil, bindO_val]
  dsimp only
  rw [z_rng (by decide) (by decide)]
  rfl
end Lw

set_option Elab.async false
set_option linter.all false
set_option maxRecDepth 100000
set_option maxHeartbeats 1000000
set_option exponentiation.threshold 3000
namespace Lw
open PySem L2 PV
/-- the walk over the cells -/
theorem cells_ok {chk : Store → Prop} (hc : ∀ M, chk M) (s0 : Option Va) (cs : List Int) (hcs : cs.length ≤ 10) : ∀ (l : List Va) (s2 : Option Va) (M : Store), (∀ x ∈ l, ∃ i : Int, x = .int i ∧ 0 ≤ i ∧ i < cs.length) →
    ∃ s2' M', loopF chk (tgName 2) (sIf (evNot (evTru (evL (kFn 1 c__law_right) (evCons (evL (kFn 2 c__law_well) (evCons (ev2 opIx (evVar 1) (evVar 2)) (evCons (evVar 2) evNil))) evNil)))) (sRet (evC (.bl false))) sNx) l [s0, some (.lst (cs.map Va.int)), s2] M = some (.nx, [s0, some (.lst (cs.map Va.int)), s2'], M')
  | [], s2, M, _ => by
    refine ⟨s2, M, ?_⟩
    unfold loopF
    rw [if_pos (hc M)]
  | x :: l, s2, M, h => by
    obtain ⟨i, rfl, h0, h1⟩ := h x (by simp)
    obtain ⟨v, e, hv, _⟩ := at_nat (l := cs.map Va.int) h0 (by rw [List.length_map]; exact h1)
    obtain ⟨c, _, rfl⟩ := List.mem_map.mp hv
    obtain ⟨M1, e1, w1, _⟩ := well c i M
    obtain ⟨M2, e2⟩ := right w1
    obtain ⟨s2', M', e3⟩ := cells_ok hc s0 cs hcs l (some (.int i)) M2 fun y hy => h y (by simp [hy])
    refine ⟨s2', M', ?_⟩
    unfold loopF
    rw [if_pos (hc M)]
    simp [e, e1, e2, e3]
theorem eq_scr {M : Store} {ns : List Int} : opEq M (.scr ns) (.lst []) = some (.bl (decide (ns = []))) := by
  have hr : ∀ ns : List Int, PdRs M (ns.map Va.int) (ns.map PyData.int) := fun ns => by
    induction ns with
    | nil => exact .nil
    | cons n ns ih => exact .cons (.int _) ih
  unfold opEq eqS eqP
  rw [pdOf_eq (.lst (l := ns.map Va.int) rfl (hr ns)), pdOf_eq (.lst rfl .nil)]
  simp only
  rw [if_pos ⟨PySem.W.ke_shaped_ints ns, by decide⟩]
  cases ns <;> simp [PyData.eqv, PyData.eqvAll]
theorem lawOk (ns : List Int) (hl : ns.length ≤ 63) : ∃ M', c_law [.scr ns] ⟨fun _ => none, 0⟩ = some (.val (.bl true), M') := by
  have key : ∀ (cs : List Int), cs.length ≤ 10 → ev2 opAdd (evSl (evVar 0) (evC .non) (evB (evC (.int 10)))) (ev2 opMul (evL kLst (evCons (evC (.int 0)) evNil)) (evL (kPure gInt) (evCons (ev2 opEq (evVar 0) (evL kLst evNil)) evNil))) [some (.scr ns), none, none] ⟨fun _ => none, 0⟩ = some (.val (.lst (cs.map Va.int)), ⟨fun _ => none, 0⟩) → ∃ M', c_law [.scr ns] ⟨fun _ => none, 0⟩ = some (.val (.bl true), M') := by
    intro cs hc e
    obtain ⟨s2', M', e3⟩ := cells_ok (chk := fun _ => True) (fun _ => trivial) (some (.scr ns)) cs hc ((List.range cs.length).map fun (i : Nat) => Va.int i) none ⟨fun _ => none, 0⟩ (by
      intro x hx
      obtain ⟨i, hi, rfl⟩ := List.mem_map.mp hx
      have := List.mem_range.mp hi
      exact ⟨i, rfl, by omega, by omega⟩)
    refine ⟨M', ?_⟩
    unfold c_law runF m_law
    have e0 : startI 3 [Va.scr ns] = [some (.scr ns), none, none] := rfl
    rw [e0, x_seq, x_set, e]
    simp (disch := omega) [z_rng, e3]
  by_cases h : ns = []
  · subst h
    refine key [0] (by decide) ?_
    simp [opSl, boundOf, eq_scr, opMul, opAdd, cutA]
  · refine key (ns.take 10) (by simp; omega) ?_
    have hb : cutA (ns.map Va.int) none (some 10) = (ns.take 10).map Va.int := by
      rw [show (some 10 : Option Int) = some ((10 : Nat) : Int) from rfl, cut_to, List.map_take]
    have hlen : min 10 ns.length ≤ 16777216 := by omega
    simp [opSl, boundOf, eq_scr, opMul, opAdd, hb, eq_false h, hlen]
end Lw

set_option Elab.async false
set_option linter.all false
set_option maxRecDepth 100000
set_option maxHeartbeats 4000000
namespace Lw
open PySem L2 PV
def top (i : Nat) : Stmt := PySem.Challenge.pw_paidinparts_k52_texts_of_sums.main.body.getD i noS
structure Tx (mg : Str → Option Value) : Prop where
  b_abs : mg "abs" = none
  b_all : mg "all" = none
  b_any : mg "any" = none
  b_dict : mg "dict" = none
  b_enumerate : mg "enumerate" = none
  b_int : mg "int" = none
  b_len : mg "len" = none
  b_list : mg "list" = none
  b_max : mg "max" = none
  b_min : mg "min" = none
  b_range : mg "range" = none
  b_repr : mg "repr" = none
  b_sorted : mg "sorted" = none
  b_str : mg "str" = none
  b_zip : mg "zip" = none
  g_LETTERS : ∃ t, mg "LETTERS" = some (.str "abcdefghijklmnopqrstuvwxyz" t)
  g_MOST_LETTERS : ∃ t, mg "MOST_LETTERS" = some (.int 8 t)
section
variable {P : Program} {w : World} {K : PySem.W.Frag} {mg : Str → Option Value} {base : Heap} {CA : Nat → Addr}
abbrev s_EI : Stmt := inClass (top 2) 0
theorem sc_EI : FnScope ["self", "value"] ["self", "value"] (defScope s_EI) := ⟨rfl, rfl, rfl, by decide +kernel, rfl, by decide +kernel, by decide +kernel⟩
theorem w_EI {f : Addr} {fd : FuncData} (F : Fun K "__init__" "PartError.__init__" s_EI f fd) : FnOk P w K mg base CX0 1 f fd ["self", "value"] (spInit K) := ok_init F sc_EI rfl (Or.inl rfl) (Or.inl rfl)
abbrev s__law_draw : Stmt := top 24
abbrev N__law_draw : List Str := ["well", "many", "mixed", "drawn"]
theorem sc__law_draw : FnScope N__law_draw ["well", "many"] (defScope s__law_draw) := ⟨rfl, rfl, rfl, by decide +kernel, rfl, by decide +kernel, by decide +kernel⟩
theorem b__law_draw (T : Tx mg) (hsb : ∃ mm, base.Ns sysModules mm)  {f : Addr} (cdv : Value) (A : Around) (outer : List Env) (s : Shared) (H : Hp) (E : XK) (hr : Room 0 (A.deeper (PyProof.Rows.envOfC "_law_draw" (defScope s__law_draw) s.heap.objs.size f cdv))) (hgd : A.guards = some []) :
    PSs (cxOf CX0 P w K mg base N__law_draw "_law_draw" (defScope s__law_draw) f cdv A outer s H E).nox (defBody s__law_draw) (tS ⟨K, CA⟩ E0 m__law_draw) := by
  let G : Sig := ⟨K, CA⟩
  exact (qss_cons (qs_if (qt_cmp op_gt s_gt (q_ix ix_seq (s_ix rfl) (qv 0) qc_int) qc_int (nomark _)) (qss_cons (qs_set (i := 3) sc__law_draw.nd rfl (by first | exact Or.inl rfl | exact Or.inr rfl) (q_mod (q_callTy (call_int1.or call_int_str) s_int (by rfl) T.b_int bt_int (qa_cons (q_ix ix_seq (s_ix rfl) (qv 0) qc_int) qa_nil)) (qv 1)))
      (qss_cons (qs_sub set_list s_setAt (q_div (q_ix ix_seq (s_ix rfl) (qv 0) qc_int) (qv 1)) (qv 0) qc_int)
      (qss_one (qs_ret (qv 3))))) qss_nil)
      (qss_cons (qs_sub set_list s_setAt (q_add (q_ix ix_seq (s_ix rfl) (qv 0) qc_int) qc_int) (qv 0) qc_int)
      (qss_cons (qs_set (i := 2) sc__law_draw.nd rfl (by first | exact Or.inl rfl | exact Or.inr rfl) (q_mod (q_callTy (call_int1.or call_int_str) s_int (by rfl) T.b_int bt_int (qa_cons (q_pow (q_add (q_ix ix_seq (s_ix rfl) (qv 0) qc_int) (q_mul (q_ix ix_seq (s_ix rfl) (qv 0) qc_int) qc_int)) qc_int) qa_nil)) (q_add (q_pow qc_int qc_int) qc_int)))
      (qss_one (qs_ret (q_mod (q_div (q_mod (q_callTy (call_int1.or call_int_str) s_int (by rfl) T.b_int bt_int (qa_cons (q_add (q_mul (qv 2) (qv 2)) (q_div (qv 2) qc_int)) qa_nil)) (q_add (q_pow qc_int qc_int) qc_int)) qc_int) (qv 1)))))))
theorem w__law_draw {f : Addr} {fd : FuncData} (F : Fun K "_law_draw" "_law_draw" s__law_draw f fd) (m : mg "_law_draw" = some (.ref f)) (T : Tx mg) (hsb : ∃ mm, base.Ns sysModules mm)  : Cal P w K mg base ⟨K, CA⟩ "_law_draw" 1 2 c__law_draw :=
  cal_of F sc__law_draw m (F.binds fun _ _ _ _ _ _ us hl => match us, hl with | [_, _], _ => rfl) rfl rfl rfl (b__law_draw T hsb )
abbrev s__law_word : Stmt := top 25
abbrev N__law_word : List Str := ["well", "taken", "letters", "way", "word", "spare", "near", "at", "k"]
theorem sc__law_word : FnScope N__law_word ["well", "taken"] (defScope s__law_word) := ⟨rfl, rfl, rfl, by decide +kernel, rfl, by decide +kernel, by decide +kernel⟩
theorem b__law_word (T : Tx mg) (hsb : ∃ mm, base.Ns sysModules mm) (C__law_draw : Cal P w K mg base ⟨K, CA⟩ "_law_draw" 1 2 c__law_draw) {f : Addr} (cdv : Value) (A : Around) (outer : List Env) (s : Shared) (H : Hp) (E : XK) (hr : Room 1 (A.deeper (PyProof.Rows.envOfC "_law_word" (defScope s__law_word) s.heap.objs.size f cdv))) (hgd : A.guards = some []) :
    PSs (cxOf CX0 P w K mg base N__law_word "_law_word" (defScope s__law_word) f cdv A outer s H E).nox (defBody s__law_word) (tS ⟨K, CA⟩ E0 m__law_word) := by
  let G : Sig := ⟨K, CA⟩
  exact (qss_cons (qs_set (i := 2) sc__law_word.nd rfl (by first | exact Or.inl rfl | exact Or.inr rfl) qc_str)
      (qss_cons (qs_set (i := 3) sc__law_word.nd rfl (by first | exact Or.inl rfl | exact Or.inr rfl) (q_cal C__law_draw hr (by decide) hgd (by rfl) (qa_cons (qv 0) (qa_cons qc_int qa_nil))))
      (qss_cons (qs_set (i := 4) sc__law_word.nd rfl (by first | exact Or.inl rfl | exact Or.inr rfl) (q_ix ix_seq (s_ix rfl) (q_lst (qa_cons qc_str (qa_cons qc_str (qa_cons qc_str (qa_cons qc_str (qa_cons qc_str (qa_cons qc_str (qa_cons qc_str qa_nil)))))))) (q_cal C__law_draw hr (by decide) hgd (by rfl) (qa_cons (qv 0) (qa_cons qc_int qa_nil)))))
      (qss_cons (qs_if (qt_pw (qw_and (qt_cmp (op_eq.or (op_eqA (G := G) rfl hr)) s_eq (qv 3) qc_int (nomark _)) (qw_and1 (qt_cmp (op_ne.or (op_neA (G := G) rfl hr)) s_ne (qv 1) (q_lst qa_nil) (nomark _))))) (qss_cons (qs_set (i := 6) sc__law_word.nd rfl (by first | exact Or.inl rfl | exact Or.inr rfl) (q_ix ix_seq (s_ix rfl) (qv 1) (q_cal C__law_draw hr (by decide) hgd (by rfl) (qa_cons (qv 0) (qa_cons (q_callB (call_len_seq.or (call_len_str.or call_lenD)) (s_len rfl) (by rfl) T.b_len bt_len (qa_cons (qv 1) qa_nil)) qa_nil)))))
      (qss_cons (qs_set (i := 7) sc__law_word.nd rfl (by first | exact Or.inl rfl | exact Or.inr rfl) (q_cal C__law_draw hr (by decide) hgd (by rfl) (qa_cons (qv 0) (qa_cons (q_add (q_callB (call_len_seq.or (call_len_str.or call_lenD)) (s_len rfl) (by rfl) T.b_len bt_len (qa_cons (qv 6) qa_nil)) qc_int) qa_nil))))
      (qss_one (qs_set (i := 4) sc__law_word.nd rfl (by first | exact Or.inl rfl | exact Or.inr rfl) (q_sl rfl (q_add (q_add (q_sl rfl (qv 6) qo_none (qo_b (qv 7))) (q_ix ix_seq (s_ix rfl) (qv 2) (q_cal C__law_draw hr (by decide) hgd (by rfl) (qa_cons (qv 0) (qa_cons qc_int qa_nil))))) (q_sl rfl (qv 6) (qo_b (q_add (qv 7) (q_cal C__law_draw hr (by decide) hgd (by rfl) (qa_cons (qv 0) (qa_cons qc_int qa_nil))))) qo_none)) qo_none (qo_b qc_int)))))) (qss_one (qs_if (qt_cmp op_lt s_lt (qv 3) qc_int (nomark _)) (qss_one (qs_set (i := 4) sc__law_word.nd rfl (by first | exact Or.inl rfl | exact Or.inr rfl) (q_bm rfl PySem.F.plainAttrs_str PySem.F.slot_str_join PySem.F.type_str_join mt_join tyStr (s_join rfl) qc_str (qa_cons (q_lc (own := [("k", 8)]) (E2 := E0) rfl sc__law_word.nd (qi_range1 (by rfl) T.b_range (qa_cons (q_add qc_int (q_cal C__law_draw hr (by decide) hgd (by rfl) (qa_cons (qv 0) (qa_cons qc_int qa_nil)))) qa_nil)) (blkOk_by (N := N__law_word) (sc := (defScope s__law_word)) (by decide +kernel)) (fun _ _ _ _ _ => by exact (qg_name (i := 8) sc__law_word.nd rfl (by first | exact Or.inl rfl | exact Or.inr rfl))) (fun _ _ _ _ _ => qts_nil) (fun _ _ _ _ _ => (q_ix ix_seq (s_ix rfl) (qv 2) (q_cal C__law_draw hr (by decide) hgd (by rfl) (qa_cons (qv 0) (qa_cons qc_int qa_nil)))))) qa_nil)))) qss_nil)))
      (qss_cons (qs_for PassesOwn.never rfl (qi_range1 (by rfl) T.b_range (qa_cons qc_int qa_nil)) (qg_name (i := 5) sc__law_word.nd rfl (by first | exact Or.inl rfl | exact Or.inr rfl)) (qss_cons (qs_if (qt_cmp ((op_notIn_sign.or op_notIn_seq).or (op_notInP (G := G) rfl hr)) (s_notInD rfl) (qv 4) (qv 1) (by rfl)) (qss_one (qs_ret (qv 4))) qss_nil)
      (qss_one (qs_set (i := 4) sc__law_word.nd rfl (by first | exact Or.inl rfl | exact Or.inr rfl) (q_add (q_ix ix_seq (s_ix rfl) (qv 2) (q_mod (qv 5) qc_int)) (q_ix ix_seq (s_ix rfl) (qv 2) (q_div (qv 5) qc_int)))))))
      (qss_one (qs_ret (qv 4))))))))
theorem w__law_word {f : Addr} {fd : FuncData} (F : Fun K "_law_word" "_law_word" s__law_word f fd) (m : mg "_law_word" = some (.ref f)) (T : Tx mg) (hsb : ∃ mm, base.Ns sysModules mm) (C__law_draw : Cal P w K mg base ⟨K, CA⟩ "_law_draw" 1 2 c__law_draw) : Cal P w K mg base ⟨K, CA⟩ "_law_word" 2 2 c__law_word :=
  cal_of F sc__law_word m (F.binds fun _ _ _ _ _ _ us hl => match us, hl with | [_, _], _ => rfl) rfl rfl rfl (b__law_word T hsb C__law_draw)
abbrev s__law_steps : Stmt := top 27
abbrev N__law_steps : List Str := ["well", "size", "words", "most", "steps", "k", "start", "end", "name", "step"]
theorem sc__law_steps : FnScope N__law_steps ["well", "size", "words", "most"] (defScope s__law_steps) := ⟨rfl, rfl, rfl, by decide +kernel, rfl, by decide +kernel, by decide +kernel⟩
theorem b__law_steps (T : Tx mg) (hsb : ∃ mm, base.Ns sysModules mm) (C__law_draw : Cal P w K mg base ⟨K, CA⟩ "_law_draw" 1 2 c__law_draw) (C__law_word : Cal P w K mg base ⟨K, CA⟩ "_law_word" 2 2 c__law_word) {f : Addr} (cdv : Value) (A : Around) (outer : List Env) (s : Shared) (H : Hp) (E : XK) (hr : Room 2 (A.deeper (PyProof.Rows.envOfC "_law_steps" (defScope s__law_steps) s.heap.objs.size f cdv))) (hgd : A.guards = some []) :
    PSs (cxOf CX0 P w K mg base N__law_steps "_law_steps" (defScope s__law_steps) f cdv A outer s H E).nox (defBody s__law_steps) (tS ⟨K, CA⟩ E0 m__law_steps) := by
  let G : Sig := ⟨K, CA⟩
  exact (qss_cons (qs_set (i := 4) sc__law_steps.nd rfl (by first | exact Or.inl rfl | exact Or.inr rfl) (q_lstC qa_nil))
      (qss_cons (qs_for PassesOwn.never rfl (qi_range1 (by rfl) T.b_range (qa_cons (q_cal C__law_draw hr (by decide) hgd (by rfl) (qa_cons (qv 0) (qa_cons (q_add (qv 3) qc_int) qa_nil))) qa_nil)) (qg_name (i := 5) sc__law_steps.nd rfl (by first | exact Or.inl rfl | exact Or.inr rfl)) (qss_cons (qs_set (i := 6) sc__law_steps.nd rfl (by first | exact Or.inl rfl | exact Or.inr rfl) (q_if (qt_cmp (op_eq.or (op_eqA (G := G) rfl hr)) s_eq (q_cal C__law_draw hr (by decide) hgd (by rfl) (qa_cons (qv 0) (qa_cons qc_int qa_nil))) qc_int (nomark _)) (q_cal C__law_draw hr (by decide) hgd (by rfl) (qa_cons (qv 0) (qa_cons (qv 1) qa_nil))) (q_mod (qv 5) (qv 1))))
      (qss_cons (qs_set (i := 7) sc__law_steps.nd rfl (by first | exact Or.inl rfl | exact Or.inr rfl) (q_if (qt_cmp (op_eq.or (op_eqA (G := G) rfl hr)) s_eq (q_cal C__law_draw hr (by decide) hgd (by rfl) (qa_cons (qv 0) (qa_cons qc_int qa_nil))) qc_int (nomark _)) (q_cal C__law_draw hr (by decide) hgd (by rfl) (qa_cons (qv 0) (qa_cons (qv 1) qa_nil))) (q_callB ((call_min2 rfl).or (cr_min rfl)) (s_min rfl) (by rfl) T.b_min bt_min (qa_cons (q_add (qv 6) qc_int) (qa_cons (q_sub (qv 1) qc_int) qa_nil)))))
      (qss_cons (qs_if (qt_cmp op_gt s_gt (q_cal C__law_draw hr (by decide) hgd (by rfl) (qa_cons (qv 0) (qa_cons qc_int qa_nil))) qc_int (nomark _)) (qss_one (qs_set (i := 2) sc__law_steps.nd rfl (by first | exact Or.inl rfl | exact Or.inr rfl) (q_add (qv 2) (q_lst (qa_cons (q_cal C__law_word hr (by decide) hgd (by rfl) (qa_cons (qv 0) (qa_cons (qv 2) qa_nil))) qa_nil))))) qss_nil)
      (qss_cons (qs_set (i := 8) sc__law_steps.nd rfl (by first | exact Or.inl rfl | exact Or.inr rfl) (q_ix ix_seq (s_ix rfl) (qv 2) (q_sub (q_sub qc_int qc_int) (q_cal C__law_draw hr (by decide) hgd (by rfl) (qa_cons (qv 0) (qa_cons (q_callB (call_len_seq.or (call_len_str.or call_lenD)) (s_len rfl) (by rfl) T.b_len bt_len (qa_cons (qv 2) qa_nil)) qa_nil))))))
      (qss_one (qs_if (qt_cmp ((op_notIn_sign.or op_notIn_seq).or (op_notInP (G := G) rfl hr)) (s_notInD rfl) (q_tup (qa_cons (qv 8) (qa_cons (qv 6) qa_nil))) (q_lc (own := [("step", 9)]) (E2 := E0) rfl sc__law_steps.nd (qi_any rfl (qv 4)) (blkOk_by (N := N__law_steps) (sc := (defScope s__law_steps)) (by decide +kernel)) (fun _ _ _ _ _ => by exact (qg_name (i := 9) sc__law_steps.nd rfl (by first | exact Or.inl rfl | exact Or.inr rfl))) (fun _ _ _ _ _ => qts_nil) (fun _ _ _ _ _ => (q_sl rfl (qv 9) qo_none (qo_b qc_int)))) (by rfl)) (qss_one (qs_expr (q_bm rfl PySem.F.plainAttrs_list PySem.F.slot_list_append PySem.F.type_list_append mt_append tyLst s_append (qv 4) (qa_cons (q_tup (qa_cons (qv 8) (qa_cons (qv 6) (qa_cons (qv 7) qa_nil)))) qa_nil)))) qss_nil)))))))
      (qss_one (qs_ret (q_frz (qv 4))))))
theorem w__law_steps {f : Addr} {fd : FuncData} (F : Fun K "_law_steps" "_law_steps" s__law_steps f fd) (m : mg "_law_steps" = some (.ref f)) (T : Tx mg) (hsb : ∃ mm, base.Ns sysModules mm) (C__law_draw : Cal P w K mg base ⟨K, CA⟩ "_law_draw" 1 2 c__law_draw) (C__law_word : Cal P w K mg base ⟨K, CA⟩ "_law_word" 2 2 c__law_word) : Cal P w K mg base ⟨K, CA⟩ "_law_steps" 3 4 c__law_steps :=
  cal_of F sc__law_steps m (F.binds fun _ _ _ _ _ _ us hl => match us, hl with | [_, _, _, _], _ => rfl) rfl rfl rfl (b__law_steps T hsb C__law_draw C__law_word)
abbrev s__law_number : Stmt := top 26
abbrev N__law_number : List Str := ["well", "far", "way"]
theorem sc__law_number : FnScope N__law_number ["well", "far"] (defScope s__law_number) := ⟨rfl, rfl, rfl, by decide +kernel, rfl, by decide +kernel, by decide +kernel⟩
theorem b__law_number (T : Tx mg) (hsb : ∃ mm, base.Ns sysModules mm) (C__law_draw : Cal P w K mg base ⟨K, CA⟩ "_law_draw" 1 2 c__law_draw) {f : Addr} (cdv : Value) (A : Around) (outer : List Env) (s : Shared) (H : Hp) (E : XK) (hr : Room 1 (A.deeper (PyProof.Rows.envOfC "_law_number" (defScope s__law_number) s.heap.objs.size f cdv))) (hgd : A.guards = some []) :
    PSs (cxOf CX0 P w K mg base N__law_number "_law_number" (defScope s__law_number) f cdv A outer s H E).nox (defBody s__law_number) (tS ⟨K, CA⟩ E0 m__law_number) := by
  let G : Sig := ⟨K, CA⟩
  exact (qss_cons (qs_set (i := 2) sc__law_number.nd rfl (by first | exact Or.inl rfl | exact Or.inr rfl) (q_cal C__law_draw hr (by decide) hgd (by rfl) (qa_cons (qv 0) (qa_cons qc_int qa_nil))))
      (qss_cons (qs_if (qt_cmp (op_eq.or (op_eqA (G := G) rfl hr)) s_eq (qv 2) qc_int (nomark _)) (qss_one (qs_ret qc_int)) qss_nil)
      (qss_cons (qs_if (qt_cmp (op_eq.or (op_eqA (G := G) rfl hr)) s_eq (qv 2) qc_int (nomark _)) (qss_one (qs_ret (q_sub (q_cal C__law_draw hr (by decide) hgd (by rfl) (qa_cons (qv 0) (qa_cons (q_add (q_mul qc_int (qv 1)) qc_int) qa_nil))) (qv 1)))) qss_nil)
      (qss_one (qs_ret (q_sub (q_cal C__law_draw hr (by decide) hgd (by rfl) (qa_cons (qv 0) (qa_cons qc_int qa_nil))) qc_int))))))
theorem w__law_number {f : Addr} {fd : FuncData} (F : Fun K "_law_number" "_law_number" s__law_number f fd) (m : mg "_law_number" = some (.ref f)) (T : Tx mg) (hsb : ∃ mm, base.Ns sysModules mm) (C__law_draw : Cal P w K mg base ⟨K, CA⟩ "_law_draw" 1 2 c__law_draw) : Cal P w K mg base ⟨K, CA⟩ "_law_number" 2 2 c__law_number :=
  cal_of F sc__law_number m (F.binds fun _ _ _ _ _ _ us hl => match us, hl with | [_, _], _ => rfl) rfl rfl rfl (b__law_number T hsb C__law_draw)
abbrev s__law_counts : Stmt := top 28
abbrev N__law_counts : List Str := ["well", "many", "far", "k"]
theorem sc__law_counts : FnScope N__law_counts ["well", "many", "far"] (defScope s__law_counts) := ⟨rfl, rfl, rfl, by decide +kernel, rfl, by decide +kernel, by decide +kernel⟩
theorem b__law_counts (T : Tx mg) (hsb : ∃ mm, base.Ns sysModules mm) (C__law_number : Cal P w K mg base ⟨K, CA⟩ "_law_number" 2 2 c__law_number) {f : Addr} (cdv : Value) (A : Around) (outer : List Env) (s : Shared) (H : Hp) (E : XK) (hr : Room 2 (A.deeper (PyProof.Rows.envOfC "_law_counts" (defScope s__law_counts) s.heap.objs.size f cdv))) (hgd : A.guards = some []) :
    PSs (cxOf CX0 P w K mg base N__law_counts "_law_counts" (defScope s__law_counts) f cdv A outer s H E).nox (defBody s__law_counts) (tS ⟨K, CA⟩ E0 m__law_counts) := by
  let G : Sig := ⟨K, CA⟩
  exact (qss_one (qs_ret (q_lc (own := [("k", 3)]) (E2 := E0) rfl sc__law_counts.nd (qi_range1 (by rfl) T.b_range (qa_cons (qv 1) qa_nil)) (blkOk_by (N := N__law_counts) (sc := (defScope s__law_counts)) (by decide +kernel)) (fun _ _ _ _ _ => by exact (qg_name (i := 3) sc__law_counts.nd rfl (by first | exact Or.inl rfl | exact Or.inr rfl))) (fun _ _ _ _ _ => qts_nil) (fun _ _ _ _ _ => (q_cal C__law_number hr (by decide) hgd (by rfl) (qa_cons (qv 0) (qa_cons (qv 2) qa_nil)))))))
theorem w__law_counts {f : Addr} {fd : FuncData} (F : Fun K "_law_counts" "_law_counts" s__law_counts f fd) (m : mg "_law_counts" = some (.ref f)) (T : Tx mg) (hsb : ∃ mm, base.Ns sysModules mm) (C__law_number : Cal P w K mg base ⟨K, CA⟩ "_law_number" 2 2 c__law_number) : Cal P w K mg base ⟨K, CA⟩ "_law_counts" 3 3 c__law_counts :=
  cal_of F sc__law_counts m (F.binds fun _ _ _ _ _ _ us hl => match us, hl with | [_, _, _], _ => rfl) rfl rfl rfl (b__law_counts T hsb C__law_number)
abbrev s__law_data : Stmt := top 29
abbrev N__law_data : List Str := ["well", "most", "far", "columns", "k", "kinds", "names", "size", "checks", "states", "state", "steps"]
theorem sc__law_data : FnScope N__law_data ["well", "most", "far"] (defScope s__law_data) := ⟨rfl, rfl, rfl, by decide +kernel, rfl, by decide +kernel, by decide +kernel⟩
theorem b__law_data (T : Tx mg) (hsb : ∃ mm, base.Ns sysModules mm) (C__law_draw : Cal P w K mg base ⟨K, CA⟩ "_law_draw" 1 2 c__law_draw) (C__law_word : Cal P w K mg base ⟨K, CA⟩ "_law_word" 2 2 c__law_word) (C__law_counts : Cal P w K mg base ⟨K, CA⟩ "_law_counts" 3 3 c__law_counts) (C__law_steps : Cal P w K mg base ⟨K, CA⟩ "_law_steps" 3 4 c__law_steps) {f : Addr} (cdv : Value) (A : Around) (outer : List Env) (s : Shared) (H : Hp) (E : XK) (hr : Room 3 (A.deeper (PyProof.Rows.envOfC "_law_data" (defScope s__law_data) s.heap.objs.size f cdv))) (hgd : A.guards = some []) :
    PSs (cxOf CX0 P w K mg base N__law_data "_law_data" (defScope s__law_data) f cdv A outer s H E).nox (defBody s__law_data) (tS ⟨K, CA⟩ E0 m__law_data) := by
  let G : Sig := ⟨K, CA⟩
  exact (qss_cons (qs_set (i := 3) sc__law_data.nd rfl (by first | exact Or.inl rfl | exact Or.inr rfl) (q_lstC qa_nil))
      (qss_cons (qs_for PassesOwn.never rfl (qi_range1 (by rfl) T.b_range (qa_cons (q_ix ix_seq (s_ix rfl) (q_lst (qa_cons (q_ix ix_seq (s_ix rfl) (qv 1) qc_int) (qa_cons qc_int (qa_cons qc_int (qa_cons qc_int (qa_cons qc_int (qa_cons qc_int (qa_cons qc_int (qa_cons qc_int qa_nil))))))))) (q_cal C__law_draw hr (by decide) hgd (by rfl) (qa_cons (qv 0) (qa_cons qc_int qa_nil)))) qa_nil)) (qg_name (i := 4) sc__law_data.nd rfl (by first | exact Or.inl rfl | exact Or.inr rfl)) (qss_one (qs_expr (q_bm rfl PySem.F.plainAttrs_list PySem.F.slot_list_append PySem.F.type_list_append mt_append tyLst s_append (qv 3) (qa_cons (q_cal C__law_word hr (by decide) hgd (by rfl) (qa_cons (qv 0) (qa_cons (qv 3) qa_nil))) qa_nil)))))
      (qss_cons (qs_set (i := 5) sc__law_data.nd rfl (by first | exact Or.inl rfl | exact Or.inr rfl) (q_lstC qa_nil))
      (qss_cons (qs_set (i := 6) sc__law_data.nd rfl (by first | exact Or.inl rfl | exact Or.inr rfl) (q_lstC qa_nil))
      (qss_cons (qs_set (i := 7) sc__law_data.nd rfl (by first | exact Or.inl rfl | exact Or.inr rfl) (q_ix ix_seq (s_ix rfl) (q_lst (qa_cons (q_ix ix_seq (s_ix rfl) (qv 1) qc_int) (qa_cons qc_int (qa_cons qc_int (qa_cons qc_int (qa_cons qc_int (qa_cons qc_int qa_nil))))))) (q_cal C__law_draw hr (by decide) hgd (by rfl) (qa_cons (qv 0) (qa_cons qc_int qa_nil)))))
      (qss_cons (qs_for PassesOwn.never rfl (qi_range1 (by rfl) T.b_range (qa_cons (qv 7) qa_nil)) (qg_name (i := 4) sc__law_data.nd rfl (by first | exact Or.inl rfl | exact Or.inr rfl)) (qss_cons (qs_expr (q_bm rfl PySem.F.plainAttrs_list PySem.F.slot_list_append PySem.F.type_list_append mt_append tyLst s_append (qv 6) (qa_cons (q_cal C__law_word hr (by decide) hgd (by rfl) (qa_cons (qv 0) (qa_cons (qv 6) qa_nil))) qa_nil)))
      (qss_cons (qs_set (i := 9) sc__law_data.nd rfl (by first | exact Or.inl rfl | exact Or.inr rfl) (q_lstC (qa_cons (q_mul (q_lst (qa_cons qc_int qa_nil)) (q_callB (call_len_seq.or (call_len_str.or call_lenD)) (s_len rfl) (by rfl) T.b_len bt_len (qa_cons (qv 3) qa_nil))) qa_nil)))
      (qss_cons (qs_for PassesOwn.never rfl (qi_range1 (by rfl) T.b_range (qa_cons (q_cal C__law_draw hr (by decide) hgd (by rfl) (qa_cons (qv 0) (qa_cons (q_if (qt_cmp (op_eq.or (op_eqA (G := G) rfl hr)) s_eq (qv 7) qc_int (nomark _)) qc_int (q_ix ix_seq (s_ix rfl) (qv 1) qc_int)) qa_nil))) qa_nil)) (qg_name (i := 10) sc__law_data.nd rfl (by first | exact Or.inl rfl | exact Or.inr rfl)) (qss_one (qs_expr (q_bm rfl PySem.F.plainAttrs_list PySem.F.slot_list_append PySem.F.type_list_append mt_append tyLst s_append (qv 9) (qa_cons (q_cal C__law_counts hr (by decide) hgd (by rfl) (qa_cons (qv 0) (qa_cons (q_callB (call_len_seq.or (call_len_str.or call_lenD)) (s_len rfl) (by rfl) T.b_len bt_len (qa_cons (qv 3) qa_nil)) (qa_cons (qv 2) qa_nil)))) qa_nil)))))
      (qss_cons (qs_set (i := 11) sc__law_data.nd rfl (by first | exact Or.inl rfl | exact Or.inr rfl) (q_cal C__law_steps hr (by decide) hgd (by rfl) (qa_cons (qv 0) (qa_cons (q_callB (call_len_seq.or (call_len_str.or call_lenD)) (s_len rfl) (by rfl) T.b_len bt_len (qa_cons (qv 9) qa_nil)) (qa_cons (q_callTy call_list_of (s_listF rfl) (by rfl) T.b_list bt_list (qa_cons (qv 6) qa_nil)) (qa_cons (q_if (qt_cmp (op_eq.or (op_eqA (G := G) rfl hr)) s_eq (qv 7) qc_int (nomark _)) qc_int (q_ix ix_seq (s_ix rfl) (qv 1) qc_int)) qa_nil))))))
      (qss_one (qs_expr (q_bm rfl PySem.F.plainAttrs_list PySem.F.slot_list_append PySem.F.type_list_append mt_append tyLst s_append (qv 5) (qa_cons (q_tup (qa_cons (q_ix ix_seq (s_ix rfl) (qv 6) (q_neg qc_int)) (qa_cons (q_frz (qv 9)) (qa_cons (qv 11) qa_nil)))) qa_nil)))))))))
      (qss_cons (qs_set (i := 8) sc__law_data.nd rfl (by first | exact Or.inl rfl | exact Or.inr rfl) (q_lstC qa_nil))
      (qss_cons (qs_for PassesOwn.never rfl (qi_range1 (by rfl) T.b_range (qa_cons (q_cal C__law_draw hr (by decide) hgd (by rfl) (qa_cons (qv 0) (qa_cons (q_add (q_ix ix_seq (s_ix rfl) (qv 1) qc_int) qc_int) qa_nil))) qa_nil)) (qg_name (i := 4) sc__law_data.nd rfl (by first | exact Or.inl rfl | exact Or.inr rfl)) (qss_one (qs_expr (q_bm rfl PySem.F.plainAttrs_list PySem.F.slot_list_append PySem.F.type_list_append mt_append tyLst s_append (qv 8) (qa_cons (q_cal C__law_counts hr (by decide) hgd (by rfl) (qa_cons (qv 0) (qa_cons (q_callB (call_len_seq.or (call_len_str.or call_lenD)) (s_len rfl) (by rfl) T.b_len bt_len (qa_cons (qv 3) qa_nil)) (qa_cons (qv 2) qa_nil)))) qa_nil)))))
      (qss_one (qs_ret (q_tup (qa_cons (q_frz (qv 3)) (qa_cons (q_frz (qv 5)) (qa_cons (q_frz (qv 8)) qa_nil))))))))))))))
theorem w__law_data {f : Addr} {fd : FuncData} (F : Fun K "_law_data" "_law_data" s__law_data f fd) (m : mg "_law_data" = some (.ref f)) (T : Tx mg) (hsb : ∃ mm, base.Ns sysModules mm) (C__law_draw : Cal P w K mg base ⟨K, CA⟩ "_law_draw" 1 2 c__law_draw) (C__law_word : Cal P w K mg base ⟨K, CA⟩ "_law_word" 2 2 c__law_word) (C__law_counts : Cal P w K mg base ⟨K, CA⟩ "_law_counts" 3 3 c__law_counts) (C__law_steps : Cal P w K mg base ⟨K, CA⟩ "_law_steps" 3 4 c__law_steps) : Cal P w K mg base ⟨K, CA⟩ "_law_data" 4 3 c__law_data :=
  cal_of F sc__law_data m (F.binds fun _ _ _ _ _ _ us hl => match us, hl with | [_, _, _], _ => rfl) rfl rfl rfl (b__law_data T hsb C__law_draw C__law_word C__law_counts C__law_steps)
abbrev s__law_sum : Stmt := top 30
abbrev N__law_sum : List Str := ["well", "columns", "numbers", "turn", "bare", "found", "k", "at"]
theorem sc__law_sum : FnScope N__law_sum ["well", "columns", "numbers"] (defScope s__law_sum) := ⟨rfl, rfl, rfl, by decide +kernel, rfl, by decide +kernel, by decide +kernel⟩
theorem b__law_sum (T : Tx mg) (hsb : ∃ mm, base.Ns sysModules mm) (C__law_draw : Cal P w K mg base ⟨K, CA⟩ "_law_draw" 1 2 c__law_draw) {f : Addr} (cdv : Value) (A : Around) (outer : List Env) (s : Shared) (H : Hp) (E : XK) (hr : Room 1 (A.deeper (PyProof.Rows.envOfC "_law_sum" (defScope s__law_sum) s.heap.objs.size f cdv))) (hgd : A.guards = some []) :
    PSs (cxOf CX0 P w K mg base N__law_sum "_law_sum" (defScope s__law_sum) f cdv A outer s H E).nox (defBody s__law_sum) (tS ⟨K, CA⟩ E0 m__law_sum) := by
  let G : Sig := ⟨K, CA⟩
  exact (qss_cons (qs_set (i := 3) sc__law_sum.nd rfl (by first | exact Or.inl rfl | exact Or.inr rfl) (q_cal C__law_draw hr (by decide) hgd (by rfl) (qa_cons (qv 0) (qa_cons qc_int qa_nil))))
      (qss_cons (qs_set (i := 4) sc__law_sum.nd rfl (by first | exact Or.inl rfl | exact Or.inr rfl) (q_cal C__law_draw hr (by decide) hgd (by rfl) (qa_cons (qv 0) (qa_cons qc_int qa_nil))))
      (qss_cons (qs_set (i := 5) sc__law_sum.nd rfl (by first | exact Or.inl rfl | exact Or.inr rfl) q_dnew)
      (qss_cons (qs_for PassesOwn.never rfl (qi_range1 (by rfl) T.b_range (qa_cons (q_callB (call_len_seq.or (call_len_str.or call_lenD)) (s_len rfl) (by rfl) T.b_len bt_len (qa_cons (qv 1) qa_nil)) qa_nil)) (qg_name (i := 6) sc__law_sum.nd rfl (by first | exact Or.inl rfl | exact Or.inr rfl)) (qss_cons (qs_set (i := 7) sc__law_sum.nd rfl (by first | exact Or.inl rfl | exact Or.inr rfl) (q_ix ix_seq (s_ix rfl) (q_lst (qa_cons (qv 6) (qa_cons (q_sub (q_sub (q_callB (call_len_seq.or (call_len_str.or call_lenD)) (s_len rfl) (by rfl) T.b_len bt_len (qa_cons (qv 1) qa_nil)) qc_int) (qv 6)) qa_nil))) (qv 3)))
      (qss_one (qs_if (qt_pw (qw_or (qt_cmp (op_ne.or (op_neA (G := G) rfl hr)) s_ne (q_ix ix_seq (s_ix rfl) (qv 2) (qv 7)) qc_int (nomark _)) (qw_or1 (qt_cmp (op_eq.or (op_eqA (G := G) rfl hr)) s_eq (qv 4) qc_int (nomark _))))) (qss_one (qs_sub (set_dict hr) s_setK (q_ix ix_seq (s_ix rfl) (qv 2) (qv 7)) (qv 5) (q_ix ix_seq (s_ix rfl) (qv 1) (qv 7)))) qss_nil))))
      (qss_one (qs_ret (qv 5)))))))
theorem w__law_sum {f : Addr} {fd : FuncData} (F : Fun K "_law_sum" "_law_sum" s__law_sum f fd) (m : mg "_law_sum" = some (.ref f)) (T : Tx mg) (hsb : ∃ mm, base.Ns sysModules mm) (C__law_draw : Cal P w K mg base ⟨K, CA⟩ "_law_draw" 1 2 c__law_draw) : Cal P w K mg base ⟨K, CA⟩ "_law_sum" 2 3 c__law_sum :=
  cal_of F sc__law_sum m (F.binds fun _ _ _ _ _ _ us hl => match us, hl with | [_, _, _], _ => rfl) rfl rfl rfl (b__law_sum T hsb C__law_draw)
abbrev s__law_handed : Stmt := top 31
abbrev N__law_handed : List Str := ["well", "data", "kinds", "name", "states", "steps", "factors", "counts"]
theorem sc__law_handed : FnScope N__law_handed ["well", "data"] (defScope s__law_handed) := ⟨rfl, rfl, rfl, by decide +kernel, rfl, by decide +kernel, by decide +kernel⟩
theorem b__law_handed (T : Tx mg) (hsb : ∃ mm, base.Ns sysModules mm) (C__law_sum : Cal P w K mg base ⟨K, CA⟩ "_law_sum" 2 3 c__law_sum) {f : Addr} (cdv : Value) (A : Around) (outer : List Env) (s : Shared) (H : Hp) (E : XK) (hr : Room 2 (A.deeper (PyProof.Rows.envOfC "_law_handed" (defScope s__law_handed) s.heap.objs.size f cdv))) (hgd : A.guards = some []) :
    PSs (cxOf CX0 P w K mg base N__law_handed "_law_handed" (defScope s__law_handed) f cdv A outer s H E).nox (defBody s__law_handed) (tS ⟨K, CA⟩ E0 m__law_handed) := by
  let G : Sig := ⟨K, CA⟩
  exact (qss_cons (qs_set (i := 2) sc__law_handed.nd rfl (by first | exact Or.inl rfl | exact Or.inr rfl) (q_lstC qa_nil))
      (qss_cons (qs_for PassesOwn.never rfl (qi_any rfl (q_ix ix_seq (s_ix rfl) (qv 1) qc_int)) (qg_tupG rfl rfl (qgs_cons (qg_name (i := 3) sc__law_handed.nd rfl (by first | exact Or.inl rfl | exact Or.inr rfl)) (qgs_cons (qg_name (i := 4) sc__law_handed.nd rfl (by first | exact Or.inl rfl | exact Or.inr rfl)) (qgs_cons (qg_name (i := 5) sc__law_handed.nd rfl (by first | exact Or.inl rfl | exact Or.inr rfl)) qgs_nil)))) (qss_one (qs_expr (q_bm rfl PySem.F.plainAttrs_list PySem.F.slot_list_append PySem.F.type_list_append mt_append tyLst s_append (qv 2) (qa_cons (q_tup (qa_cons (qv 3) (qa_cons (q_lcC (own := [("counts", 7)]) (E2 := E0) rfl sc__law_handed.nd (qi_any rfl (qv 4)) (blkOk_by (N := N__law_handed) (sc := (defScope s__law_handed)) (by decide +kernel)) (fun _ _ _ _ _ => by exact (qg_name (i := 7) sc__law_handed.nd rfl (by first | exact Or.inl rfl | exact Or.inr rfl))) (fun _ _ _ _ _ => qts_nil) (fun _ _ _ _ _ => (q_cal C__law_sum hr (by decide) hgd (by rfl) (qa_cons (qv 0) (qa_cons (q_ix ix_seq (s_ix rfl) (qv 1) qc_int) (qa_cons (qv 7) qa_nil)))))) (qa_cons (q_callTy call_list_of (s_listC rfl) (by rfl) T.b_list bt_list (qa_cons (qv 5) qa_nil)) qa_nil)))) qa_nil)))))
      (qss_one (qs_ret (q_tup (qa_cons (q_callTy call_list_of (s_listC rfl) (by rfl) T.b_list bt_list (qa_cons (q_ix ix_seq (s_ix rfl) (qv 1) qc_int) qa_nil)) (qa_cons (qv 2) (qa_cons (q_lcC (own := [("factors", 6)]) (E2 := E0) rfl sc__law_handed.nd (qi_any rfl (q_ix ix_seq (s_ix rfl) (qv 1) qc_int)) (blkOk_by (N := N__law_handed) (sc := (defScope s__law_handed)) (by decide +kernel)) (fun _ _ _ _ _ => by exact (qg_name (i := 6) sc__law_handed.nd rfl (by first | exact Or.inl rfl | exact Or.inr rfl))) (fun _ _ _ _ _ => qts_nil) (fun _ _ _ _ _ => (q_cal C__law_sum hr (by decide) hgd (by rfl) (qa_cons (qv 0) (qa_cons (q_ix ix_seq (s_ix rfl) (qv 1) qc_int) (qa_cons (qv 6) qa_nil)))))) qa_nil))))))))
theorem w__law_handed {f : Addr} {fd : FuncData} (F : Fun K "_law_handed" "_law_handed" s__law_handed f fd) (m : mg "_law_handed" = some (.ref f)) (T : Tx mg) (hsb : ∃ mm, base.Ns sysModules mm) (C__law_sum : Cal P w K mg base ⟨K, CA⟩ "_law_sum" 2 3 c__law_sum) : Cal P w K mg base ⟨K, CA⟩ "_law_handed" 3 2 c__law_handed :=
  cal_of F sc__law_handed m (F.binds fun _ _ _ _ _ _ us hl => match us, hl with | [_, _], _ => rfl) rfl rfl rfl (b__law_handed T hsb C__law_sum)
abbrev s_is_name : Stmt := top 13
abbrev N_is_name : List Str := ["text", "letter"]
theorem sc_is_name : FnScope N_is_name ["text"] (defScope s_is_name) := ⟨rfl, rfl, rfl, by decide +kernel, rfl, by decide +kernel, by decide +kernel⟩
theorem b_is_name (T : Tx mg) (hsb : ∃ mm, base.Ns sysModules mm)  {f : Addr} (cdv : Value) (A : Around) (outer : List Env) (s : Shared) (H : Hp) (E : XK) (hr : Room 0 (A.deeper (PyProof.Rows.envOfC "is_name" (defScope s_is_name) s.heap.objs.size f cdv))) (hgd : A.guards = some []) :
    PSs (cxOf CX0 P w K mg base N_is_name "is_name" (defScope s_is_name) f cdv A outer s H E).nox (defBody s_is_name) (tS ⟨K, CA⟩ E0 m_is_name) := by
  let G : Sig := ⟨K, CA⟩
  exact (qss_one (qs_ret (q_and (q_chain op_le s_le op_le s_le qc_int (q_callB (call_len_seq.or (call_len_str.or call_lenD)) (s_len rfl) (by rfl) T.b_len bt_len (qa_cons (qv 0) qa_nil)) (qg_intE (by rfl) T.g_MOST_LETTERS)) (q_one (q_callB (cr_all rfl) (s_all rfl) (by rfl) T.b_all bt_all (qa_cons (q_lc (own := [("letter", 1)]) (E2 := E0) rfl sc_is_name.nd (qi_any rfl (qv 0)) (blkOk_by (N := N_is_name) (sc := (defScope s_is_name)) (by decide +kernel)) (fun _ _ _ _ _ => by exact (qg_name (i := 1) sc_is_name.nd rfl (by first | exact Or.inl rfl | exact Or.inr rfl))) (fun _ _ _ _ _ => qts_nil) (fun _ _ _ _ _ => (q_cmp ((op_in_sign.or op_in_seq).or (op_inP (G := G) rfl hr)) (s_inD rfl) (qv 1) (qg_strE (by rfl) T.g_LETTERS) (by rfl)))) qa_nil))))))
theorem w_is_name {f : Addr} {fd : FuncData} (F : Fun K "is_name" "is_name" s_is_name f fd) (m : mg "is_name" = some (.ref f)) (T : Tx mg) (hsb : ∃ mm, base.Ns sysModules mm)  : Cal P w K mg base ⟨K, CA⟩ "is_name" 1 1 c_is_name :=
  cal_of F sc_is_name m (F.binds fun _ _ _ _ _ _ us hl => match us, hl with | [_], _ => rfl) rfl rfl rfl (b_is_name T hsb )
abbrev s_look_at_columns : Stmt := top 18
abbrev N_look_at_columns : List Str := ["columns", "index", "name"]
theorem sc_look_at_columns : FnScope N_look_at_columns ["columns"] (defScope s_look_at_columns) := ⟨rfl, rfl, rfl, by decide +kernel, rfl, by decide +kernel, by decide +kernel⟩
theorem b_look_at_columns (T : Tx mg) (hsb : ∃ mm, base.Ns sysModules mm) (C_is_name : Cal P w K mg base ⟨K, CA⟩ "is_name" 1 1 c_is_name) {f : Addr} (cdv : Value) (A : Around) (outer : List Env) (s : Shared) (H : Hp) (E : XK) (hr : Room 1 (A.deeper (PyProof.Rows.envOfC "look_at_columns" (defScope s_look_at_columns) s.heap.objs.size f cdv))) (hgd : A.guards = some []) :
    PSs (cxOf CX0 P w K mg base N_look_at_columns "look_at_columns" (defScope s_look_at_columns) f cdv A outer s H E).nox (defBody s_look_at_columns) (tS ⟨K, CA⟩ E0 m_look_at_columns) := by
  let G : Sig := ⟨K, CA⟩
  exact (qss_one (qs_for PassesOwn.never rfl (qi_enum rfl (by rfl) T.b_enumerate (qa_cons (qv 0) qa_nil)) (qg_tupG rfl rfl (qgs_cons (qg_name (i := 1) sc_look_at_columns.nd rfl (by first | exact Or.inl rfl | exact Or.inr rfl)) (qgs_cons (qg_name (i := 2) sc_look_at_columns.nd rfl (by first | exact Or.inl rfl | exact Or.inr rfl)) qgs_nil))) (qss_cons (qs_if (qt_not (qt_tru rfl (q_cal C_is_name hr (by decide) hgd (by rfl) (qa_cons (qv 2) qa_nil)))) (qss_one qs_never) qss_nil)
      (qss_one (qs_if (qt_cmp ((op_in_sign.or op_in_seq).or (op_inP (G := G) rfl hr)) (s_inD rfl) (qv 2) (q_sl rfl (qv 0) qo_none (qo_b (qv 1))) (by rfl)) (qss_one qs_never) qss_nil)))))
theorem w_look_at_columns {f : Addr} {fd : FuncData} (F : Fun K "look_at_columns" "look_at_columns" s_look_at_columns f fd) (m : mg "look_at_columns" = some (.ref f)) (T : Tx mg) (hsb : ∃ mm, base.Ns sysModules mm) (C_is_name : Cal P w K mg base ⟨K, CA⟩ "is_name" 1 1 c_is_name) : Cal P w K mg base ⟨K, CA⟩ "look_at_columns" 2 1 c_look_at_columns :=
  cal_of F sc_look_at_columns m (F.binds fun _ _ _ _ _ _ us hl => match us, hl with | [_], _ => rfl) rfl rfl rfl (b_look_at_columns T hsb C_is_name)
abbrev s_look_at_steps : Stmt := top 19
abbrev N_look_at_steps : List Str := ["steps", "size", "index", "step", "name", "start", "end", "earlier"]
theorem sc_look_at_steps : FnScope N_look_at_steps ["steps", "size"] (defScope s_look_at_steps) := ⟨rfl, rfl, rfl, by decide +kernel, rfl, by decide +kernel, by decide +kernel⟩
theorem b_look_at_steps (T : Tx mg) (hsb : ∃ mm, base.Ns sysModules mm) (C_is_name : Cal P w K mg base ⟨K, CA⟩ "is_name" 1 1 c_is_name) {f : Addr} (cdv : Value) (A : Around) (outer : List Env) (s : Shared) (H : Hp) (E : XK) (hr : Room 1 (A.deeper (PyProof.Rows.envOfC "look_at_steps" (defScope s_look_at_steps) s.heap.objs.size f cdv))) (hgd : A.guards = some []) :
    PSs (cxOf CX0 P w K mg base N_look_at_steps "look_at_steps" (defScope s_look_at_steps) f cdv A outer s H E).nox (defBody s_look_at_steps) (tS ⟨K, CA⟩ E0 m_look_at_steps) := by
  let G : Sig := ⟨K, CA⟩
  exact (qss_one (qs_for PassesOwn.never rfl (qi_enum rfl (by rfl) T.b_enumerate (qa_cons (qv 0) qa_nil)) (qg_tupG rfl rfl (qgs_cons (qg_name (i := 2) sc_look_at_steps.nd rfl (by first | exact Or.inl rfl | exact Or.inr rfl)) (qgs_cons (qg_name (i := 3) sc_look_at_steps.nd rfl (by first | exact Or.inl rfl | exact Or.inr rfl)) qgs_nil))) (qss_cons (qs_asg (qv 3) (qg_tupG rfl rfl (qgs_cons (qg_name (i := 4) sc_look_at_steps.nd rfl (by first | exact Or.inl rfl | exact Or.inr rfl)) (qgs_cons (qg_name (i := 5) sc_look_at_steps.nd rfl (by first | exact Or.inl rfl | exact Or.inr rfl)) (qgs_cons (qg_name (i := 6) sc_look_at_steps.nd rfl (by first | exact Or.inl rfl | exact Or.inr rfl)) qgs_nil)))))
      (qss_cons (qs_if (qt_not (qt_tru rfl (q_cal C_is_name hr (by decide) hgd (by rfl) (qa_cons (qv 4) qa_nil)))) (qss_one qs_never) qss_nil)
      (qss_cons (qs_if (qt_pw (qw_or (qt_not (qt_chain op_le s_le op_lt s_lt qc_int (qv 5) (qv 1))) (qw_or1 (qt_not (qt_chain op_le s_le op_lt s_lt qc_int (qv 6) (qv 1)))))) (qss_one qs_never) qss_nil)
      (qss_one (qs_if (qt_cmp ((op_in_sign.or op_in_seq).or (op_inP (G := G) rfl hr)) (s_inD rfl) (q_tup (qa_cons (qv 4) (qa_cons (qv 5) qa_nil))) (q_lc (own := [("earlier", 7)]) (E2 := E0) rfl sc_look_at_steps.nd (qi_any rfl (q_sl rfl (qv 0) qo_none (qo_b (qv 2)))) (blkOk_by (N := N_look_at_steps) (sc := (defScope s_look_at_steps)) (by decide +kernel)) (fun _ _ _ _ _ => by exact (qg_name (i := 7) sc_look_at_steps.nd rfl (by first | exact Or.inl rfl | exact Or.inr rfl))) (fun _ _ _ _ _ => qts_nil) (fun _ _ _ _ _ => (q_sl rfl (qv 7) qo_none (qo_b qc_int)))) (by rfl)) (qss_one qs_never) qss_nil)))))))
theorem w_look_at_steps {f : Addr} {fd : FuncData} (F : Fun K "look_at_steps" "look_at_steps" s_look_at_steps f fd) (m : mg "look_at_steps" = some (.ref f)) (T : Tx mg) (hsb : ∃ mm, base.Ns sysModules mm) (C_is_name : Cal P w K mg base ⟨K, CA⟩ "is_name" 1 1 c_is_name) : Cal P w K mg base ⟨K, CA⟩ "look_at_steps" 2 2 c_look_at_steps :=
  cal_of F sc_look_at_steps m (F.binds fun _ _ _ _ _ _ us hl => match us, hl with | [_, _], _ => rfl) rfl rfl rfl (b_look_at_steps T hsb C_is_name)
abbrev s_factors_of : Stmt := top 14
abbrev N_factors_of : List Str := ["columns", "total", "column"]
theorem sc_factors_of : FnScope N_factors_of ["columns", "total"] (defScope s_factors_of) := ⟨rfl, rfl, rfl, by decide +kernel, rfl, by decide +kernel, by decide +kernel⟩
theorem b_factors_of (T : Tx mg) (hsb : ∃ mm, base.Ns sysModules mm)  {f : Addr} (cdv : Value) (A : Around) (outer : List Env) (s : Shared) (H : Hp) (E : XK) (hr : Room 0 (A.deeper (PyProof.Rows.envOfC "factors_of" (defScope s_factors_of) s.heap.objs.size f cdv))) (hgd : A.guards = some []) :
    PSs (cxOf CX0 P w K mg base N_factors_of "factors_of" (defScope s_factors_of) f cdv A outer s H E).nox (defBody s_factors_of) (tS ⟨K, CA⟩ E0 m_factors_of) := by
  let G : Sig := ⟨K, CA⟩
  exact (qss_cons (qs_for PassesOwn.never rfl (qi_any rfl (q_callB (PV.CallR.or cr_sortedS (call_sortedD rfl)) (s_sorted rfl) (by rfl) T.b_sorted bt_sorted (qa_cons (qv 1) qa_nil))) (qg_name (i := 2) sc_factors_of.nd rfl (by first | exact Or.inl rfl | exact Or.inr rfl)) (qss_one (qs_if (qt_cmp ((op_notIn_sign.or op_notIn_seq).or (op_notInP (G := G) rfl hr)) (s_notInD rfl) (qv 2) (qv 0) (by rfl)) (qss_one qs_never) qss_nil)))
      (qss_one (qs_ret (q_lc (own := [("column", 2)]) (E2 := E0) rfl sc_factors_of.nd (qi_any rfl (qv 0)) (blkOk_by (N := N_factors_of) (sc := (defScope s_factors_of)) (by decide +kernel)) (fun _ _ _ _ _ => by exact (qg_name (i := 2) sc_factors_of.nd rfl (by first | exact Or.inl rfl | exact Or.inr rfl))) (fun _ _ _ _ _ => qts_nil) (fun _ _ _ _ _ => (q_bm rfl PySem.F.plainAttrs_dict PySem.F.slot_dict_get PySem.F.type_dict_get (mt_getD hr) tyDic s_getD (qv 1) (qa_cons (qv 2) (qa_cons qc_int qa_nil))))))))
theorem w_factors_of {f : Addr} {fd : FuncData} (F : Fun K "factors_of" "factors_of" s_factors_of f fd) (m : mg "factors_of" = some (.ref f)) (T : Tx mg) (hsb : ∃ mm, base.Ns sysModules mm)  : Cal P w K mg base ⟨K, CA⟩ "factors_of" 1 2 c_factors_of :=
  cal_of F sc_factors_of m (F.binds fun _ _ _ _ _ _ us hl => match us, hl with | [_, _], _ => rfl) rfl rfl rfl (b_factors_of T hsb )
abbrev s_kind_rows_of : Stmt := top 20
abbrev N_kind_rows_of : List Str := ["columns", "kinds", "rows", "name", "states", "steps", "counts", "state", "row", "count"]
theorem sc_kind_rows_of : FnScope N_kind_rows_of ["columns", "kinds"] (defScope s_kind_rows_of) := ⟨rfl, rfl, rfl, by decide +kernel, rfl, by decide +kernel, by decide +kernel⟩
theorem b_kind_rows_of (T : Tx mg) (hsb : ∃ mm, base.Ns sysModules mm) (C_is_name : Cal P w K mg base ⟨K, CA⟩ "is_name" 1 1 c_is_name) (C_factors_of : Cal P w K mg base ⟨K, CA⟩ "factors_of" 1 2 c_factors_of) (C_look_at_steps : Cal P w K mg base ⟨K, CA⟩ "look_at_steps" 2 2 c_look_at_steps) {f : Addr} (cdv : Value) (A : Around) (outer : List Env) (s : Shared) (H : Hp) (E : XK) (hr : Room 2 (A.deeper (PyProof.Rows.envOfC "kind_rows_of" (defScope s_kind_rows_of) s.heap.objs.size f cdv))) (hgd : A.guards = some []) :
    PSs (cxOf CX0 P w K mg base N_kind_rows_of "kind_rows_of" (defScope s_kind_rows_of) f cdv A outer s H E).nox (defBody s_kind_rows_of) (tS ⟨K, CA⟩ E0 m_kind_rows_of) := by
  let G : Sig := ⟨K, CA⟩
  exact (qss_cons (qs_set (i := 2) sc_kind_rows_of.nd rfl (by first | exact Or.inl rfl | exact Or.inr rfl) (q_lstC qa_nil))
      (qss_cons (qs_for PassesOwn.never rfl (qi_any rfl (qv 1)) (qg_tupG rfl rfl (qgs_cons (qg_name (i := 3) sc_kind_rows_of.nd rfl (by first | exact Or.inl rfl | exact Or.inr rfl)) (qgs_cons (qg_name (i := 4) sc_kind_rows_of.nd rfl (by first | exact Or.inl rfl | exact Or.inr rfl)) (qgs_cons (qg_name (i := 5) sc_kind_rows_of.nd rfl (by first | exact Or.inl rfl | exact Or.inr rfl)) qgs_nil)))) (qss_cons (qs_if (qt_not (qt_tru rfl (q_cal C_is_name hr (by decide) hgd (by rfl) (qa_cons (qv 3) qa_nil)))) (qss_one qs_never) qss_nil)
      (qss_cons (qs_if (qt_cmp ((op_in_sign.or op_in_seq).or (op_inP (G := G) rfl hr)) (s_inD rfl) (qv 3) (q_lc (own := [("row", 8)]) (E2 := E0) rfl sc_kind_rows_of.nd (qi_any rfl (qv 2)) (blkOk_by (N := N_kind_rows_of) (sc := (defScope s_kind_rows_of)) (by decide +kernel)) (fun _ _ _ _ _ => by exact (qg_name (i := 8) sc_kind_rows_of.nd rfl (by first | exact Or.inl rfl | exact Or.inr rfl))) (fun _ _ _ _ _ => qts_nil) (fun _ _ _ _ _ => (q_ix ix_seq (s_ix rfl) (qv 8) qc_int))) (by rfl)) (qss_one qs_never) qss_nil)
      (qss_cons (qs_if (qt_cmp (PV.OpR.or (op_eq.or (op_eqA (G := G) rfl hr)) (op_eqLen hr)) (s_eqX rfl s_eq) (qv 4) (q_lst qa_nil) (nomark _)) (qss_one qs_never) qss_nil)
      (qss_cons (qs_setLc (i := 6) (own := [("state", 7)]) (E2 := E0) rfl sc_kind_rows_of.nd rfl rfl (sw_true rfl rfl rfl (by decide +kernel)) (qi_any rfl (qv 4)) (blkOk_by (N := N_kind_rows_of) (sc := (defScope s_kind_rows_of)) (by decide +kernel)) (fun _ _ _ _ _ => by exact (qg_name (i := 7) sc_kind_rows_of.nd rfl (by first | exact Or.inl rfl | exact Or.inr rfl))) (fun _ _ _ _ _ => qts_nil) (fun _ _ _ _ _ => (q_cal C_factors_of hr (by decide) hgd (by rfl) (qa_cons (qv 0) (qa_cons (qv 7) qa_nil)))))
      (qss_cons (qs_if (qt_tru rfl (q_callB (cr_any rfl) (s_any rfl) (by rfl) T.b_any bt_any (qa_cons (q_lc (own := [("count", 9)]) (E2 := E0) rfl sc_kind_rows_of.nd (qi_any rfl (q_ix ix_seq (s_ix rfl) (qv 6) qc_int)) (blkOk_by (N := N_kind_rows_of) (sc := (defScope s_kind_rows_of)) (by decide +kernel)) (fun _ _ _ _ _ => by exact (qg_name (i := 9) sc_kind_rows_of.nd rfl (by first | exact Or.inl rfl | exact Or.inr rfl))) (fun _ _ _ _ _ => qts_nil) (fun _ _ _ _ _ => (q_cmp (PV.OpR.or (op_ne.or (op_neA (G := G) rfl hr)) (op_neLen hr)) (s_neX rfl s_ne) (qv 9) qc_int (nomark _)))) qa_nil))) (qss_one qs_never) qss_nil)
      (qss_cons (qs_expr (q_cal C_look_at_steps hr (by decide) hgd (by rfl) (qa_cons (qv 5) (qa_cons (q_callB (call_len_seq.or (call_len_str.or call_lenD)) (s_len rfl) (by rfl) T.b_len bt_len (qa_cons (qv 4) qa_nil)) qa_nil))))
      (qss_one (qs_expr (q_bm rfl PySem.F.plainAttrs_list PySem.F.slot_list_append PySem.F.type_list_append mt_append tyLst s_append (qv 2) (qa_cons (q_tup (qa_cons (qv 3) (qa_cons (qv 6) (qa_cons (q_callTy call_list_of (s_listF rfl) (by rfl) T.b_list bt_list (qa_cons (qv 5) qa_nil)) qa_nil)))) qa_nil)))))))))))
      (qss_one (qs_ret (q_frz (qv 2))))))
theorem w_kind_rows_of {f : Addr} {fd : FuncData} (F : Fun K "kind_rows_of" "kind_rows_of" s_kind_rows_of f fd) (m : mg "kind_rows_of" = some (.ref f)) (T : Tx mg) (hsb : ∃ mm, base.Ns sysModules mm) (C_is_name : Cal P w K mg base ⟨K, CA⟩ "is_name" 1 1 c_is_name) (C_factors_of : Cal P w K mg base ⟨K, CA⟩ "factors_of" 1 2 c_factors_of) (C_look_at_steps : Cal P w K mg base ⟨K, CA⟩ "look_at_steps" 2 2 c_look_at_steps) : Cal P w K mg base ⟨K, CA⟩ "kind_rows_of" 3 2 c_kind_rows_of :=
  cal_of F sc_kind_rows_of m (F.binds fun _ _ _ _ _ _ us hl => match us, hl with | [_, _], _ => rfl) rfl rfl rfl (b_kind_rows_of T hsb C_is_name C_factors_of C_look_at_steps)
abbrev s_Plan___init__ : Stmt := inClass (top 21) 0
abbrev N_Plan___init__ : List Str := ["self", "columns", "kinds", "checks", "check"]
theorem sc_Plan___init__ : FnScope N_Plan___init__ ["self", "columns", "kinds", "checks"] (defScope s_Plan___init__) := ⟨rfl, rfl, rfl, by decide +kernel, rfl, by decide +kernel, by decide +kernel⟩
theorem b_Plan___init__ (T : Tx mg) (hsb : ∃ mm, base.Ns sysModules mm) (C_look_at_columns : Cal P w K mg base ⟨K, CA⟩ "look_at_columns" 2 1 c_look_at_columns) (F_Plan : ClsF K (CA 0) ["column_names", "kind_rows", "check_rows"]) (C_kind_rows_of : Cal P w K mg base ⟨K, CA⟩ "kind_rows_of" 3 2 c_kind_rows_of) (C_factors_of : Cal P w K mg base ⟨K, CA⟩ "factors_of" 1 2 c_factors_of) {f : Addr} (cdv : Value) (A : Around) (outer : List Env) (s : Shared) (H : Hp) (E : XK) (hr : Room 3 (A.deeper (PyProof.Rows.envOfC "Plan.__init__" (defScope s_Plan___init__) s.heap.objs.size f cdv))) (hgd : A.guards = some []) :
    PSs (cxOf CX0 P w K mg base N_Plan___init__ "Plan.__init__" (defScope s_Plan___init__) f cdv A outer s H E).nox (defBody s_Plan___init__) (tS ⟨K, CA⟩ E0 m_Plan___init__) := by
  let G : Sig := ⟨K, CA⟩
  exact (qss_cons (qs_expr (q_cal C_look_at_columns hr (by decide) hgd (by rfl) (qa_cons (qv 1) qa_nil)))
      (qss_cons (qs_fld rfl F_Plan (by decide) (q_callTy call_list_of (s_listF rfl) (by rfl) T.b_list bt_list (qa_cons (qv 1) qa_nil)) (qv 0))
      (qss_cons (qs_fld rfl F_Plan (by decide) (q_cal C_kind_rows_of hr (by decide) hgd (by rfl) (qa_cons (qv 1) (qa_cons (qv 2) qa_nil))) (qv 0))
      (qss_one (qs_fld rfl F_Plan (by decide) (q_lc (own := [("check", 4)]) (E2 := E0) rfl sc_Plan___init__.nd (qi_any rfl (qv 3)) (blkOk_by (N := N_Plan___init__) (sc := (defScope s_Plan___init__)) (by decide +kernel)) (fun _ _ _ _ _ => by exact (qg_name (i := 4) sc_Plan___init__.nd rfl (by first | exact Or.inl rfl | exact Or.inr rfl))) (fun _ _ _ _ _ => qts_nil) (fun _ _ _ _ _ => (q_cal C_factors_of hr (by decide) hgd (by rfl) (qa_cons (qv 1) (qa_cons (qv 4) qa_nil))))) (qv 0))))))
theorem w_Plan___init__ {f p : Addr} {fd : FuncData} (F : Fun K "__init__" "Plan.__init__" s_Plan___init__ f fd) (m : mg "Plan" = some (.ref (CA 0))) (M : Mk K (CA 0) f) (T : Tx mg) (hsb : ∃ mm, base.Ns sysModules mm) (C_look_at_columns : Cal P w K mg base ⟨K, CA⟩ "look_at_columns" 2 1 c_look_at_columns) (F_Plan : ClsF K (CA 0) ["column_names", "kind_rows", "check_rows"]) (C_kind_rows_of : Cal P w K mg base ⟨K, CA⟩ "kind_rows_of" 3 2 c_kind_rows_of) (C_factors_of : Cal P w K mg base ⟨K, CA⟩ "factors_of" 1 2 c_factors_of) : MkB P w K mg base ⟨K, CA⟩ "Plan" 0 4 3 c_Plan___init__ :=
  mk_of m M (F.binds fun _ _ _ _ _ _ us hl => match us, hl with | [_, _, _, _], _ => rfl) (fnG_by F sc_Plan___init__ rfl rfl rfl (b_Plan___init__ T hsb C_look_at_columns F_Plan C_kind_rows_of C_factors_of))
abbrev s__law_plan : Stmt := top 32
abbrev N__law_plan : List Str := ["well", "data", "made", "check", "columns", "kinds", "checks", "name", "states", "steps", "counts"]
theorem sc__law_plan : FnScope N__law_plan ["well", "data"] (defScope s__law_plan) := ⟨rfl, rfl, rfl, by decide +kernel, rfl, by decide +kernel, by decide +kernel⟩
theorem b__law_plan (T : Tx mg) (hsb : ∃ mm, base.Ns sysModules mm) (C__law_handed : Cal P w K mg base ⟨K, CA⟩ "_law_handed" 3 2 c__law_handed) (K_Plan : MkB P w K mg base ⟨K, CA⟩ "Plan" 0 4 3 c_Plan___init__) {f : Addr} (cdv : Value) (A : Around) (outer : List Env) (s : Shared) (H : Hp) (E : XK) (hr : Room 5 (A.deeper (PyProof.Rows.envOfC "_law_plan" (defScope s__law_plan) s.heap.objs.size f cdv))) (hgd : A.guards = some []) :
    PSs (cxOf CX0 P w K mg base N__law_plan "_law_plan" (defScope s__law_plan) f cdv A outer s H E).nox (defBody s__law_plan) (tS ⟨K, CA⟩ E0 m__law_plan) := by
  let G : Sig := ⟨K, CA⟩
  exact (qss_cons (qs_asg (q_cal C__law_handed hr (by decide) hgd (by rfl) (qa_cons (qv 0) (qa_cons (qv 1) qa_nil))) (qg_tupG rfl rfl (qgs_cons (qg_name (i := 4) sc__law_plan.nd rfl (by first | exact Or.inl rfl | exact Or.inr rfl)) (qgs_cons (qg_name (i := 5) sc__law_plan.nd rfl (by first | exact Or.inl rfl | exact Or.inr rfl)) (qgs_cons (qg_name (i := 6) sc__law_plan.nd rfl (by first | exact Or.inl rfl | exact Or.inr rfl)) qgs_nil)))))
      (qss_cons (qs_set (i := 2) sc__law_plan.nd rfl (by first | exact Or.inl rfl | exact Or.inr rfl) (q_make K_Plan hr (by decide) hgd (by rfl) (qa_cons (qv 4) (qa_cons (qv 5) (qa_cons (qv 6) qa_nil)))))
      (qss_cons (qs_expr (q_bm rfl PySem.F.plainAttrs_list PySem.F.slot_list_append PySem.F.type_list_append mt_append tyLst s_append (qv 4) (qa_cons qc_str qa_nil)))
      (qss_cons (qs_for PassesOwn.never rfl (qi_any rfl (qv 5)) (qg_tupG rfl rfl (qgs_cons (qg_name (i := 7) sc__law_plan.nd rfl (by first | exact Or.inl rfl | exact Or.inr rfl)) (qgs_cons (qg_name (i := 8) sc__law_plan.nd rfl (by first | exact Or.inl rfl | exact Or.inr rfl)) (qgs_cons (qg_name (i := 9) sc__law_plan.nd rfl (by first | exact Or.inl rfl | exact Or.inr rfl)) qgs_nil)))) (qss_cons (qs_for PassesOwn.never rfl (qi_any rfl (qv 8)) (qg_name (i := 10) sc__law_plan.nd rfl (by first | exact Or.inl rfl | exact Or.inr rfl)) (qss_one (qs_expr (q_clear (q_bm0 rfl PySem.F.plainAttrs_list PySem.F.slot_list_clear PySem.F.type_list_clear mt_clear tyLst s_clear (qv 10)) (q_bm0 rfl PySem.F.plainAttrs_dict PySem.F.slot_dict_clear PySem.F.type_dict_clear mtd_clear tyDic s_dclear (qv 10))))))
      (qss_cons (qs_expr (q_bm rfl PySem.F.plainAttrs_list PySem.F.slot_list_append PySem.F.type_list_append mt_append tyLst s_append (qv 8) (qa_cons q_dnew qa_nil)))
      (qss_one (qs_expr (q_clear (q_bm0 rfl PySem.F.plainAttrs_list PySem.F.slot_list_clear PySem.F.type_list_clear mt_clear tyLst s_clear (qv 9)) (q_bm0 rfl PySem.F.plainAttrs_dict PySem.F.slot_dict_clear PySem.F.type_dict_clear mtd_clear tyDic s_dclear (qv 9))))))))
      (qss_cons (qs_for PassesOwn.never rfl (qi_any rfl (qv 6)) (qg_name (i := 3) sc__law_plan.nd rfl (by first | exact Or.inl rfl | exact Or.inr rfl)) (qss_one (qs_expr (q_clear (q_bm0 rfl PySem.F.plainAttrs_list PySem.F.slot_list_clear PySem.F.type_list_clear mt_clear tyLst s_clear (qv 3)) (q_bm0 rfl PySem.F.plainAttrs_dict PySem.F.slot_dict_clear PySem.F.type_dict_clear mtd_clear tyDic s_dclear (qv 3))))))
      (qss_cons (qs_expr (q_clear (q_bm0 rfl PySem.F.plainAttrs_list PySem.F.slot_list_clear PySem.F.type_list_clear mt_clear tyLst s_clear (qv 5)) (q_bm0 rfl PySem.F.plainAttrs_dict PySem.F.slot_dict_clear PySem.F.type_dict_clear mtd_clear tyDic s_dclear (qv 5))))
      (qss_cons (qs_expr (q_bm rfl PySem.F.plainAttrs_list PySem.F.slot_list_append PySem.F.type_list_append mt_append tyLst s_append (qv 6) (qa_cons q_dnew qa_nil)))
      (qss_one (qs_ret (qv 2))))))))))
theorem w__law_plan {f : Addr} {fd : FuncData} (F : Fun K "_law_plan" "_law_plan" s__law_plan f fd) (m : mg "_law_plan" = some (.ref f)) (T : Tx mg) (hsb : ∃ mm, base.Ns sysModules mm) (C__law_handed : Cal P w K mg base ⟨K, CA⟩ "_law_handed" 3 2 c__law_handed) (K_Plan : MkB P w K mg base ⟨K, CA⟩ "Plan" 0 4 3 c_Plan___init__) : Cal P w K mg base ⟨K, CA⟩ "_law_plan" 6 2 c__law_plan :=
  cal_of F sc__law_plan m (F.binds fun _ _ _ _ _ _ us hl => match us, hl with | [_, _], _ => rfl) rfl rfl rfl (b__law_plan T hsb C__law_handed K_Plan)
abbrev s__law_due : Stmt := top 34
abbrev N__law_due : List Str := ["columns", "factors", "text", "k"]
theorem sc__law_due : FnScope N__law_due ["columns", "factors"] (defScope s__law_due) := ⟨rfl, rfl, rfl, by decide +kernel, rfl, by decide +kernel, by decide +kernel⟩
theorem b__law_due (T : Tx mg) (hsb : ∃ mm, base.Ns sysModules mm)  {f : Addr} (cdv : Value) (A : Around) (outer : List Env) (s : Shared) (H : Hp) (E : XK) (hr : Room 0 (A.deeper (PyProof.Rows.envOfC "_law_due" (defScope s__law_due) s.heap.objs.size f cdv))) (hgd : A.guards = some []) :
    PSs (cxOf CX0 P w K mg base N__law_due "_law_due" (defScope s__law_due) f cdv A outer s H E).nox (defBody s__law_due) (tS ⟨K, CA⟩ E0 m__law_due) := by
  let G : Sig := ⟨K, CA⟩
  exact (qss_cons (qs_set (i := 2) sc__law_due.nd rfl (by first | exact Or.inl rfl | exact Or.inr rfl) qc_str)
      (qss_cons (qs_for PassesOwn.never rfl (qi_range1 (by rfl) T.b_range (qa_cons (q_callB (call_len_seq.or (call_len_str.or call_lenD)) (s_len rfl) (by rfl) T.b_len bt_len (qa_cons (qv 0) qa_nil)) qa_nil)) (qg_name (i := 3) sc__law_due.nd rfl (by first | exact Or.inl rfl | exact Or.inr rfl)) (qss_one (qs_if (qt_cmp (op_ne.or (op_neA (G := G) rfl hr)) s_ne (q_ix ix_seq (s_ix rfl) (qv 1) (qv 3)) qc_int (nomark _)) (qss_one (qs_set (i := 2) sc__law_due.nd rfl (by first | exact Or.inl rfl | exact Or.inr rfl) (q_add (q_add (q_add (qv 2) qc_str) (q_callTy (call_str_int.or SkE.call_str_str) s_str (by rfl) T.b_str bt_str (qa_cons (q_ix ix_seq (s_ix rfl) (qv 1) (qv 3)) qa_nil))) (q_ix ix_seq (s_ix rfl) (qv 0) (qv 3))))) qss_nil)))
      (qss_one (qs_ret (q_tup (qa_cons qc_str (qa_cons (q_if (qt_cmp (op_ne.or (op_neA (G := G) rfl hr)) s_ne (qv 2) qc_str (nomark _)) (q_sl rfl (qv 2) (qo_b qc_int) qo_none) qc_str) qa_nil)))))))
theorem w__law_due {f : Addr} {fd : FuncData} (F : Fun K "_law_due" "_law_due" s__law_due f fd) (m : mg "_law_due" = some (.ref f)) (T : Tx mg) (hsb : ∃ mm, base.Ns sysModules mm)  : Cal P w K mg base ⟨K, CA⟩ "_law_due" 1 2 c__law_due :=
  cal_of F sc__law_due m (F.binds fun _ _ _ _ _ _ us hl => match us, hl with | [_, _], _ => rfl) rfl rfl rfl (b__law_due T hsb )
abbrev s_factors_ofX : Stmt := top 14
abbrev N_factors_ofX : List Str := ["columns", "total", "column"]
theorem sc_factors_ofX : FnScope N_factors_ofX ["columns", "total"] (defScope s_factors_ofX) := ⟨rfl, rfl, rfl, by decide +kernel, rfl, by decide +kernel, by decide +kernel⟩
theorem b_factors_ofX (T : Tx mg) (hsb : ∃ mm, base.Ns sysModules mm) (B_UnknownColumn : ExB P w K mg base ⟨K, CA⟩ "UnknownColumn" 4 1) {f : Addr} (cdv : Value) (A : Around) (outer : List Env) (s : Shared) (H : Hp) (E : XK) (hr : Room 2 (A.deeper (PyProof.Rows.envOfC "factors_of" (defScope s_factors_ofX) s.heap.objs.size f cdv))) (hgd : A.guards = some []) :
    PSs (cxOf (L2.CX P w) P w K mg base N_factors_ofX "factors_of" (defScope s_factors_ofX) f cdv A outer s H E) (defBody s_factors_ofX) (tS ⟨K, CA⟩ E m_factors_ofX) := by
  let G : Sig := ⟨K, CA⟩
  exact (qss_cons (qs_for po_of rfl (qi_any rfl (q_callB (PV.CallR.or cr_sortedS (call_sortedD rfl)) (s_sorted rfl) (by rfl) T.b_sorted bt_sorted (qa_cons (qv 1) qa_nil))) (qg_name (i := 2) sc_factors_ofX.nd rfl (by first | exact Or.inl rfl | exact Or.inr rfl)) (qss_one (qs_if (qt_no (qt_cmp ((op_notIn_sign.or op_notIn_seq).or (op_notInP (G := G) rfl hr)) (s_notInD rfl) (qv 2) (qv 0) (by rfl))) (qss_one (qs_raise B_UnknownColumn rfl tk_of hr (by decide) (by rfl) (qv 2))) qss_nil)))
      (qss_one (qs_no (qs_ret (q_lc (own := [("column", 2)]) (E2 := E0) rfl sc_factors_ofX.nd (qi_any rfl (qv 0)) (blkOk_by (N := N_factors_ofX) (sc := (defScope s_factors_ofX)) (by decide +kernel)) (fun _ _ _ _ _ => by exact (qg_name (i := 2) sc_factors_ofX.nd rfl (by first | exact Or.inl rfl | exact Or.inr rfl))) (fun _ _ _ _ _ => qts_nil) (fun _ _ _ _ _ => (q_bm rfl PySem.F.plainAttrs_dict PySem.F.slot_dict_get PySem.F.type_dict_get (mt_getD hr) tyDic s_getD (qv 1) (qa_cons (qv 2) (qa_cons qc_int qa_nil)))))))))
theorem w_factors_ofX {f : Addr} {fd : FuncData} (F : Fun K "factors_of" "factors_of" s_factors_ofX f fd) (m : mg "factors_of" = some (.ref f)) (T : Tx mg) (hsb : ∃ mm, base.Ns sysModules mm) (B_UnknownColumn : ExB P w K mg base ⟨K, CA⟩ "UnknownColumn" 4 1) : CalE P w K mg base ⟨K, CA⟩ "factors_of" 3 2 c_factors_ofX :=
  calE_of F sc_factors_ofX m (F.binds fun _ _ _ _ _ _ us hl => match us, hl with | [_, _], _ => rfl) rfl rfl rfl (b_factors_ofX T hsb B_UnknownColumn)
abbrev s_show_sumX : Stmt := top 16
abbrev N_show_sumX : List Str := ["plan", "total", "factors", "words", "factor", "column"]
theorem sc_show_sumX : FnScope N_show_sumX ["plan", "total"] (defScope s_show_sumX) := ⟨rfl, rfl, rfl, by decide +kernel, rfl, by decide +kernel, by decide +kernel⟩
theorem b_show_sumX (T : Tx mg) (hsb : ∃ mm, base.Ns sysModules mm) (C_factors_ofX : CalE P w K mg base ⟨K, CA⟩ "factors_of" 3 2 c_factors_ofX) (F_Plan : ClsF K (CA 0) ["column_names", "kind_rows", "check_rows"]) {f : Addr} (cdv : Value) (A : Around) (outer : List Env) (s : Shared) (H : Hp) (E : XK) (hr : Room 3 (A.deeper (PyProof.Rows.envOfC "show_sum" (defScope s_show_sumX) s.heap.objs.size f cdv))) (hgd : A.guards = some []) :
    PSs (cxOf (L2.CX P w) P w K mg base N_show_sumX "show_sum" (defScope s_show_sumX) f cdv A outer s H E) (defBody s_show_sumX) (tS ⟨K, CA⟩ E m_show_sumX) := by
  let G : Sig := ⟨K, CA⟩
  exact (qss_cons (qs_set (i := 2) sc_show_sumX.nd rfl (by first | exact Or.inl rfl | exact Or.inr rfl) (q_calE C_factors_ofX tk_of hr (by decide) hgd (by rfl) (qa_cons (q_no (q_fld rfl F_Plan (by decide) (qv 0))) (qa_cons (qv 1) qa_nil))))
      (qss_cons (qs_no (qs_setLc (i := 3) (own := [("factor", 4), ("column", 5)]) (E2 := E0) rfl sc_show_sumX.nd rfl rfl (sw_true rfl rfl rfl (by decide +kernel)) (qi_zip rfl (by rfl) T.b_zip (qa_cons (qv 2) (qa_cons (q_fld rfl F_Plan (by decide) (qv 0)) qa_nil))) (blkOk_by (N := N_show_sumX) (sc := (defScope s_show_sumX)) (by decide +kernel)) (fun _ _ _ _ _ => by exact (qg_tupG rfl rfl (qgs_cons (qg_name (i := 4) sc_show_sumX.nd rfl (by first | exact Or.inl rfl | exact Or.inr rfl)) (qgs_cons (qg_name (i := 5) sc_show_sumX.nd rfl (by first | exact Or.inl rfl | exact Or.inr rfl)) qgs_nil)))) (fun _ _ _ _ _ => (qts_one (qt_cmp (op_ne.or (op_neA (G := G) rfl hr)) s_ne (qv 4) qc_int (nomark _)))) (fun _ _ _ _ _ => (q_joined (qj_cons (q_fmt (qv 4)) (qj_cons (q_fmt (qv 5)) qj_nil))))))
      (qss_one (qs_no (qs_ret (q_if (qt_cmp (op_ne.or (op_neA (G := G) rfl hr)) s_ne (qv 3) (q_lst qa_nil) (nomark _)) (q_bm rfl PySem.F.plainAttrs_str PySem.F.slot_str_join PySem.F.type_str_join mt_join tyStr (s_join rfl) qc_str (qa_cons (qv 3) qa_nil)) qc_str))))))
theorem w_show_sumX {f : Addr} {fd : FuncData} (F : Fun K "show_sum" "show_sum" s_show_sumX f fd) (m : mg "show_sum" = some (.ref f)) (T : Tx mg) (hsb : ∃ mm, base.Ns sysModules mm) (C_factors_ofX : CalE P w K mg base ⟨K, CA⟩ "factors_of" 3 2 c_factors_ofX) (F_Plan : ClsF K (CA 0) ["column_names", "kind_rows", "check_rows"]) : CalE P w K mg base ⟨K, CA⟩ "show_sum" 4 2 c_show_sumX :=
  calE_of F sc_show_sumX m (F.binds fun _ _ _ _ _ _ us hl => match us, hl with | [_, _], _ => rfl) rfl rfl rfl (b_show_sumX T hsb C_factors_ofX F_Plan)
abbrev s__law_said : Stmt := top 33
abbrev N__law_said : List Str := ["plan", "total", "said", "e"]
theorem sc__law_said : FnScope N__law_said ["plan", "total"] (defScope s__law_said) := ⟨rfl, rfl, rfl, by decide +kernel, rfl, by decide +kernel, by decide +kernel⟩
theorem b__law_said (T : Tx mg) (hsb : ∃ mm, base.Ns sysModules mm) (C_show_sumX : CalE P w K mg base ⟨K, CA⟩ "show_sum" 4 2 c_show_sumX) (B_UnknownColumn : ExB P w K mg base ⟨K, CA⟩ "UnknownColumn" 4 1) (N_PartError : mg "PartError" = some (.ref (CA 1))) (X_UnknownColumn_UnknownColumn : PySem.W.exmOne K (.ref (CA 4)) (.ref (CA 4)) = some true) (X_UnknownColumn_PartError : PySem.W.exmOne K (.ref (CA 4)) (.ref (CA 1)) = some true) {f : Addr} (cdv : Value) (A : Around) (outer : List Env) (s : Shared) (H : Hp) (E : XK) (hr : Room 4 (A.deeper (PyProof.Rows.envOfC "_law_said" (defScope s__law_said) s.heap.objs.size f cdv))) (hgd : A.guards = some []) :
    PSs (cxOf CX0 P w K mg base N__law_said "_law_said" (defScope s__law_said) f cdv A outer s H E).nox (defBody s__law_said) (tS ⟨K, CA⟩ E0 m__law_said) := by
  let G : Sig := ⟨K, CA⟩
  exact (qss_cons (qs_set (i := 2) sc__law_said.nd rfl (by first | exact Or.inl rfl | exact Or.inr rfl) qc_non)
      (qss_cons (qs_try (rs := [4]) (sub := (subOf [(4, 1)])) (cl := [(4, 3, (fun x => sSet 2 (evL kTup (evCons (evC (.str "UnknownColumn")) (evCons (evXv x) evNil))))), (1, 3, (fun _ _ _ => none))]) rfl rfl sc__law_said.nd (fun E pn xe tk po => (qss_one (qs_set (i := 2) sc__law_said.nd rfl (by first | exact Or.inl rfl | exact Or.inr rfl) (q_tup (qa_cons qc_str (qa_cons (q_calE C_show_sumX tk hr (by decide) hgd (by rfl) (qa_cons (qv 0) (qa_cons (qv 1) qa_nil))) qa_nil)))))) (ClA.cons (names_of (by rfl) B_UnknownColumn.hm) (c := 4) (i := 3) (f := (fun x => sSet 2 (evL kTup (evCons (evC (.str "UnknownColumn")) (evCons (evXv x) evNil))))) rfl rfl (fun a d oe pn hz hf => psu_pair B_UnknownColumn.xf B_UnknownColumn.no hz hf sc__law_said.nd (j := 2) rfl (by first | exact Or.inl rfl | exact Or.inr rfl) (i := 3) rfl (by first | exact Or.inl rfl | exact Or.inr (Or.inl rfl) | exact Or.inr (Or.inr rfl))) (ClA.cons (names_of (by rfl) N_PartError) (c := 1) (i := 3) (f := (fun _ _ _ => none)) rfl rfl (fun a d oe pn hz hf => psu_never) ClA.nil)) (fun c hc q hq => by simp only [List.mem_cons, List.not_mem_nil, or_false] at hc hq; rcases hc with rfl <;> rcases hq with rfl | rfl <;> first | exact X_UnknownColumn_UnknownColumn | exact X_UnknownColumn_PartError))
      (qss_one (qs_ret (qv 2)))))
theorem w__law_said {f : Addr} {fd : FuncData} (F : Fun K "_law_said" "_law_said" s__law_said f fd) (m : mg "_law_said" = some (.ref f)) (T : Tx mg) (hsb : ∃ mm, base.Ns sysModules mm) (C_show_sumX : CalE P w K mg base ⟨K, CA⟩ "show_sum" 4 2 c_show_sumX) (B_UnknownColumn : ExB P w K mg base ⟨K, CA⟩ "UnknownColumn" 4 1) (N_PartError : mg "PartError" = some (.ref (CA 1))) (X_UnknownColumn_UnknownColumn : PySem.W.exmOne K (.ref (CA 4)) (.ref (CA 4)) = some true) (X_UnknownColumn_PartError : PySem.W.exmOne K (.ref (CA 4)) (.ref (CA 1)) = some true) : Cal P w K mg base ⟨K, CA⟩ "_law_said" 5 2 c__law_said :=
  cal_of F sc__law_said m (F.binds fun _ _ _ _ _ _ us hl => match us, hl with | [_, _], _ => rfl) rfl rfl rfl (b__law_said T hsb C_show_sumX B_UnknownColumn N_PartError X_UnknownColumn_UnknownColumn X_UnknownColumn_PartError)
abbrev s__law_right : Stmt := top 35
abbrev N__law_right : List Str := ["well", "data", "plan", "k", "factors", "total", "odd", "strange", "j", "kept", "due", "weird", "at", "turned"]
theorem sc__law_right : FnScope N__law_right ["well"] (defScope s__law_right) := ⟨rfl, rfl, rfl, by decide +kernel, rfl, by decide +kernel, by decide +kernel⟩
theorem b__law_right (T : Tx mg) (hsb : ∃ mm, base.Ns sysModules mm) (C__law_data : Cal P w K mg base ⟨K, CA⟩ "_law_data" 4 3 c__law_data) (C__law_plan : Cal P w K mg base ⟨K, CA⟩ "_law_plan" 6 2 c__law_plan) (C__law_draw : Cal P w K mg base ⟨K, CA⟩ "_law_draw" 1 2 c__law_draw) (C__law_counts : Cal P w K mg base ⟨K, CA⟩ "_law_counts" 3 3 c__law_counts) (C__law_sum : Cal P w K mg base ⟨K, CA⟩ "_law_sum" 2 3 c__law_sum) (C__law_word : Cal P w K mg base ⟨K, CA⟩ "_law_word" 2 2 c__law_word) (C__law_number : Cal P w K mg base ⟨K, CA⟩ "_law_number" 2 2 c__law_number) (C__law_due : Cal P w K mg base ⟨K, CA⟩ "_law_due" 1 2 c__law_due) (C__law_said : Cal P w K mg base ⟨K, CA⟩ "_law_said" 5 2 c__law_said) {f : Addr} (cdv : Value) (A : Around) (outer : List Env) (s : Shared) (H : Hp) (E : XK) (hr : Room 6 (A.deeper (PyProof.Rows.envOfC "_law_right" (defScope s__law_right) s.heap.objs.size f cdv))) (hgd : A.guards = some []) :
    PSs (cxOf CX0 P w K mg base N__law_right "_law_right" (defScope s__law_right) f cdv A outer s H E).nox (defBody s__law_right) (tS ⟨K, CA⟩ E0 m__law_right) := by
  let G : Sig := ⟨K, CA⟩
  exact (qss_cons (qs_set (i := 1) sc__law_right.nd rfl (by first | exact Or.inl rfl | exact Or.inr rfl) (q_cal C__law_data hr (by decide) hgd (by rfl) (qa_cons (qv 0) (qa_cons (q_tup (qa_cons qc_int (qa_cons qc_int (qa_cons qc_int (qa_cons qc_int (qa_cons qc_int qa_nil)))))) (qa_cons (q_sub (q_pow qc_int qc_int) qc_int) qa_nil)))))
      (qss_cons (qs_set (i := 2) sc__law_right.nd rfl (by first | exact Or.inl rfl | exact Or.inr rfl) (q_cal C__law_plan hr (by decide) hgd (by rfl) (qa_cons (qv 0) (qa_cons (qv 1) qa_nil))))
      (qss_cons (qs_for PassesOwn.never rfl (qi_range1 (by rfl) T.b_range (qa_cons qc_int qa_nil)) (qg_name (i := 3) sc__law_right.nd rfl (by first | exact Or.inl rfl | exact Or.inr rfl)) (qss_cons (qs_set (i := 4) sc__law_right.nd rfl (by first | exact Or.inl rfl | exact Or.inr rfl) (q_cal C__law_counts hr (by decide) hgd (by rfl) (qa_cons (qv 0) (qa_cons (q_callB (call_len_seq.or (call_len_str.or call_lenD)) (s_len rfl) (by rfl) T.b_len bt_len (qa_cons (q_ix ix_seq (s_ix rfl) (qv 1) qc_int) qa_nil)) (qa_cons (q_ix ix_seq (s_ix rfl) (q_lst (qa_cons qc_int (qa_cons (q_sub (q_pow qc_int qc_int) qc_int) qa_nil))) (q_cal C__law_draw hr (by decide) hgd (by rfl) (qa_cons (qv 0) (qa_cons qc_int qa_nil)))) qa_nil)))))
      (qss_cons (qs_set (i := 5) sc__law_right.nd rfl (by first | exact Or.inl rfl | exact Or.inr rfl) (q_cal C__law_sum hr (by decide) hgd (by rfl) (qa_cons (qv 0) (qa_cons (q_ix ix_seq (s_ix rfl) (qv 1) qc_int) (qa_cons (qv 4) qa_nil)))))
      (qss_cons (qs_set (i := 6) sc__law_right.nd rfl (by first | exact Or.inl rfl | exact Or.inr rfl) (q_callTy call_dictD s_dictC (by rfl) T.b_dict bt_dict (qa_cons (qv 5) qa_nil)))
      (qss_cons (qs_set (i := 7) sc__law_right.nd rfl (by first | exact Or.inl rfl | exact Or.inr rfl) (q_lstC qa_nil))
      (qss_cons (qs_for PassesOwn.never rfl (qi_range1 (by rfl) T.b_range (qa_cons (q_add qc_int (q_cal C__law_draw hr (by decide) hgd (by rfl) (qa_cons (qv 0) (qa_cons qc_int qa_nil)))) qa_nil)) (qg_name (i := 8) sc__law_right.nd rfl (by first | exact Or.inl rfl | exact Or.inr rfl)) (qss_cons (qs_set (i := 11) sc__law_right.nd rfl (by first | exact Or.inl rfl | exact Or.inr rfl) (q_lst (qa_cons qc_str (qa_cons qc_str (qa_cons (q_add (q_ix ix_seq (s_ix rfl) (q_add (q_ix ix_seq (s_ix rfl) (qv 1) qc_int) (q_lst (qa_cons qc_str qa_nil))) qc_int) qc_str) (qa_cons (q_cal C__law_word hr (by decide) hgd (by rfl) (qa_cons (qv 0) (qa_cons (q_ix ix_seq (s_ix rfl) (qv 1) qc_int) qa_nil))) qa_nil))))))
      (qss_cons (qs_expr (q_bm rfl PySem.F.plainAttrs_list PySem.F.slot_list_append PySem.F.type_list_append mt_append tyLst s_append (qv 7) (qa_cons (q_ix ix_seq (s_ix rfl) (qv 11) (q_cal C__law_draw hr (by decide) hgd (by rfl) (qa_cons (qv 0) (qa_cons qc_int qa_nil)))) qa_nil)))
      (qss_one (qs_sub (set_dict hr) s_setK (q_cal C__law_number hr (by decide) hgd (by rfl) (qa_cons (qv 0) (qa_cons qc_int qa_nil))) (qv 6) (q_ix ix_seq (s_ix rfl) (qv 7) (q_neg qc_int)))))))
      (qss_cons (qs_set (i := 9) sc__law_right.nd rfl (by first | exact Or.inl rfl | exact Or.inr rfl) (q_callB (call_reprA (G := G) rfl hr hgd hsb) s_repr (by rfl) T.b_repr bt_repr (qa_cons (q_lst (qa_cons (qv 5) (qa_cons (qv 6) qa_nil))) qa_nil)))
      (qss_cons (qs_set (i := 10) sc__law_right.nd rfl (by first | exact Or.inl rfl | exact Or.inr rfl) (q_cal C__law_due hr (by decide) hgd (by rfl) (qa_cons (q_ix ix_seq (s_ix rfl) (qv 1) qc_int) (qa_cons (qv 4) qa_nil))))
      (qss_cons (qs_if (qt_cmp (op_ne.or (op_neA (G := G) rfl hr)) s_ne (q_callB (call_reprA (G := G) rfl hr hgd hsb) s_repr (by rfl) T.b_repr bt_repr (qa_cons (q_cal C__law_said hr (by decide) hgd (by rfl) (qa_cons (qv 2) (qa_cons (qv 5) qa_nil))) qa_nil)) (q_callB (call_reprA (G := G) rfl hr hgd hsb) s_repr (by rfl) T.b_repr bt_repr (qa_cons (qv 10) qa_nil)) (nomark _)) (qss_one (qs_ret qc_bl)) qss_nil)
      (qss_cons (qs_if (qt_cmp (op_ne.or (op_neA (G := G) rfl hr)) s_ne (q_callB (call_reprA (G := G) rfl hr hgd hsb) s_repr (by rfl) T.b_repr bt_repr (qa_cons (q_cal C__law_said hr (by decide) hgd (by rfl) (qa_cons (qv 2) (qa_cons (qv 6) qa_nil))) qa_nil)) (q_callB (call_reprA (G := G) rfl hr hgd hsb) s_repr (by rfl) T.b_repr bt_repr (qa_cons (q_tup (qa_cons qc_str (qa_cons (q_callB (PV.CallR.or ((call_min2 rfl).or (cr_min rfl)) (cr_minS rfl)) (s_min2 rfl) (by rfl) T.b_min bt_min (qa_cons (qv 7) qa_nil)) qa_nil))) qa_nil)) (nomark _)) (qss_one (qs_ret qc_bl)) qss_nil)
      (qss_cons (qs_if (qt_pw (qw_or (qt_cmp (op_ne.or (op_neA (G := G) rfl hr)) s_ne (q_callB (call_reprA (G := G) rfl hr hgd hsb) s_repr (by rfl) T.b_repr bt_repr (qa_cons (q_cal C__law_said hr (by decide) hgd (by rfl) (qa_cons (qv 2) (qa_cons (qv 5) qa_nil))) qa_nil)) (q_callB (call_reprA (G := G) rfl hr hgd hsb) s_repr (by rfl) T.b_repr bt_repr (qa_cons (qv 10) qa_nil)) (nomark _)) (qw_or1 (qt_cmp (op_ne.or (op_neA (G := G) rfl hr)) s_ne (q_callB (call_reprA (G := G) rfl hr hgd hsb) s_repr (by rfl) T.b_repr bt_repr (qa_cons (q_lst (qa_cons (qv 5) (qa_cons (qv 6) qa_nil))) qa_nil)) (qv 9) (nomark _))))) (qss_one (qs_ret qc_bl)) qss_nil)
      (qss_one (qs_if (qt_cmp (op_ne.or (op_neA (G := G) rfl hr)) s_ne (qv 4) (q_lst qa_nil) (nomark _)) (qss_cons (qs_set (i := 12) sc__law_right.nd rfl (by first | exact Or.inl rfl | exact Or.inr rfl) (q_cal C__law_draw hr (by decide) hgd (by rfl) (qa_cons (qv 0) (qa_cons (q_callB (call_len_seq.or (call_len_str.or call_lenD)) (s_len rfl) (by rfl) T.b_len bt_len (qa_cons (qv 4) qa_nil)) qa_nil))))
      (qss_cons (qs_set (i := 13) sc__law_right.nd rfl (by first | exact Or.inl rfl | exact Or.inr rfl) (q_callTy call_list_of (s_listC rfl) (by rfl) T.b_list bt_list (qa_cons (qv 4) qa_nil)))
      (qss_cons (qs_sub set_list s_setAt (q_if (qt_cmp op_lt s_lt (q_callB call_abs s_abs (by rfl) T.b_abs bt_abs (qa_cons (q_ix ix_seq (s_ix rfl) (qv 4) (qv 12)) qa_nil)) qc_int (nomark _)) (q_sub qc_int (q_ix ix_seq (s_ix rfl) (qv 4) (qv 12))) qc_int) (qv 13) (qv 12))
      (qss_cons (qs_sub (set_dict hr) s_setK (q_ix ix_seq (s_ix rfl) (qv 13) (qv 12)) (qv 5) (q_ix ix_seq (s_ix rfl) (q_ix ix_seq (s_ix rfl) (qv 1) qc_int) (qv 12)))
      (qss_cons (qs_if (qt_cmp (op_ne.or (op_neA (G := G) rfl hr)) s_ne (q_callB (call_reprA (G := G) rfl hr hgd hsb) s_repr (by rfl) T.b_repr bt_repr (qa_cons (q_cal C__law_said hr (by decide) hgd (by rfl) (qa_cons (qv 2) (qa_cons (qv 5) qa_nil))) qa_nil)) (q_callB (call_reprA (G := G) rfl hr hgd hsb) s_repr (by rfl) T.b_repr bt_repr (qa_cons (q_cal C__law_due hr (by decide) hgd (by rfl) (qa_cons (q_ix ix_seq (s_ix rfl) (qv 1) qc_int) (qa_cons (qv 13) qa_nil))) qa_nil)) (nomark _)) (qss_one (qs_ret qc_bl)) qss_nil)
      (qss_cons (qs_sub (set_dict hr) s_setK (q_ix ix_seq (s_ix rfl) (qv 4) (qv 12)) (qv 5) (q_ix ix_seq (s_ix rfl) (q_ix ix_seq (s_ix rfl) (qv 1) qc_int) (qv 12)))
      (qss_one (qs_if (qt_cmp (op_ne.or (op_neA (G := G) rfl hr)) s_ne (q_callB (call_reprA (G := G) rfl hr hgd hsb) s_repr (by rfl) T.b_repr bt_repr (qa_cons (q_cal C__law_said hr (by decide) hgd (by rfl) (qa_cons (qv 2) (qa_cons (qv 5) qa_nil))) qa_nil)) (q_callB (call_reprA (G := G) rfl hr hgd hsb) s_repr (by rfl) T.b_repr bt_repr (qa_cons (qv 10) qa_nil)) (nomark _)) (qss_one (qs_ret qc_bl)) qss_nil)))))))) qss_nil)))))))))))))
      (qss_one (qs_ret qc_bl)))))
theorem w__law_right {f : Addr} {fd : FuncData} (F : Fun K "_law_right" "_law_right" s__law_right f fd) (m : mg "_law_right" = some (.ref f)) (T : Tx mg) (hsb : ∃ mm, base.Ns sysModules mm) (C__law_data : Cal P w K mg base ⟨K, CA⟩ "_law_data" 4 3 c__law_data) (C__law_plan : Cal P w K mg base ⟨K, CA⟩ "_law_plan" 6 2 c__law_plan) (C__law_draw : Cal P w K mg base ⟨K, CA⟩ "_law_draw" 1 2 c__law_draw) (C__law_counts : Cal P w K mg base ⟨K, CA⟩ "_law_counts" 3 3 c__law_counts) (C__law_sum : Cal P w K mg base ⟨K, CA⟩ "_law_sum" 2 3 c__law_sum) (C__law_word : Cal P w K mg base ⟨K, CA⟩ "_law_word" 2 2 c__law_word) (C__law_number : Cal P w K mg base ⟨K, CA⟩ "_law_number" 2 2 c__law_number) (C__law_due : Cal P w K mg base ⟨K, CA⟩ "_law_due" 1 2 c__law_due) (C__law_said : Cal P w K mg base ⟨K, CA⟩ "_law_said" 5 2 c__law_said) : Cal P w K mg base ⟨K, CA⟩ "_law_right" 7 1 c__law_right :=
  cal_of F sc__law_right m (F.binds fun _ _ _ _ _ _ us hl => match us, hl with | [_], _ => rfl) rfl rfl rfl (b__law_right T hsb C__law_data C__law_plan C__law_draw C__law_counts C__law_sum C__law_word C__law_number C__law_due C__law_said)
abbrev s__law_well : Stmt := top 23
abbrev N__law_well : List Str := ["cell", "k", "size"]
theorem sc__law_well : FnScope N__law_well ["cell", "k"] (defScope s__law_well) := ⟨rfl, rfl, rfl, by decide +kernel, rfl, by decide +kernel, by decide +kernel⟩
theorem b__law_well (T : Tx mg) (hsb : ∃ mm, base.Ns sysModules mm)  {f : Addr} (cdv : Value) (A : Around) (outer : List Env) (s : Shared) (H : Hp) (E : XK) (hr : Room 0 (A.deeper (PyProof.Rows.envOfC "_law_well" (defScope s__law_well) s.heap.objs.size f cdv))) (hgd : A.guards = some []) :
    PSs (cxOf CX0 P w K mg base N__law_well "_law_well" (defScope s__law_well) f cdv A outer s H E).nox (defBody s__law_well) (tS ⟨K, CA⟩ E0 m__law_well) := by
  let G : Sig := ⟨K, CA⟩
  exact (qss_cons (qs_set (i := 2) sc__law_well.nd rfl (by first | exact Or.inl rfl | exact Or.inr rfl) (q_callB ((call_max2 rfl).or (cr_max rfl)) (s_max rfl) (by rfl) T.b_max bt_max (qa_cons (qv 0) (qa_cons (q_sub qc_int (qv 0)) qa_nil))))
      (qss_one (qs_ret (q_lstC (qa_cons (q_callB ((call_max2 rfl).or (cr_max rfl)) (s_max rfl) (by rfl) T.b_max bt_max (qa_cons qc_int (qa_cons (q_sub (qv 2) (q_pow qc_int qc_int)) qa_nil))) (qa_cons (q_mod (q_callTy (call_int1.or call_int_str) s_int (by rfl) T.b_int bt_int (qa_cons (q_add (q_mul (qv 0) qc_int) (q_mul (q_add (qv 1) qc_int) qc_int)) qa_nil)) (q_add (q_pow qc_int qc_int) qc_int)) (qa_cons qc_int qa_nil)))))))
theorem w__law_well {f : Addr} {fd : FuncData} (F : Fun K "_law_well" "_law_well" s__law_well f fd) (m : mg "_law_well" = some (.ref f)) (T : Tx mg) (hsb : ∃ mm, base.Ns sysModules mm)  : Cal P w K mg base ⟨K, CA⟩ "_law_well" 1 2 c__law_well :=
  cal_of F sc__law_well m (F.binds fun _ _ _ _ _ _ us hl => match us, hl with | [_, _], _ => rfl) rfl rfl rfl (b__law_well T hsb )
abbrev s_law : Stmt := top 36
abbrev N_law : List Str := ["script", "cells", "k"]
theorem sc_law : FnScope N_law ["script"] (defScope s_law) := ⟨rfl, rfl, rfl, by decide +kernel, rfl, by decide +kernel, by decide +kernel⟩
theorem b_law (T : Tx mg) (hsb : ∃ mm, base.Ns sysModules mm) (C__law_well : Cal P w K mg base ⟨K, CA⟩ "_law_well" 1 2 c__law_well) (C__law_right : Cal P w K mg base ⟨K, CA⟩ "_law_right" 7 1 c__law_right) {f : Addr} (cdv : Value) (A : Around) (outer : List Env) (s : Shared) (H : Hp) (E : XK) (hr : Room 7 (A.deeper (PyProof.Rows.envOfC "law" (defScope s_law) s.heap.objs.size f cdv))) (hgd : A.guards = some []) :
    PSs (cxOf CX0 P w K mg base N_law "law" (defScope s_law) f cdv A outer s H E).nox (defBody s_law) (tS ⟨K, CA⟩ E0 m_law) := by
  let G : Sig := ⟨K, CA⟩
  exact (qss_cons (qs_set (i := 1) sc_law.nd rfl (by first | exact Or.inl rfl | exact Or.inr rfl) (q_add (q_sl rfl (qv 0) qo_none (qo_b qc_int)) (q_mul (q_lst (qa_cons qc_int qa_nil)) (q_callTy (call_int1.or call_int_str) s_int (by rfl) T.b_int bt_int (qa_cons (q_cmp (op_eq.or (op_eqA (G := G) rfl hr)) s_eq (qv 0) (q_lst qa_nil) (nomark _)) qa_nil)))))
      (qss_cons (qs_for PassesOwn.never rfl (qi_range1 (by rfl) T.b_range (qa_cons (q_callB (call_len_seq.or (call_len_str.or call_lenD)) (s_len rfl) (by rfl) T.b_len bt_len (qa_cons (qv 1) qa_nil)) qa_nil)) (qg_name (i := 2) sc_law.nd rfl (by first | exact Or.inl rfl | exact Or.inr rfl)) (qss_one (qs_if (qt_not (qt_tru rfl (q_cal C__law_right hr (by decide) hgd (by rfl) (qa_cons (q_cal C__law_well hr (by decide) hgd (by rfl) (qa_cons (q_ix ix_seq (s_ix rfl) (qv 1) (qv 2)) (qa_cons (qv 2) qa_nil))) qa_nil)))) (qss_one (qs_ret qc_bl)) qss_nil)))
      (qss_one (qs_ret qc_bl))))
theorem wF_law {f : Addr} {fd : FuncData} (F : Fun K "law" "law" s_law f fd) (T : Tx mg) (hsb : ∃ mm, base.Ns sysModules mm) (C__law_well : Cal P w K mg base ⟨K, CA⟩ "_law_well" 1 2 c__law_well) (C__law_right : Cal P w K mg base ⟨K, CA⟩ "_law_right" 7 1 c__law_right) : FnG P w K mg base CX0 8 f fd ["script"] (spI ⟨K, CA⟩ 1 c_law) :=
  fnG_by F sc_law rfl rfl rfl (b_law T hsb C__law_well C__law_right)
end
end Lw

set_option Elab.async false
set_option linter.all false
set_option maxRecDepth 100000
set_option maxHeartbeats 4000000
namespace Lw
open PySem L2 PV
open PyProof.Rows
theorem all_mk {l : PySem.W.OpenLaw} {w : World} {K : PySem.W.Frag} {h : Heap} {mg : Str → Option Value} {fa : Addr} (X : K.In h) (G : h.Ns mainGlobals mg) (hfa : mg "law" = some (.ref fa))
    {fI C1 C4 f0 f1 f2 f3 f4 f5 f6 f7 f8 f9 f10 f11 f12 f13 f14 f15 f16 f17 f18 f19 f20 f21 C0 : Addr} {od0 an0 : Option Addr} {sl0 : Array (Option Value)} {oc0 kV0 dc0 pm0 cd0 ct0 : Value} {od1 an1 : Option Addr} {sl1 : Array (Option Value)} {oc1 kV1 dc1 pm1 cd1 ct1 : Value} {od2 an2 : Option Addr} {sl2 : Array (Option Value)} {oc2 kV2 dc2 pm2 cd2 ct2 : Value} {od3 an3 : Option Addr} {sl3 : Array (Option Value)} {oc3 kV3 dc3 pm3 cd3 ct3 : Value} {od4 an4 : Option Addr} {sl4 : Array (Option Value)} {oc4 kV4 dc4 pm4 cd4 ct4 : Value} {od5 an5 : Option Addr} {sl5 : Array (Option Value)} {oc5 kV5 dc5 pm5 cd5 ct5 : Value} {od6 an6 : Option Addr} {sl6 : Array (Option Value)} {oc6 kV6 dc6 pm6 cd6 ct6 : Value} {od7 an7 : Option Addr} {sl7 : Array (Option Value)} {oc7 kV7 dc7 pm7 cd7 ct7 : Value} {od8 an8 : Option Addr} {sl8 : Array (Option Value)} {oc8 kV8 dc8 pm8 cd8 ct8 : Value} {od9 an9 : Option Addr} {sl9 : Array (Option Value)} {oc9 kV9 dc9 pm9 cd9 ct9 : Value} {od10 an10 : Option Addr} {sl10 : Array (Option Value)} {oc10 kV10 dc10 pm10 cd10 ct10 : Value} {od11 an11 : Option Addr} {sl11 : Array (Option Value)} {oc11 kV11 dc11 pm11 cd11 ct11 : Value} {od12 an12 : Option Addr} {sl12 : Array (Option Value)} {oc12 kV12 dc12 pm12 cd12 ct12 : Value} {od13 an13 : Option Addr} {sl13 : Array (Option Value)} {oc13 kV13 dc13 pm13 cd13 ct13 : Value} {od14 an14 : Option Addr} {sl14 : Array (Option Value)} {oc14 kV14 dc14 pm14 cd14 ct14 : Value} {od15 an15 : Option Addr} {sl15 : Array (Option Value)} {oc15 kV15 dc15 pm15 cd15 ct15 : Value} {od16 an16 : Option Addr} {sl16 : Array (Option Value)} {oc16 kV16 dc16 pm16 cd16 ct16 : Value} {od17 an17 : Option Addr} {sl17 : Array (Option Value)} {oc17 kV17 dc17 pm17 cd17 ct17 : Value} {od18 an18 : Option Addr} {sl18 : Array (Option Value)} {oc18 kV18 dc18 pm18 cd18 ct18 : Value} {od19 an19 : Option Addr} {sl19 : Array (Option Value)} {oc19 kV19 dc19 pm19 cd19 ct19 : Value} {od20 an20 : Option Addr} {sl20 : Array (Option Value)} {oc20 kV20 dc20 pm20 cd20 ct20 : Value} {od21 an21 : Option Addr} {sl21 : Array (Option Value)} {oc21 kV21 dc21 pm21 cd21 ct21 : Value}
    (aC0 : PySem.W.nsIn K mainGlobals "Plan" = some (some (.ref C0)))
    (pg0 : PySem.W.plainGet K C0 Str.empty = true)
    (hd0 : PySem.W.hasDictIn K C0 = true)
    (po0 : PySem.W.plainOver K C0 = true)
    (sa0 : PySem.W.findIn K (.ref C0) "__setattr__" = some (some (.builtin "object.__setattr__")))
    (nf0_0 : PySem.W.findIn K (.ref C0) "column_names" = some none)
    (nf0_1 : PySem.W.findIn K (.ref C0) "kind_rows" = some none)
    (nf0_2 : PySem.W.findIn K (.ref C0) "check_rows" = some none)
    (mk0 : PySem.W.makesIn K C0 = true)
    (kc0 : PySem.W.keepIn K (.ref C0) = true)
    (aE1 : PySem.W.nsIn K mainGlobals "PartError" = some (some (.ref C1)))
    (eb1 : PySem.W.subIn K (.ref C1) (.type "BaseException") = some true)
    (et1 : PySem.W.typeIn K (.ref C1) = some (.type "type"))
    (ed1 : PySem.W.hasDictIn K C1 = true)
    (aE4 : PySem.W.nsIn K mainGlobals "UnknownColumn" = some (some (.ref C4)))
    (eb4 : PySem.W.subIn K (.ref C4) (.type "BaseException") = some true)
    (et4 : PySem.W.typeIn K (.ref C4) = some (.type "type"))
    (ed4 : PySem.W.hasDictIn K C4 = true)
    (el4 : ∃ nm q N bs bm sn sub ab col dd k0 k1 k2 k3 k5, K.lookup C4 = some (excClassObj nm q C4 N bs bm true sn sub ab col dd k0 k1 k2 k3 k5 "ValueError.__new__") ∧ PySem.HandSPX.refsVE bm = true)
    (es4 : PySem.W.findIn K (.ref C4) "__setattr__" = some (some (.builtin "object.__setattr__")))
    (ek4 : PySem.W.keepIn K (.ref C4) = true)
    (eg4 : PySem.W.findIn K (.ref C4) "__getattribute__" = some (some (.builtin "BaseException.__getattribute__")))
    (eh4 : PySem.W.findIn K (.ref C4) "__getattr__" = some none)
    (ev4 : PySem.W.findIn K (.ref C4) "value" = some none)
    (ei4 : PySem.W.findIn K (.ref C4) "__init__" = some (some (.ref fI)))
    {odI anI : Option Addr} {slI : Array (Option Value)} {ocI kVI dcI pmI cdI ctI : Value}
    (tI : PySem.W.typeIn K (.ref fI) = some (.type "function"))
    (lI : K.lookup fI = some ⟨ocI, odI, .func (PySem.W.fnOf "__init__" "PartError.__init__" (defArgs s_EI) (defBody s_EI) (defScope s_EI) .none kVI dcI pmI anI cdI ctI), slI⟩)
    (cI : PySem.W.codeIn K cdI "PartError.__init__" = true)
    (kI : PySem.W.keepIn K (.ref fI) = true)
    (sb4_1 : PySem.W.subIn K (.ref C4) (.ref C1) = some true)
    (sb4_4 : PySem.W.subIn K (.ref C4) (.ref C4) = some true)
    (a0 : PySem.W.nsIn K mainGlobals "_law_draw" = some (some (.ref f0)))
    (l0 : K.lookup f0 = some ⟨oc0, od0, .func (PySem.W.fnOf "_law_draw" "_law_draw" (defArgs s__law_draw) (defBody s__law_draw) (defScope s__law_draw) .none kV0 dc0 pm0 an0 cd0 ct0), sl0⟩)
    (c0 : PySem.W.codeIn K cd0 "_law_draw" = true)
    (k0 : PySem.W.keepIn K (.ref f0) = true)
    (a1 : PySem.W.nsIn K mainGlobals "_law_word" = some (some (.ref f1)))
    (l1 : K.lookup f1 = some ⟨oc1, od1, .func (PySem.W.fnOf "_law_word" "_law_word" (defArgs s__law_word) (defBody s__law_word) (defScope s__law_word) .none kV1 dc1 pm1 an1 cd1 ct1), sl1⟩)
    (c1 : PySem.W.codeIn K cd1 "_law_word" = true)
    (k1 : PySem.W.keepIn K (.ref f1) = true)
    (a2 : PySem.W.nsIn K mainGlobals "_law_steps" = some (some (.ref f2)))
    (l2 : K.lookup f2 = some ⟨oc2, od2, .func (PySem.W.fnOf "_law_steps" "_law_steps" (defArgs s__law_steps) (defBody s__law_steps) (defScope s__law_steps) .none kV2 dc2 pm2 an2 cd2 ct2), sl2⟩)
    (c2 : PySem.W.codeIn K cd2 "_law_steps" = true)
    (k2 : PySem.W.keepIn K (.ref f2) = true)
    (a3 : PySem.W.nsIn K mainGlobals "_law_number" = some (some (.ref f3)))
    (l3 : K.lookup f3 = some ⟨oc3, od3, .func (PySem.W.fnOf "_law_number" "_law_number" (defArgs s__law_number) (defBody s__law_number) (defScope s__law_number) .none kV3 dc3 pm3 an3 cd3 ct3), sl3⟩)
    (c3 : PySem.W.codeIn K cd3 "_law_number" = true)
    (k3 : PySem.W.keepIn K (.ref f3) = true)
    (a4 : PySem.W.nsIn K mainGlobals "_law_counts" = some (some (.ref f4)))
    (l4 : K.lookup f4 = some ⟨oc4, od4, .func (PySem.W.fnOf "_law_counts" "_law_counts" (defArgs s__law_counts) (defBody s__law_counts) (defScope s__law_counts) .none kV4 dc4 pm4 an4 cd4 ct4), sl4⟩)
    (c4 : PySem.W.codeIn K cd4 "_law_counts" = true)
    (k4 : PySem.W.keepIn K (.ref f4) = true)
    (a5 : PySem.W.nsIn K mainGlobals "_law_data" = some (some (.ref f5)))
    (l5 : K.lookup f5 = some ⟨oc5, od5, .func (PySem.W.fnOf "_law_data" "_law_data" (defArgs s__law_data) (defBody s__law_data) (defScope s__law_data) .none kV5 dc5 pm5 an5 cd5 ct5), sl5⟩)
    (c5 : PySem.W.codeIn K cd5 "_law_data" = true)
    (k5 : PySem.W.keepIn K (.ref f5) = true)
    (a6 : PySem.W.nsIn K mainGlobals "_law_sum" = some (some (.ref f6)))
    (l6 : K.lookup f6 = some ⟨oc6, od6, .func (PySem.W.fnOf "_law_sum" "_law_sum" (defArgs s__law_sum) (defBody s__law_sum) (defScope s__law_sum) .none kV6 dc6 pm6 an6 cd6 ct6), sl6⟩)
    (c6 : PySem.W.codeIn K cd6 "_law_sum" = true)
    (k6 : PySem.W.keepIn K (.ref f6) = true)
    (a7 : PySem.W.nsIn K mainGlobals "_law_handed" = some (some (.ref f7)))
    (l7 : K.lookup f7 = some ⟨oc7, od7, .func (PySem.W.fnOf "_law_handed" "_law_handed" (defArgs s__law_handed) (defBody s__law_handed) (defScope s__law_handed) .none kV7 dc7 pm7 an7 cd7 ct7), sl7⟩)
    (c7 : PySem.W.codeIn K cd7 "_law_handed" = true)
    (k7 : PySem.W.keepIn K (.ref f7) = true)
    (a8 : PySem.W.nsIn K mainGlobals "is_name" = some (some (.ref f8)))
    (l8 : K.lookup f8 = some ⟨oc8, od8, .func (PySem.W.fnOf "is_name" "is_name" (defArgs s_is_name) (defBody s_is_name) (defScope s_is_name) .none kV8 dc8 pm8 an8 cd8 ct8), sl8⟩)
    (c8 : PySem.W.codeIn K cd8 "is_name" = true)
    (k8 : PySem.W.keepIn K (.ref f8) = true)
    (a9 : PySem.W.nsIn K mainGlobals "look_at_columns" = some (some (.ref f9)))
    (l9 : K.lookup f9 = some ⟨oc9, od9, .func (PySem.W.fnOf "look_at_columns" "look_at_columns" (defArgs s_look_at_columns) (defBody s_look_at_columns) (defScope s_look_at_columns) .none kV9 dc9 pm9 an9 cd9 ct9), sl9⟩)
    (c9 : PySem.W.codeIn K cd9 "look_at_columns" = true)
    (k9 : PySem.W.keepIn K (.ref f9) = true)
    (a10 : PySem.W.nsIn K mainGlobals "look_at_steps" = some (some (.ref f10)))
    (l10 : K.lookup f10 = some ⟨oc10, od10, .func (PySem.W.fnOf "look_at_steps" "look_at_steps" (defArgs s_look_at_steps) (defBody s_look_at_steps) (defScope s_look_at_steps) .none kV10 dc10 pm10 an10 cd10 ct10), sl10⟩)
    (c10 : PySem.W.codeIn K cd10 "look_at_steps" = true)
    (k10 : PySem.W.keepIn K (.ref f10) = true)
    (a11 : PySem.W.nsIn K mainGlobals "factors_of" = some (some (.ref f11)))
    (l11 : K.lookup f11 = some ⟨oc11, od11, .func (PySem.W.fnOf "factors_of" "factors_of" (defArgs s_factors_of) (defBody s_factors_of) (defScope s_factors_of) .none kV11 dc11 pm11 an11 cd11 ct11), sl11⟩)
    (c11 : PySem.W.codeIn K cd11 "factors_of" = true)
    (k11 : PySem.W.keepIn K (.ref f11) = true)
    (a12 : PySem.W.nsIn K mainGlobals "kind_rows_of" = some (some (.ref f12)))
    (l12 : K.lookup f12 = some ⟨oc12, od12, .func (PySem.W.fnOf "kind_rows_of" "kind_rows_of" (defArgs s_kind_rows_of) (defBody s_kind_rows_of) (defScope s_kind_rows_of) .none kV12 dc12 pm12 an12 cd12 ct12), sl12⟩)
    (c12 : PySem.W.codeIn K cd12 "kind_rows_of" = true)
    (k12 : PySem.W.keepIn K (.ref f12) = true)
    (a13 : PySem.W.findIn K (.ref C0) "__init__" = some (some (.ref f13)))
    (i13 : PySem.W.isFn K (.ref f13) = true)
    (l13 : K.lookup f13 = some ⟨oc13, od13, .func (PySem.W.fnOf "__init__" "Plan.__init__" (defArgs s_Plan___init__) (defBody s_Plan___init__) (defScope s_Plan___init__) .none kV13 dc13 pm13 an13 cd13 ct13), sl13⟩)
    (c13 : PySem.W.codeIn K cd13 "Plan.__init__" = true)
    (k13 : PySem.W.keepIn K (.ref f13) = true)
    (a14 : PySem.W.nsIn K mainGlobals "_law_plan" = some (some (.ref f14)))
    (l14 : K.lookup f14 = some ⟨oc14, od14, .func (PySem.W.fnOf "_law_plan" "_law_plan" (defArgs s__law_plan) (defBody s__law_plan) (defScope s__law_plan) .none kV14 dc14 pm14 an14 cd14 ct14), sl14⟩)
    (c14 : PySem.W.codeIn K cd14 "_law_plan" = true)
    (k14 : PySem.W.keepIn K (.ref f14) = true)
    (a15 : PySem.W.nsIn K mainGlobals "_law_due" = some (some (.ref f15)))
    (l15 : K.lookup f15 = some ⟨oc15, od15, .func (PySem.W.fnOf "_law_due" "_law_due" (defArgs s__law_due) (defBody s__law_due) (defScope s__law_due) .none kV15 dc15 pm15 an15 cd15 ct15), sl15⟩)
    (c15 : PySem.W.codeIn K cd15 "_law_due" = true)
    (k15 : PySem.W.keepIn K (.ref f15) = true)
    (a16 : PySem.W.nsIn K mainGlobals "factors_of" = some (some (.ref f16)))
    (l16 : K.lookup f16 = some ⟨oc16, od16, .func (PySem.W.fnOf "factors_of" "factors_of" (defArgs s_factors_ofX) (defBody s_factors_ofX) (defScope s_factors_ofX) .none kV16 dc16 pm16 an16 cd16 ct16), sl16⟩)
    (c16 : PySem.W.codeIn K cd16 "factors_of" = true)
    (k16 : PySem.W.keepIn K (.ref f16) = true)
    (a17 : PySem.W.nsIn K mainGlobals "show_sum" = some (some (.ref f17)))
    (l17 : K.lookup f17 = some ⟨oc17, od17, .func (PySem.W.fnOf "show_sum" "show_sum" (defArgs s_show_sumX) (defBody s_show_sumX) (defScope s_show_sumX) .none kV17 dc17 pm17 an17 cd17 ct17), sl17⟩)
    (c17 : PySem.W.codeIn K cd17 "show_sum" = true)
    (k17 : PySem.W.keepIn K (.ref f17) = true)
    (a18 : PySem.W.nsIn K mainGlobals "_law_said" = some (some (.ref f18)))
    (l18 : K.lookup f18 = some ⟨oc18, od18, .func (PySem.W.fnOf "_law_said" "_law_said" (defArgs s__law_said) (defBody s__law_said) (defScope s__law_said) .none kV18 dc18 pm18 an18 cd18 ct18), sl18⟩)
    (c18 : PySem.W.codeIn K cd18 "_law_said" = true)
    (k18 : PySem.W.keepIn K (.ref f18) = true)
    (a19 : PySem.W.nsIn K mainGlobals "_law_right" = some (some (.ref f19)))
    (l19 : K.lookup f19 = some ⟨oc19, od19, .func (PySem.W.fnOf "_law_right" "_law_right" (defArgs s__law_right) (defBody s__law_right) (defScope s__law_right) .none kV19 dc19 pm19 an19 cd19 ct19), sl19⟩)
    (c19 : PySem.W.codeIn K cd19 "_law_right" = true)
    (k19 : PySem.W.keepIn K (.ref f19) = true)
    (a20 : PySem.W.nsIn K mainGlobals "_law_well" = some (some (.ref f20)))
    (l20 : K.lookup f20 = some ⟨oc20, od20, .func (PySem.W.fnOf "_law_well" "_law_well" (defArgs s__law_well) (defBody s__law_well) (defScope s__law_well) .none kV20 dc20 pm20 an20 cd20 ct20), sl20⟩)
    (c20 : PySem.W.codeIn K cd20 "_law_well" = true)
    (k20 : PySem.W.keepIn K (.ref f20) = true)
    (a21 : PySem.W.nsIn K mainGlobals "law" = some (some (.ref f21)))
    (l21 : K.lookup f21 = some ⟨oc21, od21, .func (PySem.W.fnOf "law" "law" (defArgs s_law) (defBody s_law) (defScope s_law) .none kV21 dc21 pm21 an21 cd21 ct21), sl21⟩)
    (c21 : PySem.W.codeIn K cd21 "law" = true)
    (k21 : PySem.W.keepIn K (.ref f21) = true)
    (z_abs : PySem.W.nsIn K mainGlobals "abs" = some none)
    (z_all : PySem.W.nsIn K mainGlobals "all" = some none)
    (z_any : PySem.W.nsIn K mainGlobals "any" = some none)
    (z_dict : PySem.W.nsIn K mainGlobals "dict" = some none)
    (z_enumerate : PySem.W.nsIn K mainGlobals "enumerate" = some none)
    (z_int : PySem.W.nsIn K mainGlobals "int" = some none)
    (z_len : PySem.W.nsIn K mainGlobals "len" = some none)
    (z_list : PySem.W.nsIn K mainGlobals "list" = some none)
    (z_max : PySem.W.nsIn K mainGlobals "max" = some none)
    (z_min : PySem.W.nsIn K mainGlobals "min" = some none)
    (z_range : PySem.W.nsIn K mainGlobals "range" = some none)
    (z_repr : PySem.W.nsIn K mainGlobals "repr" = some none)
    (z_sorted : PySem.W.nsIn K mainGlobals "sorted" = some none)
    (z_str : PySem.W.nsIn K mainGlobals "str" = some none)
    (z_zip : PySem.W.nsIn K mainGlobals "zip" = some none)
    {t_LETTERS : Tok} (y_LETTERS : PySem.W.nsIn K mainGlobals "LETTERS" = some (some (.str "abcdefghijklmnopqrstuvwxyz" t_LETTERS)))
    {t_MOST_LETTERS : Tok} (y_MOST_LETTERS : PySem.W.nsIn K mainGlobals "MOST_LETTERS" = some (some (.int 8 t_MOST_LETTERS)))
    (lawOk : ∀ ns : List Int, ns.length ≤ 63 → ∃ M', c_law [.scr ns] ⟨fun _ => none, 0⟩ = some (.val (.bl true), M')) :
    ∃ (fd : FuncData) (CA : Nat → Addr) (f : FM), (∀ (s : Shared) (u : Value), BindsTo s fd ⟨[u], []⟩ [("script", u)]) ∧ (∀ base : Heap, K.In base → base.Ns mainGlobals mg → (∃ mm, base.Ns sysModules mm) → FnG l.prog w K mg base CX0 8 fa fd ["script"] (spI ⟨K, CA⟩ 1 f)) ∧ ∀ ns : List Int, ns.length ≤ 63 → ∃ M', f [.scr ns] ⟨fun _ => none, 0⟩ = some (.val (.bl true), M') := by
  have e := hfa.symm.trans (PySem.W.mg_of X G a21)
  cases e
  have T : Tx mg := ⟨PySem.W.mg_none_of X G z_abs, PySem.W.mg_none_of X G z_all, PySem.W.mg_none_of X G z_any, PySem.W.mg_none_of X G z_dict, PySem.W.mg_none_of X G z_enumerate, PySem.W.mg_none_of X G z_int, PySem.W.mg_none_of X G z_len, PySem.W.mg_none_of X G z_list, PySem.W.mg_none_of X G z_max, PySem.W.mg_none_of X G z_min, PySem.W.mg_none_of X G z_range, PySem.W.mg_none_of X G z_repr, PySem.W.mg_none_of X G z_sorted, PySem.W.mg_none_of X G z_str, PySem.W.mg_none_of X G z_zip, ⟨t_LETTERS, PySem.W.mg_of X G y_LETTERS⟩, ⟨t_MOST_LETTERS, PySem.W.mg_of X G y_MOST_LETTERS⟩⟩
  have L_Plan : Cls K C0 := ⟨pg0, hd0, po0, sa0⟩
  have F_Plan : ClsF K C0 ["column_names", "kind_rows", "check_rows"] := ⟨L_Plan, fun f hf => by simp only [List.mem_cons, List.not_mem_nil, or_false] at hf; rcases hf with rfl | rfl | rfl <;> assumption⟩
  refine ⟨PySem.W.fnOf "law" "law" (defArgs s_law) (defBody s_law) (defScope s_law) .none kV21 dc21 pm21 an21 cd21 ct21, (fun i => List.getD [C0, C1, 0, 0, C4, 0, 0, 0, 0] i 0), c_law, ?_, fun base _ _ hsb => ?_, lawOk⟩
  · exact fun s v => .of_eq rfl
  · have N_PartError := PySem.W.mg_of X G aE1
    have B_UnknownColumn : ExB l.prog w K mg base ⟨K, (fun i => List.getD [C0, C1, 0, 0, C4, 0, 0, 0, 0] i 0)⟩ "UnknownColumn" 4 1 := ⟨⟨el4, es4, eb4, et4, ek4⟩, PySem.W.mg_of X G aE4, ev4, ⟨eg4, eh4, eb4, ed4⟩, ⟨fI, _, ["self", "value"], ei4, tI, (fun_mk (st := s_EI) lI cI kI).binds (fun _ _ _ _ _ _ us hl => match us, hl with | [_, _], _ => rfl), w_EI (fun_mk (st := s_EI) lI cI kI)⟩⟩
    have X_UnknownColumn_PartError := PySem.W.exm_ref (cls := .ref C4) eb1 ed1 et1 sb4_1
    have X_UnknownColumn_UnknownColumn := PySem.W.exm_ref (cls := .ref C4) eb4 ed4 et4 sb4_4
    have C__law_draw := w__law_draw (P := l.prog) (w := w) (base := base) (CA := (fun i => List.getD [C0, C1, 0, 0, C4, 0, 0, 0, 0] i 0)) (fun_mk (st := s__law_draw) l0 c0 k0) (PySem.W.mg_of X G a0) T hsb 
    have C__law_word := w__law_word (P := l.prog) (w := w) (base := base) (CA := (fun i => List.getD [C0, C1, 0, 0, C4, 0, 0, 0, 0] i 0)) (fun_mk (st := s__law_word) l1 c1 k1) (PySem.W.mg_of X G a1) T hsb C__law_draw
    have C__law_steps := w__law_steps (P := l.prog) (w := w) (base := base) (CA := (fun i => List.getD [C0, C1, 0, 0, C4, 0, 0, 0, 0] i 0)) (fun_mk (st := s__law_steps) l2 c2 k2) (PySem.W.mg_of X G a2) T hsb C__law_draw C__law_word
    have C__law_number := w__law_number (P := l.prog) (w := w) (base := base) (CA := (fun i => List.getD [C0, C1, 0, 0, C4, 0, 0, 0, 0] i 0)) (fun_mk (st := s__law_number) l3 c3 k3) (PySem.W.mg_of X G a3) T hsb C__law_draw
    have C__law_counts := w__law_counts (P := l.prog) (w := w) (base := base) (CA := (fun i => List.getD [C0, C1, 0, 0, C4, 0, 0, 0, 0] i 0)) (fun_mk (st := s__law_counts) l4 c4 k4) (PySem.W.mg_of X G a4) T hsb C__law_number
    have C__law_data := w__law_data (P := l.prog) (w := w) (base := base) (CA := (fun i => List.getD [C0, C1, 0, 0, C4, 0, 0, 0, 0] i 0)) (fun_mk (st := s__law_data) l5 c5 k5) (PySem.W.mg_of X G a5) T hsb C__law_draw C__law_word C__law_counts C__law_steps
    have C__law_sum := w__law_sum (P := l.prog) (w := w) (base := base) (CA := (fun i => List.getD [C0, C1, 0, 0, C4, 0, 0, 0, 0] i 0)) (fun_mk (st := s__law_sum) l6 c6 k6) (PySem.W.mg_of X G a6) T hsb C__law_draw
    have C__law_handed := w__law_handed (P := l.prog) (w := w) (base := base) (CA := (fun i => List.getD [C0, C1, 0, 0, C4, 0, 0, 0, 0] i 0)) (fun_mk (st := s__law_handed) l7 c7 k7) (PySem.W.mg_of X G a7) T hsb C__law_sum
    have C_is_name := w_is_name (P := l.prog) (w := w) (base := base) (CA := (fun i => List.getD [C0, C1, 0, 0, C4, 0, 0, 0, 0] i 0)) (fun_mk (st := s_is_name) l8 c8 k8) (PySem.W.mg_of X G a8) T hsb 
    have C_look_at_columns := w_look_at_columns (P := l.prog) (w := w) (base := base) (CA := (fun i => List.getD [C0, C1, 0, 0, C4, 0, 0, 0, 0] i 0)) (fun_mk (st := s_look_at_columns) l9 c9 k9) (PySem.W.mg_of X G a9) T hsb C_is_name
    have C_look_at_steps := w_look_at_steps (P := l.prog) (w := w) (base := base) (CA := (fun i => List.getD [C0, C1, 0, 0, C4, 0, 0, 0, 0] i 0)) (fun_mk (st := s_look_at_steps) l10 c10 k10) (PySem.W.mg_of X G a10) T hsb C_is_name
    have C_factors_of := w_factors_of (P := l.prog) (w := w) (base := base) (CA := (fun i => List.getD [C0, C1, 0, 0, C4, 0, 0, 0, 0] i 0)) (fun_mk (st := s_factors_of) l11 c11 k11) (PySem.W.mg_of X G a11) T hsb 
    have C_kind_rows_of := w_kind_rows_of (P := l.prog) (w := w) (base := base) (CA := (fun i => List.getD [C0, C1, 0, 0, C4, 0, 0, 0, 0] i 0)) (fun_mk (st := s_kind_rows_of) l12 c12 k12) (PySem.W.mg_of X G a12) T hsb C_is_name C_factors_of C_look_at_steps
    have K_Plan := w_Plan___init__ (p := 0) (P := l.prog) (w := w) (base := base) (CA := (fun i => List.getD [C0, C1, 0, 0, C4, 0, 0, 0, 0] i 0)) (fun_mk (st := s_Plan___init__) l13 c13 k13) (PySem.W.mg_of X G aC0) ⟨mk0, a13, i13, kc0⟩ T hsb C_look_at_columns F_Plan C_kind_rows_of C_factors_of
    have C__law_plan := w__law_plan (P := l.prog) (w := w) (base := base) (CA := (fun i => List.getD [C0, C1, 0, 0, C4, 0, 0, 0, 0] i 0)) (fun_mk (st := s__law_plan) l14 c14 k14) (PySem.W.mg_of X G a14) T hsb C__law_handed K_Plan
    have C__law_due := w__law_due (P := l.prog) (w := w) (base := base) (CA := (fun i => List.getD [C0, C1, 0, 0, C4, 0, 0, 0, 0] i 0)) (fun_mk (st := s__law_due) l15 c15 k15) (PySem.W.mg_of X G a15) T hsb 
    have C_factors_ofX := w_factors_ofX (P := l.prog) (w := w) (base := base) (CA := (fun i => List.getD [C0, C1, 0, 0, C4, 0, 0, 0, 0] i 0)) (fun_mk (st := s_factors_ofX) l16 c16 k16) (PySem.W.mg_of X G a16) T hsb B_UnknownColumn
    have C_show_sumX := w_show_sumX (P := l.prog) (w := w) (base := base) (CA := (fun i => List.getD [C0, C1, 0, 0, C4, 0, 0, 0, 0] i 0)) (fun_mk (st := s_show_sumX) l17 c17 k17) (PySem.W.mg_of X G a17) T hsb C_factors_ofX F_Plan
    have C__law_said := w__law_said (P := l.prog) (w := w) (base := base) (CA := (fun i => List.getD [C0, C1, 0, 0, C4, 0, 0, 0, 0] i 0)) (fun_mk (st := s__law_said) l18 c18 k18) (PySem.W.mg_of X G a18) T hsb C_show_sumX B_UnknownColumn N_PartError X_UnknownColumn_UnknownColumn X_UnknownColumn_PartError
    have C__law_right := w__law_right (P := l.prog) (w := w) (base := base) (CA := (fun i => List.getD [C0, C1, 0, 0, C4, 0, 0, 0, 0] i 0)) (fun_mk (st := s__law_right) l19 c19 k19) (PySem.W.mg_of X G a19) T hsb C__law_data C__law_plan C__law_draw C__law_counts C__law_sum C__law_word C__law_number C__law_due C__law_said
    have C__law_well := w__law_well (P := l.prog) (w := w) (base := base) (CA := (fun i => List.getD [C0, C1, 0, 0, C4, 0, 0, 0, 0] i 0)) (fun_mk (st := s__law_well) l20 c20 k20) (PySem.W.mg_of X G a20) T hsb 
    exact wF_law (CA := (fun i => List.getD [C0, C1, 0, 0, C4, 0, 0, 0, 0] i 0)) (fun_mk (st := s_law) l21 c21 k21) T hsb C__law_well C__law_right
theorem walk {l : PySem.W.OpenLaw} {q : Program} {loose : List Str} {XP : (Str → Option Value) → Heap → Prop} {YP : World → Heap → Prop} {d : DefRec} {K : Params → PySem.W.Frag} (hi : importsNone q = true) (hn : l.most = some 63) (hdf : d.params.defaults = [])
    (hY : ∀ (w : World) (h : Heap), YP w h → (K w.params).In h)
    (F : ∀ (w : World) (mg : Str → Option Value) (fa : Addr) (h : Heap), (K w.params).In h → h.Ns mainGlobals mg → mg d.name = some (.ref fa) →
      ∃ (fd : FuncData) (CA : Nat → Addr) (f : FM), (∀ (s : Shared) (u : Value), BindsTo s fd ⟨[u], []⟩ [("script", u)]) ∧
        (∀ base : Heap, (K w.params).In base → base.Ns mainGlobals mg → (∃ mm, base.Ns sysModules mm) → FnG l.prog w (K w.params) mg base CX0 8 fa fd ["script"] (spI ⟨K w.params, CA⟩ 1 f)) ∧
        ∀ ns : List Int, ns.length ≤ 63 → ∃ M', f [.scr ns] ⟨fun _ => none, 0⟩ = some (.val (.bl true), M')) : PySem.W.WalkO q loose XP YP l.row.toRowW d [] (fun f vs => PySem.call f vs) :=
  walkG (n := 63) (k := 8) (x := "script") hi hn (by decide) hdf ⟨rfl, by decide, by decide⟩ hY F
end Lw
open PySem PySem.W PyProof.Rows
set_option maxRecDepth 100000 in
set_option maxHeartbeats 0 in
theorem PySem.Challenge.cw_paidinparts_k52_texts_of_sums_holds : PySem.Challenge.rw_paidinparts_k52_texts_of_sums.Holds := by
  w_on; o_law; k_head; (case hw => w_witness2)
  k_fill
  refine Lw.walk (l := PySem.Challenge.rw_paidinparts_k52_texts_of_sums) (by rfl) rfl rfl (fun w h Y => PySem.W.kIn_of Y) ?F
  case F =>
    intro w mg fa h KX G hmg
    refine' Lw.all_mk KX G hmg ?fct0 ?fct1 ?fct2 ?fct3 ?fct4 ?fct5 ?fct6 ?fct7 ?fct8 ?fct9 ?fct10 ?fct11 ?fct12 ?fct13 ?fct14 ?fct15 ?fct16 ?fct17 ?fct18 ?fct19 ?fct20 ?fct21 ?fct22 ?fct23 ?fct24 ?fct25 ?fct26 ?fct27 ?fct28 ?fct29 ?fct30 ?fct31 ?fct32 ?fct33 ?fct34 ?fct35 ?fct36 ?fct37 ?fct38 ?fct39 ?fct40 ?fct41 ?fct42 ?fct43 ?fct44 ?fct45 ?fct46 ?fct47 ?fct48 ?fct49 ?fct50 ?fct51 ?fct52 ?fct53 ?fct54 ?fct55 ?fct56 ?fct57 ?fct58 ?fct59 ?fct60 ?fct61 ?fct62 ?fct63 ?fct64 ?fct65 ?fct66 ?fct67 ?fct68 ?fct69 ?fct70 ?fct71 ?fct72 ?fct73 ?fct74 ?fct75 ?fct76 ?fct77 ?fct78 ?fct79 ?fct80 ?fct81 ?fct82 ?fct83 ?fct84 ?fct85 ?fct86 ?fct87 ?fct88 ?fct89 ?fct90 ?fct91 ?fct92 ?fct93 ?fct94 ?fct95 ?fct96 ?fct97 ?fct98 ?fct99 ?fct100 ?fct101 ?fct102 ?fct103 ?fct104 ?fct105 ?fct106 ?fct107 ?fct108 ?fct109 ?fct110 ?fct111 ?fct112 ?fct113 ?fct114 ?fct115 ?fct116 ?fct117 ?fct118 ?fct119 ?fct120 ?fct121 ?fct122 ?fct123 ?fct124 ?fct125 ?fct126 ?fct127 ?fct128 ?fct129 ?fct130 ?fct131 ?fct132 ?fct133 ?fct134 ?fct135 ?fct136 Lw.lawOk
    (case fct0 => k_is)
    (case fct1 => k_is)
    (case fct2 => k_is)
    (case fct3 => k_is)
    (case fct4 => k_is)
    (case fct5 => k_is)
    (case fct6 => k_is)
    (case fct7 => k_is)
    (case fct8 => k_is)
    (case fct9 => k_is)
    (case fct10 => k_is)
    (case fct11 => k_is)
    (case fct12 => k_is)
    (case fct13 => k_is)
    (case fct14 => k_is)
    (case fct15 => k_is)
    (case fct16 => k_is)
    (case fct17 => k_is)
    (case fct18 => exact ⟨_, _, _, _, _, _, _, _, _, _, _, _, _, _, _, by k_is, by rfl⟩)
    (case fct19 => k_is)
    (case fct20 => k_is)
    (case fct21 => k_is)
    (case fct22 => k_is)
    (case fct23 => k_is)
    (case fct24 => k_is)
    (case fct25 => k_is)
    (case fct26 => k_is)
    (case fct27 => k_is)
    (case fct28 => k_is)
    (case fct29 => k_is)
    (case fct30 => k_is)
    (case fct31 => k_is)
    (case fct32 => k_is)
    (case fct33 => k_is)
    (case fct34 => k_is)
    (case fct35 => k_is)
    (case fct36 => k_is)
    (case fct37 => k_is)
    (case fct38 => k_is)
    (case fct39 => k_is)
    (case fct40 => k_is)
    (case fct41 => k_is)
    (case fct42 => k_is)
    (case fct43 => k_is)
    (case fct44 => k_is)
    (case fct45 => k_is)
    (case fct46 => k_is)
    (case fct47 => k_is)
    (case fct48 => k_is)
    (case fct49 => k_is)
    (case fct50 => k_is)
    (case fct51 => k_is)
    (case fct52 => k_is)
    (case fct53 => k_is)
    (case fct54 => k_is)
    (case fct55 => k_is)
    (case fct56 => k_is)
    (case fct57 => k_is)
    (case fct58 => k_is)
    (case fct59 => k_is)
    (case fct60 => k_is)
    (case fct61 => k_is)
    (case fct62 => k_is)
    (case fct63 => k_is)
    (case fct64 => k_is)
    (case fct65 => k_is)
    (case fct66 => k_is)
    (case fct67 => k_is)
    (case fct68 => k_is)
    (case fct69 => k_is)
    (case fct70 => k_is)
    (case fct71 => k_is)
    (case fct72 => k_is)
    (case fct73 => k_is)
    (case fct74 => k_is)
    (case fct75 => k_is)
    (case fct76 => k_is)
    (case fct77 => k_is)
    (case fct78 => k_is)
    (case fct79 => k_is)
    (case fct80 => k_is)
    (case fct81 => k_is)
    (case fct82 => k_is)
    (case fct83 => k_is)
    (case fct84 => k_is)
    (case fct85 => k_is)
    (case fct86 => k_is)
    (case fct87 => k_is)
    (case fct88 => k_is)
    (case fct89 => k_is)
    (case fct90 => k_is)
    (case fct91 => k_is)
    (case fct92 => k_is)
    (case fct93 => k_is)
    (case fct94 => k_is)
    (case fct95 => k_is)
    (case fct96 => k_is)
    (case fct97 => k_is)
    (case fct98 => k_is)
    (case fct99 => k_is)
    (case fct100 => k_is)
    (case fct101 => k_is)
    (case fct102 => k_is)
    (case fct103 => k_is)
    (case fct104 => k_is)
    (case fct105 => k_is)
    (case fct106 => k_is)
    (case fct107 => k_is)
    (case fct108 => k_is)
    (case fct109 => k_is)
    (case fct110 => k_is)
    (case fct111 => k_is)
    (case fct112 => k_is)
    (case fct113 => k_is)
    (case fct114 => k_is)
    (case fct115 => k_is)
    (case fct116 => k_is)
    (case fct117 => k_is)
    (case fct118 => k_is)
    (case fct119 => k_is)
    (case fct120 => k_is)
    (case fct121 => k_is)
    (case fct122 => k_is)
    (case fct123 => k_is)
    (case fct124 => k_is)
    (case fct125 => k_is)
    (case fct126 => k_is)
    (case fct127 => k_is)
    (case fct128 => k_is)
    (case fct129 => k_is)
    (case fct130 => k_is)
    (case fct131 => k_is)
    (case fct132 => k_is)
    (case fct133 => k_is)
    (case fct134 => k_is)
    (case fct135 => k_is)
    (case fct136 => k_is)
