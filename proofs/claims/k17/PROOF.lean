import PyProof.Rows.All
import Wide.All
import OpenK.AllK
import Wide.FinOn
import HandS.ForMost
import HandS.RaiseMore
import HandS.Wide
import PyProof.ReprRoads
import PyProof.Rows.RuleB_pow
import KE.IntTextLaws
import HandS.More
import HandS.Finally
import HandS.Property
import HandS.Style
import HandS.FStr
import HandS.Steps
import PyProof.NeKinds
import HandS.Codes
import HandS.DictComp
import HandS.MakeKwOnly
import PyProof.ZipIter
import HandS.ExcInit
import HandS.TryMany
import HandS.ExcField
import HandS.WordsExc
import HandS.ExcIs
import HandS.FltList
import HandS.Strs
import KE.GoesRaise
import KE.KDictCopyH
import KE.KDictExact
import PyProof.StrOps2
import PyProof.SliceStr2
import HandS.TryOnly
import HandS.IsInst
import HandS.SortInts
import PySem.Challenge.RW_paidinparts_k17_open_states_without_chec
set_option Elab.async false
set_option linter.all false
set_option maxRecDepth 100000
set_option maxHeartbeats 4000000
namespace PV
open PySem L2

/-! ### values without addresses -/
inductive Va where
  | non | bl (b : Bool) | int (i : Int) | str (x : Str)
  | lst (l : List Va) | tup (l : List Va) | dic (l : List (Key × Va))
  | cel (n : Nat) | scr (l : List Int)
inductive Cell where
  | lst (l : List Va) | dic (l : List (Key × Va)) | ins (c : Nat) (fs : List (Str × Va))
structure Store where
  c : Nat → Option Cell
  nx : Nat
def Store.put (M : Store) (n : Nat) (x : Cell) : Store := ⟨fun m => if m = n then some x else M.c m, M.nx⟩
def Store.del (M : Store) (n : Nat) : Store := ⟨fun m => if m = n then none else M.c m, M.nx⟩
def Store.new (M : Store) (x : Cell) : Store := ⟨fun m => if m = M.nx then some x else M.c m, M.nx + 1⟩
structure Sig where
  K : PySem.W.Frag
  CA : Nat → Addr

mutual
inductive VR (G : Sig) (R : Hp) (ρ : List Addr) : Va → V → Prop
  | non : VR G R ρ .non .non
  | bl (b : Bool) : VR G R ρ (.bl b) (.bl b)
  | int (i : Int) : VR G R ρ (.int i) (.int i)
  | str (x : Str) : VR G R ρ (.str x) (.str x)
  | lst {a : Addr} {l : List Va} {vs : List V} : R a = some (.lst vs) → l.length ≤ sizeLine → VRs G R ρ l vs → VR G R ρ (.lst l) (.ref a)
  | tup {a : Addr} {l : List Va} {vs : List V} : R a = some (.tup vs) → l.length ≤ sizeLine → VRs G R ρ l vs → VR G R ρ (.tup l) (.ref a)
  | dic {a : Addr} {l : List (Key × Va)} {vs : List (Key × V)} : R a = some (.dK vs) → l.length ≤ sizeLine → VRk G R ρ l vs → VR G R ρ (.dic l) (.ref a)
  | cel {n : Nat} {a : Addr} : ρ[n]? = some a → VR G R ρ (.cel n) (.ref a)
  | scr {a : Addr} {l : List Int} : SqL G.K R a (l.map V.int) → l.length ≤ sizeLine → VR G R ρ (.scr l) (.ref a)
inductive VRs (G : Sig) (R : Hp) (ρ : List Addr) : List Va → List V → Prop
  | nil : VRs G R ρ [] []
  | cons {x : Va} {v : V} {l : List Va} {vs : List V} : VR G R ρ x v → VRs G R ρ l vs → VRs G R ρ (x :: l) (v :: vs)
inductive VRk (G : Sig) (R : Hp) (ρ : List Addr) : List (Key × Va) → List (Key × V) → Prop
  | nil : VRk G R ρ [] []
  | cons {k : Key} {x : Va} {v : V} {l : List (Key × Va)} {vs : List (Key × V)} : VR G R ρ x v → VRk G R ρ l vs → VRk G R ρ ((k, x) :: l) ((k, v) :: vs)
end
inductive VRf (G : Sig) (R : Hp) (ρ : List Addr) : List (Str × Va) → List (Str × V) → Prop
  | nil : VRf G R ρ [] []
  | cons {k : Str} {x : Va} {v : V} {l : List (Str × Va)} {vs : List (Str × V)} : VR G R ρ x v → VRf G R ρ l vs → VRf G R ρ ((k, x) :: l) ((k, v) :: vs)

def CelR (G : Sig) (R : Hp) (ρ : List Addr) (H : Hp) (a : Addr) : Cell → Prop
  | .lst l => ∃ vs, H a = some (.lst vs) ∧ l.length ≤ sizeLine ∧ VRs G R ρ l vs
  | .dic l => ∃ vs, H a = some (.dK vs) ∧ l.length ≤ sizeLine ∧ VRk G R ρ l vs
  | .ins c l => ∃ dx vs, H a = some (.ins (G.CA c) dx vs) ∧ VRf G R ρ l vs

structure Wd (G : Sig) (R : Hp) (ρ : List Addr) (M : Store) (H : Hp) : Prop where
  sub : ∀ a o, R a = some o → H a = some o
  len : ρ.length = M.nx
  cel : ∀ (n : Nat) (x : Cell), M.c n = some x → ∃ a, ρ[n]? = some a ∧ R a = none ∧ CelR G R ρ H a x
  inj : ∀ (n m : Nat) (a : Addr) (x y : Cell), M.c n = some x → M.c m = some y → ρ[n]? = some a → ρ[m]? = some a → n = m
  al : ∀ a, a ∈ ρ → H a ≠ none

structure Ext (R : Hp) (ρ : List Addr) (H : Hp) (R' : Hp) (ρ' : List Addr) (H' : Hp) : Prop where
  reg : ∀ a o, R a = some o → R' a = some o
  cls : ∃ τ, ρ' = ρ ++ τ ∧ ∀ a ∈ τ, H a = none
  keep : ∀ a o, H a = some o → a ∉ ρ → H' a = some o
  dom : ∀ a, H a ≠ none → H' a ≠ none
  nreg : ∀ a, R a = none → R' a ≠ none → H a = none ∨ a ∈ ρ

theorem Ext.refl {R : Hp} {ρ : List Addr} {H : Hp} : Ext R ρ H R ρ H := ⟨fun _ _ h => h, ⟨[], by simp, by simp⟩, fun _ _ h _ => h, fun _ h => h, fun _ h n => absurd h n⟩
theorem Ext.trans {R R1 R2 : Hp} {ρ ρ1 ρ2 : List Addr} {H H1 H2 : Hp} (a : Ext R ρ H R1 ρ1 H1) (b : Ext R1 ρ1 H1 R2 ρ2 H2) : Ext R ρ H R2 ρ2 H2 := by
  obtain ⟨τ, e1, f1⟩ := a.cls
  obtain ⟨τ', e2, f2⟩ := b.cls
  refine ⟨fun x o h => b.reg x o (a.reg x o h), ⟨τ ++ τ', by rw [e2, e1, List.append_assoc], fun x hx => ?_⟩, fun x o h n => ?_, fun x h => b.dom x (a.dom x h), fun x h n => ?_⟩
  · rcases List.mem_append.mp hx with h | h
    · exact f1 x h
    · by_cases q : H x = none
      · exact q
      · exact absurd (f2 x h) (a.dom x q)
  · refine b.keep x o (a.keep x o h n) fun hm => ?_
    rw [e1] at hm
    rcases List.mem_append.mp hm with z | z
    · exact n z
    · rw [f1 x z] at h
      cases h
  · by_cases q : R1 x = none
    · rcases b.nreg x q n with z | z
      · left
        by_cases y : H x = none
        · exact y
        · exact absurd z (a.dom x y)
      · rw [e1] at z
        rcases List.mem_append.mp z with z | z
        · exact .inr z
        · exact .inl (f1 x z)
    · exact a.nreg x h q
theorem Ext.get {R R' : Hp} {ρ ρ' : List Addr} {H H' : Hp} (e : Ext R ρ H R' ρ' H') {n : Nat} {a : Addr} (h : ρ[n]? = some a) : ρ'[n]? = some a := by
  obtain ⟨τ, q, _⟩ := e.cls
  rw [q, List.getElem?_append_left (List.getElem?_eq_some_iff.mp h).1]
  exact h

/-- what a datum leans on only grows -/
structure Gr (R : Hp) (ρ : List Addr) (R' : Hp) (ρ' : List Addr) : Prop where
  reg : ∀ a o, R a = some o → R' a = some o
  get : ∀ (n : Nat) (a : Addr), ρ[n]? = some a → ρ'[n]? = some a
theorem Ext.gr {R R' : Hp} {ρ ρ' : List Addr} {H H' : Hp} (e : Ext R ρ H R' ρ' H') : Gr R ρ R' ρ' := ⟨e.reg, fun _ _ h => e.get h⟩
theorem Gr.refl {R : Hp} {ρ : List Addr} : Gr R ρ R ρ := ⟨fun _ _ h => h, fun _ _ h => h⟩
theorem Gr.trans {R R1 R2 : Hp} {ρ ρ1 ρ2 : List Addr} (a : Gr R ρ R1 ρ1) (b : Gr R1 ρ1 R2 ρ2) : Gr R ρ R2 ρ2 := ⟨fun x o h => b.reg x o (a.reg x o h), fun n x h => b.get n x (a.get n x h)⟩
theorem sqL_mono {K : PySem.W.Frag} {R R' : Hp} (h : ∀ a o, R a = some o → R' a = some o) {a : Addr} {vs : List V} (q : SqL K R a vs) : SqL K R' a vs := by
  rcases q with (q | ⟨o, q⟩) | q
  · exact .inl (.inl (h _ _ q))
  · exact .inl (.inr ⟨o, h _ _ q⟩)
  · exact .inr q

section
variable {G : Sig} {R R' : Hp} {ρ ρ' : List Addr}
mutual
theorem VR.mono (g : Gr R ρ R' ρ') : ∀ {x : Va} {v : V}, VR G R ρ x v → VR G R' ρ' x v
  | _, _, .non => .non
  | _, _, .bl b => .bl b
  | _, _, .int i => .int i
  | _, _, .str x => .str x
  | _, _, .lst h z r => .lst (g.reg _ _ h) z (VRs.mono g r)
  | _, _, .tup h z r => .tup (g.reg _ _ h) z (VRs.mono g r)
  | _, _, .dic h z r => .dic (g.reg _ _ h) z (VRk.mono g r)
  | _, _, .cel h => .cel (g.get _ _ h)
  | _, _, .scr h z => .scr (sqL_mono g.reg h) z
theorem VRs.mono (g : Gr R ρ R' ρ') : ∀ {l : List Va} {vs : List V}, VRs G R ρ l vs → VRs G R' ρ' l vs
  | _, _, .nil => .nil
  | _, _, .cons h t => .cons (VR.mono g h) (VRs.mono g t)
theorem VRk.mono (g : Gr R ρ R' ρ') : ∀ {l : List (Key × Va)} {vs : List (Key × V)}, VRk G R ρ l vs → VRk G R' ρ' l vs
  | _, _, .nil => .nil
  | _, _, .cons h t => .cons (VR.mono g h) (VRk.mono g t)
end
theorem VRf.mono (g : Gr R ρ R' ρ') : ∀ {l : List (Str × Va)} {vs : List (Str × V)}, VRf G R ρ l vs → VRf G R' ρ' l vs
  | _, _, .nil => .nil
  | _, _, .cons h t => .cons (VR.mono g h) (VRf.mono g t)
theorem VRs.length : ∀ {l : List Va} {vs : List V}, VRs G R ρ l vs → l.length = vs.length
  | _, _, .nil => rfl
  | _, _, .cons _ t => by simp [VRs.length t]
theorem VRk.length : ∀ {l : List (Key × Va)} {vs : List (Key × V)}, VRk G R ρ l vs → l.length = vs.length
  | _, _, .nil => rfl
  | _, _, .cons _ t => by simp [VRk.length t]
theorem VRs.get : ∀ {l : List Va} {vs : List V} {i : Nat} {x : Va}, VRs G R ρ l vs → l[i]? = some x → ∃ v, vs[i]? = some v ∧ VR G R ρ x v
  | _, _, _, _, .nil, e => by simp at e
  | _, _, 0, _, .cons h _, e => by simp at e; subst e; exact ⟨_, rfl, h⟩
  | _, _, i + 1, x, .cons _ t, e => by
    obtain ⟨v, h1, h2⟩ := VRs.get (i := i) (x := x) t (by simpa using e)
    exact ⟨v, by simpa using h1, h2⟩
theorem VRs.getV : ∀ {l : List Va} {vs : List V} {i : Nat} {v : V}, VRs G R ρ l vs → vs[i]? = some v → ∃ x, l[i]? = some x ∧ VR G R ρ x v
  | _, _, _, _, .nil, e => by simp at e
  | _, _, 0, _, .cons h _, e => by simp at e; subst e; exact ⟨_, rfl, h⟩
  | _, _, i + 1, x, .cons _ t, e => by
    obtain ⟨v, h1, h2⟩ := VRs.getV (i := i) (v := x) t (by simpa using e)
    exact ⟨v, by simpa using h1, h2⟩
theorem VRs.set {x : Va} {v : V} (r : VR G R ρ x v) : ∀ {l : List Va} {vs : List V} (i : Nat), VRs G R ρ l vs → VRs G R ρ (l.set i x) (vs.set i v)
  | _, _, _, .nil => .nil
  | _, _, 0, .cons _ t => .cons r t
  | _, _, i + 1, .cons q t => .cons q (VRs.set r i t)
theorem VRs.append : ∀ {l m : List Va} {us vs : List V}, VRs G R ρ l us → VRs G R ρ m vs → VRs G R ρ (l ++ m) (us ++ vs)
  | _, _, _, _, .nil, s => s
  | _, _, _, _, .cons r t, s => .cons r (VRs.append t s)
theorem VRs.take : ∀ {l : List Va} {vs : List V} (n : Nat), VRs G R ρ l vs → VRs G R ρ (l.take n) (vs.take n)
  | _, _, 0, _ => .nil
  | _, _, _ + 1, .nil => .nil
  | _, _, n + 1, .cons r t => .cons r (VRs.take n t)
theorem VRs.drop : ∀ {l : List Va} {vs : List V} (n : Nat), VRs G R ρ l vs → VRs G R ρ (l.drop n) (vs.drop n)
  | _, _, 0, r => r
  | _, _, _ + 1, .nil => .nil
  | _, _, n + 1, .cons _ t => VRs.drop n t
theorem VRs.reverse : ∀ {l : List Va} {vs : List V}, VRs G R ρ l vs → VRs G R ρ l.reverse vs.reverse
  | _, _, .nil => .nil
  | _, _, .cons r t => by
    rw [List.reverse_cons, List.reverse_cons]
    exact VRs.append (VRs.reverse t) (.cons r .nil)
theorem VRs.eraseIdx : ∀ {l : List Va} {vs : List V} (n : Nat), VRs G R ρ l vs → VRs G R ρ (l.eraseIdx n) (vs.eraseIdx n)
  | _, _, _, .nil => .nil
  | _, _, 0, .cons _ t => t
  | _, _, n + 1, .cons r t => .cons r (VRs.eraseIdx n t)
theorem VRs.dropLast : ∀ {l : List Va} {vs : List V}, VRs G R ρ l vs → VRs G R ρ l.dropLast vs.dropLast
  | _, _, .nil => .nil
  | _, _, .cons r .nil => .nil
  | _, _, .cons r (.cons q t) => .cons r (VRs.dropLast (.cons q t))
theorem VRs.ints : ∀ (ns : List Int), VRs G R ρ (ns.map Va.int) (ns.map V.int)
  | [] => .nil
  | n :: ns => .cons (.int n) (VRs.ints ns)
end

/-! ### the slots -/
abbrev SL := List (Option Va)
structure SR (G : Sig) (R : Hp) (ρ : List Addr) (s : SL) (σ : St) : Prop where
  len : s.length = σ.length
  at_ : ∀ (i : Nat) (x : Va), s[i]? = some (some x) → ∃ v, σ[i]? = some (some v) ∧ VR G R ρ x v
theorem SR.mono {G : Sig} {R R' : Hp} {ρ ρ' : List Addr} (g : Gr R ρ R' ρ') {s : SL} {σ : St} (h : SR G R ρ s σ) : SR G R' ρ' s σ :=
  ⟨h.len, fun i x e => let ⟨v, a, b⟩ := h.at_ i x e; ⟨v, a, b.mono g⟩⟩
theorem SR.set {G : Sig} {R : Hp} {ρ : List Addr} {s : SL} {σ : St} (h : SR G R ρ s σ) (i : Nat) {x : Va} {v : V} (r : VR G R ρ x v) : SR G R ρ (s.set i (some x)) (σ.set i (some v)) := by
  refine ⟨by simp [h.len], fun j y e => ?_⟩
  by_cases hij : i = j
  · subst hij
    rw [List.getElem?_set] at e ⊢
    by_cases hl : i < s.length
    · simp [hl] at e
      subst e
      exact ⟨v, by simp [h.len ▸ hl], r⟩
    · simp [hl] at e
  · rw [List.getElem?_set_ne hij] at e ⊢
    exact h.at_ j y e
theorem SR.unset {G : Sig} {R : Hp} {ρ : List Addr} {s : SL} {σ : St} (h : SR G R ρ s σ) (i : Nat) (q : Option V) : SR G R ρ (s.set i none) (σ.set i q) := by
  refine ⟨by simp [h.len], fun j y e => ?_⟩
  by_cases hij : i = j
  · subst hij
    rw [List.getElem?_set] at e
    by_cases hl : i < s.length
    · simp [hl] at e
    · simp [hl] at e
  · rw [List.getElem?_set_ne hij] at e ⊢
    exact h.at_ j y e

/-! ### what comes out -/
inductive Out where
  | val (v : Va) | exc (c : Nat) (v : Va)
abbrev Res := Option (Out × Store)
abbrev SE := SL → Store → Res
def bindO (r : Res) (k : Va → Store → Res) : Res := match r with
  | none => none
  | some (.val v, M) => k v M
  | some (.exc c v, M) => some (.exc c v, M)
@[simp] theorem bindO_val (v : Va) (M : Store) (k : Va → Store → Res) : bindO (some (.val v, M)) k = k v M := rfl
@[simp] theorem bindO_exc (c : Nat) (v : Va) (M : Store) (k : Va → Store → Res) : bindO (some (.exc c v, M)) k = some (.exc c v, M) := rfl
@[simp] theorem bindO_none (k : Va → Store → Res) : bindO none k = none := rfl
theorem bindO_assoc (r : Res) (k k' : Va → Store → Res) : bindO (bindO r k) k' = bindO r fun v M => bindO (k v M) k' := by
  rcases r with _ | ⟨_ | _, _⟩ <;> rfl

def PostX (G : Sig) (R : Hp) (ρ : List Addr) (H : Hp) (M : Store) (E : XK) (c : Nat) (x : Va) : Prop :=
  ∀ R' ρ' H' d v, Ext R ρ H R' ρ' H' → Wd G R' ρ' M H' → H' d = some (.xd [("value", v)]) → VR G R' ρ' x v → E (.ref (G.CA c)) (some d) H'
/-- the end, for a value -/
def Gives (G : Sig) (R : Hp) (ρ : List Addr) (H : Hp) (M : Store) (x : Va) (Q : VK) : Prop :=
  ∀ R' ρ' H' v, Ext R ρ H R' ρ' H' → Wd G R' ρ' M H' → VR G R' ρ' x v → Q v H'
def Post (G : Sig) (R : Hp) (ρ : List Addr) (H : Hp) (r : Res) (Q : VK) (E : XK) : Prop := match r with
  | none => False
  | some (.val x, M) => Gives G R ρ H M x Q
  | some (.exc c x, M) => PostX G R ρ H M E c x
theorem Post.ext {G : Sig} {R R' : Hp} {ρ ρ' : List Addr} {H H' : Hp} {r : Res} {Q : VK} {E : XK} (e : Ext R ρ H R' ρ' H') (p : Post G R ρ H r Q E) : Post G R' ρ' H' r Q E := by
  rcases r with _ | ⟨x | ⟨c, x⟩, M⟩
  · exact p
  · exact fun R2 ρ2 H2 v e2 w r => p R2 ρ2 H2 v (e.trans e2) w r
  · exact fun R2 ρ2 H2 d v e2 w h r => p R2 ρ2 H2 d v (e.trans e2) w h r
theorem Gives.ext {G : Sig} {R R' : Hp} {ρ ρ' : List Addr} {H H' : Hp} {M : Store} {x : Va} {Q : VK} (e : Ext R ρ H R' ρ' H') (p : Gives G R ρ H M x Q) : Gives G R' ρ' H' M x Q :=
  fun R2 ρ2 H2 v e2 w r => p R2 ρ2 H2 v (e.trans e2) w r

/-- an expression's reading by its value -/
def tE (G : Sig) (E : XK) (ev : SE) : TE := fun σ H Q => ∃ R ρ s M, Wd G R ρ M H ∧ SR G R ρ s σ ∧ Post G R ρ H (ev s M) Q E
/-- an argument list's: the values as a tuple -/
def PostA (G : Sig) (R : Hp) (ρ : List Addr) (H : Hp) (r : Res) (Q : List V → Hp → Prop) (E : XK) : Prop := match r with
  | none => False
  | some (.val (.tup l), M) => ∀ R' ρ' H' vs, Ext R ρ H R' ρ' H' → Wd G R' ρ' M H' → VRs G R' ρ' l vs → Q vs H'
  | some (.val _, _) => False
  | some (.exc c x, M) => PostX G R ρ H M E c x
def tA (G : Sig) (E : XK) (ev : SE) : TA := fun σ H Q => ∃ R ρ s M, Wd G R ρ M H ∧ SR G R ρ s σ ∧ PostA G R ρ H (ev s M) Q E
/-- a test's: a value True or False -/
def PostT (G : Sig) (R : Hp) (ρ : List Addr) (H : Hp) (r : Res) (Q : Bool → Hp → Prop) (E : XK) : Prop := match r with
  | none => False
  | some (.val (.bl b), M) => ∀ R' ρ' H', Ext R ρ H R' ρ' H' → Wd G R' ρ' M H' → Q b H'
  | some (.val _, _) => False
  | some (.exc c x, M) => PostX G R ρ H M E c x
def tT (G : Sig) (E : XK) (ev : SE) : TT := fun σ H Q => ∃ R ρ s M, Wd G R ρ M H ∧ SR G R ρ s σ ∧ PostT G R ρ H (ev s M) Q E
theorem PostX.ext {G : Sig} {R R' : Hp} {ρ ρ' : List Addr} {H H' : Hp} {M : Store} {c : Nat} {x : Va} {E : XK} (e : Ext R ρ H R' ρ' H') (p : PostX G R ρ H M E c x) : PostX G R' ρ' H' M E c x :=
  fun R2 ρ2 H2 d v e2 w h r => p R2 ρ2 H2 d v (e.trans e2) w h r

section
variable {X : Cx} {e : Expr} {es : List Expr} {st : Stmt} {sts : List Stmt}
theorem pe_imp {t t' : TE} (h : PE X e t) (i : ∀ σ H Q, t' σ H Q → t σ H Q) : PE X e t' := ⟨fun p s σ H Q I q => h.run p s σ H Q I (i σ H Q q)⟩
theorem pt_imp {t t' : TT} (h : PT X e t) (i : ∀ σ H Q, t' σ H Q → t σ H Q) : PT X e t' := ⟨fun p s σ H Q I q => h.run p s σ H Q I (i σ H Q q)⟩
theorem pw_imp {t t' : TT} (h : PW X e t) (i : ∀ σ H Q, t' σ H Q → t σ H Q) : PW X e t' := ⟨fun w p s σ H Q I q => h.run w p s σ H Q I (i σ H Q q)⟩
theorem pa_imp {t t' : TA} (h : PA X es t) (i : ∀ σ H Q, t' σ H Q → t σ H Q) : PA X es t' := ⟨fun w p s σ H Q I q => h.run w p s σ H Q I (i σ H Q q)⟩
theorem ps_imp {t t' : TS} (h : PS X st t) (i : ∀ D σ H, t' D σ H → t D σ H) : PS X st t' := ⟨fun p s σ H D I q => h.run p s σ H D I (i D σ H q)⟩
theorem pss_imp {t t' : TS} (h : PSs X sts t) (i : ∀ D σ H, t' D σ H → t D σ H) : PSs X sts t' := ⟨fun p s σ H D I q => h.run p s σ H D I (i D σ H q)⟩
theorem pi_imp {tg : Expr} {t t' : TI} (h : PI X tg e t) (i : ∀ σ H Q, t' σ H Q → t σ H Q) : PI X tg e t' := ⟨fun p s σ H Q I q => h.run p s σ H Q I (i σ H Q q)⟩
end

section
variable {G : Sig} {E : XK} {σ : St} {H : Hp}
/-- first a, then what hangs on its value -/
theorem tE_bind {ea : SE} {k : Va → SE} {P : SE → St → Hp → Prop} {Q' : VK}
    (h : ∃ R ρ s M, Wd G R ρ M H ∧ SR G R ρ s σ ∧ ∃ r, r = bindO (ea s M) (fun v M1 => k v s M1) ∧ r ≠ none ∧
      (∀ c x M', r = some (.exc c x, M') → PostX G R ρ H M' E c x) ∧
      (∀ va M1, ea s M = some (.val va, M1) → ∀ R' ρ' H' v, Ext R ρ H R' ρ' H' → Wd G R' ρ' M1 H' → VR G R' ρ' va v → Q' v H')) : tE G E ea σ H Q' := by
  obtain ⟨R, ρ, s, M, w, sr, r, er, hn, hx, hv⟩ := h
  refine ⟨R, ρ, s, M, w, sr, ?_⟩
  rcases q : ea s M with _ | ⟨x | ⟨c, x⟩, M1⟩
  · rw [q] at er
    exact absurd er hn
  · exact fun R' ρ' H' v => hv x M1 q R' ρ' H' v
  · rw [q] at er
    exact hx c x M1 er
theorem bindE {ea : SE} {k : Va → SE} {Q Q' : VK} (h : tE G E (fun s M => bindO (ea s M) fun v M1 => k v s M1) σ H Q)
    (hk : ∀ R ρ s M H1 va v, Wd G R ρ M H1 → SR G R ρ s σ → VR G R ρ va v → Post G R ρ H1 (k va s M) Q E → Q' v H1) : tE G E ea σ H Q' := by
  obtain ⟨R, ρ, s, M, w, sr, p⟩ := h
  refine ⟨R, ρ, s, M, w, sr, ?_⟩
  show Post G R ρ H (ea s M) Q' E
  replace p : Post G R ρ H (bindO (ea s M) fun v M1 => k v s M1) Q E := p
  rcases q : ea s M with _ | ⟨x | ⟨c, x⟩, M1⟩ <;> rw [q] at p
  · exact p
  · exact fun R' ρ' H' v e w' r => hk R' ρ' s M1 H' x v w' (sr.mono e.gr) r (p.ext e)
  · exact p
theorem bindEA {ea : SE} {k : Va → SE} {Q : List V → Hp → Prop} {Q' : VK} (h : tA G E (fun s M => bindO (ea s M) fun v M1 => k v s M1) σ H Q)
    (hk : ∀ R ρ s M H1 va v, Wd G R ρ M H1 → SR G R ρ s σ → VR G R ρ va v → PostA G R ρ H1 (k va s M) Q E → Q' v H1) : tE G E ea σ H Q' := by
  obtain ⟨R, ρ, s, M, w, sr, p⟩ := h
  refine ⟨R, ρ, s, M, w, sr, ?_⟩
  show Post G R ρ H (ea s M) Q' E
  replace p : PostA G R ρ H (bindO (ea s M) fun v M1 => k v s M1) Q E := p
  rcases q : ea s M with _ | ⟨x | ⟨c, x⟩, M1⟩ <;> rw [q] at p
  · exact p
  · refine fun R' ρ' H' v e w' r => hk R' ρ' s M1 H' x v w' (sr.mono e.gr) r ?_
    rw [bindO_val] at p
    rcases z : k x s M1 with _ | ⟨y | ⟨c, y⟩, M2⟩ <;> rw [z] at p
    · exact p
    · cases y <;> first | exact p | skip
      exact fun R2 ρ2 H2 vs e2 w2 r2 => p R2 ρ2 H2 vs (e.trans e2) w2 r2
    · exact PostX.ext e p
  · exact p
end
end PV

set_option Elab.async false
set_option linter.all false
set_option maxRecDepth 100000
set_option maxHeartbeats 4000000
namespace PV
open PySem L2

section
variable {G : Sig} {R R' : Hp} {ρ ρ' : List Addr} {M : Store} {H : Hp} {p a : Addr} {o : HO}
theorem Wd.nonR (w : Wd G R ρ M H) (h : H a = none) : R a = none := by
  cases q : R a with
  | none => rfl
  | some x => rw [w.sub a x q] at h; cases h
theorem celR_mono {x : Cell} {H' : Hp} (g : Gr R ρ R' ρ') (h : CelR G R ρ H a x) (e : ∀ u, H a = some u → H' a = some u) : CelR G R' ρ' H' a x := by
  cases x with
  | lst l => obtain ⟨vs, h1, h2, h3⟩ := h; exact ⟨vs, e _ h1, h2, h3.mono g⟩
  | dic l => obtain ⟨vs, h1, h2, h3⟩ := h; exact ⟨vs, e _ h1, h2, h3.mono g⟩
  | ins c l => obtain ⟨dx, vs, h1, h3⟩ := h; exact ⟨dx, vs, e _ h1, h3.mono g⟩
theorem celR_some {x : Cell} (h : CelR G R ρ H a x) : H a ≠ none := by
  cases x with
  | lst l => obtain ⟨vs, h1, h2⟩ := h; rw [h1]; simp
  | dic l => obtain ⟨vs, h1, h2⟩ := h; rw [h1]; simp
  | ins c l => obtain ⟨dx, vs, h1, h2⟩ := h; rw [h1]; simp
/-- the heap alone grows -/
theorem Wd.heap {H' : Hp} (w : Wd G R ρ M H) (k : ∀ a o, H a = some o → H' a = some o) : Wd G R ρ M H' :=
  ⟨fun a o h => k a o (w.sub a o h), w.len, fun n x h => let ⟨a, e, r, c⟩ := w.cel n x h; ⟨a, e, r, celR_mono Gr.refl c fun u q => k _ _ q⟩, w.inj, fun a h n => by
    cases q : H a with
    | none => exact w.al a h q
    | some o => rw [k a o q] at n; cases n⟩
theorem alloc_frz (w : Wd G R ρ M H) (hp : H p = none) : Ext R ρ H (upd R p o) ρ (upd H p o) ∧ Wd G (upd R p o) ρ M (upd H p o) := by
  have kR : ∀ a u, R a = some u → upd R p o a = some u := fun a u h => by rw [upd_ne (ne_of_none (w.sub a u h) hp)]; exact h
  have kH : ∀ a u, H a = some u → upd H p o a = some u := fun a u h => by rw [upd_ne (ne_of_none h hp)]; exact h
  refine ⟨⟨kR, ⟨[], by simp, by simp⟩, fun a u h _ => kH a u h, fun a h => ?_, fun a h n => ?_⟩, ⟨fun a u h => ?_, w.len, fun n x h => ?_, w.inj, fun a h n => ?_⟩⟩
  · cases q : H a with
    | none => exact absurd q h
    | some u => rw [kH a u q]; simp
  · by_cases e : a = p
    · subst e; exact .inl hp
    · rw [upd_ne e] at n; exact absurd h n
  · by_cases e : a = p
    · subst e; rw [upd_same] at h ⊢; exact h
    · rw [upd_ne e] at h ⊢; exact w.sub a u h
  · obtain ⟨a, e, r, c⟩ := w.cel n x h
    have ne : a ≠ p := fun z => celR_some c (by rw [z]; exact hp)
    exact ⟨a, e, by rw [upd_ne ne]; exact r, celR_mono ⟨kR, fun _ _ q => q⟩ c fun u q => kH _ _ q⟩
  · cases q : H a with
    | none => exact w.al a h q
    | some o => rw [kH a o q] at n; cases n
theorem alloc_cel {x : Cell} (w : Wd G R ρ M H) (hp : H p = none) (hx : CelR G R ρ (upd H p o) p x) : Ext R ρ H R (ρ ++ [p]) (upd H p o) ∧ Wd G R (ρ ++ [p]) (M.new x) (upd H p o) ∧ (ρ ++ [p])[M.nx]? = some p := by
  have kH : ∀ a u, H a = some u → upd H p o a = some u := fun a u h => by rw [upd_ne (ne_of_none h hp)]; exact h
  have gr : Gr R ρ R (ρ ++ [p]) := ⟨fun _ _ h => h, fun n a h => by rw [List.getElem?_append_left (List.getElem?_eq_some_iff.mp h).1]; exact h⟩
  have gp : (ρ ++ [p])[M.nx]? = some p := by rw [← w.len]; simp
  have bnd : ∀ n y, M.c n = some y → ∃ b, ρ[n]? = some b ∧ b ≠ p ∧ n ≠ M.nx := fun n y h => by
    obtain ⟨b, e, r, c⟩ := w.cel n y h
    refine ⟨b, e, fun z => celR_some c (by rw [z]; exact hp), fun z => ?_⟩
    have := (List.getElem?_eq_some_iff.mp e).1
    have := w.len
    omega
  refine ⟨⟨fun _ _ h => h, ⟨[p], rfl, fun b hb => by rw [List.mem_singleton.mp hb]; exact hp⟩, fun a u h _ => kH a u h, fun a h => ?_, fun a h n => absurd h n⟩, ⟨fun a u h => kH a u (w.sub a u h), by simp [Store.new, w.len], fun n y h => ?_, fun n m b y z h1 h2 e1 e2 => ?_, fun a h n => ?_⟩, gp⟩
  · cases q : H a with
    | none => exact absurd q h
    | some u => rw [kH a u q]; simp
  · by_cases e : n = M.nx
    · subst e
      have h' : (if M.nx = M.nx then some x else M.c M.nx) = some y := h
      rw [if_pos rfl] at h'
      cases h'
      exact ⟨p, gp, w.nonR hp, celR_mono gr hx fun u q => q⟩
    · have h' : (if n = M.nx then some x else M.c n) = some y := h
      rw [if_neg e] at h'
      obtain ⟨b, e1, r, c⟩ := w.cel n y h'
      exact ⟨b, gr.get n b e1, r, celR_mono gr c fun u q => kH _ _ q⟩
  · have h1' : (if n = M.nx then some x else M.c n) = some y := h1
    have h2' : (if m = M.nx then some x else M.c m) = some z := h2
    by_cases q1 : n = M.nx <;> by_cases q2 : m = M.nx
    · rw [q1, q2]
    · rw [if_neg q2] at h2'
      obtain ⟨b', e', ne, _⟩ := bnd m z h2'
      rw [gr.get m b' e'] at e2
      cases e2
      rw [q1, gp] at e1
      cases e1
      exact absurd rfl ne
    · rw [if_neg q1] at h1'
      obtain ⟨b', e', ne, _⟩ := bnd n y h1'
      rw [gr.get n b' e'] at e1
      cases e1
      rw [q2, gp] at e2
      cases e2
      exact absurd rfl ne
    · rw [if_neg q1] at h1'
      rw [if_neg q2] at h2'
      obtain ⟨b1, e1', _⟩ := bnd n y h1'
      obtain ⟨b2, e2', _⟩ := bnd m z h2'
      rw [gr.get n b1 e1'] at e1
      rw [gr.get m b2 e2'] at e2
      cases e1
      cases e2
      exact w.inj n m b y z h1' h2' e1' e2'
  · rcases List.mem_append.mp h with h | h
    · cases q : H a with
      | none => exact w.al a h q
      | some o => rw [kH a o q] at n; cases n
    · rw [List.mem_singleton.mp h, upd_same] at n
      cases n
theorem write_cel {n : Nat} {x y : Cell} (w : Wd G R ρ M H) (hn : M.c n = some x) (ha : ρ[n]? = some a) (hy : CelR G R ρ (upd H a o) a y) : Ext R ρ H R ρ (upd H a o) ∧ Wd G R ρ (M.put n y) (upd H a o) := by
  obtain ⟨a', e', ra, ca⟩ := w.cel n x hn
  rw [ha] at e'
  cases e'
  refine ⟨⟨fun _ _ h => h, ⟨[], by simp, by simp⟩, fun b u h nb => ?_, fun b h => ?_, fun b h n => absurd h n⟩, ⟨fun b u h => ?_, w.len, fun m z h => ?_, fun m k b y' z h1 h2 e1 e2 => ?_, fun b h n => ?_⟩⟩
  · rw [upd_ne]
    · exact h
    · rintro rfl
      exact nb (List.mem_of_getElem? ha)
  · by_cases e : b = a
    · subst e; rw [upd_same]; simp
    · rw [upd_ne e]; exact h
  · rw [upd_ne]
    · exact w.sub b u h
    · rintro rfl
      rw [ra] at h
      cases h
  · have h' : (if m = n then some y else M.c m) = some z := h
    by_cases e : m = n
    · subst e
      rw [if_pos rfl] at h'
      cases h'
      exact ⟨a, ha, ra, hy⟩
    · rw [if_neg e] at h'
      obtain ⟨b, e1, r, c⟩ := w.cel m z h'
      have ne : b ≠ a := fun q => e (w.inj m n a z x h' hn (q ▸ e1) ha)
      exact ⟨b, e1, r, celR_mono Gr.refl c fun u q => by rw [upd_ne ne]; exact q⟩
  · have h1' : (if m = n then some y else M.c m) = some y' := h1
    have h2' : (if k = n then some y else M.c k) = some z := h2
    have f : ∀ j w', (if j = n then some y else M.c j) = some w' → ∃ w'', M.c j = some w'' := fun j w' q => by
      by_cases e : j = n
      · subst e; exact ⟨x, hn⟩
      · rw [if_neg e] at q; exact ⟨_, q⟩
    obtain ⟨u1, f1⟩ := f m y' h1'
    obtain ⟨u2, f2⟩ := f k z h2'
    exact w.inj m k b u1 u2 f1 f2 e1 e2
  · by_cases e : b = a
    · subst e; rw [upd_same] at n; cases n
    · rw [upd_ne e] at n; exact w.al b h n
theorem freeze_cel {n : Nat} {x : Cell} (w : Wd G R ρ M H) (hn : M.c n = some x) (ha : ρ[n]? = some a) (ho : H a = some o) : Ext R ρ H (upd R a o) ρ H ∧ Wd G (upd R a o) ρ (M.del n) H := by
  obtain ⟨a', e', ra, ca⟩ := w.cel n x hn
  rw [ha] at e'
  cases e'
  have kR : ∀ b u, R b = some u → upd R a o b = some u := fun b u h => by
    rw [upd_ne]
    · exact h
    · rintro rfl
      rw [ra] at h
      cases h
  have f : ∀ j w', (M.del n).c j = some w' → j ≠ n ∧ M.c j = some w' := fun j w' q => by
    have q' : (if j = n then Option.none else M.c j) = some w' := q
    by_cases e : j = n
    · rw [if_pos e] at q'; cases q'
    · rw [if_neg e] at q'; exact ⟨e, q'⟩
  refine ⟨⟨kR, ⟨[], by simp, by simp⟩, fun b u h _ => h, fun b h => h, fun b h n => ?_⟩, ⟨fun b u h => ?_, w.len, fun m z h => ?_, fun m k b y' z h1 h2 e1 e2 => ?_, w.al⟩⟩
  · by_cases e : b = a
    · subst e; exact .inr (List.mem_of_getElem? ha)
    · rw [upd_ne e] at n; exact absurd h n
  · by_cases e : b = a
    · subst e; rw [upd_same] at h; rw [ho]; exact h
    · rw [upd_ne e] at h; exact w.sub b u h
  · obtain ⟨nm, h'⟩ := f m z h
    obtain ⟨b, e1, r, c⟩ := w.cel m z h'
    have ne : b ≠ a := fun q => nm (w.inj m n a z x h' hn (q ▸ e1) ha)
    exact ⟨b, e1, by rw [upd_ne ne]; exact r, celR_mono ⟨kR, fun _ _ q => q⟩ c fun u q => q⟩
  · exact w.inj m k b y' z (f m y' h1).2 (f k z h2).2 e1 e2
end

/-! ### reading lists, tuples, dicts -/
def lstOf (M : Store) : Va → Option (List Va)
  | .lst l => some l
  | .scr l => some (l.map Va.int)
  | .cel n => match M.c n with
    | some (.lst l) => some l
    | _ => none
  | _ => none
/-- a list that is no script -/
def ownOf (M : Store) : Va → Option (List Va)
  | .lst l => some l
  | .cel n => match M.c n with
    | some (.lst l) => some l
    | _ => none
  | _ => none
def tupOf : Va → Option (List Va)
  | .tup l => some l
  | _ => none
def seqOf (M : Store) (x : Va) : Option (List Va) := match x with
  | .tup l => some l
  | _ => lstOf M x
def dicOf (M : Store) : Va → Option (List (Key × Va))
  | .dic l => some l
  | .cel n => match M.c n with
    | some (.dic l) => some l
    | _ => none
  | _ => none
section
variable {G : Sig} {R R' : Hp} {ρ ρ' : List Addr} {M : Store} {H : Hp} {x : Va} {v : V}
theorem own_read {l : List Va} (w : Wd G R ρ M H) (r : VR G R ρ x v) (h : ownOf M x = some l) : ∃ a vs, v = .ref a ∧ H a = some (.lst vs) ∧ VRs G R ρ l vs ∧ l.length ≤ sizeLine := by
  cases r with
  | lst e z q => cases h; exact ⟨_, _, rfl, w.sub _ _ e, q, z⟩
  | @cel n _ e =>
    replace h : (match M.c n with | some (.lst l) => some l | _ => none) = some l := h
    split at h
    · rename_i q1 q2
      cases h
      obtain ⟨a, e1, _, vs, e2, z, q⟩ := w.cel _ _ q2
      rw [e] at e1
      cases e1
      exact ⟨_, vs, rfl, e2, q, z⟩
    · cases h
  | _ => cases h
theorem lst_read {l : List Va} (w : Wd G R ρ M H) (r : VR G R ρ x v) (h : lstOf M x = some l) : ∃ a vs, v = .ref a ∧ SqL G.K H a vs ∧ VRs G R ρ l vs ∧ l.length ≤ sizeLine := by
  cases r with
  | lst e z q => cases h; exact ⟨_, _, rfl, .of (w.sub _ _ e), q, z⟩
  | cel e =>
    have h' : ownOf M (.cel _) = some l := h
    obtain ⟨a, vs, e1, e2, q, z⟩ := own_read w (.cel e) h'
    exact ⟨a, vs, e1, .of e2, q, z⟩
  | scr e z => cases h; exact ⟨_, _, rfl, sqL_mono w.sub e, VRs.ints _, by rw [List.length_map]; exact z⟩
  | _ => cases h
theorem tup_read {l : List Va} (w : Wd G R ρ M H) (r : VR G R ρ x v) (h : tupOf x = some l) : ∃ a vs, v = .ref a ∧ H a = some (.tup vs) ∧ VRs G R ρ l vs ∧ l.length ≤ sizeLine := by
  cases r with
  | tup e z q => cases h; exact ⟨_, _, rfl, w.sub _ _ e, q, z⟩
  | _ => cases h
theorem dic_read {l : List (Key × Va)} (w : Wd G R ρ M H) (r : VR G R ρ x v) (h : dicOf M x = some l) : ∃ a vs, v = .ref a ∧ H a = some (.dK vs) ∧ VRk G R ρ l vs ∧ l.length ≤ sizeLine := by
  cases r with
  | dic e z q => cases h; exact ⟨_, _, rfl, w.sub _ _ e, q, z⟩
  | @cel n _ e =>
    replace h : (match M.c n with | some (.dic l) => some l | _ => none) = some l := h
    split at h
    · rename_i q1 q2
      cases h
      obtain ⟨a, e1, _, vs, e2, z, q⟩ := w.cel _ _ q2
      rw [e] at e1
      cases e1
      exact ⟨_, vs, rfl, e2, q, z⟩
    · cases h
  | _ => cases h
/-- either -/
theorem seq_read {l : List Va} (w : Wd G R ρ M H) (r : VR G R ρ x v) (h : seqOf M x = some l) : ∃ a vs, v = .ref a ∧ (SqL G.K H a vs ∨ SqT G.K H a vs) ∧ VRs G R ρ l vs ∧ l.length ≤ sizeLine := by
  cases x with
  | tup l' =>
    obtain ⟨a, vs, e1, e2, q, z⟩ := tup_read w r h
    exact ⟨a, vs, e1, .inr (.of e2), q, z⟩
  | _ =>
    obtain ⟨a, vs, e1, e2, q, z⟩ := lst_read w r h
    exact ⟨a, vs, e1, .inl e2, q, z⟩
end

/-! ### from one part to the next -/
section
variable {G : Sig} {E : XK} {σ : St} {H : Hp} {R : Hp} {ρ : List Addr} {s : SL} {M : Store}
theorem stepE {ea : SE} {k : Va → Store → Res} {Q Q' : VK} (w : Wd G R ρ M H) (sr : SR G R ρ s σ) (p : Post G R ρ H (bindO (ea s M) k) Q E)
    (hk : ∀ R' ρ' M' H' va v, Ext R ρ H R' ρ' H' → Wd G R' ρ' M' H' → SR G R' ρ' s σ → VR G R' ρ' va v → Post G R' ρ' H' (k va M') Q E → Q' v H') : tE G E ea σ H Q' := by
  refine ⟨R, ρ, s, M, w, sr, ?_⟩
  rcases q : ea s M with _ | ⟨x | ⟨c, x⟩, M1⟩ <;> rw [q] at p
  · exact p
  · exact fun R' ρ' H' v e w' r => hk R' ρ' M1 H' x v e w' (sr.mono e.gr) r (p.ext e)
  · exact p
theorem stepA {ea : SE} {k : List Va → Store → Res} {Q : VK} {Q' : List V → Hp → Prop} (w : Wd G R ρ M H) (sr : SR G R ρ s σ)
    (p : Post G R ρ H (bindO (ea s M) fun t M1 => match t with | .tup l => k l M1 | _ => none) Q E)
    (hk : ∀ R' ρ' M' H' l vs, Ext R ρ H R' ρ' H' → Wd G R' ρ' M' H' → SR G R' ρ' s σ → VRs G R' ρ' l vs → Post G R' ρ' H' (k l M') Q E → Q' vs H') : tA G E ea σ H Q' := by
  refine ⟨R, ρ, s, M, w, sr, ?_⟩
  rcases q : ea s M with _ | ⟨x | ⟨c, x⟩, M1⟩ <;> rw [q] at p
  · exact p
  · cases x <;> first | exact p | skip
    exact fun R' ρ' H' vs e w' r => hk R' ρ' M1 H' _ vs e w' (sr.mono e.gr) r (Post.ext e p)
  · exact p
theorem stepT {ea : SE} {k : Bool → Store → Res} {Q : VK} {Q' : Bool → Hp → Prop} (w : Wd G R ρ M H) (sr : SR G R ρ s σ)
    (p : Post G R ρ H (bindO (ea s M) fun t M1 => match t with | .bl b => k b M1 | _ => none) Q E)
    (hk : ∀ R' ρ' M' H' b, Ext R ρ H R' ρ' H' → Wd G R' ρ' M' H' → SR G R' ρ' s σ → Post G R' ρ' H' (k b M') Q E → Q' b H') : tT G E ea σ H Q' := by
  refine ⟨R, ρ, s, M, w, sr, ?_⟩
  rcases q : ea s M with _ | ⟨x | ⟨c, x⟩, M1⟩ <;> rw [q] at p
  · exact p
  · cases x <;> first | exact p | skip
    exact fun R' ρ' H' e w' => hk R' ρ' M1 H' _ e w' (sr.mono e.gr) (Post.ext e p)
  · exact p
end

/-! ### the forms of expressions -/
def evVar (i : Nat) : SE := fun s M => match s[i]? with
  | some (some v) => some (.val v, M)
  | _ => none
def evC (v : Va) : SE := fun _ M => some (.val v, M)
def ev1 (g : Store → Va → Option Va) (ea : SE) : SE := fun s M => bindO (ea s M) fun va M1 => match g M1 va with
  | some r => some (.val r, M1)
  | none => none
def ev2 (g : Store → Va → Va → Option Va) (ea eb : SE) : SE := fun s M => bindO (ea s M) fun va M1 => bindO (eb s M1) fun vb M2 => match g M2 va vb with
  | some r => some (.val r, M2)
  | none => none
def evNil : SE := fun _ M => some (.val (.tup []), M)
def evCons (e r : SE) : SE := fun s M => bindO (e s M) fun v M1 => bindO (r s M1) fun t M2 => match t with
  | .tup l => some (.val (.tup (v :: l)), M2)
  | _ => none
/-- with a list of arguments -/
def evL (k : List Va → Store → Res) (ea : SE) : SE := fun s M => bindO (ea s M) fun t M1 => match t with
  | .tup l => k l M1
  | _ => none
def kTup (l : List Va) (M : Store) : Res := if l.length ≤ sizeLine then some (.val (.tup l), M) else none
def kLst (l : List Va) (M : Store) : Res := if l.length ≤ sizeLine then some (.val (.lst l), M) else none
def kNew (l : List Va) (M : Store) : Res := if l.length ≤ sizeLine then some (.val (.cel M.nx), M.new (.lst l)) else none
def kPure (g : Store → List Va → Option Va) (l : List Va) (M : Store) : Res := match g M l with
  | some r => some (.val r, M)
  | none => none
/-- a method: the object, then the arguments -/
def evM (k : Va → List Va → Store → Res) (eo ea : SE) : SE := fun s M => bindO (eo s M) fun o M1 => bindO (ea s M1) fun t M2 => match t with
  | .tup l => k o l M2
  | _ => none
def evIf (t a b : SE) : SE := fun s M => bindO (t s M) fun c M1 => match c with
  | .bl true => a s M1
  | .bl false => b s M1
  | _ => none
def evAnd (a b : SE) : SE := fun s M => bindO (a s M) fun c M1 => match c with
  | .bl true => b s M1
  | .bl false => some (.val (.bl false), M1)
  | _ => none
def evOr (a b : SE) : SE := fun s M => bindO (a s M) fun c M1 => match c with
  | .bl true => some (.val (.bl true), M1)
  | .bl false => b s M1
  | _ => none
def evNot (a : SE) : SE := fun s M => bindO (a s M) fun c M1 => match c with
  | .bl b => some (.val (.bl (!b)), M1)
  | _ => none
/-- a list cell becomes a datum -/
def frzO (r : Res) : Res := match r with
  | some (.val (.cel n), M) => match M.c n with
    | some (.lst l) => some (.val (.lst l), M.del n)
    | some (.dic l) => some (.val (.dic l), M.del n)
    | _ => some (.val (.cel n), M)
  | r => r
def evFrz (a : SE) : SE := fun s M => frzO (a s M)
/-- a chain of two comparisons -/
def evChain (g g' : Store → Va → Va → Option Va) (ea eb ec : SE) : SE := fun s M => bindO (ea s M) fun va M1 => bindO (eb s M1) fun vb M2 => match g M2 va vb with
  | some (.bl true) => bindO (ec s M2) fun vc M3 => match g' M3 vb vc with
    | some (.bl b) => some (.val (.bl b), M3)
    | _ => none
  | some (.bl false) => some (.val (.bl false), M2)
  | _ => none

/-! ### what an operation, a call, a method gives -/
def Op1 (G : Sig) (r : V → Hp → VK → Prop) (g : Store → Va → Option Va) : Prop := ∀ R ρ M H x va res (Q : VK), Wd G R ρ M H → VR G R ρ va x → g M va = some res → Gives G R ρ H M res Q → r x H Q
def Op2 (G : Sig) (r : R2) (g : Store → Va → Va → Option Va) : Prop := ∀ R ρ M H x y va vb res (Q : VK), Wd G R ρ M H → VR G R ρ va x → VR G R ρ vb y → g M va vb = some res → Gives G R ρ H M res Q → r x y H Q
def OpL (G : Sig) (r : List V → Hp → VK → Prop) (k : List Va → Store → Res) : Prop := ∀ R ρ M H xs l (Q : VK) (E : XK), Wd G R ρ M H → VRs G R ρ l xs → Post G R ρ H (k l M) Q E → r xs H Q
def OpM (G : Sig) (T : String) (r : V → List V → Hp → VK → Prop) (k : Va → List Va → Store → Res) : Prop := ∀ R ρ M H x xs o l (Q : VK) (E : XK), Wd G R ρ M H → VR G R ρ o x → VRs G R ρ l xs → Post G R ρ H (k o l M) Q E → r x xs H Q
/-- the object's type is right -/
def TyM (G : Sig) (T : String) (k : Va → List Va → Store → Res) : Prop := ∀ R ρ M H x o, Wd G R ρ M H → VR G R ρ o x → (∀ l M', k o l M' = none) ∨ tyV G.K T x H
theorem gives_now {G : Sig} {R : Hp} {ρ : List Addr} {M : Store} {H : Hp} {x : Va} {v : V} {Q : VK} (w : Wd G R ρ M H) (r : VR G R ρ x v) (g : Gives G R ρ H M x Q) : Q v H := g R ρ H v Ext.refl w r
theorem gives_tup {G : Sig} {R : Hp} {ρ : List Addr} {M : Store} {H : Hp} {l : List Va} {vs : List V} {p : Addr} {Q : VK} (w : Wd G R ρ M H) (r : VRs G R ρ l vs) (z : l.length ≤ sizeLine) (g : Gives G R ρ H M (.tup l) Q) (hp : H p = none) : Q (.ref p) (upd H p (.tup vs)) := by
  obtain ⟨e, w'⟩ := alloc_frz (o := .tup vs) w hp
  exact g _ _ _ _ e w' (.tup upd_same z (r.mono e.gr))
theorem gives_lst {G : Sig} {R : Hp} {ρ : List Addr} {M : Store} {H : Hp} {l : List Va} {vs : List V} {p : Addr} {Q : VK} (w : Wd G R ρ M H) (r : VRs G R ρ l vs) (z : l.length ≤ sizeLine) (g : Gives G R ρ H M (.lst l) Q) (hp : H p = none) : Q (.ref p) (upd H p (.lst vs)) := by
  obtain ⟨e, w'⟩ := alloc_frz (o := .lst vs) w hp
  exact g _ _ _ _ e w' (.lst upd_same z (r.mono e.gr))
theorem gives_dic {G : Sig} {R : Hp} {ρ : List Addr} {M : Store} {H : Hp} {l : List (Key × Va)} {vs : List (Key × V)} {p : Addr} {Q : VK} (w : Wd G R ρ M H) (r : VRk G R ρ l vs) (z : l.length ≤ sizeLine) (g : Gives G R ρ H M (.dic l) Q) (hp : H p = none) : Q (.ref p) (upd H p (.dK vs)) := by
  obtain ⟨e, w'⟩ := alloc_frz (o := .dK vs) w hp
  exact g _ _ _ _ e w' (.dic upd_same z (r.mono e.gr))
theorem gives_new {G : Sig} {R : Hp} {ρ : List Addr} {M : Store} {H : Hp} {l : List Va} {vs : List V} {p : Addr} {Q : VK} (w : Wd G R ρ M H) (r : VRs G R ρ l vs) (z : l.length ≤ sizeLine) (g : Gives G R ρ H (M.new (.lst l)) (.cel M.nx) Q) (hp : H p = none) : Q (.ref p) (upd H p (.lst vs)) := by
  obtain ⟨e, w', h⟩ := alloc_cel (o := .lst vs) (x := .lst l) w hp ⟨vs, upd_same, z, r⟩
  exact g _ _ _ _ e w' (.cel h)

section
variable {X : Cx} {G : Sig} {E : XK} {a b c : Expr} {es : List Expr} {ea eb ec : SE} {pos : Pos}
theorem qv (i : Nat) {x : Str} (hN : X.N[i]? = some x := by rfl) (hv : Vis X.env.scope x := by first | exact Or.inl rfl | exact Or.inr (Or.inl rfl) | exact Or.inr (Or.inr rfl)) (hd : (x == ("__debug__" : Str)) = false := by decide)
    (hcd : (x == ("__classdict__" : Str)) = false := by decide) : PE X (.Name x pos) (tE G E (evVar i)) := by
  refine pe_imp (pe_var hN hv hd hcd) fun σ H Q ⟨R, ρ, s, M, w, sr, p⟩ => ?_
  unfold evVar at p
  rcases q : s[i]? with _ | _ | v <;> rw [q] at p
  · exact False.elim p
  · exact False.elim p
  · obtain ⟨u, h1, h2⟩ := sr.at_ i v q
    exact ⟨u, h1, gives_now w h2 p⟩
theorem qc_int {i j} : PE X (.Constant (.int i) j pos) (tE G E (evC (.int i))) := pe_imp pe_int fun σ H Q ⟨R, ρ, s, M, w, sr, p⟩ => gives_now w (.int i) p
theorem qc_bl {i j} : PE X (.Constant (.bool i) j pos) (tE G E (evC (.bl i))) := pe_imp pe_bl fun σ H Q ⟨R, ρ, s, M, w, sr, p⟩ => gives_now w (.bl i) p
theorem qc_str {i j} : PE X (.Constant (.str i) j pos) (tE G E (evC (.str i))) := pe_imp pe_str fun σ H Q ⟨R, ρ, s, M, w, sr, p⟩ => gives_now w (.str i) p
theorem qc_non {j} : PE X (.Constant .none j pos) (tE G E (evC .non)) := pe_imp pe_non fun σ H Q ⟨R, ρ, s, M, w, sr, p⟩ => gives_now w .non p
/-- a module's constant: a text or an int -/
theorem qg_str {x z : Str} {t : Tok} (hg : Gl X x) (hm : X.mg x = some (.str z t)) (hd : (x == ("__debug__" : Str)) = false := by decide) : PE X (.Name x pos) (tE G E (evC (.str z))) :=
  pe_imp (pe_glob (v := .str z) hg hm ⟨t, rfl⟩ hd) fun σ H Q ⟨R, ρ, s, M, w, sr, p⟩ => gives_now w (.str z) p
theorem qg_int {x : Str} {z : Int} {t : Tok} (hg : Gl X x) (hm : X.mg x = some (.int z t)) (hd : (x == ("__debug__" : Str)) = false := by decide) : PE X (.Name x pos) (tE G E (evC (.int z))) :=
  pe_imp (pe_glob (v := .int z) hg hm ⟨t, rfl⟩ hd) fun σ H Q ⟨R, ρ, s, M, w, sr, p⟩ => gives_now w (.int z) p

theorem qg_strE {x z : Str} (hg : Gl X x) (hm : ∃ t, X.mg x = some (.str z t)) (hd : (x == ("__debug__" : Str)) = false := by decide) : PE X (.Name x pos) (tE G E (evC (.str z))) := by
  obtain ⟨t, h⟩ := hm
  exact qg_str hg h hd
theorem qg_intE {x : Str} {z : Int} (hg : Gl X x) (hm : ∃ t, X.mg x = some (.int z t)) (hd : (x == ("__debug__" : Str)) = false := by decide) : PE X (.Name x pos) (tE G E (evC (.int z))) := by
  obtain ⟨t, h⟩ := hm
  exact qg_int hg h hd
theorem two {r : R2} {g : Store → Va → Va → Option Va} (hs : Op2 G r g) {σ : St} {H : Hp} {Q : VK} (h : tE G E (ev2 g ea eb) σ H Q) : tOp r (tE G E ea) (tE G E eb) σ H Q := by
  obtain ⟨R, ρ, s, M, w, sr, p⟩ := h
  refine stepE w sr p fun R1 ρ1 M1 H1 va v e1 w1 sr1 r1 p1 => ?_
  refine stepE w1 sr1 p1 fun R2 ρ2 M2 H2 vb u e2 w2 sr2 r2 p2 => ?_
  cases q : g M2 va vb with
  | none => rw [q] at p2; exact False.elim p2
  | some res => rw [q] at p2; exact hs R2 ρ2 M2 H2 v u va vb res Q w2 (r1.mono e2.gr) r2 q p2
theorem q_op {op : Operator} {r : R2} {g : Store → Va → Va → Option Va} (ho : OpR X (binaryOp op) r) (hs : Op2 G r g) (ha : PE X a (tE G E ea)) (hb : PE X b (tE G E eb)) : PE X (.BinOp a op b pos) (tE G E (ev2 g ea eb)) :=
  pe_imp (pe_op ho ha hb) fun σ H Q h => two hs h
theorem q_cmp {op : CmpOp} {r : R2} {g : Store → Va → Va → Option Va} (ho : OpR X (compareOp op) r) (hs : Op2 G r g) (ha : PE X a (tE G E ea)) (hb : PE X b (tE G E eb)) (hm : behindInMarks op b = false) : PE X (.Compare a [op] [b] pos) (tE G E (ev2 g ea eb)) :=
  pe_imp (pe_cmpR ho ha hb hm) fun σ H Q h => two hs h
theorem q_ix {r : R2} {g : Store → Va → Va → Option Va} (ho : IxR X r) (hs : Op2 G r g) (ha : PE X a (tE G E ea)) (hb : PE X b (tE G E eb)) (hm : PlainIx b := by exact fun _ _ => rfl) : PE X (.Subscript a b pos) (tE G E (ev2 g ea eb)) :=
  pe_imp (pe_ix ho ha hb hm) fun σ H Q h => two hs h
theorem q_un {op : UnaryOp} {r : V → Hp → VK → Prop} {g : Store → Va → Option Va} (ho : UnR X (unaryOp op) r) (hs : Op1 G r g) (ha : PE X a (tE G E ea)) : PE X (.UnaryOp op a pos) (tE G E (ev1 g ea)) :=
  pe_imp (pe_un ho ha) fun σ H Q ⟨R, ρ, s, M, w, sr, p⟩ => stepE w sr p fun R1 ρ1 M1 H1 va v e1 w1 sr1 r1 p1 => by
    cases q : g M1 va with
    | none => rw [q] at p1; exact False.elim p1
    | some res => rw [q] at p1; exact hs R1 ρ1 M1 H1 v va res Q w1 r1 q p1

/-! #### arguments, displays -/
theorem qa_nil : PA X [] (tA G E evNil) := pa_imp pa_nil fun σ H Q ⟨R, ρ, s, M, w, sr, p⟩ => p R ρ H [] Ext.refl w .nil
theorem qa_cons (ha : PE X a (tE G E ea)) (hr : PA X es (tA G E eb)) (hs : starEach (a :: es) X.env = (false, eval a X.env) :: starEach es X.env := by rfl) : PA X (a :: es) (tA G E (evCons ea eb)) :=
  pa_imp (pa_cons ha hr hs) fun σ H Q ⟨R, ρ, s, M, w, sr, p⟩ => by
    refine ⟨R, ρ, s, M, w, sr, ?_⟩
    replace p : PostA G R ρ H (bindO (ea s M) fun v M1 => bindO (eb s M1) fun t M2 => match t with | .tup l => some (.val (.tup (v :: l)), M2) | _ => none) Q E := p
    rcases q : ea s M with _ | ⟨x | ⟨c, x⟩, M1⟩ <;> rw [q] at p
    · exact p
    · intro R1 ρ1 H1 v e1 w1 r1
      refine ⟨R1, ρ1, s, M1, w1, sr.mono e1.gr, ?_⟩
      rw [bindO_val] at p
      rcases q2 : eb s M1 with _ | ⟨y | ⟨c, y⟩, M2⟩ <;> rw [q2] at p
      · exact p
      · cases y <;> first | exact p | skip
        intro R2 ρ2 H2 vs e2 w2 r2
        exact p R2 ρ2 H2 (v :: vs) (e1.trans e2) w2 (.cons (r1.mono e2.gr) r2)
      · exact PostX.ext e1 p
    · exact p
theorem q_tup {k} (h : PA X es (tA G E ea)) : PE X (.Tuple es k pos) (tE G E (evL kTup ea)) :=
  pe_imp (pe_tup h) fun σ H Q ⟨R, ρ, s, M, w, sr, p⟩ => stepA w sr p fun R1 ρ1 M1 H1 l vs e1 w1 sr1 r1 p1 => by
    unfold kTup at p1
    split at p1
    · rename_i hz
      exact ⟨by rw [← r1.length]; exact hz, fun q hq => gives_tup w1 r1 hz p1 hq⟩
    · exact False.elim p1
theorem q_lst (h : PA X es (tA G E ea)) : PE X (.List es pos) (tE G E (evL kLst ea)) :=
  pe_imp (pe_lst h) fun σ H Q ⟨R, ρ, s, M, w, sr, p⟩ => stepA w sr p fun R1 ρ1 M1 H1 l vs e1 w1 sr1 r1 p1 => by
    unfold kLst at p1
    split at p1
    · rename_i hz
      exact ⟨by rw [← r1.length]; exact hz, fun q hq => gives_lst w1 r1 hz p1 hq⟩
    · exact False.elim p1
/-- a list that will change -/
theorem q_lstC (h : PA X es (tA G E ea)) : PE X (.List es pos) (tE G E (evL kNew ea)) :=
  pe_imp (pe_lst h) fun σ H Q ⟨R, ρ, s, M, w, sr, p⟩ => stepA w sr p fun R1 ρ1 M1 H1 l vs e1 w1 sr1 r1 p1 => by
    unfold kNew at p1
    split at p1
    · rename_i hz
      exact ⟨by rw [← r1.length]; exact hz, fun q hq => gives_new w1 r1 hz p1 hq⟩
    · exact False.elim p1
theorem q_frz (h : PE X a (tE G E ea)) : PE X a (tE G E (evFrz ea)) :=
  pe_imp h fun σ H Q ⟨R, ρ, s, M, w, sr, p⟩ => by
    refine ⟨R, ρ, s, M, w, sr, ?_⟩
    unfold evFrz at p
    rcases q : ea s M with _ | ⟨x | ⟨c, x⟩, M1⟩ <;> rw [q] at p
    · exact p
    · cases x <;> first | exact p | skip
      rename_i n
      unfold frzO at p
      dsimp only at p
      cases q2 : M1.c n with
      | none => rw [q2] at p; exact p
      | some y =>
        rw [q2] at p
        cases y with
        | ins c l => exact p
        | lst l =>
          intro R1 ρ1 H1 v e1 w1 r1
          obtain ⟨b, eb, rb, vs, hb, z, rv⟩ := w1.cel n _ q2
          cases r1 with
          | cel e' =>
            rw [e'] at eb
            cases eb
            obtain ⟨e2, w2⟩ := freeze_cel w1 q2 e' hb
            exact p _ _ _ _ (e1.trans e2) w2 (.lst upd_same z (rv.mono e2.gr))
        | dic l =>
          intro R1 ρ1 H1 v e1 w1 r1
          obtain ⟨b, eb, rb, vs, hb, z, rv⟩ := w1.cel n _ q2
          cases r1 with
          | cel e' =>
            rw [e'] at eb
            cases eb
            obtain ⟨e2, w2⟩ := freeze_cel w1 q2 e' hb
            exact p _ _ _ _ (e1.trans e2) w2 (.dic upd_same z (rv.mono e2.gr))
    · exact p

/-! #### calls of what is built in -/
variable {x : Str} {p' : Pos} {id T : String} {r : List V → Hp → VK → Prop} {k : List Va → Store → Res}
theorem q_callB (hc : CallR X (.builtin id) r) (hs : OpL G r k) (hg : Gl X x) (hm : X.mg x = none) (hv : bootBuiltins x = some (.builtin id)) (ha : PA X (a :: es) (tA G E ea)) (hn : x ≠ "__name__" := by decide) (hdb : (x == ("__debug__" : Str)) = false := by decide)
    (he : starEach (a :: es) X.env = (false, eval a X.env) :: starEach es X.env := by rfl) (hpl : (backTo pos (starEach es X.env)).any (·.1) = false := by rfl) : PE X (.Call (.Name x p') (a :: es) [] pos) (tE G E (evL k ea)) :=
  pe_imp (pe_callB hc hg hm hv ha hn hdb he hpl) fun σ H Q ⟨R, ρ, s, M, w, sr, p⟩ => stepA w sr p fun R1 ρ1 M1 H1 l vs e1 w1 sr1 r1 p1 => hs R1 ρ1 M1 H1 vs l Q E w1 r1 p1
theorem q_callTy (hc : CallR X (.type T) r) (hs : OpL G r k) (hg : Gl X x) (hm : X.mg x = none) (hv : bootBuiltins x = some (.type T)) (ha : PA X (a :: es) (tA G E ea)) (hn : x ≠ "__name__" := by decide) (hdb : (x == ("__debug__" : Str)) = false := by decide)
    (he : starEach (a :: es) X.env = (false, eval a X.env) :: starEach es X.env := by rfl) (hpl : (backTo pos (starEach es X.env)).any (·.1) = false := by rfl) : PE X (.Call (.Name x p') (a :: es) [] pos) (tE G E (evL k ea)) :=
  pe_imp (pe_callTy hc hg hm hv ha hn hdb he hpl) fun σ H Q ⟨R, ρ, s, M, w, sr, p⟩ => stepA w sr p fun R1 ρ1 M1 H1 l vs e1 w1 sr1 r1 p1 => hs R1 ρ1 M1 H1 vs l Q E w1 r1 p1

/-! #### tests -/
theorem toT {σ : St} {H : Hp} {Q : Bool → Hp → Prop} (h : tT G E ea σ H Q) : tE G E ea σ H fun x H1 => ∃ k, x = .bl k ∧ Q k H1 := by
  obtain ⟨R, ρ, s, M, w, sr, p⟩ := h
  refine ⟨R, ρ, s, M, w, sr, ?_⟩
  rcases q : ea s M with _ | ⟨x | ⟨c, x⟩, M1⟩ <;> rw [q] at p
  · exact p
  · cases x <;> first | exact False.elim p | skip
    intro R1 ρ1 H1 v e1 w1 r1
    cases r1
    exact ⟨_, rfl, p R1 ρ1 H1 e1 w1⟩
  · exact p
theorem qt_cmp {op : CmpOp} {r : R2} {g : Store → Va → Va → Option Va} (ho : OpR X (compareOp op) r) (hs : Op2 G r g) (ha : PE X a (tE G E ea)) (hb : PE X b (tE G E eb)) (hm : behindInMarks op b = false) : PT X (.Compare a [op] [b] pos) (tT G E (ev2 g ea eb)) :=
  pt_imp (pt_cmpR ho ha hb hm) fun σ H Q h => two hs (toT h)
theorem qt_val (ha : PE X a (tE G E ea)) (he : ∀ whole, isTrue a X.env whole = (do let v ← whole; standAt a.pos; holding [v] (truthy v)) := by intro _; rfl) : PT X a (tT G E ea) :=
  pt_imp (pt_val ha he) fun σ H Q h => toT h
def truO (M : Store) : Va → Option Bool
  | .non => some false
  | .bl b => some b
  | .int i => some (i != 0)
  | .str z => if z.length ≤ sizeLine then some ((z.length : Int) != 0) else none
  | .dic l => some (!l.isEmpty)
  | x => (seqOf M x).map fun l => !l.isEmpty
def evTru (a : SE) : SE := ev1 (fun M x => (truO M x).map Va.bl) a
theorem VRs.isEmpty {R : Hp} {ρ : List Addr} : ∀ {l : List Va} {vs : List V}, VRs G R ρ l vs → l.isEmpty = vs.isEmpty
  | _, _, .nil => rfl
  | _, _, .cons _ _ => rfl
theorem VRk.isEmpty {R : Hp} {ρ : List Addr} : ∀ {l : List (Key × Va)} {vs : List (Key × V)}, VRk G R ρ l vs → l.isEmpty = vs.isEmpty
  | _, _, .nil => rfl
  | _, _, .cons _ _ => rfl
theorem tru_of {R : Hp} {ρ : List Addr} {M : Store} {H : Hp} {x : Va} {v : V} {k : Bool} (w : Wd G R ρ M H) (r : VR G R ρ x v) (h : truO M x = some k) : TruV G.K v H k := by
  have sq : ∀ l, seqOf M x = some l → k = !l.isEmpty → TruV G.K v H k := fun l h1 h2 => by
    obtain ⟨a, vs, rfl, q, rv, _⟩ := seq_read w r h1
    rw [rv.isEmpty] at h2
    rcases q with q | q
    · exact .inl ⟨vs, q, h2⟩
    · exact .inr (.inl ⟨vs, q, h2⟩)
  have sq' : (seqOf M x).map (fun l => !l.isEmpty) = some k → TruV G.K v H k := fun h => by
    cases q : seqOf M x with
    | none => rw [q] at h; cases h
    | some l => rw [q] at h; cases h; exact sq l q rfl
  cases r with
  | non => cases h; rfl
  | bl b => cases h; rfl
  | int i => cases h; rfl
  | str z =>
    replace h : (if z.length ≤ sizeLine then some ((z.length : Int) != 0) else none) = some k := h
    by_cases hz : z.length ≤ sizeLine
    · rw [if_pos hz] at h; cases h; exact ⟨hz, rfl⟩
    · rw [if_neg hz] at h; cases h
  | dic e z q => cases h; exact .inr (.inr ⟨_, w.sub _ _ e, by rw [q.isEmpty]⟩)
  | lst e z q => exact sq' h
  | tup e z q => exact sq' h
  | cel e => exact sq' h
  | scr e z => exact sq' h
theorem qt_tru (hK : X.K = G.K) (ha : PE X a (tE G E ea)) (he : ∀ whole, isTrue a X.env whole = (do let v ← whole; standAt a.pos; holding [v] (truthy v)) := by intro _; rfl) : PT X a (tT G E (evTru ea)) :=
  pt_imp (pt_truth ha he) fun σ H Q ⟨R, ρ, s, M, w, sr, p⟩ => by
    replace p : PostT G R ρ H (bindO (ea s M) fun va M1 => match (truO M1 va).map Va.bl with | some r => some (.val r, M1) | none => none) Q E := p
    refine ⟨R, ρ, s, M, w, sr, ?_⟩
    rcases q : ea s M with _ | ⟨x | ⟨c, x⟩, M1⟩ <;> rw [q] at p
    · exact p
    · rw [bindO_val] at p
      intro R1 ρ1 H1 v e1 w1 r1
      cases q2 : truO M1 x with
      | none => rw [q2] at p; exact False.elim p
      | some k =>
        rw [q2] at p
        exact ⟨k, by rw [hK]; exact tru_of w1 r1 q2, p R1 ρ1 H1 e1 w1⟩
    · exact p
theorem stepTT {σ : St} {H : Hp} {R : Hp} {ρ : List Addr} {s : SL} {M : Store} {k : Bool → Store → Res} {Q Q' : Bool → Hp → Prop} (w : Wd G R ρ M H) (sr : SR G R ρ s σ)
    (p : PostT G R ρ H (bindO (ea s M) fun t M1 => match t with | .bl b => k b M1 | _ => none) Q E)
    (hk : ∀ R' ρ' M' H' b, Ext R ρ H R' ρ' H' → Wd G R' ρ' M' H' → SR G R' ρ' s σ → PostT G R' ρ' H' (k b M') Q E → Q' b H') : tT G E ea σ H Q' := by
  refine ⟨R, ρ, s, M, w, sr, ?_⟩
  rcases q : ea s M with _ | ⟨x | ⟨c, x⟩, M1⟩ <;> rw [q] at p
  · exact p
  · cases x <;> first | exact p | skip
    rename_i b
    refine fun R' ρ' H' e w' => hk R' ρ' M1 H' b e w' (sr.mono e.gr) ?_
    replace p : PostT G R ρ H (k b M1) Q E := p
    rcases z : k b M1 with _ | ⟨y | ⟨c, y⟩, M2⟩ <;> rw [z] at p
    · exact p
    · cases y <;> first | exact p | skip
      exact fun R2 ρ2 H2 e2 w2 => p R2 ρ2 H2 (e.trans e2) w2
    · exact PostX.ext e p
  · exact p
theorem and_eq {s : SL} {M : Store} : evAnd ea eb s M = bindO (ea s M) fun t M1 => match t with | .bl b => (fun b M1 => if b = true then eb s M1 else some (.val (.bl false), M1)) b M1 | _ => none := by
  unfold evAnd; congr 1; funext c M1; cases c <;> try rfl
  rename_i b; cases b <;> rfl
theorem or_eq {s : SL} {M : Store} : evOr ea eb s M = bindO (ea s M) fun t M1 => match t with | .bl b => (fun b M1 => if b = true then some (.val (.bl true), M1) else eb s M1) b M1 | _ => none := by
  unfold evOr; congr 1; funext c M1; cases c <;> try rfl
  rename_i b; cases b <;> rfl
theorem if_eq {s : SL} {M : Store} : evIf ec ea eb s M = bindO (ec s M) fun t M1 => match t with | .bl b => (fun b M1 => if b = true then ea s M1 else eb s M1) b M1 | _ => none := by
  unfold evIf; congr 1; funext c M1; cases c <;> try rfl
  rename_i b; cases b <;> rfl
variable {rest : List Expr}
theorem qw_and1 (ha : PT X a (tT G E ea)) : PW X (.BoolOp .And [a] pos) (tT G E ea) := pw_and1 ha
theorem qw_or1 (ha : PT X a (tT G E ea)) : PW X (.BoolOp .Or [a] pos) (tT G E ea) := pw_or1 ha
theorem qw_and (ha : PT X a (tT G E ea)) (hb : PW X (.BoolOp .And (b :: rest) pos) (tT G E eb)) : PW X (.BoolOp .And (a :: b :: rest) pos) (tT G E (evAnd ea eb)) :=
  pw_imp (pw_and ha hb) fun σ H Q ⟨R, ρ, s, M, w, sr, p⟩ => by
    rw [and_eq] at p
    refine stepTT w sr p fun R1 ρ1 M1 H1 b e1 w1 sr1 p1 => ?_
    cases b with
    | true => exact iteT ⟨R1, ρ1, s, M1, w1, sr1, p1⟩
    | false => exact iteF (p1 R1 ρ1 H1 Ext.refl w1)
theorem qw_or (ha : PT X a (tT G E ea)) (hb : PW X (.BoolOp .Or (b :: rest) pos) (tT G E eb)) : PW X (.BoolOp .Or (a :: b :: rest) pos) (tT G E (evOr ea eb)) :=
  pw_imp (pw_or ha hb) fun σ H Q ⟨R, ρ, s, M, w, sr, p⟩ => by
    rw [or_eq] at p
    refine stepTT w sr p fun R1 ρ1 M1 H1 b e1 w1 sr1 p1 => ?_
    cases b with
    | true => exact iteT (p1 R1 ρ1 H1 Ext.refl w1)
    | false => exact iteF ⟨R1, ρ1, s, M1, w1, sr1, p1⟩
theorem qt_pw {e : SE} (h : PW X a (tT G E e)) : PT X a (tT G E e) := h.pt
theorem qt_not (ha : PT X a (tT G E ea)) : PT X (.UnaryOp .Not a pos) (tT G E (evNot ea)) :=
  pt_imp (pt_not ha) fun σ H Q ⟨R, ρ, s, M, w, sr, p⟩ => stepTT (k := fun b M1 => some (.val (.bl (!b)), M1)) w sr p fun R1 ρ1 M1 H1 b e1 w1 sr1 p1 => p1 R1 ρ1 H1 Ext.refl w1
theorem q_if (hc : PT X c (tT G E ec)) (ha : PE X a (tE G E ea)) (hb : PE X b (tE G E eb)) : PE X (.IfExp c a b pos) (tE G E (evIf ec ea eb)) :=
  pe_imp (pe_ifExp hc ha hb) fun σ H Q ⟨R, ρ, s, M, w, sr, p⟩ => by
    rw [if_eq] at p
    refine stepT w sr p fun R1 ρ1 M1 H1 b e1 w1 sr1 p1 => ?_
    cases b with
    | true => exact iteT ⟨R1, ρ1, s, M1, w1, sr1, p1⟩
    | false => exact iteF ⟨R1, ρ1, s, M1, w1, sr1, p1⟩
/-- and, or, not as values (truth values) -/
theorem q_one {op} {e : SE} (h : PE X a (tE G E e)) : PE X (.BoolOp op [a] pos) (tE G E e) := pe_one h
theorem q_and (ha : PE X a (tE G E ea)) (hb : PE X (.BoolOp .And (b :: rest) pos) (tE G E eb)) : PE X (.BoolOp .And (a :: b :: rest) pos) (tE G E (evAnd ea eb)) :=
  pe_imp (pe_and ha hb) fun σ H Q ⟨R, ρ, s, M, w, sr, p⟩ => stepE w sr p fun R1 ρ1 M1 H1 va v e1 w1 sr1 r1 p1 => by
    cases r1 <;> first | exact False.elim p1 | skip
    rename_i b
    refine ⟨b, rfl, ?_⟩
    cases b with
    | true => exact iteT ⟨R1, ρ1, s, M1, w1, sr1, p1⟩
    | false => exact iteF (p1 R1 ρ1 H1 _ Ext.refl w1 (.bl false))
theorem q_or (ha : PE X a (tE G E ea)) (hb : PE X (.BoolOp .Or (b :: rest) pos) (tE G E eb)) : PE X (.BoolOp .Or (a :: b :: rest) pos) (tE G E (evOr ea eb)) :=
  pe_imp (pe_or ha hb) fun σ H Q ⟨R, ρ, s, M, w, sr, p⟩ => stepE w sr p fun R1 ρ1 M1 H1 va v e1 w1 sr1 r1 p1 => by
    cases r1 <;> first | exact False.elim p1 | skip
    rename_i b
    refine ⟨b, rfl, ?_⟩
    cases b with
    | true => exact iteT (p1 R1 ρ1 H1 _ Ext.refl w1 (.bl true))
    | false => exact iteF ⟨R1, ρ1, s, M1, w1, sr1, p1⟩
theorem q_not (ha : PE X a (tE G E ea)) : PE X (.UnaryOp .Not a pos) (tE G E (evNot ea)) :=
  pe_imp (pe_not ha) fun σ H Q ⟨R, ρ, s, M, w, sr, p⟩ => stepE w sr p fun R1 ρ1 M1 H1 va v e1 w1 sr1 r1 p1 => by
    cases r1 <;> first | exact False.elim p1 | skip
    rename_i b
    exact ⟨b, rfl, p1 R1 ρ1 H1 _ Ext.refl w1 (.bl _)⟩
end
end PV

set_option Elab.async false
set_option linter.all false
set_option maxRecDepth 100000
set_option maxHeartbeats 4000000
namespace PV
open PySem L2

/-! ### statements -/
inductive Fl where
  | nx | ret (v : Va) | bk | ct | exc (c : Nat) (v : Va)
abbrev RS := Option (Fl × SL × Store)
abbrev SS := SL → Store → RS
def Nxt (G : Sig) (R : Hp) (ρ : List Addr) (H : Hp) (s : SL) (M : Store) (k : St → Hp → Prop) : Prop :=
  ∀ R' ρ' H' σ', Ext R ρ H R' ρ' H' → Wd G R' ρ' M H' → SR G R' ρ' s σ' → k σ' H'
def PostS (G : Sig) (R : Hp) (ρ : List Addr) (H : Hp) (r : RS) (D : Ends) (E : XK) : Prop := match r with
  | none => False
  | some (.nx, s, M) => Nxt G R ρ H s M D.nx
  | some (.ret x, _, M) => Gives G R ρ H M x D.rt
  | some (.bk, s, M) => Nxt G R ρ H s M D.bk
  | some (.ct, s, M) => Nxt G R ρ H s M D.ct
  | some (.exc c x, _, M) => PostX G R ρ H M E c x
def tS (G : Sig) (E : XK) (es : SS) : TS := fun D σ H => ∃ R ρ s M, Wd G R ρ M H ∧ SR G R ρ s σ ∧ PostS G R ρ H (es s M) D E
section
variable {G : Sig} {E : XK} {σ : St} {H H' : Hp} {R R' : Hp} {ρ ρ' : List Addr} {s : SL} {M : Store} {D : Ends}
theorem Nxt.ext {k : St → Hp → Prop} (e : Ext R ρ H R' ρ' H') (p : Nxt G R ρ H s M k) : Nxt G R' ρ' H' s M k := fun R2 ρ2 H2 σ2 e2 w r => p R2 ρ2 H2 σ2 (e.trans e2) w r
theorem PostS.ext {r : RS} (e : Ext R ρ H R' ρ' H') (p : PostS G R ρ H r D E) : PostS G R' ρ' H' r D E := by
  rcases r with _ | ⟨_ | x | _ | _ | ⟨c, x⟩, s, M⟩
  · exact p
  · exact Nxt.ext e p
  · exact Gives.ext e p
  · exact Nxt.ext e p
  · exact Nxt.ext e p
  · exact PostX.ext e p
theorem nxt_now {k : St → Hp → Prop} (w : Wd G R ρ M H) (sr : SR G R ρ s σ) (p : Nxt G R ρ H s M k) : k σ H := p R ρ H σ Ext.refl w sr
end
/-- first an expression -/
def sE (e : SE) (k : Va → SS) : SS := fun s M => match e s M with
  | none => none
  | some (.val v, M1) => k v s M1
  | some (.exc c v, M1) => some (.exc c v, s, M1)
def sNx : SS := fun s M => some (.nx, s, M)
def sBk : SS := fun s M => some (.bk, s, M)
def sCt : SS := fun s M => some (.ct, s, M)
def sNever : SS := fun _ _ => none
def sRetN : SS := fun s M => some (.ret .non, s, M)
def sRet (e : SE) : SS := sE e fun v s M => some (.ret v, s, M)
def sSet (i : Nat) (e : SE) : SS := sE e fun v s M => some (.nx, s.set i (some v), M)
def sDrop (e : SE) : SS := sE e fun _ s M => some (.nx, s, M)
def sIf (t : SE) (a b : SS) : SS := sE t fun v s M => match v with
  | .bl true => a s M
  | .bl false => b s M
  | _ => none
def sSeq (a b : SS) : SS := fun s M => match a s M with
  | some (.nx, s1, M1) => b s1 M1
  | r => r
/-- an operation in place, a value into a target: what they do to the store -/
abbrev Tgt := Va → SL → Store → Option SL
def tgName (i : Nat) : Tgt := fun v s _ => some (s.set i (some v))
def tgAll : List Tgt → List Va → SL → Store → Option SL
  | [], [], s, _ => some s
  | t :: ts, v :: vs, s, M => match t v s M with
    | some s1 => tgAll ts vs s1 M
    | none => none
  | _, _, _, _ => none
def tgTup (ts : List Tgt) : Tgt := fun v s M => match tupOf v with
  | some l => tgAll ts l s M
  | none => none
def sAsg (e : SE) (t : Tgt) : SS := sE e fun v s M => match t v s M with
  | some s1 => some (.nx, s1, M)
  | none => none
/-- o[i] = e -/
def sSub (e eo ei : SE) (g : Va → Va → Va → Store → Option Store) : SS := sE e fun v s M => sE eo (fun o s M => sE ei (fun i s M => match g o i v M with
  | some M1 => some (.nx, s, M1)
  | none => none) s M) s M
/-- o.f = e -/
def putA (f : Str) (v : Va) : List (Str × Va) → List (Str × Va)
  | [] => [(f, v)]
  | (g, u) :: r => if g = f then (g, v) :: r else (g, u) :: putA f v r

section
variable {G : Sig} {E : XK} {σ : St} {H : Hp} {R : Hp} {ρ : List Addr} {s : SL} {M : Store} {D : Ends}
theorem stepS {ea : SE} {k : Va → SS} {Q' : VK} (w : Wd G R ρ M H) (sr : SR G R ρ s σ) (p : PostS G R ρ H (sE ea k s M) D E)
    (hk : ∀ R' ρ' M' H' va v, Ext R ρ H R' ρ' H' → Wd G R' ρ' M' H' → SR G R' ρ' s σ → VR G R' ρ' va v → PostS G R' ρ' H' (k va s M') D E → Q' v H') : tE G E ea σ H Q' := by
  refine ⟨R, ρ, s, M, w, sr, ?_⟩
  unfold sE at p
  rcases q : ea s M with _ | ⟨x | ⟨c, x⟩, M1⟩ <;> rw [q] at p
  · exact p
  · exact fun R' ρ' H' v e w' r => hk R' ρ' M1 H' x v e w' (sr.mono e.gr) r (p.ext e)
  · exact p
theorem stepST {ea : SE} {k : Bool → SS} {Q' : Bool → Hp → Prop} (w : Wd G R ρ M H) (sr : SR G R ρ s σ) (p : PostS G R ρ H (sE ea (fun v s M => match v with | .bl b => k b s M | _ => none) s M) D E)
    (hk : ∀ R' ρ' M' H' b, Ext R ρ H R' ρ' H' → Wd G R' ρ' M' H' → SR G R' ρ' s σ → PostS G R' ρ' H' (k b s M') D E → Q' b H') : tT G E ea σ H Q' := by
  refine ⟨R, ρ, s, M, w, sr, ?_⟩
  unfold sE at p
  rcases q : ea s M with _ | ⟨x | ⟨c, x⟩, M1⟩ <;> rw [q] at p
  · exact p
  · cases x <;> first | exact p | skip
    exact fun R' ρ' H' e w' => hk R' ρ' M1 H' _ e w' (sr.mono e.gr) (PostS.ext e p)
  · exact p
end

section
variable {X : Cx} {G : Sig} {E : XK} {a b c : Expr} {es : List Expr} {st : Stmt} {sts : List Stmt} {ea eb ec : SE} {sa sb : SS} {pos : Pos}
theorem qss_nil : PSs X [] (tS G E sNx) := pss_imp pss_nil fun D σ H ⟨R, ρ, s, M, w, sr, p⟩ => nxt_now w sr p
theorem qss_one (h : PS X st (tS G E sa)) : PSs X [st] (tS G E sa) := pss_one h
theorem qss_cons (h1 : PS X st (tS G E sa)) (h2 : PSs X sts (tS G E sb)) : PSs X (st :: sts) (tS G E (sSeq sa sb)) :=
  pss_imp (pss_cons h1 h2) fun D σ H ⟨R, ρ, s, M, w, sr, p⟩ => by
    refine ⟨R, ρ, s, M, w, sr, ?_⟩
    unfold sSeq at p
    rcases q : sa s M with _ | ⟨_ | x | _ | _ | ⟨c, x⟩, s1, M1⟩ <;> rw [q] at p
    · exact p
    · exact fun R1 ρ1 H1 σ1 e1 w1 r1 => ⟨R1, ρ1, s1, M1, w1, r1, PostS.ext e1 p⟩
    · exact p
    · exact p
    · exact p
    · exact p
theorem qs_pass : PS X (.Pass pos) (tS G E sNx) := ps_imp ps_pass fun D σ H ⟨R, ρ, s, M, w, sr, p⟩ => nxt_now w sr p
theorem qs_break : PS X (.Break pos) (tS G E sBk) := ps_imp ps_break fun D σ H ⟨R, ρ, s, M, w, sr, p⟩ => nxt_now w sr p
theorem qs_continue : PS X (.Continue pos) (tS G E sCt) := ps_imp ps_continue fun D σ H ⟨R, ρ, s, M, w, sr, p⟩ => nxt_now w sr p
theorem qs_doc {x j pos'} : PS X (.Expr (.Constant (.str x) j pos) pos') (tS G E sNx) := ps_imp ps_doc fun D σ H ⟨R, ρ, s, M, w, sr, p⟩ => nxt_now w sr p
theorem qs_never : PS X st (tS G E sNever) := ps_imp ps_never fun D σ H ⟨R, ρ, s, M, w, sr, p⟩ => p
theorem qs_ret (ha : PE X a (tE G E ea)) : PS X (.Return (some a) pos) (tS G E (sRet ea)) :=
  ps_imp (ps_ret ha) fun D σ H ⟨R, ρ, s, M, w, sr, p⟩ => stepS (Q' := D.rt) w sr p fun R1 ρ1 M1 H1 va v e1 w1 sr1 r1 p1 => gives_now w1 r1 p1
theorem qs_retN : PS X (.Return none pos) (tS G E sRetN) := ps_imp ps_retN fun D σ H ⟨R, ρ, s, M, w, sr, p⟩ => gives_now w .non p
theorem qs_expr (ha : PE X a (tE G E ea)) (hs : swapsWith a none pos.line X.env = pure false := by rfl) : PS X (.Expr a pos) (tS G E (sDrop ea)) :=
  ps_imp (ps_expr ha hs) fun D σ H ⟨R, ρ, s, M, w, sr, p⟩ => stepS w sr p fun R1 ρ1 M1 H1 va v e1 w1 sr1 r1 p1 => nxt_now w1 sr1 p1
theorem qs_set {i : Nat} {x : Str} {pos' : Pos} (hN : X.N.Nodup) (hi : X.N[i]? = some x) (hx : Loc X.env.scope x) (he : PE X a (tE G E ea)) (hs : swapsWith a (some (.Name x pos')) pos.line X.env = pure false := by rfl)
    (hf : X.fn x = true ∨ X.env.scope.names.lookup x = some .local := by first | exact .inl rfl | exact .inr rfl | assumption) : PS X (.Assign [.Name x pos'] a pos) (tS G E (sSet i ea)) :=
  ps_imp (ps_set hN hi hx he hs hf) fun D σ H ⟨R, ρ, s, M, w, sr, p⟩ => stepS w sr p fun R1 ρ1 M1 H1 va v e1 w1 sr1 r1 p1 => nxt_now w1 (sr1.set i r1) p1
theorem qs_if {xs ys : List Stmt} (hc : PT X c (tT G E ec)) (ha : PSs X xs (tS G E sa)) (hb : PSs X ys (tS G E sb)) : PS X (.If c xs ys pos) (tS G E (sIf ec sa sb)) :=
  ps_imp (ps_if hc ha hb) fun D σ H ⟨R, ρ, s, M, w, sr, p⟩ => by
    have e0 : sIf ec sa sb = sE ec fun v s M => match v with | .bl b => (fun b s M => if b = true then sa s M else sb s M) b s M | _ => none := by
      unfold sIf
      congr 1
      funext v s M
      cases v <;> try rfl
      rename_i b
      cases b <;> rfl
    rw [e0] at p
    refine stepST w sr p fun R1 ρ1 M1 H1 b e1 w1 sr1 p1 => ?_
    cases b with
    | true => exact iteT ⟨R1, ρ1, s, M1, w1, sr1, p1⟩
    | false => exact iteF ⟨R1, ρ1, s, M1, w1, sr1, p1⟩

/-! #### targets -/
/-- what a target does; ix: the slots that it may change -/
def TgSim (G : Sig) (g : TG) (t : Tgt) (ix : List Nat) : Prop := ∀ R ρ M H s s' σ va v (k : St → Hp → Prop), Wd G R ρ M H → SR G R ρ s σ → VR G R ρ va v → t va s M = some s' →
  (∀ σ', SR G R ρ s' σ' → σ'.length = σ.length → (∀ j, j ∉ ix → σ'[j]? = σ[j]?) → k σ' H) → g v σ H k
def TgSims (G : Sig) (g : TGs) (t : List Tgt) (ix : List Nat) : Prop := ∀ R ρ M H s s' σ l vs (k : St → Hp → Prop), Wd G R ρ M H → SR G R ρ s σ → VRs G R ρ l vs → tgAll t l s M = some s' →
  (∀ σ', SR G R ρ s' σ' → σ'.length = σ.length → (∀ j, j ∉ ix → σ'[j]? = σ[j]?) → k σ' H) → g vs σ H k
structure QG (X : Cx) (G : Sig) (tg : Expr) (g : TG) (t : Tgt) (ix : List Nat) : Prop where
  pg : PG X tg g
  sim : TgSim G g t ix
structure QGs (X : Cx) (G : Sig) (tg : List Expr) (g : TGs) (t : List Tgt) (ix : List Nat) : Prop where
  pg : PGs X tg g
  sim : TgSims G g t ix
theorem qg_name {i : Nat} {x : Str} (hN : X.N.Nodup) (hi : X.N[i]? = some x) (hx : Loc X.env.scope x) (hf : X.fn x = true ∨ X.env.scope.names.lookup x = some .local := by first | exact .inl rfl | exact .inr rfl | assumption) : QG X G (.Name x pos) (gName i) (tgName i) [i] :=
  ⟨pg_name hN hi hx hf, fun R ρ M H s s' σ va v k w sr r h q => by
    cases h
    refine q _ (sr.set i r) (by simp) fun j hj => ?_
    rw [List.getElem?_set_ne]
    rintro rfl
    exact hj (by simp)⟩
theorem qgs_nil : QGs X G [] gNil [] [] :=
  ⟨pgs_nil, fun R ρ M H s s' σ l vs k w sr r h q => by
    cases r with
    | nil => cases h; exact ⟨rfl, q σ sr rfl fun _ _ => rfl⟩
    | cons _ _ => cases h⟩
theorem qgs_cons {t : Tgt} {ts : List Tgt} {g1 : TG} {g2 : TGs} {ix ixs : List Nat} (h1 : QG X G a g1 t ix) (h2 : QGs X G es g2 ts ixs) (hs : (assignEach (a :: es) X.env).map (·.2) = assign a X.env :: (assignEach es X.env).map (·.2) := by rfl) : QGs X G (a :: es) (gCons g1 g2) (t :: ts) (ix ++ ixs) := by
  obtain ⟨p1, s1⟩ := h1
  obtain ⟨p2, s2⟩ := h2
  refine ⟨pgs_cons p1 p2 hs, fun R ρ M H s s' σ l vs k w sr r h q => ?_⟩
  cases r with
  | nil => cases h
  | cons r rs =>
    rename_i x v l vs
    unfold tgAll at h
    cases e : t x s M with
    | none => rw [e] at h; cases h
    | some s2' =>
      rw [e] at h
      refine ⟨v, vs, rfl, s1 R ρ M H s s2' σ x v _ w sr r e fun σ1 sr1 l1 k1 => ?_⟩
      refine s2 R ρ M H s2' s' σ1 l vs _ w sr1 rs h fun σ2 sr2 l2 k2 => ?_
      refine q σ2 sr2 (l2.trans l1) fun j hj => ?_
      rw [List.mem_append, not_or] at hj
      exact (k2 j hj.2).trans (k1 j hj.1)
theorem qg_tup {ts : List Tgt} {g : TGs} {ix : List Nat} {k : Nat} {n : Nat} (hc : X.calm = true) (h : QGs X G es g ts ix) (hl : ts.length = n := by rfl) (hn : (assignEach es X.env).length = n := by rfl) (hst : (assignEach es X.env).findIdx? (·.1) = none := by rfl) : QG X G (.Tuple es k pos) (gTup X.K n g) (tgTup ts) ix := by
  obtain ⟨p, sm⟩ := h
  refine ⟨pg_tup hc p hn hst, fun R ρ M H s s' σ va v k w sr r h q => ?_⟩
  have hlen : ∀ (ts : List Tgt) (l : List Va) (s : SL) (s' : SL), tgAll ts l s M = some s' → l.length = ts.length := by
    intro ts
    induction ts with
    | nil =>
      intro l s s' h
      cases l with
      | nil => rfl
      | cons _ _ => cases h
    | cons t ts ih =>
      intro l s s' h
      cases l with
      | nil => cases h
      | cons x l =>
        unfold tgAll at h
        cases e : t x s M with
        | none => rw [e] at h; cases h
        | some s1 => rw [e] at h; simp [ih l s1 s' h]
  unfold tgTup at h
  cases e : tupOf va with
  | none => rw [e] at h; cases h
  | some l =>
    rw [e] at h
    obtain ⟨a, vs, rfl, ha, rv, _⟩ := tup_read w r e
    exact ⟨a, vs, rfl, .of ha, by rw [← rv.length, hlen ts l s s' h, hl], sm R ρ M H s s' σ l vs k w sr rv h q⟩
theorem qs_asg {t : Tgt} {g : TG} {ix : List Nat} (he : PE X a (tE G E ea)) (hg : QG X G b g t ix) (hs : swapsWithSole [b] a pos.line X.env = pure false := by rfl) (hw : swappedStores [b] a X.env = pure none := by rfl)
    (h1 : (assignEach [b] X.env).map (·.2) = [assign b X.env] := by rfl) : PS X (.Assign [b] a pos) (tS G E (sAsg ea t)) := by
  obtain ⟨pg, sm⟩ := hg
  refine ps_imp (ps_asg he pg hs hw h1) fun D σ H ⟨R, ρ, s, M, w, sr, p⟩ => stepS w sr p fun R1 ρ1 M1 H1 va v e1 w1 sr1 r1 p1 => ?_
  cases q : t va s M1 with
  | none => rw [q] at p1; exact False.elim p1
  | some s1 => rw [q] at p1; exact sm R1 ρ1 M1 H1 s s1 σ va v _ w1 sr1 r1 q fun σ' sr' _ _ => nxt_now w1 sr' p1
/-- o[i] = v -/
def SubSim (G : Sig) (t : TSet) (g : Va → Va → Va → Store → Option Store) : Prop := ∀ R ρ M M' H o i x vo vi v (k : Hp → Prop), Wd G R ρ M H → VR G R ρ vo o → VR G R ρ vi i → VR G R ρ v x → g vo vi v M = some M' →
  (∀ H', Ext R ρ H R ρ H' → Wd G R ρ M' H' → k H') → t o i x H k
theorem qs_sub {t : TSet} {g : Va → Va → Va → Store → Option Store} {p2 : Pos} (hs : PSet X t) (sm : SubSim G t g) (he : PE X a (tE G E ea)) (ho : PE X b (tE G E eb)) (hi : PE X c (tE G E ec))
    (ha : ∀ v, assign (.Subscript b c p2) X.env v = (do
      let ov ← holding [v] (eval b X.env)
      let iv ← holding [v, ov] (eval c X.env)
      standAt p2
      holding [v, ov, iv] (setItem ov iv v)
      release [v, ov, iv] []) := by intro _; rfl)
    (hs1 : swapsWithSole [.Subscript b c p2] a pos.line X.env = pure false := by rfl) (hw : swappedStores [.Subscript b c p2] a X.env = pure none := by rfl)
    (h1 : (assignEach [.Subscript b c p2] X.env).map (·.2) = [assign (.Subscript b c p2) X.env] := by rfl) : PS X (.Assign [.Subscript b c p2] a pos) (tS G E (sSub ea eb ec g)) :=
  ps_imp (ps_asg he (pg_sub ho hi hs ha) hs1 hw h1) fun D σ H ⟨R, ρ, s, M, w, sr, p⟩ => stepS w sr p fun R1 ρ1 M1 H1 va v e1 w1 sr1 r1 p1 =>
    stepS w1 sr1 p1 fun R2 ρ2 M2 H2 vo o e2 w2 sr2 r2 p2 => stepS w2 sr2 p2 fun R3 ρ3 M3 H3 vi i e3 w3 sr3 r3 p3 => by
      cases q : g vo vi va M3 with
      | none => rw [q] at p3; exact False.elim p3
      | some M4 =>
        rw [q] at p3
        exact sm R3 ρ3 M3 M4 H3 o i v vo vi va _ w3 (r2.mono e3.gr) r3 (r1.mono (e2.trans e3).gr) q fun H' e4 w4 => nxt_now w4 sr3 (Nxt.ext e4 p3)
end

/-! ### what is walked -/
inductive OutI where
  | it (l : List Va) (chk : Store → Prop) | exc (c : Nat) (v : Va)
abbrev SI := SL → Store → Option (OutI × Store)
def ItSim (G : Sig) (R0 : Hp) (ρ0 : List Addr) (J : It) (l : List Va) (chk : Store → Prop) : Prop := ∀ R ρ M H, Gr R0 ρ0 R ρ → Wd G R ρ M H → chk M →
  (∀ (i : Nat) (x : Va), l[i]? = some x → J.go i H ∧ ∀ v H', J.yld i H v H' → ∃ R', Ext R ρ H R' ρ H' ∧ Wd G R' ρ M H' ∧ VR G R' ρ x v) ∧ ∀ i : Nat, l.length ≤ i → J.stop i H
def PostI (G : Sig) (R : Hp) (ρ : List Addr) (H : Hp) (r : Option (OutI × Store)) (k : It → Hp → Prop) (E : XK) : Prop := match r with
  | none => False
  | some (.it l chk, M) => ∀ R' ρ' H' J, Ext R ρ H R' ρ' H' → Wd G R' ρ' M H' → l.length ≤ sizeLine → ItSim G R' ρ' J l chk → k J H'
  | some (.exc c x, M) => PostX G R ρ H M E c x
def tI (G : Sig) (E : XK) (src : SI) : TI := fun σ H k => ∃ R ρ s M, Wd G R ρ M H ∧ SR G R ρ s σ ∧ PostI G R ρ H (src s M) k E
noncomputable section
open Classical
def loopF (chk : Store → Prop) (tg : Tgt) (body : SS) : List Va → SS
  | [], s, M => if chk M then some (.nx, s, M) else none
  | x :: xs, s, M => if chk M then (match tg x s M with
    | none => none
    | some s1 => match body s1 M with
      | some (.nx, s2, M2) => loopF chk tg body xs s2 M2
      | some (.ct, s2, M2) => loopF chk tg body xs s2 M2
      | some (.bk, s2, M2) => some (.nx, s2, M2)
      | r => r) else none
def sFor (src : SI) (tg : Tgt) (body : SS) : SS := fun s M => match src s M with
  | none => none
  | some (.it l chk, M1) => loopF chk tg body l s M1
  | some (.exc c v, M1) => some (.exc c v, s, M1)
def wipeI (s : SL) : List Nat → SL
  | [] => s
  | v :: vs => (wipeI s vs).set v none
def compL (chk : Store → Prop) (tg : Tgt) (tt te : SE) (sw : SL) : List Va → Store → Option (List Va × Store)
  | [], M => if chk M then some ([], M) else none
  | x :: xs, M => if chk M then (match tg x sw M with
    | none => none
    | some s1 => match tt s1 M with
      | some (.val (.bl true), M1) => (match te s1 M1 with
        | some (.val y, M2) => (match compL chk tg tt te sw xs M2 with
          | some (ys, M3) => some (y :: ys, M3)
          | none => none)
        | _ => none)
      | some (.val (.bl false), M1) => compL chk tg tt te sw xs M1
      | _ => none) else none
def evLc (src : SI) (tg : Tgt) (tt te : SE) (vs : List Nat) : SE := fun s M => match src s M with
  | none => none
  | some (.it l chk, M1) => (match compL chk tg tt te (wipeI s vs) l M1 with
    | some (ys, M2) => some (.val (.lst ys), M2)
    | none => none)
  | some (.exc c v, M1) => some (.exc c v, M1)
/-- the new list as one that will change -/
def evLcC (src : SI) (tg : Tgt) (tt te : SE) (vs : List Nat) : SE := fun s M => match src s M with
  | none => none
  | some (.it l chk, M1) => (match compL chk tg tt te (wipeI s vs) l M1 with
    | some (ys, M2) => some (.val (.cel M2.nx), M2.new (.lst ys))
    | none => none)
  | some (.exc c v, M1) => some (.exc c v, M1)
end
def evYes : SE := fun _ M => some (.val (.bl true), M)
/-- over a list, a tuple as it stands -/
def itL (e : SE) : SI := fun s M => match e s M with
  | none => none
  | some (.val v, M1) => (match lstOf M1 v with
    | some l => some (.it l (fun M => lstOf M v = some l), M1)
    | none => none)
  | some (.exc c v, M1) => some (.exc c v, M1)
def itT (e : SE) : SI := fun s M => match e s M with
  | none => none
  | some (.val v, M1) => (match tupOf v with
    | some l => some (.it l (fun _ => True), M1)
    | none => none)
  | some (.exc c v, M1) => some (.exc c v, M1)
def itR1 (e : SE) : SI := fun s M => match e s M with
  | some (.val (.tup [.int n]), M1) => if n ≤ 100000 ∧ -(2 ^ 62) ≤ n then some (.it ((List.range n.toNat).map fun (i : Nat) => Va.int i) (fun _ => True), M1) else none
  | some (.exc c v, M1) => some (.exc c v, M1)
  | _ => none
def itR2 (e : SE) : SI := fun s M => match e s M with
  | some (.val (.tup [.int lo, .int n]), M1) => if n - lo ≤ 100000 ∧ -(2 ^ 62) ≤ lo ∧ lo < 2 ^ 62 ∧ -(2 ^ 62) ≤ n ∧ n < 2 ^ 62 then some (.it ((List.range (n - lo).toNat).map fun (i : Nat) => Va.int (lo + i)) (fun _ => True), M1) else none
  | some (.exc c v, M1) => some (.exc c v, M1)
  | _ => none
def itS (e : SE) : SI := fun s M => match e s M with
  | some (.val (.str z), M1) => if z.length ≤ sizeLine then some (.it (z.cps.toList.map fun c => Va.str ⟨#[c]⟩) (fun _ => True), M1) else none
  | some (.exc c v, M1) => some (.exc c v, M1)
  | _ => none

section
variable {X : Cx} {G : Sig} {E : XK} {a b c tg : Expr} {es : List Expr} {ea eb ec : SE} {pos : Pos}
theorem qi_list (hK : X.K = G.K) (ha : PE X a (tE G E ea)) : PI X tg a (tI G E (itL ea)) :=
  pi_imp (pi_list ha) fun σ H Q ⟨R, ρ, s, M, w, sr, p⟩ => by
    refine ⟨R, ρ, s, M, w, sr, ?_⟩
    unfold itL at p
    rcases q : ea s M with _ | ⟨x | ⟨c, x⟩, M1⟩ <;> rw [q] at p
    · exact p
    · intro R1 ρ1 H1 v e1 w1 r1
      dsimp only at p
      cases q2 : lstOf M1 x with
      | none => rw [q2] at p; exact False.elim p
      | some l =>
        rw [q2] at p
        obtain ⟨ad, vs, rfl, hv, rv, hz⟩ := lst_read w1 r1 q2
        refine ⟨ad, rfl, ⟨vs, by rw [hK]; exact hv⟩, p R1 ρ1 H1 (Itl X.K ad) e1 w1 hz fun R2 ρ2 M2 H2 g2 w2 ck => ?_⟩
        obtain ⟨ad', vs', e', hv', rv', _⟩ := lst_read w2 (r1.mono g2) ck
        cases e'
        rw [hK]
        refine ⟨fun i y hy => ?_, fun i hi => ⟨vs', hv', by rw [← rv'.length]; exact hi⟩⟩
        obtain ⟨u, hu, ru⟩ := rv'.get hy
        refine ⟨⟨vs', u, hv', hu⟩, fun v H' ⟨e3, h3⟩ => ?_⟩
        subst e3
        have := h3 vs' hv'
        rw [hu] at this
        cases this
        exact ⟨R2, Ext.refl, w2, ru⟩
    · exact p
theorem qi_tup (hK : X.K = G.K) (ha : PE X a (tE G E ea)) : PI X tg a (tI G E (itT ea)) :=
  pi_imp (pi_tup ha) fun σ H Q ⟨R, ρ, s, M, w, sr, p⟩ => by
    refine ⟨R, ρ, s, M, w, sr, ?_⟩
    unfold itT at p
    rcases q : ea s M with _ | ⟨x | ⟨c, x⟩, M1⟩ <;> rw [q] at p
    · exact p
    · intro R1 ρ1 H1 v e1 w1 r1
      dsimp only at p
      cases q2 : tupOf x with
      | none => rw [q2] at p; exact False.elim p
      | some l =>
        rw [q2] at p
        obtain ⟨ad, vs, rfl, hv, rv, hz⟩ := tup_read w1 r1 q2
        refine ⟨ad, rfl, ⟨vs, .of hv⟩, p R1 ρ1 H1 (Itt X.K ad) e1 w1 hz fun R2 ρ2 M2 H2 g2 w2 ck => ?_⟩
        obtain ⟨ad', vs', e', hv', rv', _⟩ := tup_read w2 (r1.mono g2) q2
        cases e'
        refine ⟨fun i y hy => ?_, fun i hi => ⟨vs', .of hv', by rw [← rv'.length]; exact hi⟩⟩
        obtain ⟨u, hu, ru⟩ := rv'.get hy
        refine ⟨⟨vs', u, .of hv', hu⟩, fun v H' ⟨e3, h3⟩ => ?_⟩
        subst e3
        have := h3 vs' (.of hv')
        rw [hu] at this
        cases this
        exact ⟨R2, Ext.refl, w2, ru⟩
    · exact p
theorem rng_sim {R ρ} {lo : Int} {n : Nat} : ItSim G R ρ (Itr lo n) ((List.range n).map fun (i : Nat) => Va.int (lo + i)) (fun _ => True) := fun R2 ρ2 M2 H2 g2 w2 _ => by
  refine ⟨fun i x hx => ?_, fun i hi => by show n ≤ i; simpa using hi⟩
  rw [List.getElem?_map] at hx
  by_cases hi : i < n
  · rw [List.getElem?_range hi] at hx
    cases hx
    refine ⟨hi, fun v H' ⟨e3, h3⟩ => ?_⟩
    subst e3 h3
    exact ⟨R2, Ext.refl, w2, .int _⟩
  · rw [List.getElem?_eq_none (by simpa using hi)] at hx
    cases hx
theorem line100 : (100000 : Nat) ≤ sizeLine := by decide
theorem qi_range1 {p' : Pos} (hg : Gl X "range") (hm : X.mg "range" = none) (ha : PA X [a] (tA G E ea)) (hs : starEach [a] X.env = [(false, eval a X.env)] := by rfl) : PI X tg (.Call (.Name "range" p') [a] [] pos) (tI G E (itR1 ea)) :=
  pi_imp (pi_range1 hg hm ha hs) fun σ H Q ⟨R, ρ, s, M, w, sr, p⟩ => by
    refine ⟨R, ρ, s, M, w, sr, ?_⟩
    unfold itR1 at p
    rcases q : ea s M with _ | ⟨x | ⟨c, x⟩, M1⟩ <;> rw [q] at p
    · exact p
    · cases x <;> first | exact False.elim p | skip
      rename_i l
      intro R1 ρ1 H1 vs e1 w1 r1
      cases r1 with
      | nil => exact False.elim p
      | cons r1 rs =>
        cases rs with
        | cons _ _ => cases r1 <;> exact False.elim p
        | nil =>
          cases r1 <;> first | exact False.elim p | skip
          rename_i n
          dsimp only at p
          by_cases hz : n ≤ 100000 ∧ -(2 ^ 62) ≤ n
          · rw [if_pos hz] at p
            refine ⟨n, rfl, hz.2, by omega, ?_⟩
            have e0 : ((List.range n.toNat).map fun (i : Nat) => Va.int i) = (List.range n.toNat).map fun (i : Nat) => Va.int (0 + i) := by simp
            rw [e0] at p
            exact p R1 ρ1 H1 _ e1 w1 (by simp; have := line100; omega) rng_sim
          · rw [if_neg hz] at p; exact False.elim p
    · exact p
theorem qi_range2 {p' : Pos} (hg : Gl X "range") (hm : X.mg "range" = none) (ha : PA X [a, b] (tA G E ea)) (hs : starEach [a, b] X.env = [(false, eval a X.env), (false, eval b X.env)] := by rfl) (hs2 : starEach [b] X.env = [(false, eval b X.env)] := by rfl) : PI X tg (.Call (.Name "range" p') [a, b] [] pos) (tI G E (itR2 ea)) :=
  pi_imp (pi_range2 hg hm ha hs hs2) fun σ H Q ⟨R, ρ, s, M, w, sr, p⟩ => by
    refine ⟨R, ρ, s, M, w, sr, ?_⟩
    unfold itR2 at p
    rcases q : ea s M with _ | ⟨x | ⟨c, x⟩, M1⟩ <;> rw [q] at p
    · exact p
    · cases x <;> first | exact False.elim p | skip
      rename_i l
      intro R1 ρ1 H1 vs e1 w1 r1
      cases r1 with
      | nil => exact False.elim p
      | cons r1 rs =>
        cases rs with
        | nil => cases r1 <;> exact False.elim p
        | cons r2 rs =>
          cases rs with
          | cons _ _ => cases r1 <;> cases r2 <;> exact False.elim p
          | nil =>
            cases r1 <;> first | exact False.elim p | skip
            cases r2 <;> first | exact False.elim p | skip
            rename_i lo n
            dsimp only at p
            by_cases hz : n - lo ≤ 100000 ∧ -(2 ^ 62) ≤ lo ∧ lo < 2 ^ 62 ∧ -(2 ^ 62) ≤ n ∧ n < 2 ^ 62
            · rw [if_pos hz] at p
              exact ⟨lo, n, rfl, hz.2, p R1 ρ1 H1 _ e1 w1 (by simp; have := line100; omega) rng_sim⟩
            · rw [if_neg hz] at p; exact False.elim p
    · exact p
end

/-! ### for -/
section
variable {X : Cx} {G : Sig} {E : XK} {a b c tg : Expr} {es : List Expr} {ea eb ec : SE} {sb : SS} {pos : Pos}
theorem qs_for {iter : Expr} {body : List Stmt} {src : SI} {t : Tgt} {g : TG} {ix : List Nat} (hp : PassesOwn (model X.prog X.w) X.A X.env X.xe) (hc : X.calm = true) (hi : PI X tg iter (tI G E src)) (hg : QG X G tg g t ix) (hb : PSs X body (tS G E sb))
    (hs : ∀ x, foldedSetIterable iter X.env x = pure x := by intro _; rfl) : PS X (.For tg iter body [] pos) (tS G E (sFor src t sb)) := by
  obtain ⟨pg, sm⟩ := hg
  refine ps_imp (ps_for hp hc hi pg hb hs) fun D σ H ⟨R, ρ, s, M, w, sr, p⟩ => ?_
  refine ⟨R, ρ, s, M, w, sr, ?_⟩
  unfold sFor at p
  rcases q : src s M with _ | ⟨⟨l, chk⟩ | ⟨c, x⟩, M1⟩ <;> rw [q] at p
  · exact p
  · intro R1 ρ1 H1 J e1 w1 hz js
    refine ⟨fun i m σ' H' => ∃ R' ρ' s' M', m = l.length - i ∧ i ≤ l.length ∧ Gr R1 ρ1 R' ρ' ∧ Wd G R' ρ' M' H' ∧ SR G R' ρ' s' σ' ∧ PostS G R' ρ' H' (loopF chk t sb (l.drop i) s' M') D E,
      ⟨l.length, R1, ρ1, s, M1, rfl, Nat.zero_le _, Gr.refl, w1, sr.mono e1.gr, PostS.ext e1 p⟩, ?_⟩
    rintro i m σ' H' ⟨R', ρ', s', M', rfl, hi, g', w', sr', p'⟩
    by_cases hlt : i < l.length
    · have ed : l.drop i = l[i] :: l.drop (i + 1) := List.drop_eq_getElem_cons hlt
      rw [ed] at p'
      unfold loopF at p'
      by_cases ck : chk M'
      · rw [if_pos ck] at p'
        obtain ⟨go, _⟩ := js R' ρ' M' H' g' w' ck
        obtain ⟨go, yld⟩ := go i l[i] (by simp [hlt])
        refine .inr ⟨go, fun σ2 H2 => ∃ R2 ρ2 s2 M2, Gr R1 ρ1 R2 ρ2 ∧ Wd G R2 ρ2 M2 H2 ∧ SR G R2 ρ2 s2 σ2 ∧ PostS G R2 ρ2 H2 (loopF chk t sb (l.drop (i + 1)) s2 M2) D E,
          fun σ2 H2 ⟨R2, ρ2, s2, M2, g2, w2, sr2, p2⟩ => ⟨l.length - (i + 1), by omega, R2, ρ2, s2, M2, rfl, hlt, g2, w2, sr2, p2⟩, fun v H2 hy => ?_⟩
        obtain ⟨R2, e2, w2, r2⟩ := yld v H2 hy
        cases q3 : t l[i] s' M' with
        | none => rw [q3] at p'; exact False.elim p'
        | some s3 =>
          rw [q3] at p'
          refine sm R2 ρ' M' H2 s' s3 σ' l[i] v _ w2 (sr'.mono e2.gr) r2 q3 fun σ3 sr3 _ _ => ?_
          refine ⟨R2, ρ', s3, M', w2, sr3, ?_⟩
          dsimp only at p'
          rcases q4 : sb s3 M' with _ | ⟨_ | x | _ | _ | ⟨c, x⟩, s4, M4⟩ <;> rw [q4] at p'
          · exact p'
          · exact fun R5 ρ5 H5 σ5 e5 w5 sr5 => ⟨R5, ρ5, s4, M4, (g'.trans e2.gr).trans e5.gr, w5, sr5, PostS.ext (e2.trans e5) p'⟩
          · exact Gives.ext e2 p'
          · exact Nxt.ext e2 p'
          · exact fun R5 ρ5 H5 σ5 e5 w5 sr5 => ⟨R5, ρ5, s4, M4, (g'.trans e2.gr).trans e5.gr, w5, sr5, PostS.ext (e2.trans e5) p'⟩
          · exact PostX.ext e2 p'
      · rw [if_neg ck] at p'; exact False.elim p'
    · have e0 : i = l.length := by omega
      subst e0
      rw [List.drop_length] at p'
      unfold loopF at p'
      by_cases ck : chk M'
      · rw [if_pos ck] at p'
        obtain ⟨_, stop⟩ := js R' ρ' M' H' g' w' ck
        exact .inl ⟨stop _ (Nat.le_refl _), nxt_now w' sr' p'⟩
      · rw [if_neg ck] at p'; exact False.elim p'
  · exact p

/-! ### list comprehensions -/
theorem wipe_get (σ : St) (j : Nat) : ∀ vs : List Nat, j ∉ vs → (wipe σ vs)[j]? = σ[j]?
  | [], _ => rfl
  | v :: vs, h => by
    rw [List.mem_cons, not_or] at h
    unfold wipe
    rw [List.getElem?_set_ne (fun e => h.1 e.symm), wipe_get σ j vs h.2]
theorem wipe_in (σ : St) (j : Nat) (hj : j < σ.length) : ∀ vs : List Nat, j ∈ vs → (wipe σ vs)[j]? = some none
  | v :: vs, h => by
    unfold wipe
    by_cases e : v = j
    · subst e
      rw [List.getElem?_set_self (by rw [wipe_length]; exact hj)]
    · rw [List.getElem?_set_ne e]
      rcases List.mem_cons.mp h with z | z
      · exact absurd z.symm e
      · exact wipe_in σ j hj vs z
theorem wipe_same {σ σ' : St} {vs : List Nat} (hl : σ'.length = σ.length) (h : ∀ j, j ∉ vs → σ'[j]? = σ[j]?) : wipe σ' vs = wipe σ vs := by
  apply List.ext_getElem?
  intro j
  by_cases hj : j ∈ vs
  · by_cases hlt : j < σ.length
    · rw [wipe_in σ' j (by rw [hl]; exact hlt) vs hj, wipe_in σ j hlt vs hj]
    · rw [List.getElem?_eq_none (by rw [wipe_length]; omega), List.getElem?_eq_none (by rw [wipe_length]; omega)]
  · rw [wipe_get σ' j vs hj, wipe_get σ j vs hj, h j hj]
theorem SR.wipe {R : Hp} {ρ : List Addr} {s : SL} {σ : St} (h : SR G R ρ s σ) : ∀ vs : List Nat, SR G R ρ (wipeI s vs) (L2.wipe σ vs)
  | [] => h
  | v :: vs => by
    unfold wipeI L2.wipe
    exact (SR.wipe h vs).unset v none
theorem Wd.other {R : Hp} {ρ : List Addr} {M : Store} {H : Hp} {D : Addr} {o : HO} (w : Wd G R ρ M H) (h1 : R D = none) (h2 : D ∉ ρ) : Wd G R ρ M (upd H D o) := by
  refine ⟨fun a u h => ?_, w.len, fun n x h => ?_, w.inj, fun a h => by rw [upd_ne (fun e => h2 (by rw [← e]; exact h))]; exact w.al a h⟩
  · rw [upd_ne (fun e => by subst e; rw [h1] at h; cases h)]
    exact w.sub a u h
  · obtain ⟨a, e, r, c⟩ := w.cel n x h
    refine ⟨a, e, r, celR_mono Gr.refl c fun u q => ?_⟩
    rw [upd_ne (fun z => h2 (by rw [← z]; exact List.mem_of_getElem? e))]
    exact q
theorem Wd.take {R : Hp} {ρ : List Addr} {M : Store} {H : Hp} {D : Addr} {o : HO} (w : Wd G R ρ M H) (h0 : H D = some o) (h1 : R D = none) (h2 : D ∉ ρ) : Wd G (upd R D o) ρ M H := by
  have kR : ∀ a u, R a = some u → upd R D o a = some u := fun a u h => by
    rw [upd_ne (fun e => by subst e; rw [h1] at h; cases h)]
    exact h
  refine ⟨fun a u h => ?_, w.len, fun n x h => ?_, w.inj, w.al⟩
  · by_cases e : a = D
    · subst e; rw [upd_same] at h; rw [h0]; exact h
    · rw [upd_ne e] at h; exact w.sub a u h
  · obtain ⟨a, e, r, c⟩ := w.cel n x h
    exact ⟨a, e, by rw [upd_ne (fun z => h2 (by rw [← z]; exact List.mem_of_getElem? e))]; exact r, celR_mono ⟨kR, fun _ _ q => q⟩ c fun u q => q⟩
theorem Ext.heapNew {R : Hp} {ρ : List Addr} {H : Hp} {p : Addr} {o : HO} (hp : H p = none) : Ext R ρ H R ρ (upd H p o) :=
  ⟨fun _ _ h => h, ⟨[], by simp, by simp⟩, fun a u h _ => by rw [upd_ne (ne_of_none h hp)]; exact h, fun a h => by
    by_cases e : a = p
    · subst e; rw [upd_same]; simp
    · rw [upd_ne e]; exact h, fun a h n => absurd h n⟩
/-- an object that was not there at the start changes -/
theorem Ext.mut {R R' : Hp} {ρ ρ' : List Addr} {H H' : Hp} {p : Addr} {o : HO} (e : Ext R ρ H R' ρ' H') (hp : H p = none) : Ext R ρ H R' ρ' (upd H' p o) :=
  ⟨e.reg, e.cls, fun a u h n => by rw [upd_ne (ne_of_none h hp)]; exact e.keep a u h n, fun a h => by
    by_cases z : a = p
    · subst z; rw [upd_same]; simp
    · rw [upd_ne z]; exact e.dom a h, e.nreg⟩
theorem Ext.take {R R' : Hp} {ρ ρ' : List Addr} {H H' : Hp} {p : Addr} {o : HO} (e : Ext R ρ H R' ρ' H') (hp : H p = none) (hr : R' p = none) : Ext R ρ H (upd R' p o) ρ' H' :=
  ⟨fun a u h => by
    have := e.reg a u h
    rw [upd_ne (fun z => by subst z; rw [hr] at this; cases this)]
    exact this, e.cls, e.keep, e.dom, fun a h n => by
    by_cases z : a = p
    · subst z; exact .inl hp
    · rw [upd_ne z] at n; exact e.nreg a h n⟩
theorem Ext.apart {R R' : Hp} {ρ ρ' : List Addr} {H H' : Hp} {D : Addr} {o : HO} (e : Ext R ρ H R' ρ' H') (h0 : H D = some o) (h1 : R D = none) (h2 : D ∉ ρ) : R' D = none ∧ D ∉ ρ' ∧ H' D = some o := by
  refine ⟨?_, ?_, e.keep D o h0 h2⟩
  · cases q : R' D with
    | none => rfl
    | some u =>
      rcases e.nreg D h1 (by rw [q]; simp) with z | z
      · rw [h0] at z; cases z
      · exact absurd z h2
  · obtain ⟨τ, q, f⟩ := e.cls
    rw [q]
    intro hm
    rcases List.mem_append.mp hm with z | z
    · exact h2 z
    · have := f D z
      rw [h0] at this
      cases this

/-- the core: after the walk, the list stands at D -/
theorem lc_walk {t : Tgt} {tt te : SE} {vs ix : List Nat} {g : TG} (sm : TgSim G g t ix) (hix : ∀ i ∈ ix, i ∈ vs) {σ : St} {R1 : Hp} {ρ1 : List Addr} {M1 M2 : Store} {H1 : Hp} {s : SL} {J : It} {l ys : List Va} {chk : Store → Prop} {Q : VK} {D : Addr}
    (w1 : Wd G R1 ρ1 M1 H1) (sr : SR G R1 ρ1 s σ) (hz : l.length ≤ sizeLine) (js : ItSim G R1 ρ1 J l chk) (hcomp : compL chk t tt te (wipeI s vs) l M1 = some (ys, M2)) (hD : H1 D = none)
    (fin : ∀ R' ρ' H' acc, Ext R1 ρ1 H1 R' ρ' H' → Wd G R' ρ' M2 H' → H' D = some (.lst acc) → R' D = none → D ∉ ρ' → VRs G R' ρ' ys acc → ys.length ≤ sizeLine → Q (.ref D) H') :
    ∃ W : Nat → Nat → Hp → Prop, (∃ m, W 0 m (upd H1 D (.lst []))) ∧ ∀ i m H, W i m H →
      (J.stop i H ∧ Q (.ref D) H) ∨ (J.go i H ∧ ∃ Nx : Hp → Prop, (∀ H', Nx H' → ∃ m', m' < m ∧ W (i + 1) m' H') ∧ ∀ x H', J.yld i H x H' → g x (wipe σ vs) H' fun σ2 H2 => wipe σ2 vs = wipe σ vs ∧ tT G E tt σ2 H2 fun b H3 =>
        if b = true then tE G E te σ2 H3 fun y H4 => ∃ acc, H4 D = some (.lst acc) ∧ acc.length < sizeLine ∧ Nx (upd H4 D (.lst (acc ++ [y]))) else Nx H3) := by
  have nD : D ∉ ρ1 → True := fun _ => trivial
  have rD : R1 D = none := w1.nonR hD
  have pD : ∀ n x, M1.c n = some x → ρ1[n]? ≠ some D := fun n x h z => by
    obtain ⟨a, e, _, c⟩ := w1.cel n x h
    rw [z] at e
    cases e
    exact celR_some c hD
  refine ⟨fun i m Hc => ∃ R' ρ' M' acc accI rest, m = l.length - i ∧ i ≤ l.length ∧ Ext R1 ρ1 H1 R' ρ' Hc ∧ Wd G R' ρ' M' Hc ∧ Hc D = some (.lst acc) ∧ VRs G R' ρ' accI acc ∧ R' D = none ∧ (D ∉ ρ') ∧
    compL chk t tt te (wipeI s vs) (l.drop i) M' = some (rest, M2) ∧ accI ++ rest = ys ∧ accI.length ≤ i, ?_, ?_⟩
  · refine ⟨l.length, R1, ρ1, M1, [], [], ys, rfl, Nat.zero_le _, Ext.heapNew hD, ?_, upd_same, .nil, rD, ?_, hcomp, rfl, Nat.zero_le _⟩
    · exact w1.heap fun a o h => by rw [upd_ne (ne_of_none h hD)]; exact h
    · exact fun hm => w1.al D hm hD
  · rintro i m Hc ⟨R', ρ', M', acc, accI, rest, rfl, hi, e', w', hDc, ra, rDn, nDr, hc, hy, hal⟩
    by_cases hlt : i < l.length
    · have ed : l.drop i = l[i] :: l.drop (i + 1) := List.drop_eq_getElem_cons hlt
      rw [ed] at hc
      unfold compL at hc
      by_cases ck : chk M'
      · rw [if_pos ck] at hc
        obtain ⟨go, _⟩ := js R' ρ' M' Hc e'.gr w' ck
        obtain ⟨go, yld⟩ := go i l[i] (by simp [hlt])
        refine .inr ⟨go, fun H2 => ∃ R2 ρ2 M3 acc accI rest, Ext R1 ρ1 H1 R2 ρ2 H2 ∧ Wd G R2 ρ2 M3 H2 ∧ H2 D = some (.lst acc) ∧ VRs G R2 ρ2 accI acc ∧ R2 D = none ∧ (D ∉ ρ2) ∧
          compL chk t tt te (wipeI s vs) (l.drop (i + 1)) M3 = some (rest, M2) ∧ accI ++ rest = ys ∧ accI.length ≤ i + 1, fun H2 ⟨R2, ρ2, M3, acc, accI, rest, q⟩ => ⟨l.length - (i + 1), by omega, R2, ρ2, M3, acc, accI, rest, rfl, hlt, q⟩, fun x H2 hyl => ?_⟩
        obtain ⟨R2, e2, w2, r2⟩ := yld x H2 hyl
        obtain ⟨rD2, nD2, hD2⟩ := e2.apart hDc rDn nDr
        cases q3 : t l[i] (wipeI s vs) M' with
        | none => rw [q3] at hc; cases hc
        | some s3 =>
          rw [q3] at hc
          have srw : SR G R2 ρ' (wipeI s vs) (wipe σ vs) := (SR.wipe (sr.mono (e'.gr.trans e2.gr)) vs)
          refine sm R2 ρ' M' H2 (wipeI s vs) s3 (wipe σ vs) l[i] x _ w2 srw r2 q3 fun σ3 sr3 hl3 hk3 => ⟨?_, ?_⟩
          · have z1 : wipe σ3 vs = wipe (wipe σ vs) vs := wipe_same hl3 fun j hj => hk3 j fun z => hj (hix j z)
            rw [z1]
            exact wipe_same (wipe_length σ vs) fun j hj => wipe_get σ j vs hj
          · dsimp only at hc
            rcases q4 : tt s3 M' with _ | ⟨y | ⟨c, y⟩, M4⟩ <;> rw [q4] at hc
            · cases hc
            · cases y <;> first | (cases hc; done) | skip
              rename_i bb
              refine ⟨R2, ρ', s3, M', w2, sr3, ?_⟩
              rw [q4]
              intro R5 ρ5 H5 e5 w5
              obtain ⟨rD5, nD5, hD5⟩ := e5.apart hD2 rD2 nD2
              cases bb with
              | false =>
                refine iteF ?_
                exact ⟨R5, ρ5, M4, acc, accI, rest, (e'.trans e2).trans e5, w5, hD5, ra.mono (e2.trans e5).gr, rD5, nD5, hc, hy, Nat.le_succ_of_le hal⟩
              | true =>
                refine iteT ?_
                dsimp only at hc
                rcases q6 : te s3 M4 with _ | ⟨y | ⟨c, y⟩, M6⟩ <;> rw [q6] at hc
                · cases hc
                · refine ⟨R5, ρ5, s3, M4, w5, sr3.mono e5.gr, ?_⟩
                  rw [q6]
                  intro R7 ρ7 H7 v e7 w7 r7
                  obtain ⟨rD7, nD7, hD7⟩ := e7.apart hD5 rD5 nD5
                  dsimp only at hc
                  rcases q8 : compL chk t tt te (wipeI s vs) (l.drop (i + 1)) M6 with _ | ⟨ys8, M8⟩ <;> rw [q8] at hc
                  · cases hc
                  · cases hc
                    have eall := ((e'.trans e2).trans e5).trans e7
                    refine ⟨acc, hD7, ?_, R7, ρ7, M6, acc ++ [v], accI ++ [y], ys8, eall.mut hD, w7.other rD7 nD7, upd_same, VRs.append (ra.mono ((e2.trans e5).trans e7).gr) (.cons r7 .nil), rD7, nD7, q8, by rw [← hy]; simp, by simp; omega⟩
                    rw [← ra.length]
                    omega
                · cases hc
            · cases hc
      · rw [if_neg ck] at hc; cases hc
    · have e0 : i = l.length := by omega
      subst e0
      rw [List.drop_length] at hc
      unfold compL at hc
      by_cases ck : chk M'
      · rw [if_pos ck] at hc
        cases hc
        obtain ⟨_, stop⟩ := js R' ρ' _ Hc e'.gr w' ck
        rw [List.append_nil] at hy
        subst hy
        exact .inl ⟨stop _ (Nat.le_refl _), fin R' ρ' Hc acc e' w' hDc rDn nDr ra (by omega)⟩
      · rw [if_neg ck] at hc; cases hc
end
end PV

set_option Elab.async false
set_option linter.all false
set_option maxRecDepth 100000
set_option maxHeartbeats 4000000
namespace PV
open PySem L2
open PyProof.Rows

section
variable {X : Cx} {G : Sig} {E E2 : XK} {a b c tg elt iter : Expr} {es ifs : List Expr} {st : Stmt} {sts : List Stmt} {ea eb ec : SE} {sa sb : SS} {pos : Pos}
theorem qts_nil : PTs X [] (tT G E evYes) := ⟨fun pins s σ H Q I ⟨R, ρ, s', M, w, sr, p⟩ => pts_nil.run pins s σ H Q I (p R ρ H Ext.refl w)⟩
theorem qts_one (h : PT X a (tT G E ea)) : PTs X [a] (tT G E ea) := pts_one h
variable {src : SI} {t : Tgt} {tt te : SE} {ix : List Nat} {g : TG} {scope : Scope} {own : List (Str × Nat)}
theorem lc_frz {σ : L2.St} {H : Hp} {Q : VK} (sm : TgSim G g t ix) (hix : ∀ i ∈ ix, i ∈ own.map (·.2)) (h : tE G E (evLc src t tt te (own.map (·.2))) σ H Q) : tLc (tI G E src) g (tT G E2 tt) (tE G E2 te) (own.map (·.2)) σ H Q := by
  obtain ⟨R, ρ, s, M, w, sr, p⟩ := h
  refine ⟨R, ρ, s, M, w, sr, ?_⟩
  unfold evLc at p
  rcases q : src s M with _ | ⟨⟨l, chk⟩ | ⟨c, x⟩, M1⟩ <;> rw [q] at p
  · exact p
  · intro R1 ρ1 H1 J e1 w1 hz js D hD
    dsimp only at p
    rcases q2 : compL chk t tt te (wipeI s (own.map (·.2))) l M1 with _ | ⟨ys, M2⟩ <;> rw [q2] at p
    · exact False.elim p
    · refine lc_walk sm hix w1 (sr.mono e1.gr) hz js q2 hD fun R' ρ' H' acc e' w' hDc rDn nDr ra hzy => ?_
      exact p (upd R' D (.lst acc)) ρ' H' (.ref D) (e1.trans (e'.take hD rDn)) (w'.take hDc rDn nDr) (.lst upd_same hzy (ra.mono ⟨fun a o q => by rw [upd_ne (fun z => by subst z; rw [rDn] at q; cases q)]; exact q, fun _ _ q => q⟩))
  · exact p
theorem lc_new {σ : L2.St} {H : Hp} {Q : VK} (sm : TgSim G g t ix) (hix : ∀ i ∈ ix, i ∈ own.map (·.2)) (h : tE G E (evLcC src t tt te (own.map (·.2))) σ H Q) : tLc (tI G E src) g (tT G E2 tt) (tE G E2 te) (own.map (·.2)) σ H Q := by
  obtain ⟨R, ρ, s, M, w, sr, p⟩ := h
  refine ⟨R, ρ, s, M, w, sr, ?_⟩
  unfold evLcC at p
  rcases q : src s M with _ | ⟨⟨l, chk⟩ | ⟨c, x⟩, M1⟩ <;> rw [q] at p
  · exact p
  · intro R1 ρ1 H1 J e1 w1 hz js D hD
    dsimp only at p
    rcases q2 : compL chk t tt te (wipeI s (own.map (·.2))) l M1 with _ | ⟨ys, M2⟩ <;> rw [q2] at p
    · exact False.elim p
    · refine lc_walk sm hix w1 (sr.mono e1.gr) hz js q2 hD fun R' ρ' H' acc e' w' hDc rDn nDr ra hzy => ?_
      have gp : (ρ' ++ [D])[M2.nx]? = some D := by rw [← w'.len]; simp
      have gr : Gr R' ρ' R' (ρ' ++ [D]) := ⟨fun _ _ h => h, fun n a h => by rw [List.getElem?_append_left (List.getElem?_eq_some_iff.mp h).1]; exact h⟩
      have e2 : Ext R1 ρ1 H1 R' (ρ' ++ [D]) H' := by
        obtain ⟨τ, z, f⟩ := e'.cls
        refine ⟨e'.reg, ⟨τ ++ [D], by rw [z, List.append_assoc], fun x hx => ?_⟩, e'.keep, e'.dom, e'.nreg⟩
        rcases List.mem_append.mp hx with h | h
        · exact f x h
        · rw [List.mem_singleton.mp h]; exact hD
      have w2 : Wd G R' (ρ' ++ [D]) (M2.new (.lst ys)) H' := by
        have old : ∀ n x, n ≠ M2.nx → (M2.new (.lst ys)).c n = some x → M2.c n = some x := fun n x hn h => by
          have h' : (if n = M2.nx then some (Cell.lst ys) else M2.c n) = some x := h
          rw [if_neg hn] at h'
          exact h'
        have neD : ∀ n x a, M2.c n = some x → (ρ' ++ [D])[n]? = some a → a ≠ D := fun n x a h e z => by
          obtain ⟨b, e2, _, _⟩ := w'.cel n x h
          rw [gr.get n b e2] at e
          cases e
          exact nDr (by rw [← z]; exact List.mem_of_getElem? e2)
        refine ⟨w'.sub, by simp [Store.new, w'.len], fun n x h => ?_, fun n m b x y h1 h2 f1 f2 => ?_, fun a h => ?_⟩
        · by_cases e : n = M2.nx
          · subst e
            have h' : (if M2.nx = M2.nx then some (Cell.lst ys) else M2.c M2.nx) = some x := h
            rw [if_pos rfl] at h'
            cases h'
            exact ⟨D, gp, rDn, acc, hDc, hzy, ra.mono gr⟩
          · obtain ⟨b, e1, r, c⟩ := w'.cel n x (old n x e h)
            exact ⟨b, gr.get n b e1, r, celR_mono gr c fun u q => q⟩
        · by_cases q1 : n = M2.nx <;> by_cases q2 : m = M2.nx
          · rw [q1, q2]
          · rw [q1, gp] at f1
            cases f1
            exact absurd rfl (neD m y _ (old m y q2 h2) f2)
          · rw [q2, gp] at f2
            cases f2
            exact absurd rfl (neD n x _ (old n x q1 h1) f1)
          · have h1' := old n x q1 h1
            have h2' := old m y q2 h2
            obtain ⟨b1, g1, _⟩ := w'.cel n x h1'
            obtain ⟨b2, g2, _⟩ := w'.cel m y h2'
            rw [gr.get n b1 g1] at f1
            rw [gr.get m b2 g2] at f2
            cases f1
            cases f2
            exact w'.inj n m b x y h1' h2' g1 g2
        · rcases List.mem_append.mp h with h | h
          · exact w'.al a h
          · rw [List.mem_singleton.mp h, hDc]; simp
      exact p R' (ρ' ++ [D]) H' (.ref D) (e1.trans e2) w2 (.cel gp)
  · exact p
theorem q_lc (hc : X.calm = true) (hN : X.N.Nodup) (hi : PI X tg iter (tI G E src)) (ok : BlkOk X.N X.env.scope scope own)
    (hg : ∀ (s : Shared) (H : Hp) (C : Addr) (cl : List (Str × Addr)) (fp : List Addr), QG (X.blk s H scope (compEnvC scope cl C X.env) fp) G tg g t ix)
    (ht : ∀ (s : Shared) (H : Hp) (C : Addr) (cl : List (Str × Addr)) (fp : List Addr), PTs (X.blk s H scope (compEnvC scope cl C X.env) fp) ifs (tT G E2 tt))
    (he : ∀ (s : Shared) (H : Hp) (C : Addr) (cl : List (Str × Addr)) (fp : List Addr), PE (X.blk s H scope (compEnvC scope cl C X.env) fp) elt (tE G E2 te))
    (hix : ∀ i ∈ ix, i ∈ own.map (·.2) := by decide) (hs : ∀ x, foldedSetIterable iter X.env x = pure x := by intro _; rfl) :
    PE X (.ListComp elt [⟨tg, iter, ifs, 0⟩] scope pos) (tE G E (evLc src t tt te (own.map (·.2)))) :=
  ⟨fun pins s σ H Q I h => (pe_lc hc hN hi ok (fun s H C cl fp => (hg s H C cl fp).pg) ht he hs).run pins s σ H Q I (lc_frz (hg s H 0 [] []).sim hix h)⟩
theorem q_lcC (hc : X.calm = true) (hN : X.N.Nodup) (hi : PI X tg iter (tI G E src)) (ok : BlkOk X.N X.env.scope scope own)
    (hg : ∀ (s : Shared) (H : Hp) (C : Addr) (cl : List (Str × Addr)) (fp : List Addr), QG (X.blk s H scope (compEnvC scope cl C X.env) fp) G tg g t ix)
    (ht : ∀ (s : Shared) (H : Hp) (C : Addr) (cl : List (Str × Addr)) (fp : List Addr), PTs (X.blk s H scope (compEnvC scope cl C X.env) fp) ifs (tT G E2 tt))
    (he : ∀ (s : Shared) (H : Hp) (C : Addr) (cl : List (Str × Addr)) (fp : List Addr), PE (X.blk s H scope (compEnvC scope cl C X.env) fp) elt (tE G E2 te))
    (hix : ∀ i ∈ ix, i ∈ own.map (·.2) := by decide) (hs : ∀ x, foldedSetIterable iter X.env x = pure x := by intro _; rfl) :
    PE X (.ListComp elt [⟨tg, iter, ifs, 0⟩] scope pos) (tE G E (evLcC src t tt te (own.map (·.2)))) :=
  ⟨fun pins s σ H Q I h => (pe_lc hc hN hi ok (fun s H C cl fp => (hg s H C cl fp).pg) ht he hs).run pins s σ H Q I (lc_new (hg s H 0 [] []).sim hix h)⟩
theorem qs_setLc {i : Nat} {y : Str} {py spos : Pos} (hc : X.calm = true) (hN : X.N.Nodup) (hy : X.N[i]? = some y) (hyl : X.env.scope.names.lookup y = some .local)
    (hsw : swapsWith (.ListComp elt [⟨tg, iter, ifs, 0⟩] scope pos) (some (.Name y py)) spos.line X.env = pure true) (hi : PI X tg iter (tI G E src)) (ok : BlkOk X.N X.env.scope scope own)
    (hg : ∀ (s : Shared) (H : Hp) (C : Addr) (cl : List (Str × Addr)) (fp : List Addr), QG (X.blk s H scope (compEnvC scope cl C X.env) fp) G tg g t ix)
    (ht : ∀ (s : Shared) (H : Hp) (C : Addr) (cl : List (Str × Addr)) (fp : List Addr), PTs (X.blk s H scope (compEnvC scope cl C X.env) fp) ifs (tT G E2 tt))
    (he : ∀ (s : Shared) (H : Hp) (C : Addr) (cl : List (Str × Addr)) (fp : List Addr), PE (X.blk s H scope (compEnvC scope cl C X.env) fp) elt (tE G E2 te))
    (hix : ∀ i ∈ ix, i ∈ own.map (·.2) := by decide) (hs : ∀ x, foldedSetIterable iter X.env x = pure x := by intro _; rfl) :
    PS X (.Assign [.Name y py] (.ListComp elt [⟨tg, iter, ifs, 0⟩] scope pos) spos) (tS G E (sSet i (evLc src t tt te (own.map (·.2))))) :=
  ⟨fun pins s0 σ H D I ⟨R, ρ, s, M, w, sr, p⟩ => (ps_setLc hc hN hy hyl hsw hi ok (fun s H C cl fp => (hg s H C cl fp).pg) ht he hs).run pins s0 σ H D I (lc_frz (hg s0 H 0 [] []).sim hix
    (stepS (Q' := fun x H1 => gName i x σ H1 D.nx) w sr p fun R1 ρ1 M1 H1 va v e1 w1 sr1 r1 p1 => nxt_now w1 (sr1.set i r1) p1))⟩
theorem qs_setLcC {i : Nat} {y : Str} {py spos : Pos} (hc : X.calm = true) (hN : X.N.Nodup) (hy : X.N[i]? = some y) (hyl : X.env.scope.names.lookup y = some .local)
    (hsw : swapsWith (.ListComp elt [⟨tg, iter, ifs, 0⟩] scope pos) (some (.Name y py)) spos.line X.env = pure true) (hi : PI X tg iter (tI G E src)) (ok : BlkOk X.N X.env.scope scope own)
    (hg : ∀ (s : Shared) (H : Hp) (C : Addr) (cl : List (Str × Addr)) (fp : List Addr), QG (X.blk s H scope (compEnvC scope cl C X.env) fp) G tg g t ix)
    (ht : ∀ (s : Shared) (H : Hp) (C : Addr) (cl : List (Str × Addr)) (fp : List Addr), PTs (X.blk s H scope (compEnvC scope cl C X.env) fp) ifs (tT G E2 tt))
    (he : ∀ (s : Shared) (H : Hp) (C : Addr) (cl : List (Str × Addr)) (fp : List Addr), PE (X.blk s H scope (compEnvC scope cl C X.env) fp) elt (tE G E2 te))
    (hix : ∀ i ∈ ix, i ∈ own.map (·.2) := by decide) (hs : ∀ x, foldedSetIterable iter X.env x = pure x := by intro _; rfl) :
    PS X (.Assign [.Name y py] (.ListComp elt [⟨tg, iter, ifs, 0⟩] scope pos) spos) (tS G E (sSet i (evLcC src t tt te (own.map (·.2))))) :=
  ⟨fun pins s0 σ H D I ⟨R, ρ, s, M, w, sr, p⟩ => (ps_setLc hc hN hy hyl hsw hi ok (fun s H C cl fp => (hg s H C cl fp).pg) ht he hs).run pins s0 σ H D I (lc_new (hg s0 H 0 [] []).sim hix
    (stepS (Q' := fun x H1 => gName i x σ H1 D.nx) w sr p fun R1 ρ1 M1 H1 va v e1 w1 sr1 r1 p1 => nxt_now w1 (sr1.set i r1) p1))⟩
end

/-! ### defs -/
abbrev FM := List Va → Store → Res
def kFn (n : Nat) (f : FM) : FM := fun l M => if l.length = n then f l M else none
def spI (G : Sig) (n : Nat) (f : FM) : Sp := fun vs H Q E => vs.length = n ∧ ∃ R ρ M l, Wd G R ρ M H ∧ VRs G R ρ l vs ∧ Post G R ρ H (f l M) Q E0
def startI (n : Nat) (l : List Va) : SL := l.map some ++ List.replicate (n - l.length) none
def endF (r : RS) : Res := match r with
  | some (.nx, _, M) => some (.val .non, M)
  | some (.ret v, _, M) => some (.val v, M)
  | some (.exc c v, _, M) => some (.exc c v, M)
  | _ => none
def runF (n : Nat) (es : SS) : FM := fun l M => endF (es (startI n l) M)
theorem sr_start {G : Sig} {R : Hp} {ρ : List Addr} {N : List Str} {l : List Va} {vs : List V} (r : VRs G R ρ l vs) : SR G R ρ (startI N.length l) (L2.start N vs) := by
  have hl := r.length
  refine ⟨by unfold startI L2.start; simp [hl], fun i x e => ?_⟩
  unfold startI at e
  unfold L2.start
  by_cases hi : i < l.length
  · rw [List.getElem?_append_left (by simpa using hi), List.getElem?_map] at e
    cases q : l[i]? with
    | none => rw [q] at e; cases e
    | some y =>
      rw [q] at e
      cases e
      obtain ⟨v, h1, h2⟩ := r.get q
      exact ⟨v, by rw [List.getElem?_append_left (by simp; omega), List.getElem?_map, h1]; rfl, h2⟩
  · rw [List.getElem?_append_right (by simpa using hi), List.getElem?_replicate] at e
    split at e <;> cases e
theorem post_end {G : Sig} {R : Hp} {ρ : List Addr} {H : Hp} {r : RS} {Q : VK} {E : XK} (h : Post G R ρ H (endF r) Q E) : PostS G R ρ H r { nx := fun _ H' => Q .non H', rt := Q } E := by
  rcases r with _ | ⟨_ | x | _ | _ | ⟨c, x⟩, s, M⟩
  · exact h
  · exact fun R' ρ' H' σ' e w sr => h R' ρ' H' .non e w .non
  · exact h
  · exact False.elim h
  · exact False.elim h
  · exact h
theorem spI_imp {G : Sig} {n : Nat} {f f' : FM} (h : ∀ l M r, f' l M = some r → f l M = some r) : ∀ vs H Q E, spI G n f' vs H Q E → spI G n f vs H Q E := fun vs H Q E ⟨hl, R, ρ, M, l, w, r, p⟩ => by
  refine ⟨hl, R, ρ, M, l, w, r, ?_⟩
  cases q : f' l M with
  | none => rw [q] at p; exact False.elim p
  | some x => rw [q] at p; rw [h l M x q]; exact p
/-! ### a def's promise where no repr is under way (the guards are known) -/
structure FnG (P : Program) (w : World) (K : PySem.W.Frag) (mg : Str → Option Value) (base : Heap) (CX : CXT) (k : Nat) (f : Addr) (fd : FuncData) (ps : List Str) (sp : Sp) : Prop where
  arity : ∀ vs H Q E, sp vs H Q E → vs.length = ps.length
  go : ∀ (A : Around), Room k A → A.guards = some [] →
    ∀ (outer : List Env) (s : Shared) (H : Hp), Env0 P w K mg base A outer s H →
    ∀ (args : Args) (us : List Value) (vs : List V), BindsTo s fd args (ps.zip us) → Vals vs us →
    ∀ (Q : VK) (E : XK), sp vs H Q E → codeAny (model P w) A (.call (.ref f) args) (CR CX outer P w H s Q E) s
section
variable {P : Program} {w : World} {K : PySem.W.Frag} {mg : Str → Option Value} {base : Heap} {G : Sig} {CX : CXT}
theorem FnG.mono {j k : Nat} {f : Addr} {fd : FuncData} {ps : List Str} {sp : Sp} (F : FnG P w K mg base CX j f fd ps sp) (h : j ≤ k) : FnG P w K mg base CX k f fd ps sp :=
  ⟨F.arity, fun A r g => F.go A (r.mono h) g⟩
theorem FnG.imp {k : Nat} {f : Addr} {fd : FuncData} {ps : List Str} {sp sp' : Sp} (F : FnG P w K mg base CX k f fd ps sp) (h : ∀ vs H Q E, sp' vs H Q E → sp vs H Q E) : FnG P w K mg base CX k f fd ps sp' :=
  ⟨fun vs H Q E q => F.arity vs H Q E (h vs H Q E q), fun A r g outer s H e args us vs b v Q E q => F.go A r g outer s H e args us vs b v Q E (h vs H Q E q)⟩
theorem fnG_of {x qual : Str} {st : Stmt} {f : Addr} {fd : FuncData} {N ps : List Str} {k : Nat} {sp : Sp} (F : Fun K x qual st f fd) (S : FnScope N ps (defScope st)) (ar : ∀ vs H Q E, sp vs H Q E → vs.length = ps.length)
    (body : ∀ (cdv : Value) (A : Around) (outer : List Env) (s : Shared) (H : Hp) (vs : List V) (Q : VK) (E : XK), Room k (A.deeper (envOfC qual (defScope st) s.heap.objs.size f cdv)) → A.guards = some [] → sp vs H Q E →
      ∃ t, PSs (cxOf CX P w K mg base N qual (defScope st) f cdv A outer s H E) (defBody st) t ∧ t { nx := fun _ H' => Q .non H', rt := Q } (L2.start N vs) H) :
    FnG P w K mg base CX (k + 1) f fd ps sp := by
  obtain ⟨oc, od, kV, doc, pm, an, cdv, ct, osl, rfl, lk, hcd⟩ := F.ex
  refine ⟨ar, fun A rm gd outer s H e0 args us vs bt rv Q E q => ?_⟩
  have arl := ar vs H Q E q
  have kh : K.In s.heap := e0.mod.kin.keeps fun b o z => (e0.bs b o z).1
  have nl : s.heap.NoLimit := e0.mod.nolimit.keeps fun b o z => (e0.bs b o z).1
  refine codeAny_call_function rm.depth (kh _ _ lk) rfl S.co S.gen rfl (PySem.W.codeRec_of kh hcd) (bt _ _ _ _ ?_)
  refine wpAny_newFunctionEnv_cells S.kind (fun ⟨n, v⟩ hm => ?_) fun env he s1 ic => ?_
  · have hp := (List.of_mem_zip hm).1
    rcases S.par n hp with z | z
    · exact .inl z
    · exact .inr ⟨z, PySem.W.cellsFrom_some _ _ _ (.inl z)⟩
  · subst he
    refine ⟨nl.keeps ic.toInCall.keep, codeAny_func ?_⟩
    obtain ⟨t, pt, tt⟩ := body cdv A outer s H vs Q E (rm.deeper _) gd q
    have J := inv_start (CX := CX) (E := E) S rm.hd e0 arl rv ic
    refine wpAny_mono (pt.run [] s1 (L2.start N vs) H _ J tt) (fun fl s' z => ?_) fun _ _ z => z
    match fl, z with
    | .next, ⟨_, H', J', q'⟩ => exact ⟨.non, H', J'.os, J'.bare, J'.base, J'.hok, rfl, q'⟩
    | .ret u, ⟨v, _, H', J', rv', q'⟩ => exact ⟨v, H', J'.os, J'.bare, J'.base, J'.hok, rv', q'⟩
    | .brk, ⟨_, _, _, q'⟩ => exact q'.elim
    | .cont, ⟨_, _, _, q'⟩ => exact q'.elim
/-- a def that raises nothing, by the value of its body -/
theorem ok_fn {x qual : Str} {st : Stmt} {f : Addr} {fd : FuncData} {N ps : List Str} {k : Nat} {es : SS} (F : Fun K x qual st f fd) (S : FnScope N ps (defScope st))
    (hb : ∀ (cdv : Value) (A : Around) (outer : List Env) (s : Shared) (H : Hp) (E : XK), Room k (A.deeper (envOfC qual (defScope st) s.heap.objs.size f cdv)) → A.guards = some [] →
      PSs (cxOf CX0 P w K mg base N qual (defScope st) f cdv A outer s H E).nox (defBody st) (tS G E0 es)) : FnG P w K mg base CX0 (k + 1) f fd ps (spI G ps.length (runF N.length es)) :=
  fnG_of F S (fun vs H Q E h => h.1) fun cdv A outer s H vs Q E hr hg ⟨hl, R, ρ, M, l, wd, r, p⟩ =>
    ⟨_, (hb cdv A outer s H E hr hg).nox, R, ρ, startI N.length l, M, wd, sr_start r, post_end p⟩
end
section
variable {X : Cx} {G : Sig} {E : XK} {a o : Expr} {es : List Expr} {ea eo : SE} {pos p' apos : Pos} {k : Nat} {f C : Addr} {fd : FuncData} {ps : List Str} {x m : Str} {n : Nat} {fM : FM} {sp : Sp} {CX : CXT} {ta : TE} {t : TA} {dvs : List V} {ds : List Value}
theorem run_fnG {pins : List (Addr × Obj)} {σ : L2.St} {H : Hp} {s : Shared} {Q : VK} {us : List Value} {vs : List V} (F : FnG X.prog X.w X.K X.mg X.base CX k f fd ps sp) (hr : Room k X.A) (hgd : X.A.guards = some []) (hb : Binds X.K fd ps ds) (hd : Vals dvs ds)
    (hx : Passes CX X E) (I : Inv X pins σ H s) (rv : Vals vs us) (h : sp (vs ++ dvs) H Q E) : wpAny (model X.prog X.w) X.A (call (.ref f) us) (EP X pins σ Q) X.xe s := by
  have r2 := rv.append hd
  have bt := hb s us I.kIn (r2.length ▸ F.arity _ _ _ _ h)
  refine wpAny_call (codeAny_mono (F.go X.A hr hgd X.stack s H I.env0 _ _ _ bt r2 Q E h) fun r s' z => ?_)
  match r, z with
  | .error e, z => exact hx pins σ H s e s' I z
  | .ok (.ret u), z => exact I.after z
  | .ok .next, z => exact False.elim z
  | .ok .brk, z => exact False.elim z
  | .ok .cont, z => exact False.elim z
theorem pe_callG (F : FnG X.prog X.w X.K X.mg X.base CX k f fd ps sp) (hr : Room k X.A) (hgd : X.A.guards = some []) (hg : Gl X x) (hm : X.mg x = some (.ref f)) (hk : PySem.W.keepIn X.K (.ref f) = true) (hb : Binds X.K fd ps ds) (hd : Vals dvs ds) (hx : Passes CX X E)
    (ha : PA X (a :: es) t) (hdb : (x == ("__debug__" : Str)) = false := by decide) (he : starEach (a :: es) X.env = (false, eval a X.env) :: starEach es X.env := by rfl) (hpl : (backTo pos (starEach es X.env)).any (·.1) = false := by rfl) :
    PE X (.Call (.Name x p') (a :: es) [] pos) (tCall sp dvs E t) :=
  ⟨fun pins s σ H Q I h => wpAny_Call_Name_kw (ld_glob I hg hm (PySem.W.callWith_K (h₀ := X.base) I.ok.mod.kin hk
    (thn (ha.run pos pins s σ H _ I h) fun _ _ ⟨_, _, I1, r, q⟩ => ⟨I1.kIn, run_fnG F hr hgd hb hd hx I1 r q⟩) he hpl) hdb)⟩
theorem pe_callG0 (F : FnG X.prog X.w X.K X.mg X.base CX k f fd ps sp) (hr : Room k X.A) (hgd : X.A.guards = some []) (hg : Gl X x) (hm : X.mg x = some (.ref f)) (hk : PySem.W.keepIn X.K (.ref f) = true) (hb : Binds X.K fd ps ds) (hd : Vals dvs ds) (hx : Passes CX X E)
    (hdb : (x == ("__debug__" : Str)) = false := by decide) : PE X (.Call (.Name x p') [] [] pos) (tCall sp dvs E tNil) :=
  ⟨fun pins s σ H Q I h => wpAny_Call_Name_kw (ld_glob I hg hm (PySem.W.callWith_K0 I.kIn hk (run_fnG (us := []) F hr hgd hb hd hx I .nil h)) hdb)⟩
theorem q_fn (F : FnG X.prog X.w X.K X.mg X.base CX0 k f fd ps (spI G n fM)) (hr : Room k X.A) (hgd : X.A.guards = some []) (hg : Gl X x) (hm : X.mg x = some (.ref f)) (hk : PySem.W.keepIn X.K (.ref f) = true) (hb : Binds X.K fd ps [])
    (ha : PA X (a :: es) (tA G E0 ea)) (hdb : (x == ("__debug__" : Str)) = false := by decide) (he : starEach (a :: es) X.env = (false, eval a X.env) :: starEach es X.env := by rfl) (hpl : (backTo pos (starEach es X.env)).any (·.1) = false := by rfl) :
    PE X (.Call (.Name x p') (a :: es) [] pos) (tE G E0 (evL (kFn n fM) ea)) :=
  pe_imp (pe_callG F hr hgd hg hm hk hb .nil pass0 ha hdb he hpl) fun σ H Q ⟨R, ρ, s, M, w, sr, p⟩ => stepA w sr p fun R1 ρ1 M1 H1 l vs e1 w1 sr1 r1 p1 => by
    unfold kFn at p1
    by_cases hl : l.length = n
    · rw [if_pos hl] at p1
      exact ⟨by rw [List.append_nil, ← r1.length]; exact hl, R1, ρ1, M1, l, w1, by rw [List.append_nil]; exact r1, p1⟩
    · rw [if_neg hl] at p1; exact False.elim p1
theorem q_fn0 (F : FnG X.prog X.w X.K X.mg X.base CX0 k f fd ps (spI G 0 fM)) (hr : Room k X.A) (hgd : X.A.guards = some []) (hg : Gl X x) (hm : X.mg x = some (.ref f)) (hk : PySem.W.keepIn X.K (.ref f) = true) (hb : Binds X.K fd ps [])
    (hdb : (x == ("__debug__" : Str)) = false := by decide) : PE X (.Call (.Name x p') [] [] pos) (tE G E0 (evL (kFn 0 fM) evNil)) :=
  pe_imp (pe_callG0 F hr hgd hg hm hk hb .nil pass0 hdb) fun σ H Q ⟨R, ρ, s, M, w, sr, p⟩ => ⟨rfl, R, ρ, M, [], w, .nil, p⟩
end

/-! ### the law's end -/
/-- the law's call, its promise by value -/
theorem law_end {P : Program} {w : World} {K : PySem.W.Frag} {mg mb : Str → Option Value} {k : Nat} {fa a : Addr} {fd : FuncData} {x : Str} {s : Shared} {vs : List Value} {ns : List Int} {CA : Nat → Addr} {f : FM} {M' : Store}
    (kin : K.In s.heap) (gl : s.heap.Ns mainGlobals mg) (bl : s.heap.Ns builtinsNs mb) (blt : ∀ x : Str, x ≠ "__name__" → mb x = bootBuiltins x) (nl : s.heap.NoLimit) (md : ∃ mm, s.heap.Ns sysModules mm) (ng : s.gens = #[])
    (ha : s.heap.get? a = some { cls := .type "list", data := .seq vs.toArray }) (hi : IntsAre vs ns) (hz : ns.length ≤ sizeLine) (rm : Room k callerA)
    (F : ∀ base : Heap, K.In base → base.Ns mainGlobals mg → (∃ mm, base.Ns sysModules mm) → FnG P w K mg base CX0 k fa fd [x] (spI ⟨K, CA⟩ 1 f)) (bt : ∀ (s : Shared) (u : Value), BindsTo s fd ⟨[u], []⟩ [(x, u)])
    (hf : f [.scr ns] ⟨fun _ => none, 0⟩ = some (.val (.bl true), M')) :
    codeAny (model P w) callerA (.call (.ref fa) ⟨[.ref a], []⟩) (fun r s' => r = .ok (.ret (.bool true)) ∧ OldK s.heap s'.heap ∧ s'.os = s.os ∧ AllBare s'.gens) s := by
  have rv : Vals (ns.map V.int) vs := L2.vals_ints hi
  have main : ∀ H : Hp, SqL K H a (ns.map V.int) → HOk P w H s.heap → (∀ b u, H b = some u → b = a ∧ K.lookup a = none ∧ ∃ o xs, u = .frz o (.lst xs)) →
      codeAny (model P w) callerA (.call (.ref fa) ⟨[.ref a], []⟩) (fun r s' => r = .ok (.ret (.bool true)) ∧ OldK s.heap s'.heap ∧ s'.os = s.os ∧ AllBare s'.gens) s := by
    intro H sq ok only
    have un : ∀ {b : Addr} {o : Obj}, s.heap.get? b = some o → (b = a → K.lookup a ≠ none ∨ ∃ es ep, o.data = .dict es ep) → (hidT s.heap H).get? b = some o := fun {b o} e h => by
      refine hidT_get e ?_
      cases q : H b with
      | none => rfl
      | some u =>
        obtain ⟨rfl, z, _⟩ := only b u q
        rcases h rfl with h | ⟨es, ep, d⟩
        · exact absurd z h
        · rw [ha] at e
          cases e
          cases d
    have ns' : ∀ {b : Addr} {m : Str → Option Value}, s.heap.Ns b m → (hidT s.heap H).Ns b m := fun ⟨o, es, ep, e, d, r⟩ => ⟨o, es, ep, un e fun _ => .inr ⟨es, ep, d⟩, d, r⟩
    have kin' : K.In (hidT s.heap H) := fun b o e => un (kin b o e) fun z => .inl (by rw [← z, e]; simp)
    have nl' : (hidT s.heap H).NoLimit := nl.elim fun m z => ⟨m, ns' z.1, z.2⟩
    have e0 : Env0 P w K mg (hidT s.heap H) callerA [] s H :=
      { frames := rfl, mod := { kin := kin', glob := ns' gl, blt := ⟨mb, ns' bl, blt⟩, nolimit := nl' }, bs := fun b o e => of_hidT e, bsz := Nat.le_of_eq (hidT_size _ _), funs := trivial,
        frf := fun b hb => (nomatch hb), hok := ok, bare := .of_eq ng }
    have wd : Wd ⟨K, CA⟩ H [] ⟨fun _ => none, 0⟩ H := ⟨fun _ _ h => h, rfl, fun _ _ h => (nomatch h), fun _ _ _ _ _ h => (nomatch h), fun _ h => (nomatch h)⟩
    have sp : spI ⟨K, CA⟩ 1 f [.ref a] H (fun v H' => v = .bl true) fun _ _ _ => False :=
      ⟨rfl, H, [], ⟨fun _ => none, 0⟩, [.scr ns], wd, .cons (.scr sq hz) .nil, by
        rw [hf]
        intro R' ρ' H' v _ _ r
        cases r
        rfl⟩
    refine codeAny_mono ((F _ kin' (ns' gl) (md.elim fun m z => ⟨m, ns' z⟩)).go callerA rm rfl [] s H e0 ⟨[.ref a], []⟩ [.ref a] [.ref a] (bt s (.ref a)) (.cons rfl .nil) _ _ sp) fun r s' z => ?_
    match r, z with
    | .error e, z => exact z.elim
    | .ok .next, z => exact z.elim
    | .ok .brk, z => exact z.elim
    | .ok .cont, z => exact z.elim
    | .ok (.ret u), ⟨v, H', os, bare, keep, ok', ru, q⟩ =>
      subst q
      obtain rfl : u = Value.bool true := ru
      refine ⟨rfl, OldK.of_keep fun b o e => ?_, os, bare⟩
      cases q : H b with
      | none => exact keep.keep b o e q (fun z => nomatch z) fun z => nomatch z
      | some u =>
        obtain ⟨_, _, ob, xs, rfl⟩ := only b u q
        have f1 := (ok b _ q).1
        have f2 := (ok' b _ (keep.frzs b ob _ q)).1
        rw [e] at f1
        cases f1
        exact f2
  by_cases kl : K.lookup a = none
  · refine main (fun b => if b = a then some (.frz { cls := .type "list", data := .seq vs.toArray } (.lst (ns.map V.int))) else none) (.inl (.inr ⟨_, if_pos rfl⟩)) (fun b u z => ?_) fun b u z => ?_
    all_goals
      try dsimp only at z
      by_cases q : b = a
      · subst q
        rw [if_pos rfl] at z
        cases z
        first
          | exact ⟨rfl, kl, _, _, rfl⟩
          | exact ⟨ha, by rw [List.length_map]; exact hz, vs, 0, rv, ha⟩
      · rw [if_neg q] at z
        cases z
  · obtain ⟨o, kl⟩ := Option.ne_none_iff_exists'.mp kl
    have e := kin a o kl
    rw [ha] at e
    cases e
    exact main (fun _ => none) (.inr ⟨_, vs.toArray, 0, kl, rfl, rfl, rfl, by rw [List.size_toArray, ← rv.length, List.length_map]; exact hz, rv⟩) (fun b u z => by cases z) fun b u z => by cases z
end PV

set_option Elab.async false
set_option linter.all false
set_option maxRecDepth 100000
set_option maxHeartbeats 4000000
namespace PV
open PySem L2

/-! ### numbers -/
def divOk (j : Int) : Prop := 0 < j ∧ j.natAbs.log2 < 9000
def powOk (i j : Int) : Prop := 0 ≤ j ∧ (Builtin.Int.intBits i : Int) * j ≤ 2 ^ 27
noncomputable section
open Classical
def opAdd (M : Store) (a b : Va) : Option Va := match a, b with
  | .int i, .int j => some (.int (i + j))
  | .str x, .str y => if x.length + y.length ≤ sizeLine then some (.str (x ++ y)) else none
  | a, b => match ownOf M a, ownOf M b with
    | some l, some m => if l.length + m.length ≤ sizeLine then some (.lst (l ++ m)) else none
    | _, _ => none
def opSub (M : Store) (a b : Va) : Option Va := match a, b with
  | .int i, .int j => some (.int (i - j))
  | _, _ => none
def opMul (M : Store) (a b : Va) : Option Va := match a, b with
  | .int i, .int j => if IntMulOk i j then some (.int (i * j)) else none
  | a, .int k => match ownOf M a with
    | some l => if -(2 ^ 63) ≤ k ∧ k < 2 ^ 63 ∧ l.length * k.toNat ≤ sizeLine then some (.lst (List.replicate k.toNat l).flatten) else none
    | none => none
  | _, _ => none
def opDiv (M : Store) (a b : Va) : Option Va := match a, b with
  | .int i, .int j => if divOk j then some (.int (i / j)) else none
  | _, _ => none
def opMod (M : Store) (a b : Va) : Option Va := match a, b with
  | .int i, .int j => if 0 < j then some (.int (i % j)) else none
  | _, _ => none
def opPow (M : Store) (a b : Va) : Option Va := match a, b with
  | .int i, .int j => if powOk i j then some (.int (i ^ j.toNat)) else none
  | _, _ => none
end
def opLt (M : Store) (a b : Va) : Option Va := match a, b with
  | .int i, .int j => some (.bl (decide (i < j)))
  | _, _ => none
def opLe (M : Store) (a b : Va) : Option Va := match a, b with
  | .int i, .int j => some (.bl (decide (i ≤ j)))
  | _, _ => none
def opGt (M : Store) (a b : Va) : Option Va := match a, b with
  | .int i, .int j => some (.bl (decide (j < i)))
  | _, _ => none
def opGe (M : Store) (a b : Va) : Option Va := match a, b with
  | .int i, .int j => some (.bl (decide (j ≤ i)))
  | _, _ => none
def opNeg (M : Store) (a : Va) : Option Va := match a with
  | .int i => some (.int (-i))
  | _ => none

abbrev rAddS : R2 := fun x y H Q => ∃ i j, x = .str i ∧ y = .str j ∧ i.length + j.length ≤ sizeLine ∧ Q (.str (i ++ j)) H
section
variable {G : Sig} {X : Cx}
theorem s_add : Op2 G (fun x y H Q => rI0 (fun i j => .int (i + j)) x y H Q ∨ (rAddS x y H Q ∨ rCat x y H Q)) opAdd := by
  intro R ρ M H x y va vb res Q w ra rb h g
  have lists : (match ownOf M va, ownOf M vb with
    | some l, some m => if l.length + m.length ≤ sizeLine then some (Va.lst (l ++ m)) else none
    | _, _ => none) = some res → rCat x y H Q := fun h => by
    split at h
    · rename_i l m h1 h2
      obtain ⟨a, vs, rfl, ha, rv, z⟩ := own_read w ra h1
      obtain ⟨b, ws, rfl, hb, rw', z'⟩ := own_read w rb h2
      split at h
      · rename_i hz
        cases h
        exact ⟨a, b, vs, ws, rfl, rfl, ha, hb, by rw [← rv.length, ← rw'.length]; exact hz, fun p hp => gives_lst w (rv.append rw') (by simpa using hz) g hp⟩
      · cases h
    · cases h
  unfold opAdd at h
  split at h
  · cases h; cases ra; cases rb
    exact .inl ⟨_, _, rfl, rfl, gives_now w (.int _) g⟩
  · cases ra; cases rb
    split at h
    · rename_i hz; cases h
      exact .inr (.inl ⟨_, _, rfl, rfl, hz, gives_now w (.str _) g⟩)
    · cases h
  · exact .inr (.inr (lists h))
theorem q_add {E : XK} {a b : Expr} {ea eb : SE} {pos : Pos} (ha : PE X a (tE G E ea)) (hb : PE X b (tE G E eb)) : PE X (.BinOp a .Add b pos) (tE G E (ev2 opAdd ea eb)) := q_op (op_add.or (op_add_str.or op_cat)) s_add ha hb
theorem s_sub : Op2 G (rI0 fun i j => .int (i - j)) opSub := by
  intro R ρ M H x y va vb res Q w ra rb h g
  unfold opSub at h
  split at h
  · cases h; cases ra; cases rb
    exact ⟨_, _, rfl, rfl, gives_now w (.int _) g⟩
  · cases h
theorem q_sub {E : XK} {a b : Expr} {ea eb : SE} {pos : Pos} (ha : PE X a (tE G E ea)) (hb : PE X b (tE G E eb)) : PE X (.BinOp a .Sub b pos) (tE G E (ev2 opSub ea eb)) := q_op op_sub s_sub ha hb
theorem op_mulA : OpR X (binaryOp .Mult) (rI IntMulOk fun i j => .int (i * j)) := opI fun _ _ _ _ _ _ _ hc q => PyProof.Rows.mul_int q hc
theorem VRs.rep {R : Hp} {ρ : List Addr} {l : List Va} {vs : List V} (r : VRs G R ρ l vs) : ∀ n : Nat, VRs G R ρ (List.replicate n l).flatten (List.replicate n vs).flatten
  | 0 => .nil
  | n + 1 => by
    rw [List.replicate_succ, List.replicate_succ, List.flatten_cons, List.flatten_cons]
    exact r.append (VRs.rep r n)
theorem s_mul : Op2 G (fun x y H Q => rI IntMulOk (fun i j => .int (i * j)) x y H Q ∨ rRep x y H Q) opMul := by
  intro R ρ M H x y va vb res Q w ra rb h g
  unfold opMul at h
  split at h
  · cases ra; cases rb
    split at h
    · rename_i hz; cases h
      exact .inl ⟨_, _, rfl, rfl, hz, gives_now w (.int _) g⟩
    · cases h
  · cases rb
    split at h
    · rename_i l h1
      obtain ⟨a, vs, rfl, ha, rv, z⟩ := own_read w ra h1
      split at h
      · rename_i hz
        cases h
        refine .inr ⟨a, _, vs, rfl, rfl, ha, hz.1, hz.2.1, by rw [← rv.length]; exact hz.2.2, fun p hp => gives_lst w (rv.rep _) ?_ g hp⟩
        rw [List.length_flatten, List.map_replicate, List.sum_replicate_nat]
        rw [Nat.mul_comm]
        exact hz.2.2
      · cases h
    · cases h
  · cases h
theorem q_mul {E : XK} {a b : Expr} {ea eb : SE} {pos : Pos} (ha : PE X a (tE G E ea)) (hb : PE X b (tE G E eb)) : PE X (.BinOp a .Mult b pos) (tE G E (ev2 opMul ea eb)) := q_op (op_mulA.or op_rep) s_mul ha hb
theorem s_div : Op2 G (rI CDivW fun i j => .int (i / j)) opDiv := by
  intro R ρ M H x y va vb res Q w ra rb h g
  unfold opDiv at h
  split at h
  · cases ra; cases rb
    split at h
    · rename_i hz; cases h
      exact ⟨_, _, rfl, rfl, hz, gives_now w (.int _) g⟩
    · cases h
  · cases h
theorem q_div {E : XK} {a b : Expr} {ea eb : SE} {pos : Pos} (ha : PE X a (tE G E ea)) (hb : PE X b (tE G E eb)) : PE X (.BinOp a .FloorDiv b pos) (tE G E (ev2 opDiv ea eb)) := q_op op_fdivW s_div ha hb
theorem s_mod : Op2 G (rI (fun _ j => 0 < j) fun i j => .int (i % j)) opMod := by
  intro R ρ M H x y va vb res Q w ra rb h g
  unfold opMod at h
  split at h
  · cases ra; cases rb
    split at h
    · rename_i hz; cases h
      exact ⟨_, _, rfl, rfl, hz, gives_now w (.int _) g⟩
    · cases h
  · cases h
theorem q_mod {E : XK} {a b : Expr} {ea eb : SE} {pos : Pos} (ha : PE X a (tE G E ea)) (hb : PE X b (tE G E eb)) : PE X (.BinOp a .Mod b pos) (tE G E (ev2 opMod ea eb)) := q_op op_mod s_mod ha hb
theorem op_powW : OpR X (binaryOp .Pow) (rI powOk fun i j => .int (i ^ j.toNat)) := opI fun _ _ _ _ _ _ _ hc q => PyProof.Rows.pow_int hc.1 hc.2 q
theorem s_pow : Op2 G (rI powOk fun i j => .int (i ^ j.toNat)) opPow := by
  intro R ρ M H x y va vb res Q w ra rb h g
  unfold opPow at h
  split at h
  · cases ra; cases rb
    split at h
    · rename_i hz; cases h
      exact ⟨_, _, rfl, rfl, hz, gives_now w (.int _) g⟩
    · cases h
  · cases h
theorem q_pow {E : XK} {a b : Expr} {ea eb : SE} {pos : Pos} (ha : PE X a (tE G E ea)) (hb : PE X b (tE G E eb)) : PE X (.BinOp a .Pow b pos) (tE G E (ev2 opPow ea eb)) := q_op op_powW s_pow ha hb
theorem s_lt : Op2 G (rI0 fun i j => .bl (decide (i < j))) opLt := by
  intro R ρ M H x y va vb res Q w ra rb h g
  unfold opLt at h
  split at h
  · cases h; cases ra; cases rb
    exact ⟨_, _, rfl, rfl, gives_now w (.bl _) g⟩
  · cases h
theorem s_le : Op2 G (rI0 fun i j => .bl (decide (i ≤ j))) opLe := by
  intro R ρ M H x y va vb res Q w ra rb h g
  unfold opLe at h
  split at h
  · cases h; cases ra; cases rb
    exact ⟨_, _, rfl, rfl, gives_now w (.bl _) g⟩
  · cases h
theorem s_gt : Op2 G (rI0 fun i j => .bl (decide (j < i))) opGt := by
  intro R ρ M H x y va vb res Q w ra rb h g
  unfold opGt at h
  split at h
  · cases h; cases ra; cases rb
    exact ⟨_, _, rfl, rfl, gives_now w (.bl _) g⟩
  · cases h
theorem s_ge : Op2 G (rI0 fun i j => .bl (decide (j ≤ i))) opGe := by
  intro R ρ M H x y va vb res Q w ra rb h g
  unfold opGe at h
  split at h
  · cases h; cases ra; cases rb
    exact ⟨_, _, rfl, rfl, gives_now w (.bl _) g⟩
  · cases h
theorem s_neg : Op1 G (rU fun i => .int (-i)) opNeg := by
  intro R ρ M H x va res Q w ra h g
  unfold opNeg at h
  split at h
  · cases h; cases ra
    exact ⟨_, rfl, gives_now w (.int _) g⟩
  · cases h
theorem q_neg {E : XK} {a : Expr} {ea : SE} {pos : Pos} (ha : PE X a (tE G E ea)) : PE X (.UnaryOp .USub a pos) (tE G E (ev1 opNeg ea)) := q_un un_neg s_neg ha
end

/-! ### plain data -/
def kPd : Key → PyData
  | .inl i => .int i
  | .inr x => .str x
mutual
inductive PdR (M : Store) : Va → PyData → Prop
  | non : PdR M .non .none
  | bl (b : Bool) : PdR M (.bl b) (.bool b)
  | int (i : Int) : PdR M (.int i) (.int i)
  | str (x : Str) : PdR M (.str x) (.str x)
  | lst {x : Va} {l : List Va} {ds : List PyData} : lstOf M x = some l → PdRs M l ds → PdR M x (.list ds)
  | tup {l : List Va} {ds : List PyData} : PdRs M l ds → PdR M (.tup l) (.tuple ds)
  | dic {x : Va} {l : List (Key × Va)} {ds : List (PyData × PyData)} : dicOf M x = some l → PdRk M l ds → PdR M x (.dict ds)
inductive PdRs (M : Store) : List Va → List PyData → Prop
  | nil : PdRs M [] []
  | cons {x : Va} {d : PyData} {l : List Va} {ds : List PyData} : PdR M x d → PdRs M l ds → PdRs M (x :: l) (d :: ds)
inductive PdRk (M : Store) : List (Key × Va) → List (PyData × PyData) → Prop
  | nil : PdRk M [] []
  | cons {k : Key} {x : Va} {d : PyData} {l : List (Key × Va)} {ds : List (PyData × PyData)} : PdR M x d → PdRk M l ds → PdRk M ((k, x) :: l) ((kPd k, d) :: ds)
end
section
variable {M : Store}
mutual
theorem PdR.det : ∀ {x : Va} {d e : PyData}, PdR M x d → PdR M x e → d = e
  | _, _, _, .non, h => by cases h with
    | non => rfl
    | lst h _ => cases h
    | dic h _ => cases h
  | _, _, _, .bl b, h => by cases h with
    | bl => rfl
    | lst h _ => cases h
    | dic h _ => cases h
  | _, _, _, .int b, h => by cases h with
    | int => rfl
    | lst h _ => cases h
    | dic h _ => cases h
  | _, _, _, .str b, h => by cases h with
    | str => rfl
    | lst h _ => cases h
    | dic h _ => cases h
  | x, _, _, .lst h1 h2, h => by cases h with
    | lst g1 g2 =>
      rw [h1] at g1
      cases g1
      rw [PdRs.det h2 g2]
    | dic g1 g2 =>
      cases x <;> first | cases h1 <;> done | cases g1 <;> done | skip
      rename_i n
      unfold lstOf at h1
      unfold dicOf at g1
      dsimp only at h1 g1
      rcases q : M.c n with _ | _ | _ | _ <;> rw [q] at h1 g1 <;> first | cases h1 <;> done | cases g1
    | _ => cases h1
  | _, _, _, .tup h2, h => by cases h with
    | tup g2 => rw [PdRs.det h2 g2]
    | lst h _ => cases h
    | dic h _ => cases h
  | x, _, _, .dic h1 h2, h => by cases h with
    | dic g1 g2 =>
      rw [h1] at g1
      cases g1
      rw [PdRk.det h2 g2]
    | lst g1 g2 =>
      cases x <;> first | cases h1 <;> done | cases g1 <;> done | skip
      rename_i n
      unfold dicOf at h1
      unfold lstOf at g1
      dsimp only at h1 g1
      rcases q : M.c n with _ | _ | _ | _ <;> rw [q] at h1 g1 <;> first | cases h1 <;> done | cases g1
    | _ => cases h1
theorem PdRs.det : ∀ {x : List Va} {d e : List PyData}, PdRs M x d → PdRs M x e → d = e
  | _, _, _, .nil, h => by cases h; rfl
  | _, _, _, .cons h1 h2, h => by cases h with
    | cons g1 g2 => rw [PdR.det h1 g1, PdRs.det h2 g2]
theorem PdRk.det : ∀ {x : List (Key × Va)} {d e : List (PyData × PyData)}, PdRk M x d → PdRk M x e → d = e
  | _, _, _, .nil, h => by cases h; rfl
  | _, _, _, .cons h1 h2, h => by cases h with
    | cons g1 g2 => rw [PdR.det h1 g1, PdRk.det h2 g2]
end
end
noncomputable section
open Classical
def pdOf (M : Store) (x : Va) : Option PyData := if h : ∃ d, PdR M x d then some h.choose else none
theorem pdOf_eq {M : Store} {x : Va} {d : PyData} (h : PdR M x d) : pdOf M x = some d := by
  unfold pdOf
  have q : ∃ d, PdR M x d := ⟨d, h⟩
  rw [dif_pos q, PdR.det q.choose_spec h]
theorem pdOf_some {M : Store} {x : Va} {d : PyData} (h : pdOf M x = some d) : PdR M x d := by
  unfold pdOf at h
  split at h
  · rename_i q
    cases h
    exact q.choose_spec
  · cases h
end
section
variable {X : Cx} {pins : List (Addr × Obj)} {σ : L2.St} {H R : Hp} {s : Shared} {G : Sig} {ρ : List Addr} {M : Store}
/-- a datum without dicts is read off the heap -/
theorem hasDict_of {d : PyData} {ds : List PyData} (h : PyData.hasDictAll (d :: ds) = false) : d.hasDict = false ∧ PyData.hasDictAll ds = false := by
  simpa [PyData.hasDictAll] using h
mutual
theorem pd_reads (I : Inv X pins σ H s) (hK : X.K = G.K) (w : Wd G R ρ M H) : ∀ {x : Va} {d : PyData} {v : V} {u : Value}, PdR M x d → VR G R ρ x v → RelV v u → d.hasDict = false → ∃ as, Reads s.heap u d as
  | _, _, _, _, .non, r, q, _ => by cases r; cases q; exact ⟨_, .none⟩
  | _, _, _, _, .bl b, r, q, _ => by cases r; cases q; exact ⟨_, .bool b⟩
  | _, _, _, _, .int b, r, q, _ => by cases r; obtain ⟨t, rfl⟩ := q; exact ⟨_, .int b t⟩
  | _, _, _, _, .str b, r, q, _ => by cases r; obtain ⟨t, rfl⟩ := q; exact ⟨_, .str b t⟩
  | _, _, _, _, .lst h1 h2, r, q, hd => by
    obtain ⟨a, vs, rfl, sq, rv, _⟩ := lst_read w r h1
    cases q
    rw [← hK] at sq
    obtain ⟨its, r', ⟨o, n, ho, hc, _, hdt⟩, _⟩ := I.list sq
    obtain ⟨as, hr⟩ := pd_readsAll I hK w h2 rv r' (by simpa [PyData.hasDict] using hd)
    exact ⟨_, .list ho hc hdt hr⟩
  | _, _, _, _, .tup h2, r, q, hd => by
    obtain ⟨a, vs, rfl, sq, rv, _⟩ := tup_read w r rfl
    cases q
    obtain ⟨its, r', ⟨o, ho, hc, n, hdt⟩, _⟩ := I.tuple (.of sq)
    obtain ⟨as, hr⟩ := pd_readsAll I hK w h2 rv r' (by simpa [PyData.hasDict] using hd)
    exact ⟨_, .tuple ho hc hdt hr⟩
  | _, _, _, _, .dic _ _, _, _, hd => by simp [PyData.hasDict] at hd
theorem pd_readsAll (I : Inv X pins σ H s) (hK : X.K = G.K) (w : Wd G R ρ M H) : ∀ {l : List Va} {ds : List PyData} {vs : List V} {us : List Value}, PdRs M l ds → VRs G R ρ l vs → Vals vs us → PyData.hasDictAll ds = false → ∃ as, ReadsAll s.heap us ds as
  | _, _, _, _, .nil, r, q, _ => by cases r; cases q; exact ⟨_, .nil⟩
  | _, _, _, _, .cons h1 h2, r, q, hd => by
    cases r with
    | cons r1 r2 =>
      cases q with
      | cons q1 q2 =>
        obtain ⟨d1, d2⟩ := hasDict_of hd
        obtain ⟨as, e1⟩ := pd_reads I hK w h1 r1 q1 d1
        obtain ⟨bs, e2⟩ := pd_readsAll I hK w h2 r2 q2 d2
        exact ⟨_, .cons e1 e2⟩
end
end
section
variable {X : Cx} {pins : List (Addr × Obj)} {σ : L2.St} {H R : Hp} {s : Shared} {G : Sig} {ρ : List Addr} {M : Store}
theorem not_mods (I : Inv X pins σ H s) (hsb : ∃ mm, X.base.Ns sysModules mm) {a : Addr} {o : Obj} {vs : Array Value} {n : Nat} (h : s.heap.get? a = some o) (hd : o.data = .seq vs n) : a ≠ sysModules := fun e => by
  obtain ⟨mm, o', es, ep, e', d', _⟩ := hsb
  have := I.bk _ _ e'
  rw [e] at h
  rw [this] at h
  cases h
  rw [d'] at hd
  cases hd
theorem key_reads {k : Key} {u : Value} {h : Heap} (p1 : keyIs k u = true) : Reads h u (kPd k) [] := by
  rcases keyIs_shape p1 with ⟨i, t, ek, ev⟩ | ⟨x, t, ek, ev⟩
  · subst ek; rw [ev]; exact .int i t
  · subst ek; rw [ev]; exact .str x t
mutual
theorem pd_readsD (I : Inv X pins σ H s) (hsb : ∃ mm, X.base.Ns sysModules mm) (hK : X.K = G.K) (w : Wd G R ρ M H) : ∀ {x : Va} {d : PyData} {v : V} {u : Value}, PdR M x d → VR G R ρ x v → RelV v u → ∃ as, Reads s.heap u d as ∧ sysModules ∉ as
  | _, _, _, _, .non, r, q => by cases r; cases q; exact ⟨_, .none, by simp⟩
  | _, _, _, _, .bl b, r, q => by cases r; cases q; exact ⟨_, .bool b, by simp⟩
  | _, _, _, _, .int b, r, q => by cases r; obtain ⟨t, rfl⟩ := q; exact ⟨_, .int b t, by simp⟩
  | _, _, _, _, .str b, r, q => by cases r; obtain ⟨t, rfl⟩ := q; exact ⟨_, .str b t, by simp⟩
  | _, _, _, _, .lst h1 h2, r, q => by
    obtain ⟨a, vs, rfl, sq, rv, _⟩ := lst_read w r h1
    cases q
    rw [← hK] at sq
    obtain ⟨its, r', ⟨o, n, ho, hc, _, hdt⟩, _⟩ := I.list sq
    obtain ⟨as, hr, hm⟩ := pd_readsAllD I hsb hK w h2 rv r'
    refine ⟨_, .list ho hc hdt hr, fun z => ?_⟩
    rcases List.mem_cons.mp z with z | z
    · exact not_mods I hsb ho hdt z.symm
    · exact hm z
  | _, _, _, _, .tup h2, r, q => by
    obtain ⟨a, vs, rfl, sq, rv, _⟩ := tup_read w r rfl
    cases q
    obtain ⟨its, r', ⟨o, ho, hc, n, hdt⟩, _⟩ := I.tuple (.of sq)
    obtain ⟨as, hr, hm⟩ := pd_readsAllD I hsb hK w h2 rv r'
    exact ⟨_, .tuple ho hc hdt hr, hm⟩
  | _, _, _, _, .dic h1 h2, r, q => by
    obtain ⟨a, vs, rfl, ha, rv, _⟩ := dic_read w r h1
    cases q
    obtain ⟨_, hs, vs', kv, o, es, ep, ho, hex, hdt, _, hp, _⟩ := dk_of I.hok ha
    obtain ⟨as, bs, r1, r2, m1, m2⟩ := pd_readsKD I hsb hK w h2 rv kv hp
    refine ⟨_, .dict ho hex.1 hdt r1 r2, fun z => ?_⟩
    rcases List.mem_append.mp z with z | z
    · rcases List.mem_cons.mp z with z | z
      · rw [← z] at hs; simp at hs
      · exact m1 z
    · exact m2 z
theorem pd_readsAllD (I : Inv X pins σ H s) (hsb : ∃ mm, X.base.Ns sysModules mm) (hK : X.K = G.K) (w : Wd G R ρ M H) : ∀ {l : List Va} {ds : List PyData} {vs : List V} {us : List Value}, PdRs M l ds → VRs G R ρ l vs → Vals vs us → ∃ as, ReadsAll s.heap us ds as ∧ sysModules ∉ as
  | _, _, _, _, .nil, r, q => by cases r; cases q; exact ⟨_, .nil, by simp⟩
  | _, _, _, _, .cons h1 h2, r, q => by
    cases r with
    | cons r1 r2 =>
      cases q with
      | cons q1 q2 =>
        obtain ⟨as, e1, m1⟩ := pd_readsD I hsb hK w h1 r1 q1
        obtain ⟨bs, e2, m2⟩ := pd_readsAllD I hsb hK w h2 r2 q2
        exact ⟨_, .cons e1 e2, fun z => (List.mem_append.mp z).elim m1 m2⟩
theorem pd_readsKD (I : Inv X pins σ H s) (hsb : ∃ mm, X.base.Ns sysModules mm) (hK : X.K = G.K) (w : Wd G R ρ M H) : ∀ {l : List (Key × Va)} {ds : List (PyData × PyData)} {vs : List (Key × V)} {us : List (Key × Value)} {es : List DictEntry}, PdRk M l ds → VRk G R ρ l vs → KV vs us → Pairs (mixKind X.prog X.w) es us →
    ∃ as bs, ReadsAll s.heap (es.map (·.key)) (ds.map (·.1)) as ∧ ReadsAll s.heap (es.map (·.val)) (ds.map (·.2)) bs ∧ sysModules ∉ as ∧ sysModules ∉ bs
  | _, _, _, _, _, .nil, r, q, p => by cases r; cases q; cases p; exact ⟨_, _, .nil, .nil, by simp, by simp⟩
  | _, _, _, _, _, .cons (k := k) h1 h2, r, q, p => by
    cases r with
    | cons r1 r2 =>
      cases q with
      | cons q1 q2 =>
        cases p with
        | cons p1 p2 p3 =>
          obtain ⟨e1, rv⟩ := q1
          obtain ⟨as, g1, m1⟩ := pd_readsD I hsb hK w h1 r1 rv
          obtain ⟨bs, cs, g2, g3, m2, m3⟩ := pd_readsKD I hsb hK w h2 r2 q2 p3
          rw [← p2] at g1
          replace p1 : keyIs _ _ = true := p1
          rw [← e1] at p1
          exact ⟨_, _, .cons (key_reads p1) g2, .cons g1 g3, fun z => (List.mem_append.mp z).elim (by simp) m2, fun z => (List.mem_append.mp z).elim m1 m3⟩
end
end
/-- repr -/
noncomputable def kRepr (l : List Va) (M : Store) : Res := match l with
  | [x] => (match pdOf M x with
    | some d => if d.showable = true ∧ d.shown.length ≤ sizeLine ∧ d.depth ≤ 60 then some (.val (.str d.shown), M) else none
    | none => none)
  | _ => none
def rRepr (G : Sig) : List V → Hp → VK → Prop := fun xs H Q => ∃ x R ρ M va d, xs = [x] ∧ Wd G R ρ M H ∧ VR G R ρ va x ∧ PdR M va d ∧ (d.showable = true ∧ d.shown.length ≤ sizeLine ∧ d.depth ≤ 60) ∧ Q (.str d.shown) H
theorem repr_leaf {prog : Program} {w : World} {A : Around} {E : Value → Shared → Prop} {s : Shared} {Q : Value → Shared → Prop} {u : Value} {d : PyData} {as : List Addr} (r : Reads s.heap u d as) (hs : d.showable = true) (hd : sysModules ∉ as) (hz : d.shown.length ≤ sizeLine)
    (hg : A.guards = some []) (hu : A.units + (d.depth + 1) < cLine) (hQ : ∀ h' t tk, (∀ b o, s.heap.get? b = some o → h'.get? b = some o) → Q (.str d.shown t) { s with heap := h', toks := tk }) : wpAny (model prog w) A (call (.builtin "repr") [u]) Q E s := by
  cases r with
  | none => exact PySem.P.repr_of_none (hQ s.heap _ _ fun _ _ e => e)
  | bool b => exact PySem.P.repr_of_bool (hQ s.heap _ _ fun _ _ e => e)
  | int i t => exact PySem.P.repr_of_int (by simpa [PyData.showable] using hs) (hQ s.heap _ _ fun _ _ e => e)
  | str x t => exact PySem.P.repr_of_str (hQ s.heap _ _ fun _ _ e => e) hz
  | list h1 h2 h3 h4 => exact repr_of_reads' (.list h1 h2 h3 h4) hs (fun _ => hd) hg hu (fun _ _ e => e) hQ hz
  | tuple h1 h2 h3 h4 => exact repr_of_reads' (.tuple h1 h2 h3 h4) hs (fun _ => hd) hg hu (fun _ _ e => e) hQ hz
  | dict h1 h2 h3 h4 h5 => exact repr_of_reads' (.dict h1 h2 h3 h4 h5) hs (fun _ => hd) hg hu (fun _ _ e => e) hQ hz
section
variable {X : Cx} {G : Sig}
theorem call_reprA {k : Nat} (hK : X.K = G.K) (hr : Room k X.A) (hg : X.A.guards = some []) (hsb : ∃ mm, X.base.Ns sysModules mm) : CallR X (.builtin "repr") (rRepr G) := by
  intro pins s σ H xs us Q I rv ⟨x, R, ρ, M, va, d, e, w, r, pd, ⟨h1, h3, h4⟩, q⟩
  subst e
  obtain ⟨u, rfl, ru⟩ := vals1 rv
  obtain ⟨as, rd, h2⟩ := pd_readsD I hsb hK w pd r ru
  have un := hr.units
  exact repr_leaf rd h1 h2 h3 hg (by omega) fun h' t tk kp => ⟨.str d.shown, H, I.kept (t' := tk) kp, ⟨t, rfl⟩, q⟩
theorem s_repr : OpL G (rRepr G) kRepr := by
  intro R ρ M H xs l Q E w rv p
  unfold kRepr at p
  split at p
  · cases rv with
    | cons r1 r2 =>
      cases r2
      split at p
      · rename_i d hd
        split at p
        · rename_i hc
          exact ⟨_, R, ρ, M, _, d, rfl, w, r1, pdOf_some hd, hc, gives_now w (.str _) p⟩
        · exact False.elim p
      · exact False.elim p
  · exact False.elim p
end
/-! ### == -/
noncomputable section
open Classical
def eqS : Va → Va → Option Bool
  | .non, .non => some true | .non, .int _ => some false | .int _, .non => some false | .non, .bl _ => some false | .bl _, .non => some false | .non, .str _ => some false | .str _, .non => some false
  | .int i, .int j => some (decide (i = j)) | .bl i, .bl j => some (decide (i = j)) | .str i, .str j => some (decide (i = j))
  | .int _, .str _ => some false | .str _, .int _ => some false | .bl _, .str _ => some false | .str _, .bl _ => some false
  | _, _ => none
def eqP (M : Store) (a b : Va) : Option Bool := match pdOf M a, pdOf M b with
  | some d, some e => if SeqAt.shaped d = true ∧ SeqAt.shaped e = true then some (PyData.eqv d e) else none
  | _, _ => none
def opEq (M : Store) (a b : Va) : Option Va := match eqS a b with
  | some k => some (.bl k)
  | none => (eqP M a b).map Va.bl
def opNe (M : Store) (a b : Va) : Option Va := match eqS a b with
  | some k => some (.bl (!k))
  | none => (eqP M a b).map fun k => Va.bl (!k)
end
def rEqA (G : Sig) (neg : Bool) : R2 := fun x y H Q => ∃ R ρ M va vb d e, Wd G R ρ M H ∧ VR G R ρ va x ∧ VR G R ρ vb y ∧ PdR M va d ∧ PdR M vb e ∧ SeqAt.shaped d = true ∧ SeqAt.shaped e = true ∧ Q (.bl (if neg then !PyData.eqv d e else PyData.eqv d e)) H
section
variable {X : Cx} {G : Sig}
theorem op_eqA {k : Nat} (hK : X.K = G.K) (hr : Room k X.A) : OpR X (compareOp .Eq) (rEqA G false) := by
  intro pins s σ H x y v u Q I rx ry ⟨R, ρ, M, va, vb, d, e, w, ra, rb, pd, pe, sd, se, q⟩
  have nd : ∀ {d : PyData}, SeqAt.shaped d = true → d.hasDict = false := fun h => PyData.hasDict_of_canLay _ (SeqAt.canLay_of_shaped h)
  obtain ⟨as, r1⟩ := pd_reads I hK w pd ra rx (nd sd)
  obtain ⟨bs, r2⟩ := pd_reads I hK w pe rb ry (nd se)
  exact SeqAt.compareEq_shaped r1 r2 sd se hr.units ⟨.bl _, H, I, rfl, q⟩
theorem op_neA {k : Nat} (hK : X.K = G.K) (hr : Room k X.A) : OpR X (compareOp .NotEq) (rEqA G true) := by
  intro pins s σ H x y v u Q I rx ry ⟨R, ρ, M, va, vb, d, e, w, ra, rb, pd, pe, sd, se, q⟩
  have nd : ∀ {d : PyData}, SeqAt.shaped d = true → d.hasDict = false := fun h => PyData.hasDict_of_canLay _ (SeqAt.canLay_of_shaped h)
  obtain ⟨as, r1⟩ := pd_reads I hK w pd ra rx (nd sd)
  obtain ⟨bs, r2⟩ := pd_reads I hK w pe rb ry (nd se)
  exact SeqAt.compareNe_shaped r1 r2 sd se hr.units ⟨.bl _, H, I, rfl, q⟩
theorem eqS_scal {R : Hp} {ρ : List Addr} {va vb : Va} {x y : V} {k : Bool} (ra : VR G R ρ va x) (rb : VR G R ρ vb y) (h : eqS va vb = some k) : scal x y = true ∧ k = decide (x = y) := by
  cases ra <;> cases rb <;> first
    | (cases h; done)
    | (cases h; exact ⟨rfl, by simp⟩)
theorem s_eq : Op2 G (fun x y H Q => rEq x y H Q ∨ rEqA G false x y H Q) opEq := by
  intro R ρ M H x y va vb res Q w ra rb h g
  unfold opEq at h
  cases e : eqS va vb with
  | some k =>
    rw [e] at h
    cases h
    obtain ⟨h1, rfl⟩ := eqS_scal ra rb e
    exact .inl ⟨h1, gives_now w (.bl _) g⟩
  | none =>
    rw [e] at h
    unfold eqP at h
    dsimp only at h
    cases h1 : pdOf M va with
    | none => rw [h1] at h; cases h
    | some d =>
      cases h2 : pdOf M vb with
      | none => rw [h1, h2] at h; cases h
      | some f =>
        rw [h1, h2] at h
        dsimp only at h
        split at h
        · rename_i hz; cases h
          exact .inr ⟨R, ρ, M, va, vb, d, f, w, ra, rb, pdOf_some h1, pdOf_some h2, hz.1, hz.2, gives_now w (.bl _) g⟩
        · cases h
theorem s_ne : Op2 G (fun x y H Q => rNe x y H Q ∨ rEqA G true x y H Q) opNe := by
  intro R ρ M H x y va vb res Q w ra rb h g
  unfold opNe at h
  cases e : eqS va vb with
  | some k =>
    rw [e] at h
    cases h
    obtain ⟨h1, rfl⟩ := eqS_scal ra rb e
    exact .inl ⟨h1, gives_now w (.bl _) g⟩
  | none =>
    rw [e] at h
    unfold eqP at h
    dsimp only at h
    cases h1 : pdOf M va with
    | none => rw [h1] at h; cases h
    | some d =>
      cases h2 : pdOf M vb with
      | none => rw [h1, h2] at h; cases h
      | some f =>
        rw [h1, h2] at h
        dsimp only at h
        split at h
        · rename_i hz; cases h
          exact .inr ⟨R, ρ, M, va, vb, d, f, w, ra, rb, pdOf_some h1, pdOf_some h2, hz.1, hz.2, gives_now w (.bl _) g⟩
        · cases h
end
/-! ### in, is None -/
def flatA : Va → Bool
  | .non => true
  | .bl _ => true
  | .int _ => true
  | .str _ => true
  | _ => false
def eqF : Va → Va → Bool
  | .non, .non => true
  | .bl a, .bl b => a == b
  | .bl a, .int b => (if a then 1 else 0) == b
  | .int a, .bl b => a == (if b then 1 else 0)
  | .int a, .int b => a == b
  | .str a, .str b => a == b
  | _, _ => false
def inA (x : Va) (xs : List Va) : Bool := xs.any fun y => eqF y x
def opIn (M : Store) (a b : Va) : Option Va := match a, b with
  | .str x, .str z => (match x.cps.toList with
    | [c] => some (.bl (decide (c ∈ z.cps.toList)))
    | _ => none)
  | a, b => match seqOf M b with
    | some l => if flatA a = true ∧ l.all flatA = true then some (.bl (inA a l)) else none
    | none => none
def opNotIn (M : Store) (a b : Va) : Option Va := match a, b with
  | .str x, .str z => (match x.cps.toList with
    | [c] => some (.bl (!decide (c ∈ z.cps.toList)))
    | _ => none)
  | a, b => match seqOf M b with
    | some l => if flatA a = true ∧ l.all flatA = true then some (.bl (!inA a l)) else none
    | none => none
def isNonA : Va → Bool
  | .non => true
  | _ => false
def opIsN (M : Store) (a b : Va) : Option Va := match b with
  | .non => some (.bl (isNonA a))
  | _ => none
def opNotN (M : Store) (a b : Va) : Option Va := match b with
  | .non => some (.bl (!isNonA a))
  | _ => none
abbrev rInS : R2 := fun x y H Q => ∃ (c : Nat) (z : Str), x = .str ⟨#[c]⟩ ∧ y = .str z ∧ Q (.bl (decide (c ∈ z.cps.toList))) H
abbrev rNotInS : R2 := fun x y H Q => ∃ (c : Nat) (z : Str), x = .str ⟨#[c]⟩ ∧ y = .str z ∧ Q (.bl (!decide (c ∈ z.cps.toList))) H
theorem one_sign {x : Str} {c : Nat} (h : x.cps.toList = [c]) : x = ⟨#[c]⟩ := by
  obtain ⟨a⟩ := x
  congr
  exact Array.toList_inj.mp h
section
variable {X : Cx} {G : Sig} {R : Hp} {ρ : List Addr} {M : Store} {H : Hp}
theorem flat_of {x : Va} {v : V} (r : VR G R ρ x v) (h : flatA x = true) : flatV v = true := by
  cases r <;> first | rfl | (cases h)
theorem flats_of : ∀ {l : List Va} {vs : List V}, VRs G R ρ l vs → l.all flatA = true → vs.all flatV = true
  | _, _, .nil, _ => rfl
  | _, _, .cons r t, h => by
    rw [List.all_cons, Bool.and_eq_true] at h ⊢
    exact ⟨flat_of r h.1, flats_of t h.2⟩
theorem eqF_of {x y : Va} {u v : V} (r : VR G R ρ x u) (q : VR G R ρ y v) : eqF x y = eqV u v := by
  cases r <;> cases q <;> rfl
theorem inA_of {x : Va} {v : V} (r : VR G R ρ x v) : ∀ {l : List Va} {vs : List V}, VRs G R ρ l vs → inA x l = inV v vs
  | _, _, .nil => rfl
  | _, _, .cons q t => by
    unfold inA inV
    rw [List.any_cons, List.any_cons, eqF_of q r]
    congr 1
    exact inA_of r t
theorem s_in (hK : X.K = G.K) : Op2 G (fun x y H Q => rInS x y H Q ∨ rIn X.K false x y H Q) opIn := by
  intro R ρ M H x y va vb res Q w ra rb h g
  unfold opIn at h
  split at h
  · cases ra; cases rb
    split at h
    · rename_i c hc
      cases h
      exact .inl ⟨c, _, by rw [one_sign hc], rfl, gives_now w (.bl _) g⟩
    · cases h
  · split at h
    · rename_i l hl
      split at h
      · rename_i hf
        cases h
        obtain ⟨a, vs, rfl, sq, rv, _⟩ := seq_read w rb hl
        refine .inr ⟨a, vs, rfl, by rw [hK]; exact sq, flat_of ra hf.1, flats_of rv hf.2, ?_⟩
        rw [← inA_of ra rv]
        exact gives_now w (.bl _) g
      · cases h
    · cases h
theorem s_notIn (hK : X.K = G.K) : Op2 G (fun x y H Q => rNotInS x y H Q ∨ rIn X.K true x y H Q) opNotIn := by
  intro R ρ M H x y va vb res Q w ra rb h g
  unfold opNotIn at h
  split at h
  · cases ra; cases rb
    split at h
    · rename_i c hc
      cases h
      exact .inl ⟨c, _, by rw [one_sign hc], rfl, gives_now w (.bl _) g⟩
    · cases h
  · split at h
    · rename_i l hl
      split at h
      · rename_i hf
        cases h
        obtain ⟨a, vs, rfl, sq, rv, _⟩ := seq_read w rb hl
        refine .inr ⟨a, vs, rfl, by rw [hK]; exact sq, flat_of ra hf.1, flats_of rv hf.2, ?_⟩
        rw [← inA_of ra rv]
        exact gives_now w (.bl _) g
      · cases h
    · cases h
theorem non_of {x : Va} {v : V} (r : VR G R ρ x v) : decide (v = .non) = isNonA x := by
  cases r <;> simp [isNonA]
theorem s_isN : Op2 G (fun x y H Q => y = .non ∧ Q (.bl (decide (x = .non))) H) opIsN := by
  intro R ρ M H x y va vb res Q w ra rb h g
  unfold opIsN at h
  split at h
  · cases h; cases rb
    refine ⟨rfl, ?_⟩
    rw [non_of ra]
    exact gives_now w (.bl _) g
  · cases h
theorem s_notN : Op2 G (fun x y H Q => y = .non ∧ Q (.bl (!decide (x = .non))) H) opNotN := by
  intro R ρ M H x y va vb res Q w ra rb h g
  unfold opNotN at h
  split at h
  · cases h; cases rb
    refine ⟨rfl, ?_⟩
    rw [non_of ra]
    exact gives_now w (.bl _) g
  · cases h
end

/-- x in xs, the items data of any depth -/
def pdList : PyData → Option (List PyData)
  | .list ds => some ds
  | _ => none
noncomputable def inP (M : Store) (a b : Va) : Option Bool := match pdOf M a, (pdOf M b).bind pdList with
  | some d, some ds => if SeqAt.shaped d = true ∧ SeqAt.shaped (.list ds) = true then some (ds.any fun z => PyData.eqv z d) else none
  | _, _ => none
noncomputable def opInD (M : Store) (a b : Va) : Option Va := match opIn M a b with
  | some r => some r
  | none => (inP M a b).map Va.bl
noncomputable def opNotInD (M : Store) (a b : Va) : Option Va := match opNotIn M a b with
  | some r => some r
  | none => (inP M a b).map fun k => Va.bl (!k)
def rInP (G : Sig) (neg : Bool) : R2 := fun x y H Q => ∃ R ρ M va vb d ds, Wd G R ρ M H ∧ VR G R ρ va x ∧ VR G R ρ vb y ∧ PdR M va d ∧ PdR M vb (.list ds) ∧ SeqAt.shaped d = true ∧ SeqAt.shaped (.list ds) = true ∧
  Q (.bl (if neg then !(ds.any fun z => PyData.eqv z d) else ds.any fun z => PyData.eqv z d)) H
section
variable {X : Cx} {G : Sig}
theorem room_shaped {A : Around} {d : PyData} {m : Nat} (h : SeqAt.shaped d = true) (hu : A.units + 65 < cLine) : A.units + 1 + min m d.depth < cLine := by
  have h1 := SeqAt.depth_of_shaped h
  have h2 : min m d.depth ≤ d.depth := Nat.min_le_right _ _
  omega
theorem op_inP {k : Nat} (hK : X.K = G.K) (hr : Room k X.A) : OpR X (compareOp .In) (rInP G false) := by
  intro pins s σ H x y v u Q I rx ry ⟨R, ρ, M, va, vb, d, ds, w, ra, rb, pd, pe, sd, se, q⟩
  have nd : ∀ {d : PyData}, SeqAt.shaped d = true → d.hasDict = false := fun h => PyData.hasDict_of_canLay _ (SeqAt.canLay_of_shaped h)
  obtain ⟨as, r1⟩ := pd_reads I hK w pd ra rx (nd sd)
  obtain ⟨bs, r2⟩ := pd_reads I hK w pe rb ry (nd se)
  have un := hr.un
  exact SeqAt.in_list_reads r2 r1 (SeqAt.canLay_of_shaped se) (SeqAt.canLay_of_shaped sd) (room_shaped sd (by omega)) ⟨.bl _, H, I, rfl, q⟩
theorem op_notInP {k : Nat} (hK : X.K = G.K) (hr : Room k X.A) : OpR X (compareOp .NotIn) (rInP G true) := by
  intro pins s σ H x y v u Q I rx ry ⟨R, ρ, M, va, vb, d, ds, w, ra, rb, pd, pe, sd, se, q⟩
  have nd : ∀ {d : PyData}, SeqAt.shaped d = true → d.hasDict = false := fun h => PyData.hasDict_of_canLay _ (SeqAt.canLay_of_shaped h)
  obtain ⟨as, r1⟩ := pd_reads I hK w pd ra rx (nd sd)
  obtain ⟨bs, r2⟩ := pd_reads I hK w pe rb ry (nd se)
  have un := hr.un
  exact SeqAt.notIn_list_reads r2 r1 (SeqAt.canLay_of_shaped se) (SeqAt.canLay_of_shaped sd) (room_shaped sd (by omega)) ⟨.bl _, H, I, rfl, q⟩
theorem inP_some {M : Store} {a b : Va} {k : Bool} (h : inP M a b = some k) : ∃ d ds, PdR M a d ∧ PdR M b (.list ds) ∧ SeqAt.shaped d = true ∧ SeqAt.shaped (.list ds) = true ∧ k = ds.any fun z => PyData.eqv z d := by
  unfold inP at h
  cases h1 : pdOf M a with
  | none => rw [h1] at h; cases h
  | some d =>
    cases h2 : pdOf M b with
    | none => rw [h1, h2] at h; cases h
    | some e =>
      rw [h1, h2] at h
      cases e <;> first | (cases h; done) | skip
      rename_i ds
      dsimp only [Option.bind, pdList] at h
      split at h
      · rename_i hz; cases h
        exact ⟨d, ds, pdOf_some h1, pdOf_some h2, hz.1, hz.2, rfl⟩
      · cases h
theorem s_inD (hK : X.K = G.K) : Op2 G (fun x y H Q => (rInS x y H Q ∨ rIn X.K false x y H Q) ∨ rInP G false x y H Q) opInD := by
  intro R ρ M H x y va vb res Q w ra rb h g
  unfold opInD at h
  split at h
  · rename_i r hr
    cases h
    exact .inl (s_in hK R ρ M H x y va vb _ Q w ra rb hr g)
  · cases q : inP M va vb with
    | none => rw [q] at h; cases h
    | some k =>
      rw [q] at h
      cases h
      obtain ⟨d, ds, h1, h2, h3, h4, rfl⟩ := inP_some q
      exact .inr ⟨R, ρ, M, va, vb, d, ds, w, ra, rb, h1, h2, h3, h4, gives_now w (.bl _) g⟩
theorem s_notInD (hK : X.K = G.K) : Op2 G (fun x y H Q => (rNotInS x y H Q ∨ rIn X.K true x y H Q) ∨ rInP G true x y H Q) opNotInD := by
  intro R ρ M H x y va vb res Q w ra rb h g
  unfold opNotInD at h
  split at h
  · rename_i r hr
    cases h
    exact .inl (s_notIn hK R ρ M H x y va vb _ Q w ra rb hr g)
  · cases q : inP M va vb with
    | none => rw [q] at h; cases h
    | some k =>
      rw [q] at h
      cases h
      obtain ⟨d, ds, h1, h2, h3, h4, rfl⟩ := inP_some q
      exact .inr ⟨R, ρ, M, va, vb, d, ds, w, ra, rb, h1, h2, h3, h4, gives_now w (.bl _) g⟩
end

/-! ### items, slices -/
def opIx (M : Store) (a b : Va) : Option Va := match b with
  | .int i => (match a with
    | .str z => if z.length ≤ sizeLine then (atI z.cps.toList i).map fun c => Va.str ⟨#[c]⟩ else none
    | a => match seqOf M a with
      | some l => atI l i
      | none => none)
  | _ => none
section
variable {X : Cx} {G : Sig} {R : Hp} {ρ : List Addr} {M : Store} {H : Hp}
theorem VRs.atI {l : List Va} {vs : List V} (r : VRs G R ρ l vs) {i : Int} {x : Va} (h : L2.atI l i = some x) : ∃ v, L2.atI vs i = some v ∧ VR G R ρ x v := by
  unfold L2.atI at h ⊢
  rw [← r.length]
  cases q : ixN l.length i with
  | none => rw [q] at h; cases h
  | some j =>
    rw [q] at h
    exact r.get h
theorem s_ix (hK : X.K = G.K) : Op2 G (rIx X.K) opIx := by
  intro R ρ M H x y va vb res Q w ra rb h g
  have lists : ∀ i, (match seqOf M va with | some l => L2.atI l i | none => none) = some res → y = .int i → rIx X.K x y H Q := fun i h e => by
    subst e
    split at h
    · rename_i l hl
      obtain ⟨a, vs, rfl, sq, rv, _⟩ := seq_read w ra hl
      obtain ⟨v, e, r⟩ := rv.atI h
      rw [← hK] at sq
      rcases sq with sq | sq
      · exact .inl ⟨a, vs, i, v, rfl, rfl, sq, e, gives_now w r g⟩
      · exact .inr (.inl ⟨a, vs, i, v, rfl, rfl, sq, e, gives_now w r g⟩)
    · cases h
  unfold opIx at h
  split at h
  · cases rb
    rename_i i
    split at h
    · rename_i z
      cases ra
      split at h
      · rename_i hz
        cases q : L2.atI z.cps.toList i with
        | none => rw [q] at h; cases h
        | some c =>
          rw [q] at h
          cases h
          exact .inr (.inr ⟨z, i, c, rfl, rfl, hz, q, gives_now w (.str _) g⟩)
      · cases h
    · exact lists i h rfl
  · cases h
end
/-- bounds of a slice -/
def evPart (e : Option SE) : SE := match e with
  | none => fun _ M => some (.val .non, M)
  | some e => e
def boundOf : Va → Option (Option Int)
  | .non => some none
  | .int i => some (some i)
  | _ => none
def cutA {α : Type} (l : List α) (lo hi : Option Int) : List α := (l.drop (HT.sIx l.length 0 lo)).take (HT.sIx l.length l.length hi - HT.sIx l.length 0 lo)
def opSl (M : Store) (x : Va) (lo hi : Option Int) : Option Va := match x with
  | .str z => if z.length ≤ sizeLine then some (.str (cutS z lo hi)) else none
  | .tup l => if HT.sIx l.length 0 lo = 0 ∧ HT.sIx l.length l.length hi = l.length then none else some (.tup (cutA l lo hi))
  | x => match lstOf M x with
    | some l => some (.lst (cutA l lo hi))
    | none => none
def evSl (e l u : SE) : SE := fun s M => bindO (e s M) fun x M1 => bindO (l s M1) fun vl M2 => bindO (u s M2) fun vu M3 => match boundOf vl, boundOf vu with
  | some lo, some hi => (match opSl M3 x lo hi with
    | some r => some (.val r, M3)
    | none => none)
  | _, _ => none
def tO (G : Sig) (E : XK) (ev : SE) : TO := fun σ H Q => ∃ R ρ s M, Wd G R ρ M H ∧ SR G R ρ s σ ∧ match ev s M with
  | none => False
  | some (.val v, M1) => ∀ R' ρ' H' b, Ext R ρ H R' ρ' H' → Wd G R' ρ' M1 H' → boundOf v = some b → Q b H'
  | some (.exc c x, M1) => PostX G R ρ H M1 E c x
section
variable {X : Cx} {G : Sig} {E : XK} {R : Hp} {ρ : List Addr} {M : Store} {H : Hp} {a b c : Expr} {ea eb ec : SE} {pos p2 : Pos} {lo hi : Option Expr}
theorem qo_none : PO X none (tO G E (evC .non)) := ⟨fun pins s σ H Q I ⟨R, ρ, s', M, w, sr, p⟩ => po_none.run pins s σ H Q I (p R ρ H none Ext.refl w rfl)⟩
theorem VRs.cut {l : List Va} {vs : List V} (r : VRs G R ρ l vs) (lo hi : Option Int) : VRs G R ρ (cutA l lo hi) (cutV vs lo hi) := by
  unfold cutA cutV
  rw [r.length]
  exact (r.drop _).take _
theorem cutA_le {α : Type} (l : List α) (lo hi : Option Int) : (cutA l lo hi).length ≤ l.length := by
  unfold cutA
  rw [List.length_take, List.length_drop]
  omega
end
section
variable {X : Cx} {G : Sig} {E : XK} {H : Hp} {a : Expr} {ea el eu : SE} {pos p2 : Pos} {lo hi : Option Expr}
theorem qo_some (h : PE X a (tE G E ea)) : PO X (some a) (tO G E (fun s M => bindO (ea s M) fun v M1 => match v with | .int i => some (.val (.int i), M1) | _ => none)) :=
  ⟨fun pins s σ H Q I ⟨R, ρ, s', M, w, sr, p⟩ => (po_some h).run pins s σ H Q I (by
    refine ⟨R, ρ, s', M, w, sr, ?_⟩
    dsimp only at p
    rcases q : ea s' M with _ | ⟨x | ⟨c, x⟩, M1⟩ <;> rw [q] at p
    · exact p
    · cases x <;> first | exact False.elim p | skip
      intro R1 ρ1 H1 v e1 w1 r1
      cases r1
      exact ⟨_, rfl, p R1 ρ1 H1 _ e1 w1 rfl⟩
    · exact p)⟩
def evB (e : SE) : SE := fun s M => bindO (e s M) fun v M1 => match v with | .int i => some (.val (.int i), M1) | _ => none
theorem qo_b (h : PE X a (tE G E ea)) : PO X (some a) (tO G E (evB ea)) := qo_some h
theorem s_sl (hK : X.K = G.K) {R : Hp} {ρ : List Addr} {M : Store} {x : V} {va res : Va} {l u : Option Int} {Q : VK} (w : Wd G R ρ M H) (r : VR G R ρ va x) (h : opSl M va l u = some res) (g : Gives G R ρ H M res Q) : (rSlL X.K x l u H Q ∨ rSlS x l u H Q) ∨ rSlT X.K x l u H Q := by
  have lists : (match lstOf M va with | some m => some (Va.lst (cutA m l u)) | none => none) = some res → rSlL X.K x l u H Q := fun h => by
    split at h
    · rename_i m hm
      cases h
      obtain ⟨a, vs, rfl, sq, rv, z⟩ := lst_read w r hm
      exact ⟨a, vs, rfl, by rw [hK]; exact sq, fun p hp => gives_lst w (rv.cut l u) (Nat.le_trans (cutA_le m l u) z) g hp⟩
    · cases h
  unfold opSl at h
  split at h
  · cases r
    split at h
    · rename_i hz; cases h
      exact .inl (.inr ⟨_, rfl, hz, gives_now w (.str _) g⟩)
    · cases h
  · obtain ⟨a, vs, rfl, sq, rv, z⟩ := tup_read w r rfl
    split at h
    · cases h
    · rename_i hz; cases h
      exact .inr ⟨a, vs, rfl, .of sq, by rw [← rv.length]; exact hz, fun p hp => gives_tup w (rv.cut l u) (Nat.le_trans (cutA_le _ l u) z) g hp⟩
  · exact .inl (.inl (lists h))
theorem q_sl (hK : X.K = G.K) (ha : PE X a (tE G E ea)) (hl : PO X lo (tO G E el)) (hu : PO X hi (tO G E eu)) : PE X (.Subscript a (.Slice lo hi none p2) pos) (tE G E (evSl ea el eu)) :=
  pe_imp (pe_slice ((sl_list.or sl_str).or sl_tup) ha hl hu) fun σ H Q ⟨R, ρ, s, M, w, sr, p⟩ => stepE w sr p fun R1 ρ1 M1 H1 va v e1 w1 sr1 r1 p1 => by
    refine ⟨R1, ρ1, s, M1, w1, sr1, ?_⟩
    rcases q : el s M1 with _ | ⟨x | ⟨c, x⟩, M2⟩ <;> rw [q] at p1
    · exact p1
    · intro R2 ρ2 H2 b e2 w2 hb
      replace p1 := Post.ext e2 p1
      refine ⟨R2, ρ2, s, M2, w2, sr1.mono e2.gr, ?_⟩
      rw [bindO_val] at p1
      rcases q2 : eu s M2 with _ | ⟨y | ⟨c, y⟩, M3⟩ <;> rw [q2] at p1
      · exact p1
      · intro R3 ρ3 H3 b3 e3 w3 hb3
        replace p1 := Post.ext e3 p1
        rw [bindO_val] at p1
        rw [hb, hb3] at p1
        replace p1 : Post G R3 ρ3 H3 (match opSl M3 va b b3 with | some r => some (.val r, M3) | none => none) Q E := p1
        cases q4 : opSl M3 va b b3 with
        | none => rw [q4] at p1; exact False.elim p1
        | some res => rw [q4] at p1; exact s_sl hK w3 (r1.mono (e2.trans e3).gr) q4 p1
      · exact p1
    · exact p1
end
end PV

set_option Elab.async false
set_option linter.all false
set_option maxRecDepth 100000
set_option maxHeartbeats 4000000
namespace PV
open PySem L2

/-! ### lists of one kind -/
def intsOf : List Va → Option (List Int)
  | [] => some []
  | .int i :: r => (intsOf r).map (i :: ·)
  | _ :: _ => none
def strsOf : List Va → Option (List Str)
  | [] => some []
  | .str i :: r => (strsOf r).map (i :: ·)
  | _ :: _ => none
def blsOf : List Va → Option (List Bool)
  | [] => some []
  | .bl i :: r => (blsOf r).map (i :: ·)
  | _ :: _ => none
@[simp] theorem intsOf_map : ∀ ns : List Int, intsOf (ns.map Va.int) = some ns
  | [] => rfl
  | n :: ns => by simp [intsOf, intsOf_map ns]
@[simp] theorem strsOf_map : ∀ ns : List Str, strsOf (ns.map Va.str) = some ns
  | [] => rfl
  | n :: ns => by simp [strsOf, strsOf_map ns]
@[simp] theorem blsOf_map : ∀ ns : List Bool, blsOf (ns.map Va.bl) = some ns
  | [] => rfl
  | n :: ns => by simp [blsOf, blsOf_map ns]
section
variable {G : Sig} {R : Hp} {ρ : List Addr}
theorem ints_of : ∀ {l : List Va} {vs : List V} {ns : List Int}, VRs G R ρ l vs → intsOf l = some ns → vs = ns.map V.int
  | _, _, _, .nil, h => by cases h; rfl
  | _, _, _, .cons (x := x) r t, h => by
    cases x <;> first | (cases h; done) | skip
    cases r
    rename_i i
    unfold intsOf at h
    cases q : intsOf _ with
    | none => rw [q] at h; cases h
    | some m => rw [q] at h; cases h; rw [ints_of t q]; rfl
theorem strs_of : ∀ {l : List Va} {vs : List V} {ns : List Str}, VRs G R ρ l vs → strsOf l = some ns → vs = ns.map V.str
  | _, _, _, .nil, h => by cases h; rfl
  | _, _, _, .cons (x := x) r t, h => by
    cases x <;> first | (cases h; done) | skip
    cases r
    rename_i i
    unfold strsOf at h
    cases q : strsOf _ with
    | none => rw [q] at h; cases h
    | some m => rw [q] at h; cases h; rw [strs_of t q]; rfl
theorem bls_of : ∀ {l : List Va} {vs : List V} {ns : List Bool}, VRs G R ρ l vs → blsOf l = some ns → vs = ns.map V.bl
  | _, _, _, .nil, h => by cases h; rfl
  | _, _, _, .cons (x := x) r t, h => by
    cases x <;> first | (cases h; done) | skip
    cases r
    rename_i i
    unfold blsOf at h
    cases q : blsOf _ with
    | none => rw [q] at h; cases h
    | some m => rw [q] at h; cases h; rw [bls_of t q]; rfl
theorem VRs.strs : ∀ (ns : List Str), VRs G R ρ (ns.map Va.str) (ns.map V.str)
  | [] => .nil
  | n :: ns => .cons (.str n) (VRs.strs ns)
theorem lst_ints {M : Store} {H : Hp} {x : Va} {v : V} {l : List Va} {ns : List Int} (w : Wd G R ρ M H) (r : VR G R ρ x v) (h : lstOf M x = some l) (h2 : intsOf l = some ns) : ∃ a, v = .ref a ∧ SqL G.K H a (ns.map V.int) := by
  obtain ⟨a, vs, rfl, sq, rv, _⟩ := lst_read w r h
  rw [ints_of rv h2] at sq
  exact ⟨a, rfl, sq⟩
end
def maxL (n : Int) (ns : List Int) : Int := ns.foldl (fun m y => if y > m then y else m) n
def minL (n : Int) (ns : List Int) : Int := ns.foldl (fun m y => if y < m then y else m) n
theorem maxL_mem : ∀ (ns : List Int) (n : Int), maxL n ns ∈ n :: ns
  | [], n => by simp [maxL]
  | y :: ns, n => by
    have h := maxL_mem ns (if y > n then y else n)
    show maxL (if y > n then y else n) ns ∈ n :: y :: ns
    rcases List.mem_cons.mp h with h | h
    · rw [h]; split <;> simp
    · simp [h]
theorem maxL_le : ∀ (ns : List Int) (n : Int), ∀ y ∈ n :: ns, y ≤ maxL n ns
  | [], n, y, h => by simp [maxL] at h ⊢; omega
  | z :: ns, n, y, h => by
    show y ≤ maxL (if z > n then z else n) ns
    have hm : n ≤ (if z > n then z else n) ∧ z ≤ (if z > n then z else n) := by split <;> omega
    generalize (if z > n then z else n) = m at hm ⊢
    have ih := maxL_le ns m
    have h0 := ih m (by simp)
    rcases List.mem_cons.mp h with h | h
    · subst h; omega
    · rcases List.mem_cons.mp h with h | h
      · subst h; omega
      · exact ih y (by simp [h])
theorem minL_mem : ∀ (ns : List Int) (n : Int), minL n ns ∈ n :: ns
  | [], n => by simp [minL]
  | y :: ns, n => by
    have h := minL_mem ns (if y < n then y else n)
    show minL (if y < n then y else n) ns ∈ n :: y :: ns
    rcases List.mem_cons.mp h with h | h
    · rw [h]; split <;> simp
    · simp [h]
theorem minL_le : ∀ (ns : List Int) (n : Int), ∀ y ∈ n :: ns, minL n ns ≤ y
  | [], n, y, h => by simp [minL] at h ⊢; omega
  | z :: ns, n, y, h => by
    show minL (if z < n then z else n) ns ≤ y
    have hm : (if z < n then z else n) ≤ n ∧ (if z < n then z else n) ≤ z := by split <;> omega
    generalize (if z < n then z else n) = m at hm ⊢
    have ih := minL_le ns m
    have h0 := ih m (by simp)
    rcases List.mem_cons.mp h with h | h
    · subst h; omega
    · rcases List.mem_cons.mp h with h | h
      · subst h; omega
      · exact ih y (by simp [h])

/-! ### calls -/
def gLen (M : Store) : List Va → Option Va
  | [.str z] => if z.length ≤ sizeLine then some (.int z.length) else none
  | [x] => match seqOf M x with
    | some l => some (.int l.length)
    | none => (dicOf M x).map fun l => .int l.length
  | _ => none
def gMax (M : Store) : List Va → Option Va
  | [.int i, .int j] => some (.int (if j > i then j else i))
  | [x] => match lstOf M x with
    | some l => (match intsOf l with
      | some (n :: ns) => some (.int (maxL n ns))
      | _ => none)
    | none => none
  | _ => none
def gMin (M : Store) : List Va → Option Va
  | [.int i, .int j] => some (.int (if j < i then j else i))
  | [x] => match lstOf M x with
    | some l => (match intsOf l with
      | some (n :: ns) => some (.int (minL n ns))
      | _ => none)
    | none => none
  | _ => none
def gAbs (_ : Store) : List Va → Option Va
  | [.int i] => some (.int (if i < 0 then -i else i))
  | _ => none
def gInt (_ : Store) : List Va → Option Va
  | [.int i] => some (.int i)
  | [.bl k] => some (.int (if k then 1 else 0))
  | [.str a] => if a.length ≤ 640 then (PySem.intText? a).map Va.int else none
  | _ => none
def gStr (_ : Store) : List Va → Option Va
  | [.int i] => if i.natAbs.log2 < 1920 then some (.str (toString i)) else none
  | [.str a] => some (.str a)
  | _ => none
def gSum (M : Store) : List Va → Option Va
  | [x] => match lstOf M x with
    | some l => (intsOf l).map fun ns => .int ns.sum
    | none => none
  | _ => none
def gAll (M : Store) : List Va → Option Va
  | [x] => match lstOf M x with
    | some l => (blsOf l).map fun ns => .bl (ns.all id)
    | none => none
  | _ => none
def gAny (M : Store) : List Va → Option Va
  | [x] => match lstOf M x with
    | some l => (blsOf l).map fun ns => .bl (ns.any id)
    | none => none
  | _ => none
def gList (M : Store) : List Va → Option Va
  | [x] => (seqOf M x).map Va.lst
  | _ => none
def kList (l : List Va) (M : Store) : Res := match l with
  | [x] => (match seqOf M x with
    | some l => some (.val (.cel M.nx), M.new (.lst l))
    | none => none)
  | _ => none
section
variable {X : Cx} {G : Sig}
theorem pure_of {r : List V → Hp → VK → Prop} {g : Store → List Va → Option Va} (h : ∀ R ρ M H xs l res Q, Wd G R ρ M H → VRs G R ρ l xs → g M l = some res → Gives G R ρ H M res Q → r xs H Q) : OpL G r (kPure g) := fun R ρ M H xs l Q E w rv p => by
  unfold kPure at p
  cases q : g M l with
  | none => rw [q] at p; exact False.elim p
  | some res => rw [q] at p; exact h R ρ M H xs l res Q w rv q p
theorem one_of {R : Hp} {ρ : List Addr} {x : Va} {vs : List V} (r : VRs G R ρ [x] vs) : ∃ v, vs = [v] ∧ VR G R ρ x v := by
  cases r with
  | cons r t => cases t; exact ⟨_, rfl, r⟩
theorem two_of {R : Hp} {ρ : List Addr} {x y : Va} {vs : List V} (r : VRs G R ρ [x, y] vs) : ∃ v u, vs = [v, u] ∧ VR G R ρ x v ∧ VR G R ρ y u := by
  cases r with
  | cons r t =>
    obtain ⟨u, rfl, q⟩ := one_of t
    exact ⟨_, u, rfl, r, q⟩
abbrev rLenA (K : PySem.W.Frag) : List V → Hp → VK → Prop := fun xs H Q => (∃ p ys, xs = [.ref p] ∧ (SqL K H p ys ∨ SqT K H p ys) ∧ Q (.int ys.length) H) ∨ ((∃ z, xs = [.str z] ∧ z.length ≤ sizeLine ∧ Q (.int z.length) H) ∨ ∃ d kvs, xs = [.ref d] ∧ H d = some (.dK kvs) ∧ Q (.int kvs.length) H)
theorem s_len (hK : X.K = G.K) : OpL G (rLenA X.K) (kPure gLen) := pure_of fun R ρ M H xs l res Q w rv h g => by
  unfold gLen at h
  split at h
  · obtain ⟨v, rfl, r⟩ := one_of rv
    cases r
    split at h
    · rename_i hz; cases h
      exact .inr (.inl ⟨_, rfl, hz, gives_now w (.int _) g⟩)
    · cases h
  · obtain ⟨v, rfl, r⟩ := one_of rv
    split at h
    · rename_i l hl
      cases h
      obtain ⟨a, vs, rfl, sq, rv', _⟩ := seq_read w r hl
      refine .inl ⟨a, vs, rfl, by rw [hK]; exact sq, ?_⟩
      rw [← rv'.length]
      exact gives_now w (.int _) g
    · rename_i x _ _ _
      cases q : dicOf M x with
      | none => rw [q] at h; cases h
      | some l =>
        rw [q] at h
        cases h
        obtain ⟨a, vs, rfl, hd, rk, _⟩ := dic_read w r q
        refine .inr (.inr ⟨a, vs, rfl, hd, ?_⟩)
        rw [← rk.length]
        exact gives_now w (.int _) g
  · cases h
theorem s_max (hK : X.K = G.K) : OpL G (fun xs H Q => (∃ i j, xs = [.int i, .int j] ∧ Q (.int (if j > i then j else i)) H) ∨ rMax X.K xs H Q) (kPure gMax) := pure_of fun R ρ M H xs l res Q w rv h g => by
  unfold gMax at h
  split at h
  · obtain ⟨v, u, rfl, r, q⟩ := two_of rv
    cases r; cases q; cases h
    exact .inl ⟨_, _, rfl, gives_now w (.int _) g⟩
  · obtain ⟨v, rfl, r⟩ := one_of rv
    split at h
    · rename_i l hl
      split at h
      · rename_i n ns hn
        cases h
        obtain ⟨a, rfl, sq⟩ := lst_ints w r hl hn
        refine .inr ⟨a, n :: ns, rfl, by rw [hK]; exact sq, by simp, fun m h1 h2 => ?_⟩
        have e : m = maxL n ns := Int.le_antisymm (maxL_le ns n m h1) (h2 _ (maxL_mem ns n))
        rw [e]
        exact gives_now w (.int _) g
      · cases h
    · cases h
  · cases h
theorem s_min (hK : X.K = G.K) : OpL G (fun xs H Q => (∃ i j, xs = [.int i, .int j] ∧ Q (.int (if j < i then j else i)) H) ∨ rMin X.K xs H Q) (kPure gMin) := pure_of fun R ρ M H xs l res Q w rv h g => by
  unfold gMin at h
  split at h
  · obtain ⟨v, u, rfl, r, q⟩ := two_of rv
    cases r; cases q; cases h
    exact .inl ⟨_, _, rfl, gives_now w (.int _) g⟩
  · obtain ⟨v, rfl, r⟩ := one_of rv
    split at h
    · rename_i l hl
      split at h
      · rename_i n ns hn
        cases h
        obtain ⟨a, rfl, sq⟩ := lst_ints w r hl hn
        refine .inr ⟨a, n :: ns, rfl, by rw [hK]; exact sq, by simp, fun m h1 h2 => ?_⟩
        have e : m = minL n ns := Int.le_antisymm (h2 _ (minL_mem ns n)) (minL_le ns n m h1)
        rw [e]
        exact gives_now w (.int _) g
      · cases h
    · cases h
  · cases h
theorem s_abs : OpL G (fun xs H Q => ∃ i, xs = [.int i] ∧ Q (.int (if i < 0 then -i else i)) H) (kPure gAbs) := pure_of fun R ρ M H xs l res Q w rv h g => by
  unfold gAbs at h
  split at h
  · obtain ⟨v, rfl, r⟩ := one_of rv
    cases r; cases h
    exact ⟨_, rfl, gives_now w (.int _) g⟩
  · cases h
theorem s_int : OpL G (fun xs H Q => ((∃ i, xs = [.int i] ∧ Q (.int i) H) ∨ ∃ k, xs = [.bl k] ∧ Q (.int (if k then 1 else 0)) H) ∨ ∃ a n, xs = [.str a] ∧ PySem.intText? a = some n ∧ a.length ≤ 640 ∧ Q (.int n) H) (kPure gInt) := pure_of fun R ρ M H xs l res Q w rv h g => by
  unfold gInt at h
  split at h
  · obtain ⟨v, rfl, r⟩ := one_of rv
    cases r; cases h
    exact .inl (.inl ⟨_, rfl, gives_now w (.int _) g⟩)
  · obtain ⟨v, rfl, r⟩ := one_of rv
    cases r; cases h
    exact .inl (.inr ⟨_, rfl, gives_now w (.int _) g⟩)
  · obtain ⟨v, rfl, r⟩ := one_of rv
    cases r
    rename_i a
    split at h
    · rename_i hz
      cases q : PySem.intText? a with
      | none => rw [q] at h; cases h
      | some n =>
        rw [q] at h
        cases h
        exact .inr ⟨a, n, rfl, q, hz, gives_now w (.int _) g⟩
    · cases h
  · cases h
theorem s_str : OpL G (fun xs H Q => (∃ i, xs = [.int i] ∧ i.natAbs.log2 < 1920 ∧ Q (.str (toString i)) H) ∨ ∃ a, xs = [.str a] ∧ Q (.str a) H) (kPure gStr) := pure_of fun R ρ M H xs l res Q w rv h g => by
  unfold gStr at h
  split at h
  · obtain ⟨v, rfl, r⟩ := one_of rv
    cases r
    split at h
    · rename_i hz; cases h
      exact .inl ⟨_, rfl, hz, gives_now w (.str _) g⟩
    · cases h
  · obtain ⟨v, rfl, r⟩ := one_of rv
    cases r; cases h
    exact .inr ⟨_, rfl, gives_now w (.str _) g⟩
  · cases h
theorem s_sum (hK : X.K = G.K) : OpL G (rSum X.K) (kPure gSum) := pure_of fun R ρ M H xs l res Q w rv h g => by
  unfold gSum at h
  split at h
  · obtain ⟨v, rfl, r⟩ := one_of rv
    split at h
    · rename_i l hl
      cases q : intsOf l with
      | none => rw [q] at h; cases h
      | some ns =>
        rw [q] at h
        cases h
        obtain ⟨a, rfl, sq⟩ := lst_ints w r hl q
        exact ⟨a, ns, rfl, by rw [hK]; exact sq, gives_now w (.int _) g⟩
    · cases h
  · cases h
theorem s_all (hK : X.K = G.K) : OpL G (rAll X.K) (kPure gAll) := pure_of fun R ρ M H xs l res Q w rv h g => by
  unfold gAll at h
  split at h
  · obtain ⟨v, rfl, r⟩ := one_of rv
    split at h
    · rename_i l hl
      cases q : blsOf l with
      | none => rw [q] at h; cases h
      | some ns =>
        rw [q] at h
        cases h
        obtain ⟨a, vs, rfl, sq, rv', _⟩ := lst_read w r hl
        rw [bls_of rv' q] at sq
        exact ⟨a, ns, rfl, by rw [hK]; exact sq, gives_now w (.bl _) g⟩
    · cases h
  · cases h
theorem s_any (hK : X.K = G.K) : OpL G (rAny X.K) (kPure gAny) := pure_of fun R ρ M H xs l res Q w rv h g => by
  unfold gAny at h
  split at h
  · obtain ⟨v, rfl, r⟩ := one_of rv
    split at h
    · rename_i l hl
      cases q : blsOf l with
      | none => rw [q] at h; cases h
      | some ns =>
        rw [q] at h
        cases h
        obtain ⟨a, vs, rfl, sq, rv', _⟩ := lst_read w r hl
        rw [bls_of rv' q] at sq
        exact ⟨a, ns, rfl, by rw [hK]; exact sq, gives_now w (.bl _) g⟩
    · cases h
  · cases h
abbrev rListA (K : PySem.W.Frag) : List V → Hp → VK → Prop := fun xs H Q => ∃ p ys, xs = [.ref p] ∧ (SqL K H p ys ∨ SqT K H p ys) ∧ ∀ l, H l = none → Q (.ref l) (upd H l (.lst ys))
theorem s_listF (hK : X.K = G.K) : OpL G (rListA X.K) (kPure gList) := pure_of fun R ρ M H xs l res Q w rv h g => by
  unfold gList at h
  split at h
  · obtain ⟨v, rfl, r⟩ := one_of rv
    rename_i x
    cases q : seqOf M x with
    | none => rw [q] at h; cases h
    | some l =>
      rw [q] at h
      cases h
      obtain ⟨a, vs, rfl, sq, rv', z⟩ := seq_read w r q
      exact ⟨a, vs, rfl, by rw [hK]; exact sq, fun p hp => gives_lst w rv' z g hp⟩
  · cases h
theorem s_listC (hK : X.K = G.K) : OpL G (rListA X.K) kList := fun R ρ M H xs l Q E w rv p => by
  unfold kList at p
  split at p
  · obtain ⟨v, rfl, r⟩ := one_of rv
    split at p
    · rename_i l hl
      obtain ⟨a, vs, rfl, sq, rv', z⟩ := seq_read w r hl
      exact ⟨a, vs, rfl, by rw [hK]; exact sq, fun q hq => gives_new w rv' z p hq⟩
    · exact False.elim p
  · exact False.elim p
end

/-! ### methods of what is built in -/
def evM2 (ty : Store → Va → Bool) (k : Va → List Va → Store → Res) (eo ea : SE) : SE := fun s M => bindO (eo s M) fun o M1 => if ty M1 o = true then bindO (ea s M1) fun t M2 => match t with
  | .tup l => k o l M2
  | _ => none
  else none
def isStrA (_ : Store) : Va → Bool
  | .str _ => true
  | _ => false
def isLstA (M : Store) (x : Va) : Bool := (lstOf M x).isSome
def isDicA (M : Store) (x : Va) : Bool := (dicOf M x).isSome
def TyOk (G : Sig) (T : String) (ty : Store → Va → Bool) : Prop := ∀ R ρ M H x o, Wd G R ρ M H → VR G R ρ o x → ty M o = true → tyV G.K T x H
theorem tyStr {G : Sig} : TyOk G "str" isStrA := fun R ρ M H x o w r h => by
  cases r <;> first | (cases h; done) | rfl
theorem tyLst {G : Sig} : TyOk G "list" isLstA := fun R ρ M H x o w r h => by
  unfold isLstA at h
  cases q : lstOf M o with
  | none => rw [q] at h; cases h
  | some l =>
    obtain ⟨a, vs, rfl, sq, _⟩ := lst_read w r q
    exact .inl ⟨rfl, vs, sq⟩
theorem tyDic {G : Sig} : TyOk G "dict" isDicA := fun R ρ M H x o w r h => by
  unfold isDicA at h
  cases q : dicOf M o with
  | none => rw [q] at h; cases h
  | some l =>
    obtain ⟨a, vs, rfl, sq, _⟩ := dic_read w r q
    exact .inr (.inr (.inl ⟨rfl, .inl ⟨vs, sq⟩⟩))
section
variable {X : Cx} {G : Sig} {E : XK} {o e : Expr} {es : List Expr} {eo ea : SE} {name : Str} {apos cpos : Pos} {T id : String} {r : V → List V → Hp → VK → Prop} {ty : Store → Va → Bool} {k : Va → List Va → Store → Res}
theorem q_bm (hK : X.K = G.K) (pa : PlainAttrs T) (slot : Slot T name id) (hty : typeOf (.builtin id) = pure (.type "method_descriptor")) (hm : MtR X id r) (ht : TyOk G T ty) (hs : OpM G T r k) (ho : PE X o (tE G E eo)) (ha : PA X (e :: es) (tA G E ea))
    (hbase : attributeBase o name X.env (eval o X.env) = eval o X.env := by rfl)
    (hfew : ((backTo cpos (starEach (e :: es) X.env)).all (fun x => !x.1) && (backToKw cpos (keywordEach [] X.env)).all (fun x => x.1.isSome)
      && decide ((e :: es).length + ([] : List Keyword).length + (if ([] : List Keyword).isEmpty then 0 else 1) < 30)) = true := by rfl)
    (hline : (apos.endLine == cpos.line) = true := by rfl) (hst : starEach (e :: es) X.env = (false, eval e X.env) :: starEach es X.env := by rfl) (hplain : (backTo cpos (starEach es X.env)).any (·.1) = false := by rfl) :
    PE X (.Call (.Attribute o name apos) (e :: es) [] cpos) (tE G E (evM2 ty k eo ea)) :=
  pe_imp (pe_bm pa slot hty hm ho ha hbase hfew hline hst hplain) fun σ H Q ⟨R, ρ, s, M, w, sr, p⟩ => stepE w sr p fun R1 ρ1 M1 H1 va v e1 w1 sr1 r1 p1 => by
    split at p1
    · rename_i hh
      exact ⟨by rw [hK]; exact ht R1 ρ1 M1 H1 v va w1 r1 hh, stepA w1 sr1 p1 fun R2 ρ2 M2 H2 l vs e2 w2 sr2 r2 p2 => hs R2 ρ2 M2 H2 v vs va l Q E w2 (r1.mono e2.gr) r2 p2⟩
    · exact False.elim p1
theorem q_bm0 (hK : X.K = G.K) (pa : PlainAttrs T) (slot : Slot T name id) (hty : typeOf (.builtin id) = pure (.type "method_descriptor")) (hm : MtR X id r) (ht : TyOk G T ty) (hs : OpM G T r k) (ho : PE X o (tE G E eo))
    (hbase : attributeBase o name X.env (eval o X.env) = eval o X.env := by rfl) (hline : (apos.endLine == cpos.line) = true := by rfl) :
    PE X (.Call (.Attribute o name apos) [] [] cpos) (tE G E (evM2 ty k eo evNil)) :=
  pe_imp (pe_bm0 pa slot hty hm ho hbase hline) fun σ H Q ⟨R, ρ, s, M, w, sr, p⟩ => stepE w sr p fun R1 ρ1 M1 H1 va v e1 w1 sr1 r1 p1 => by
    split at p1
    · rename_i hh
      exact ⟨by rw [hK]; exact ht R1 ρ1 M1 H1 v va w1 r1 hh, hs R1 ρ1 M1 H1 v [] va [] Q E w1 r1 .nil p1⟩
    · exact False.elim p1
end
def kVal (g : Store → Va → List Va → Option Va) (o : Va) (l : List Va) (M : Store) : Res := match g M o l with
  | some r => some (.val r, M)
  | none => none
/-- a change of the cell -/
def kMut (g : Cell → List Va → Option (Cell × Va)) (o : Va) (l : List Va) (M : Store) : Res := match o with
  | .cel n => (match M.c n with
    | some c => (match g c l with
      | some (c', r) => some (.val r, M.put n c')
      | none => none)
    | none => none)
  | _ => none
def gJoin (M : Store) : Va → List Va → Option Va
  | .str a, [x] => (match seqOf M x with
    | some l => (match strsOf l with
      | some ys => if (ys.map (·.length)).sum + ys.length * a.length ≤ 16777216 then some (.str (Txt.join a ys)) else none
      | none => none)
    | none => none)
  | _, _ => none
def gSplit (_ : Store) : Va → List Va → Option Va
  | .str a, [.str b] => if (b.length == 0) = false ∧ a.length + 2 ≤ sizeLine then some (.lst ((Txt.split a b).map Va.str)) else none
  | _, _ => none
def gStarts (_ : Store) : Va → List Va → Option Va
  | .str a, [.str b] => some (.bl (Txt.startswith a b))
  | _, _ => none
def gEnds (_ : Store) : Va → List Va → Option Va
  | .str a, [.str b] => some (.bl (Txt.endswith a b))
  | _, _ => none
def gFind (_ : Store) : Va → List Va → Option Va
  | .str a, [.str b] => some (.int (Txt.find a b))
  | _, _ => none
def gPart (_ : Store) : Va → List Va → Option Va
  | .str a, [.str b] => if (b.length == 0) = false ∧ a.length ≤ sizeLine then some (.tup [.str (Txt.partition a b).1, .str (Txt.partition a b).2.1, .str (Txt.partition a b).2.2]) else none
  | _, _ => none
def cAppend : Cell → List Va → Option (Cell × Va)
  | .lst l, [y] => if l.length < sizeLine then some (.lst (l ++ [y]), .non) else none
  | _, _ => none
def cPop : Cell → List Va → Option (Cell × Va)
  | .lst l, [] => (match l[l.length - 1]? with
    | some y => some (.lst l.dropLast, y)
    | none => none)
  | _, _ => none
def cPopAt : Cell → List Va → Option (Cell × Va)
  | .lst l, [.int i] => if -(2 ^ 63) ≤ i ∧ i < 2 ^ 63 then (match seqIndex? i l.length with
    | some k => (match l[k]? with
      | some y => some (.lst (l.eraseIdx k), y)
      | none => none)
    | none => none) else none
  | _, _ => none
def cReverse : Cell → List Va → Option (Cell × Va)
  | .lst l, [] => some (.lst l.reverse, .non)
  | _, _ => none
def cClear : Cell → List Va → Option (Cell × Va)
  | .lst _, [] => some (.lst [], .non)
  | _, _ => none
section
variable {X : Cx} {G : Sig}
theorem val_of {T : String} {r : V → List V → Hp → VK → Prop} {g : Store → Va → List Va → Option Va} (h : ∀ R ρ M H x xs o l res Q, Wd G R ρ M H → VR G R ρ o x → VRs G R ρ l xs → g M o l = some res → Gives G R ρ H M res Q → r x xs H Q) : OpM G T r (kVal g) := fun R ρ M H x xs o l Q E w ro rv p => by
  unfold kVal at p
  cases q : g M o l with
  | none => rw [q] at p; exact False.elim p
  | some res => rw [q] at p; exact h R ρ M H x xs o l res Q w ro rv q p
theorem s_join (hK : X.K = G.K) : OpM G "str" (fun x xs H Q => ∃ a p, ∃ ys : List Str, x = .str a ∧ xs = [.ref p] ∧ (SqL X.K H p (ys.map V.str) ∨ SqT X.K H p (ys.map V.str)) ∧ (ys.map (·.length)).sum + ys.length * a.length ≤ 16777216 ∧ Q (.str (Txt.join a ys)) H) (kVal gJoin) :=
  val_of fun R ρ M H x xs o l res Q w ro rv h g => by
    unfold gJoin at h
    split at h
    · cases ro
      obtain ⟨v, rfl, r⟩ := one_of rv
      split at h
      · rename_i l hl
        split at h
        · rename_i ys hy
          split at h
          · rename_i hz; cases h
            obtain ⟨a, vs, rfl, sq, rv', _⟩ := seq_read w r hl
            rw [strs_of rv' hy] at sq
            exact ⟨_, a, ys, rfl, rfl, by rw [hK]; exact sq, hz, gives_now w (.str _) g⟩
          · cases h
        · cases h
      · cases h
    · cases h
theorem s_split : OpM G "str" (fun x xs H Q => ∃ a b, x = .str a ∧ xs = [.str b] ∧ (b.length == 0) = false ∧ a.length + 2 ≤ sizeLine ∧ rNewStrs (Txt.split a b) H Q) (kVal gSplit) :=
  val_of fun R ρ M H x xs o l res Q w ro rv h g => by
    unfold gSplit at h
    split at h
    · cases ro
      rename_i a b
      obtain ⟨v, rfl, r⟩ := one_of rv
      cases r
      split at h
      · rename_i hz; cases h
        refine ⟨a, b, rfl, rfl, hz.1, hz.2, fun p hp => gives_lst w (VRs.strs _) ?_ g hp⟩
        rw [List.length_map]
        exact Nat.le_trans (PyProof.Rows.split_le a b) hz.2
      · cases h
    · cases h
theorem s_starts : OpM G "str" (fun x xs H Q => ∃ a b, x = .str a ∧ xs = [.str b] ∧ Q (.bl (Txt.startswith a b)) H) (kVal gStarts) :=
  val_of fun R ρ M H x xs o l res Q w ro rv h g => by
    unfold gStarts at h
    split at h
    · cases ro
      obtain ⟨v, rfl, r⟩ := one_of rv
      cases r; cases h
      exact ⟨_, _, rfl, rfl, gives_now w (.bl _) g⟩
    · cases h
theorem s_ends : OpM G "str" (fun x xs H Q => ∃ a b, x = .str a ∧ xs = [.str b] ∧ Q (.bl (Txt.endswith a b)) H) (kVal gEnds) :=
  val_of fun R ρ M H x xs o l res Q w ro rv h g => by
    unfold gEnds at h
    split at h
    · cases ro
      obtain ⟨v, rfl, r⟩ := one_of rv
      cases r; cases h
      exact ⟨_, _, rfl, rfl, gives_now w (.bl _) g⟩
    · cases h
theorem s_find : OpM G "str" (fun x xs H Q => ∃ a b, x = .str a ∧ xs = [.str b] ∧ Q (.int (Txt.find a b)) H) (kVal gFind) :=
  val_of fun R ρ M H x xs o l res Q w ro rv h g => by
    unfold gFind at h
    split at h
    · cases ro
      obtain ⟨v, rfl, r⟩ := one_of rv
      cases r; cases h
      exact ⟨_, _, rfl, rfl, gives_now w (.int _) g⟩
    · cases h
theorem s_part : OpM G "str" (fun x xs H Q => ∃ a b, x = .str a ∧ xs = [.str b] ∧ (b.length == 0) = false ∧ a.length ≤ sizeLine ∧
    ∀ p, H p = none → Q (.ref p) (upd H p (.tup [.str (Txt.partition a b).1, .str (Txt.partition a b).2.1, .str (Txt.partition a b).2.2]))) (kVal gPart) :=
  val_of fun R ρ M H x xs o l res Q w ro rv h g => by
    unfold gPart at h
    split at h
    · cases ro
      obtain ⟨v, rfl, r⟩ := one_of rv
      cases r
      split at h
      · rename_i hz; cases h
        exact ⟨_, _, rfl, rfl, hz.1, hz.2, fun p hp => gives_tup w (.cons (.str _) (.cons (.str _) (.cons (.str _) .nil))) (by show 3 ≤ sizeLine; decide) g hp⟩
      · cases h
    · cases h
/-- a cell of a list changes -/
theorem mut_of {T : String} {r : V → List V → Hp → VK → Prop} {g : Cell → List Va → Option (Cell × Va)} (hg : ∀ c l c' y, g c l = some (c', y) → ∃ l0, c = .lst l0)
    (h : ∀ R ρ M H a vs l0 l xs l' y (Q : VK), Wd G R ρ M H → H a = some (.lst vs) → VRs G R ρ l0 vs → l0.length ≤ sizeLine → VRs G R ρ l xs → g (.lst l0) l = some (l', y) →
      (∀ vs' v, VR G R ρ y v → (∀ H', H' a = some (.lst vs') → CelR G R ρ H' a l') → Q v (upd H a (.lst vs'))) → r (.ref a) xs H Q) : OpM G T r (kMut g) := fun R ρ M H x xs o l Q E w ro rv p => by
  unfold kMut at p
  split at p
  · rename_i n
    split at p
    · rename_i c hc
      split at p
      · rename_i c' y hg'
        obtain ⟨l0, rfl⟩ := hg c l c' y hg'
        cases ro with
        | cel e =>
          obtain ⟨a, e1, ra, vs, ha, z, r0⟩ := w.cel n _ hc
          rw [e] at e1
          cases e1
          refine h R ρ M H _ vs l0 l xs c' y Q w ha r0 z rv hg' fun vs' v ry hc' => ?_
          obtain ⟨ex, wd⟩ := write_cel w hc e (hc' (upd H _ (.lst vs')) upd_same)
          exact p _ _ _ _ ex wd (ry.mono ex.gr)
      · exact False.elim p
    · exact False.elim p
  · exact False.elim p
theorem s_append : OpM G "list" rAppend (kMut cAppend) := mut_of (fun c l c' y h => by unfold cAppend at h; split at h; exact ⟨_, rfl⟩; cases h) fun R ρ M H a vs l0 l xs l' y Q w ha r0 z rv h k => by
  unfold cAppend at h
  split at h
  · rename_i l1 y1 e1
    cases e1
    obtain ⟨v, rfl, r⟩ := one_of rv
    split at h
    · rename_i hz; cases h
      exact ⟨a, vs, v, rfl, rfl, ha, by rw [← r0.length]; exact hz, k (vs ++ [v]) .non .non fun H' hH => ⟨_, hH, by simp; omega, r0.append (.cons r .nil)⟩⟩
    · cases h
  · cases h
theorem s_pop : OpM G "list" rPop (kMut cPop) := mut_of (fun c l c' y h => by unfold cPop at h; split at h; exact ⟨_, rfl⟩; cases h) fun R ρ M H a vs l0 l xs l' y Q w ha r0 z rv h k => by
  unfold cPop at h
  split at h
  · rename_i l1 e1
    cases e1
    cases rv
    split at h
    · rename_i y' hy
      cases h
      obtain ⟨v, hv, ry⟩ := r0.get hy
      exact ⟨a, vs, v, rfl, rfl, ha, by rw [← r0.length]; exact hv, k vs.dropLast v ry fun H' hH => ⟨_, hH, by rw [List.length_dropLast]; omega, r0.dropLast⟩⟩
    · cases h
  · cases h
theorem s_popAt : OpM G "list" rPopAt (kMut cPopAt) := mut_of (fun c l c' y h => by unfold cPopAt at h; split at h; exact ⟨_, rfl⟩; cases h) fun R ρ M H a vs l0 l xs l' y Q w ha r0 z rv h k => by
  unfold cPopAt at h
  split at h
  · rename_i l1 i e1
    cases e1
    obtain ⟨v, rfl, r⟩ := one_of rv
    cases r
    split at h
    · rename_i hz
      split at h
      · rename_i j hj
        split at h
        · rename_i y' hy
          cases h
          obtain ⟨v, hv, ry⟩ := r0.get hy
          exact ⟨a, vs, i, j, v, rfl, rfl, ha, hz.1, hz.2, by rw [← r0.length]; exact hj, hv, k (vs.eraseIdx j) v ry fun H' hH => ⟨_, hH, Nat.le_trans (List.length_eraseIdx_le ..) z, r0.eraseIdx j⟩⟩
        · cases h
      · cases h
    · cases h
  · cases h
theorem s_reverse : OpM G "list" rReverse (kMut cReverse) := mut_of (fun c l c' y h => by unfold cReverse at h; split at h; exact ⟨_, rfl⟩; cases h) fun R ρ M H a vs l0 l xs l' y Q w ha r0 z rv h k => by
  unfold cReverse at h
  split at h
  · rename_i l1 e1
    cases e1
    cases rv
    cases h
    exact ⟨a, vs, rfl, rfl, ha, k vs.reverse .non .non fun H' hH => ⟨_, hH, by rw [List.length_reverse]; exact z, r0.reverse⟩⟩
  · cases h
theorem s_clear : OpM G "list" rClear (kMut cClear) := mut_of (fun c l c' y h => by unfold cClear at h; split at h; exact ⟨_, rfl⟩; cases h) fun R ρ M H a vs l0 l xs l' y Q w ha r0 z rv h k => by
  unfold cClear at h
  split at h
  · rename_i l1 e1
    cases e1
    cases rv
    cases h
    exact ⟨a, vs, rfl, rfl, ha, k [] .non .non fun H' hH => ⟨_, hH, by simp, .nil⟩⟩
  · cases h
/-- xs[i] = v -/
def cSetAt (o i v : Va) (M : Store) : Option Store := match o, i with
  | .cel n, .int k => (match M.c n with
    | some (.lst l) => (match ixN l.length k with
      | some j => some (M.put n (.lst (l.set j v)))
      | none => none)
    | _ => none)
  | _, _ => none
theorem s_setAt : SubSim G rSetL cSetAt := fun R ρ M M' H o i x vo vi v k w ro ri rv h q => by
  unfold cSetAt at h
  split at h
  · rename_i n j
    cases ri
    split at h
    · rename_i l hc
      split at h
      · rename_i j' hj
        cases h
        cases ro with
        | cel e =>
          obtain ⟨a, e1, ra, vs, ha, z, r0⟩ := w.cel n _ hc
          rw [e] at e1
          cases e1
          obtain ⟨ex, wd⟩ := write_cel (o := .lst (vs.set j' x)) (y := .lst (l.set j' v)) w hc e ⟨_, upd_same, by rw [List.length_set]; exact z, r0.set rv j'⟩
          exact ⟨_, vs, j, j', rfl, rfl, ha, by rw [← r0.length]; exact hj, q _ ex wd⟩
      · cases h
    · cases h
  · cases h
end
end PV

set_option Elab.async false
set_option linter.all false
set_option maxRecDepth 100000
set_option maxHeartbeats 4000000
namespace PV
open PySem L2

section
variable {X : Cx} {G : Sig} {E : XK} {a b c tg : Expr} {es : List Expr} {ea eb ec : SE} {pos : Pos}
theorem chain_sim {r r' : R2} {g g' : Store → Va → Va → Option Va} (hs : Op2 G r g) (hs' : Op2 G r' g') {σ : L2.St} {H : Hp} {Q : VK} (h : tE G E (evChain g g' ea eb ec) σ H Q) : tChain r r' (tE G E ea) (tE G E eb) (tE G E ec) σ H Q := by
  obtain ⟨R, ρ, s, M, w, sr, p⟩ := h
  refine stepE w sr p fun R1 ρ1 M1 H1 va v e1 w1 sr1 r1 p1 => ?_
  refine stepE w1 sr1 p1 fun R2 ρ2 M2 H2 vb u e2 w2 sr2 r2 p2 => ?_
  cases q : g M2 va vb with
  | none => rw [q] at p2; exact False.elim p2
  | some res =>
    rw [q] at p2
    cases res <;> first | exact False.elim p2 | skip
    rename_i bb
    refine hs R2 ρ2 M2 H2 v u va vb _ _ w2 (r1.mono e2.gr) r2 q fun R3 ρ3 H3 z e3 w3 r3 => ?_
    cases r3
    refine ⟨bb, rfl, ?_⟩
    cases bb with
    | false => exact iteF (p2 R3 ρ3 H3 _ e3 w3 (.bl false))
    | true =>
      refine iteT ?_
      refine stepE w3 (sr2.mono e3.gr) (Post.ext e3 p2) fun R4 ρ4 M4 H4 vc t e4 w4 sr4 r4 p4 => ?_
      cases q4 : g' M4 vb vc with
      | none => rw [q4] at p4; exact False.elim p4
      | some res =>
        rw [q4] at p4
        cases res <;> first | exact False.elim p4 | skip
        exact hs' R4 ρ4 M4 H4 u t vb vc _ Q w4 (r2.mono (e3.trans e4).gr) r4 q4 p4
theorem q_chain {op op' : CmpOp} {r r' : R2} {g g' : Store → Va → Va → Option Va} (ho : OpR X (compareOp op) r) (hs : Op2 G r g) (ho' : OpR X (compareOp op') r') (hs' : Op2 G r' g') (ha : PE X a (tE G E ea)) (hb : PE X b (tE G E eb)) (hc : PE X c (tE G E ec))
    (hm : lastMarks [op, op'] [b, c] = false := by with_unfolding_all rfl) : PE X (.Compare a [op, op'] [b, c] pos) (tE G E (evChain g g' ea eb ec)) := pe_imp (pe_chain ho ho' ha hb hc hm) fun σ H Q h => chain_sim hs hs' h
theorem qt_chain {op op' : CmpOp} {r r' : R2} {g g' : Store → Va → Va → Option Va} (ho : OpR X (compareOp op) r) (hs : Op2 G r g) (ho' : OpR X (compareOp op') r') (hs' : Op2 G r' g') (ha : PE X a (tE G E ea)) (hb : PE X b (tE G E eb)) (hc : PE X c (tE G E ec))
    (hm : lastMarks [op, op'] [b, c] = false := by with_unfolding_all rfl) : PT X (.Compare a [op, op'] [b, c] pos) (tT G E (evChain g g' ea eb ec)) := pt_imp (pt_chain ho ho' ha hb hc hm) fun σ H Q h => chain_sim hs hs' (toT h)

/-! ### any source -/
theorem qi_str (ha : PE X a (tE G E ea)) : PI X tg a (tI G E (itS ea)) :=
  pi_imp (pi_str ha) fun σ H Q ⟨R, ρ, s, M, w, sr, p⟩ => by
    refine ⟨R, ρ, s, M, w, sr, ?_⟩
    unfold itS at p
    rcases q : ea s M with _ | ⟨x | ⟨c, x⟩, M1⟩ <;> rw [q] at p
    · exact p
    · cases x <;> first | exact False.elim p | skip
      rename_i z
      intro R1 ρ1 H1 v e1 w1 r1
      cases r1
      dsimp only at p
      by_cases hz : z.length ≤ sizeLine
      · rw [if_pos hz] at p
        refine ⟨z, rfl, p R1 ρ1 H1 _ e1 w1 (by rw [List.length_map]; exact hz) fun R2 ρ2 M2 H2 g2 w2 _ => ⟨fun i y hy => ?_, fun i hi => ?_⟩⟩
        · rw [List.getElem?_map] at hy
          cases q2 : z.cps.toList[i]? with
          | none => rw [q2] at hy; cases hy
          | some c =>
            rw [q2] at hy
            cases hy
            have hc : z.cps[i]? = some c := by rw [← Array.getElem?_toList]; exact q2
            refine ⟨(Array.getElem?_eq_some_iff.mp hc).1, fun v H' ⟨e3, c', hc', ev⟩ => ?_⟩
            rw [hc] at hc'
            cases hc'
            subst ev e3
            exact ⟨R2, Ext.refl, w2, .str _⟩
        · rw [List.length_map] at hi
          show z.cps.size ≤ i
          simpa using hi
      · rw [if_neg hz] at p; exact False.elim p
    · exact p
def itA (e : SE) : SI := fun s M => match e s M with
  | some (.val (.str _), _) => itS e s M
  | some (.val (.tup _), _) => itT e s M
  | _ => itL e s M
theorem qi_any (hK : X.K = G.K) (ha : PE X a (tE G E ea)) : PI X tg a (tI G E (itA ea)) :=
  ⟨fun pins s σ H k I ⟨R, ρ, s', M, w, sr, p⟩ => by
    unfold itA at p
    split at p
    · exact (qi_str ha).run pins s σ H k I ⟨R, ρ, s', M, w, sr, p⟩
    · exact (qi_tup hK ha).run pins s σ H k I ⟨R, ρ, s', M, w, sr, p⟩
    · exact (qi_list hK ha).run pins s σ H k I ⟨R, ρ, s', M, w, sr, p⟩⟩
end

/-! ### parts of a text, by places -/
def noE : Expr := .Constant .none 0 ⟨0, 0, 0, 0⟩
def noS : Stmt := .Pass ⟨0, 0, 0, 0⟩
/-- the i-th part of an expression -/
def eAt (i : Nat) : Expr → Expr
  | .BinOp a _ b _ => if i = 0 then a else b
  | .UnaryOp _ a _ => a
  | .BoolOp _ es _ => es.getD i noE
  | .Compare a _ es _ => if i = 0 then a else es.getD (i - 1) noE
  | .Call f es _ _ => if i = 0 then f else es.getD (i - 1) noE
  | .IfExp c a b _ => if i = 0 then c else if i = 1 then a else b
  | .Subscript a b _ => if i = 0 then a else b
  | .Slice a b _ _ => ((if i = 0 then a else b).getD noE)
  | .List es _ => es.getD i noE
  | .Tuple es _ _ => es.getD i noE
  | .Attribute a _ _ => a
  | .ListComp e gs _ _ => if i = 0 then e else if i = 1 then (match gs with | g :: _ => g.iter | [] => noE) else (match gs with | g :: _ => g.ifs.getD (i - 2) noE | [] => noE)
  | .DictComp k v gs _ _ => if i = 0 then k else if i = 1 then v else (match gs with | g :: _ => g.iter | [] => noE)
  | .Dict ks vs _ => vs.getD i noE
  | .FormattedValue e _ _ _ => e
  | .JoinedStr es _ => es.getD i noE
  | .Lambda _ e _ _ => e
  | e => e
/-- the keyword i of a call -/
def eKw (i : Nat) : Expr → Expr
  | .Call _ _ ks _ => (match ks[i]? with | some k => k.value | none => noE)
  | e => e
def eSc : Expr → Scope
  | .ListComp _ _ s _ => s
  | .DictComp _ _ _ s _ => s
  | .Lambda _ _ s _ => s
  | _ => defScope noS
/-- the i-th expression of a statement -/
def sEx (i : Nat) : Stmt → Expr
  | .Return (some e) _ => e
  | .Assign ts e _ => if i = 0 then e else ts.getD (i - 1) noE
  | .AugAssign t _ e _ => if i = 0 then e else t
  | .Expr e _ => e
  | .If c _ _ _ => c
  | .While c _ _ _ => c
  | .For t e _ _ _ => if i = 0 then e else t
  | .Raise (some e) _ _ => e
  | _ => noE
def sIn (k i : Nat) : Stmt → Stmt
  | .If _ a b _ => (if k = 0 then a else b).getD i noS
  | .While _ a b _ => (if k = 0 then a else b).getD i noS
  | .For _ _ a b _ => (if k = 0 then a else b).getD i noS
  | .Try a hs b c _ => (if k = 0 then a else if k = 1 then b else c).getD i noS
  | s => s
def sAt (i : Nat) (l : List Stmt) : Stmt := l.getD i noS

/-! ### built-in names -/
theorem bt_len : bootBuiltins "len" = some (.builtin "len") := by decide +kernel
theorem bt_max : bootBuiltins "max" = some (.builtin "max") := by decide +kernel
theorem bt_min : bootBuiltins "min" = some (.builtin "min") := by decide +kernel
theorem bt_abs : bootBuiltins "abs" = some (.builtin "abs") := by decide +kernel
theorem bt_sum : bootBuiltins "sum" = some (.builtin "sum") := by decide +kernel
theorem bt_all : bootBuiltins "all" = some (.builtin "all") := by decide +kernel
theorem bt_any : bootBuiltins "any" = some (.builtin "any") := by decide +kernel
theorem bt_repr : bootBuiltins "repr" = some (.builtin "repr") := by decide +kernel
theorem bt_sorted : bootBuiltins "sorted" = some (.builtin "sorted") := by decide +kernel
theorem bt_int : bootBuiltins "int" = some (.type "int") := by decide +kernel
theorem bt_str : bootBuiltins "str" = some (.type "str") := by decide +kernel
theorem bt_list : bootBuiltins "list" = some (.type "list") := by decide +kernel
theorem bt_dict : bootBuiltins "dict" = some (.type "dict") := by decide +kernel
end PV

set_option Elab.async false
set_option linter.all false
set_option maxRecDepth 100000
set_option maxHeartbeats 4000000
namespace PV
open PySem L2
open PyProof.Rows

/-- a def of the text that stands under its name, by value -/
structure Cal (P : Program) (w : World) (K : PySem.W.Frag) (mg : Str → Option Value) (base : Heap) (G : Sig) (x : Str) (lv n : Nat) (fM : FM) : Prop where
  ex : ∃ (f : Addr) (fd : FuncData) (ps : List Str), mg x = some (.ref f) ∧ PySem.W.keepIn K (.ref f) = true ∧ Binds K fd ps [] ∧ FnG P w K mg base CX0 lv f fd ps (spI G n fM)
section
variable {X : Cx} {G : Sig} {a : Expr} {es : List Expr} {ea : SE} {pos p' : Pos} {lv k n : Nat} {x : Str} {fM : FM}
theorem q_cal (C : Cal X.prog X.w X.K X.mg X.base G x lv n fM) (hr : Room k X.A) (hl : lv ≤ k) (hgd : X.A.guards = some []) (hg : Gl X x) (ha : PA X (a :: es) (tA G E0 ea)) (hdb : (x == ("__debug__" : Str)) = false := by decide)
    (he : starEach (a :: es) X.env = (false, eval a X.env) :: starEach es X.env := by rfl) (hpl : (backTo pos (starEach es X.env)).any (·.1) = false := by rfl) :
    PE X (.Call (.Name x p') (a :: es) [] pos) (tE G E0 (evL (kFn n fM) ea)) := by
  obtain ⟨f, fd, ps, hm, hk, hb, F⟩ := C.ex
  exact q_fn F (hr.mono hl) hgd hg hm hk hb ha hdb he hpl
theorem q_cal0 (C : Cal X.prog X.w X.K X.mg X.base G x lv 0 fM) (hr : Room k X.A) (hl : lv ≤ k) (hgd : X.A.guards = some []) (hg : Gl X x) (hdb : (x == ("__debug__" : Str)) = false := by decide) :
    PE X (.Call (.Name x p') [] [] pos) (tE G E0 (evL (kFn 0 fM) evNil)) := by
  obtain ⟨f, fd, ps, hm, hk, hb, F⟩ := C.ex
  exact q_fn0 F (hr.mono hl) hgd hg hm hk hb hdb
end
/-- a def's place in the text, its body by value: what callers know of it -/
theorem cal_of {P : Program} {w : World} {K : PySem.W.Frag} {mg : Str → Option Value} {base : Heap} {CA : Nat → Addr} {x : Str} {st : Stmt} {f : Addr} {fd : FuncData} {N ps : List Str} {k n N' : Nat} {es : SS} {c : FM} (F : Fun K x x st f fd) (S : FnScope N ps (defScope st)) (m : mg x = some (.ref f))
    (hb : Binds K fd ps []) (hn : ps.length = n) (hN : N.length = N') (hc : c = runF N' es)
    (body : ∀ (cdv : Value) (A : Around) (outer : List Env) (s : Shared) (H : Hp) (E : XK), Room k (A.deeper (envOfC x (defScope st) s.heap.objs.size f cdv)) → A.guards = some [] →
      PSs (cxOf CX0 P w K mg base N x (defScope st) f cdv A outer s H E).nox (defBody st) (tS ⟨K, CA⟩ E0 es)) : Cal P w K mg base ⟨K, CA⟩ x (k + 1) n c := by
  subst hn hN hc
  exact ⟨f, fd, ps, m, F.kp, hb, ok_fn F S body⟩
theorem okF {P : Program} {w : World} {K : PySem.W.Frag} {mg : Str → Option Value} {base : Heap} {CA : Nat → Addr} {x : Str} {st : Stmt} {f : Addr} {fd : FuncData} {N ps : List Str} {k n N' : Nat} {es : SS} {c : FM} (F : Fun K x x st f fd) (S : FnScope N ps (defScope st))
    (hn : ps.length = n) (hN : N.length = N') (hc : c = runF N' es)
    (body : ∀ (cdv : Value) (A : Around) (outer : List Env) (s : Shared) (H : Hp) (E : XK), Room k (A.deeper (envOfC x (defScope st) s.heap.objs.size f cdv)) → A.guards = some [] →
      PSs (cxOf CX0 P w K mg base N x (defScope st) f cdv A outer s H E).nox (defBody st) (tS ⟨K, CA⟩ E0 es)) : FnG P w K mg base CX0 (k + 1) f fd ps (spI ⟨K, CA⟩ n c) := by
  subst hn hN hc
  exact ok_fn F S body
theorem walkG {l : PySem.W.OpenLaw} {n k : Nat} {q : Program} {loose : List Str} {XP : (Str → Option Value) → Heap → Prop} {YP : World → Heap → Prop} {d : DefRec} {K : Params → PySem.W.Frag} {x : Str}
    (hi : PyProof.Rows.importsNone q = true) (hn : l.most = some n) (hn2 : n ≤ sizeLine) (hdf : d.params.defaults = []) (hr : Room k callerA) (hY : ∀ (w : World) (h : Heap), YP w h → (K w.params).In h)
    (F : ∀ (w : World) (mg : Str → Option Value) (fa : Addr) (h : Heap), (K w.params).In h → h.Ns mainGlobals mg → mg d.name = some (.ref fa) →
      ∃ (fd : FuncData) (CA : Nat → Addr) (f : FM), (∀ (s : Shared) (u : Value), BindsTo s fd ⟨[u], []⟩ [(x, u)]) ∧
        (∀ base : Heap, (K w.params).In base → base.Ns mainGlobals mg → (∃ mm, base.Ns sysModules mm) → FnG l.prog w (K w.params) mg base CX0 k fa fd [x] (spI ⟨K w.params, CA⟩ 1 f)) ∧
        ∀ ns : List Int, ns.length ≤ n → ∃ M', f [.scr ns] ⟨fun _ => none, 0⟩ = some (.val (.bl true), M')) :
    PySem.W.WalkO q loose XP YP l.row.toRowW d [] (fun f vs => PySem.call f vs) := by
  refine Att.attach_call hn hdf fun w s₀ s mg mb fa o pm cd doc a vs ns G Y ho hd hcd hmg hobj hints hlen hg => ?_
  obtain ⟨fd, CA, f, hb, hF, hf⟩ := F w mg fa _ (hY w _ Y) G.T.g hmg
  obtain ⟨M', hm⟩ := hf ns hlen
  exact law_end (hY w _ Y) G.T.g G.T.b G.T.builtins G.T.nolimit ((G.T.seer hi).mods.elim fun mm z => ⟨mm, z.1⟩) hg hobj hints (Nat.le_trans hlen hn2) hr hF hb hm
end PV

set_option Elab.async false
set_option linter.all false
set_option maxRecDepth 100000
set_option maxHeartbeats 4000000
namespace PV
open PySem L2

/-! ### evaluation, as rewriting -/
section
variable {s : SL} {M : Store} {i j : Nat} {v va vb : Va} {ea eb ec : SE} {sa sb : SS}
@[simp] theorem x_c : evC v s M = some (.val v, M) := rfl
@[simp] theorem x_var0 {a : Option Va} : evVar 0 (a :: s) M = (match a with | some v => some (.val v, M) | none => none) := by cases a <;> rfl
@[simp] theorem x_varS {a : Option Va} : evVar (i + 1) (a :: s) M = evVar i s M := rfl
@[simp] theorem x_1 {g} : ev1 g ea s M = bindO (ea s M) fun va M1 => (match g M1 va with | some r => some (.val r, M1) | none => none) := rfl
@[simp] theorem x_2 {g} : ev2 g ea eb s M = bindO (ea s M) fun va M1 => bindO (eb s M1) fun vb M2 => (match g M2 va vb with | some r => some (.val r, M2) | none => none) := rfl
@[simp] theorem x_nil : evNil s M = some (.val (.tup []), M) := rfl
@[simp] theorem x_cons : evCons ea eb s M = bindO (ea s M) fun v M1 => bindO (eb s M1) fun t M2 => (match t with | .tup l => some (.val (.tup (v :: l)), M2) | _ => none) := rfl
@[simp] theorem x_L {k} : evL k ea s M = bindO (ea s M) fun t M1 => (match t with | .tup l => k l M1 | _ => none) := rfl
@[simp] theorem x_M2 {ty k} : evM2 ty k ea eb s M = bindO (ea s M) fun o M1 => if ty M1 o = true then bindO (eb s M1) fun t M2 => (match t with | .tup l => k o l M2 | _ => none) else none := rfl
@[simp] theorem x_if : evIf ec ea eb s M = bindO (ec s M) fun c M1 => (match c with | .bl true => ea s M1 | .bl false => eb s M1 | _ => none) := rfl
@[simp] theorem x_and : evAnd ea eb s M = bindO (ea s M) fun c M1 => (match c with | .bl true => eb s M1 | .bl false => some (.val (.bl false), M1) | _ => none) := rfl
@[simp] theorem x_or : evOr ea eb s M = bindO (ea s M) fun c M1 => (match c with | .bl true => some (.val (.bl true), M1) | .bl false => eb s M1 | _ => none) := rfl
@[simp] theorem x_not : evNot ea s M = bindO (ea s M) fun c M1 => (match c with | .bl b => some (.val (.bl (!b)), M1) | _ => none) := rfl
@[simp] theorem x_chain {g g'} : evChain g g' ea eb ec s M = bindO (ea s M) fun va M1 => bindO (eb s M1) fun vb M2 => (match g M2 va vb with
  | some (.bl true) => bindO (ec s M2) fun vc M3 => (match g' M3 vb vc with | some (.bl b) => some (.val (.bl b), M3) | _ => none)
  | some (.bl false) => some (.val (.bl false), M2)
  | _ => none) := rfl
@[simp] theorem x_tru : evTru ea s M = bindO (ea s M) fun va M1 => (match (truO M1 va).map Va.bl with | some r => some (.val r, M1) | none => none) := rfl
@[simp] theorem x_yes : evYes s M = some (.val (.bl true), M) := rfl
@[simp] theorem x_B : evB ea s M = bindO (ea s M) fun v M1 => (match v with | .int i => some (.val (.int i), M1) | _ => none) := rfl
@[simp] theorem x_sl : evSl ea eb ec s M = bindO (ea s M) fun x M1 => bindO (eb s M1) fun vl M2 => bindO (ec s M2) fun vu M3 => (match boundOf vl, boundOf vu with
  | some lo, some hi => (match opSl M3 x lo hi with | some r => some (.val r, M3) | none => none)
  | _, _ => none) := rfl
@[simp] theorem x_frz : evFrz ea s M = frzO (ea s M) := rfl
@[simp] theorem frz_none : frzO none = none := rfl
@[simp] theorem frz_exc {c x} : frzO (some (.exc c x, M)) = some (.exc c x, M) := rfl
@[simp] theorem frz_non : frzO (some (.val .non, M)) = some (.val .non, M) := rfl
@[simp] theorem frz_bl {b} : frzO (some (.val (.bl b), M)) = some (.val (.bl b), M) := rfl
@[simp] theorem frz_int {b} : frzO (some (.val (.int b), M)) = some (.val (.int b), M) := rfl
@[simp] theorem frz_str {b} : frzO (some (.val (.str b), M)) = some (.val (.str b), M) := rfl
@[simp] theorem frz_lst {b} : frzO (some (.val (.lst b), M)) = some (.val (.lst b), M) := rfl
@[simp] theorem frz_tup {b} : frzO (some (.val (.tup b), M)) = some (.val (.tup b), M) := rfl
@[simp] theorem frz_dic {b} : frzO (some (.val (.dic b), M)) = some (.val (.dic b), M) := rfl
@[simp] theorem frz_cel {n : Nat} : frzO (some (.val (.cel n), M)) = (match M.c n with
    | some (.lst l) => some (.val (.lst l), M.del n)
    | some (.dic l) => some (.val (.dic l), M.del n)
    | _ => some (.val (.cel n), M)) := rfl
@[simp] theorem x_sE {e k} : sE e k s M = (match e s M with | none => none | some (.val v, M1) => k v s M1 | some (.exc c v, M1) => some (.exc c v, s, M1)) := rfl
@[simp] theorem x_nx : sNx s M = some (.nx, s, M) := rfl
@[simp] theorem x_bk : sBk s M = some (.bk, s, M) := rfl
@[simp] theorem x_ct : sCt s M = some (.ct, s, M) := rfl
@[simp] theorem x_never : sNever s M = none := rfl
@[simp] theorem x_retN : sRetN s M = some (.ret .non, s, M) := rfl
@[simp] theorem x_ret {e} : sRet e s M = (match e s M with | none => none | some (.val v, M1) => some (.ret v, s, M1) | some (.exc c v, M1) => some (.exc c v, s, M1)) := rfl
@[simp] theorem x_set {e} : sSet i e s M = (match e s M with | none => none | some (.val v, M1) => some (.nx, s.set i (some v), M1) | some (.exc c v, M1) => some (.exc c v, s, M1)) := rfl
@[simp] theorem x_drop {e} : sDrop e s M = (match e s M with | none => none | some (.val v, M1) => some (.nx, s, M1) | some (.exc c v, M1) => some (.exc c v, s, M1)) := rfl
@[simp] theorem x_asg {e t} : sAsg e t s M = (match e s M with | none => none | some (.val v, M1) => (match t v s M1 with | some s1 => some (.nx, s1, M1) | none => none) | some (.exc c v, M1) => some (.exc c v, s, M1)) := rfl
@[simp] theorem x_sIf {t} : sIf t sa sb s M = (match t s M with | none => none | some (.val v, M1) => (match v with | .bl true => sa s M1 | .bl false => sb s M1 | _ => none) | some (.exc c v, M1) => some (.exc c v, s, M1)) := rfl
@[simp] theorem x_seq : sSeq sa sb s M = (match sa s M with | some (.nx, s1, M1) => sb s1 M1 | r => r) := rfl
@[simp] theorem x_sub {e eo ei g} : sSub e eo ei g s M = sE e (fun v s M => sE eo (fun o s M => sE ei (fun i s M => (match g o i v M with | some M1 => some (.nx, s, M1) | none => none)) s M) s M) s M := rfl
@[simp] theorem x_tgName : tgName i v s M = some (s.set i (some v)) := rfl
@[simp] theorem x_tgTup {ts} {l : List Va} : tgTup ts (.tup l) s M = tgAll ts l s M := rfl
@[simp] theorem x_tgNil : tgAll [] [] s M = some s := rfl
@[simp] theorem x_tgCons {t : Tgt} {ts : List Tgt} {l : List Va} : tgAll (t :: ts) (v :: l) s M = (match t v s M with | some s1 => tgAll ts l s1 M | none => none) := rfl
@[simp] theorem x_endNx : endF (some (.nx, s, M)) = some (.val .non, M) := rfl
@[simp] theorem x_endRet : endF (some (.ret v, s, M)) = some (.val v, M) := rfl
@[simp] theorem x_endNone : endF none = none := rfl
@[simp] theorem x_endExc {c} : endF (some (.exc c v, s, M)) = some (.exc c v, M) := rfl
@[simp] theorem x_kFn {n f} {l : List Va} : kFn n f l M = if l.length = n then f l M else none := rfl
@[simp] theorem x_kPure {g} {l : List Va} : kPure g l M = (match g M l with | some r => some (.val r, M) | none => none) := rfl
@[simp] theorem x_kVal {g} {l : List Va} : kVal g v l M = (match g M v l with | some r => some (.val r, M) | none => none) := rfl
@[simp] theorem x_kMut {g} {l : List Va} {n : Nat} : kMut g (.cel n) l M = (match M.c n with | some c => (match g c l with | some (c', r) => some (.val r, M.put n c') | none => none) | none => none) := rfl
@[simp] theorem x_tup {l : List Va} : kTup l M = if l.length ≤ sizeLine then some (.val (.tup l), M) else none := rfl
@[simp] theorem x_lst {l : List Va} : kLst l M = if l.length ≤ sizeLine then some (.val (.lst l), M) else none := rfl
@[simp] theorem x_new {l : List Va} : kNew l M = if l.length ≤ sizeLine then some (.val (.cel M.nx), M.new (.lst l)) else none := rfl
theorem le_line {n : Nat} (h : n ≤ 16777216) : n ≤ sizeLine := h
theorem lt_line {n : Nat} (h : n < 16777216) : n < sizeLine := h
@[simp] theorem line_eq : sizeLine = 16777216 := rfl

/-! ### the store -/
@[simp] theorem put_same {n : Nat} {x : Cell} : (M.put n x).c n = some x := by show (if n = n then some x else M.c n) = some x; rw [if_pos rfl]
theorem put_ne {n m : Nat} {x : Cell} (h : m ≠ n) : (M.put n x).c m = M.c m := by show (if m = n then some x else M.c m) = M.c m; rw [if_neg h]
@[simp] theorem put_nx {n : Nat} {x : Cell} : (M.put n x).nx = M.nx := rfl
@[simp] theorem put_put {n : Nat} {x y : Cell} : (M.put n x).put n y = M.put n y := by
  unfold Store.put
  congr 1
  funext m
  dsimp only
  split <;> rfl
@[simp] theorem new_same {x : Cell} : (M.new x).c M.nx = some x := by show (if M.nx = M.nx then some x else M.c M.nx) = some x; rw [if_pos rfl]
theorem new_ne {m : Nat} {x : Cell} (h : m ≠ M.nx) : (M.new x).c m = M.c m := by show (if m = M.nx then some x else M.c m) = M.c m; rw [if_neg h]
@[simp] theorem new_nx {x : Cell} : (M.new x).nx = M.nx + 1 := rfl
theorem del_ne {n m : Nat} (h : m ≠ n) : (M.del n).c m = M.c m := by show (if m = n then none else M.c m) = M.c m; rw [if_neg h]
@[simp] theorem del_nx {n : Nat} : (M.del n).nx = M.nx := rfl

/-! ### operations on known values -/
@[simp] theorem y_add {i j : Int} : opAdd M (.int i) (.int j) = some (.int (i + j)) := rfl
@[simp] theorem y_sub {i j : Int} : opSub M (.int i) (.int j) = some (.int (i - j)) := rfl
theorem y_addS {x y : Str} (h : x.length + y.length ≤ 16777216) : opAdd M (.str x) (.str y) = some (.str (x ++ y)) := if_pos h
theorem y_mulR {i j : Int} (h1 : -(2 ^ 64) < j) (h2 : j < 2 ^ 64) : opMul M (.int i) (.int j) = some (.int (i * j)) := if_pos (CMul.ok (.inr ⟨h1, h2⟩))
theorem y_mulL {i j : Int} (h1 : -(2 ^ 64) < i) (h2 : i < 2 ^ 64) : opMul M (.int i) (.int j) = some (.int (i * j)) := if_pos (CMul.ok (.inl ⟨h1, h2⟩))
theorem y_mulW {i j : Int} (h : CMulW i j) : opMul M (.int i) (.int j) = some (.int (i * j)) := if_pos h.ok
theorem y_div {i j : Int} (h : 0 < j) (h2 : j < 2 ^ 200) : opDiv M (.int i) (.int j) = some (.int (i / j)) := if_pos ⟨h, by
  have : j.natAbs < 2 ^ 200 := by
    have e : ((2 ^ 200 : Nat) : Int) = 2 ^ 200 := by norm_cast
    omega
  have := PySem.Flt.log2_lt_of (by decide) this
  omega⟩
theorem y_mulN {i j : Int} (h1 : 0 ≤ i) (h2 : i < 2 ^ 200) (h3 : 0 ≤ j) (h4 : j < 2 ^ 200) : opMul M (.int i) (.int j) = some (.int (i * j)) := by
  have e : ((2 ^ 200 : Nat) : Int) = 2 ^ 200 := by norm_cast
  exact y_mulW (wide_mul (a := 200) (b := 200) (by omega) (by omega) (by decide) (by decide) (by decide))
theorem y_pow {i j : Int} (h0 : 0 ≤ j) (h : j ≤ 1000) (h1 : -(2 ^ 64) < i) (h2 : i < 2 ^ 64) : opPow M (.int i) (.int j) = some (.int (i ^ j.toNat)) := if_pos ⟨h0, by
  have hb : Builtin.Int.intBits i ≤ 64 := by
    unfold Builtin.Int.intBits
    split
    · omega
    · have e : ((2 ^ 64 : Nat) : Int) = 2 ^ 64 := by norm_cast
      have := PySem.Flt.log2_lt_of (k := 64) (by decide) (show i.natAbs < 2 ^ 64 by omega)
      omega
  have : (Builtin.Int.intBits i : Int) * j ≤ 64 * 1000 := Int.mul_le_mul (by omega) h h0 (by omega)
  omega⟩
theorem y_pow3 {i : Int} (h1 : -(2 ^ 200) < i) (h2 : i < 2 ^ 200) : opPow M (.int i) (.int 3) = some (.int (i ^ 3)) := if_pos ⟨by decide, by
  have hb : Builtin.Int.intBits i ≤ 200 := by
    unfold Builtin.Int.intBits
    split
    · omega
    · have e : ((2 ^ 200 : Nat) : Int) = 2 ^ 200 := by norm_cast
      have := PySem.Flt.log2_lt_of (k := 200) (by decide) (show i.natAbs < 2 ^ 200 by omega)
      omega
  omega⟩
theorem y_mod {i j : Int} (h : 0 < j) : opMod M (.int i) (.int j) = some (.int (i % j)) := if_pos h
@[simp] theorem y_lt {i j : Int} : opLt M (.int i) (.int j) = some (.bl (decide (i < j))) := rfl
@[simp] theorem y_le {i j : Int} : opLe M (.int i) (.int j) = some (.bl (decide (i ≤ j))) := rfl
@[simp] theorem y_gt {i j : Int} : opGt M (.int i) (.int j) = some (.bl (decide (j < i))) := rfl
@[simp] theorem y_ge {i j : Int} : opGe M (.int i) (.int j) = some (.bl (decide (j ≤ i))) := rfl
@[simp] theorem y_eqI {i j : Int} : opEq M (.int i) (.int j) = some (.bl (decide (i = j))) := rfl
@[simp] theorem y_neI {i j : Int} : opNe M (.int i) (.int j) = some (.bl (!decide (i = j))) := rfl
@[simp] theorem y_eqS {i j : Str} : opEq M (.str i) (.str j) = some (.bl (decide (i = j))) := rfl
@[simp] theorem y_neS {i j : Str} : opNe M (.str i) (.str j) = some (.bl (!decide (i = j))) := rfl
@[simp] theorem y_eqB {i j : Bool} : opEq M (.bl i) (.bl j) = some (.bl (decide (i = j))) := rfl
@[simp] theorem y_isN : opIsN M v .non = some (.bl (isNonA v)) := rfl
@[simp] theorem y_notN : opNotN M v .non = some (.bl (!isNonA v)) := rfl
@[simp] theorem y_int {i : Int} : gInt M [.int i] = some (.int i) := rfl
@[simp] theorem y_intB {b : Bool} : gInt M [.bl b] = some (.int (if b then 1 else 0)) := rfl
@[simp] theorem y_max {i j : Int} : gMax M [.int i, .int j] = some (.int (if j > i then j else i)) := rfl
@[simp] theorem y_min {i j : Int} : gMin M [.int i, .int j] = some (.int (if j < i then j else i)) := rfl
@[simp] theorem y_abs {i : Int} : gAbs M [.int i] = some (.int (if i < 0 then -i else i)) := rfl
@[simp] theorem y_isStr {x : Str} : isStrA M (.str x) = true := rfl
@[simp] theorem y_truB {b : Bool} : truO M (.bl b) = some b := rfl
@[simp] theorem y_truI {i : Int} : truO M (.int i) = some (i != 0) := rfl
@[simp] theorem y_lstL {l : List Va} : lstOf M (.lst l) = some l := rfl
@[simp] theorem y_lstC {n : Nat} : lstOf M (.cel n) = (match M.c n with | some (.lst l) => some l | _ => none) := rfl
@[simp] theorem y_lstS {l : List Int} : lstOf M (.scr l) = some (l.map Va.int) := rfl
@[simp] theorem y_ownL {l : List Va} : ownOf M (.lst l) = some l := rfl
@[simp] theorem y_ownC {n : Nat} : ownOf M (.cel n) = (match M.c n with | some (.lst l) => some l | _ => none) := rfl
@[simp] theorem y_seqL {l : List Va} : seqOf M (.lst l) = some l := rfl
@[simp] theorem y_seqT {l : List Va} : seqOf M (.tup l) = some l := rfl
@[simp] theorem y_seqC {n : Nat} : seqOf M (.cel n) = (match M.c n with | some (.lst l) => some l | _ => none) := rfl
@[simp] theorem y_seqS {l : List Int} : seqOf M (.scr l) = some (l.map Va.int) := rfl
@[simp] theorem y_lenL {l : List Va} : gLen M [.lst l] = some (.int l.length) := rfl
@[simp] theorem y_lenT {l : List Va} : gLen M [.tup l] = some (.int l.length) := rfl
theorem y_lenS {z : Str} (h : z.length ≤ 16777216) : gLen M [.str z] = some (.int z.length) := if_pos h
theorem y_strI {i : Int} (h : i.natAbs.log2 < 1920) : gStr M [.int i] = some (.str (toString i)) := if_pos h
@[simp] theorem y_strS {i : Str} : gStr M [.str i] = some (.str i) := rfl
@[simp] theorem y_ixL {l : List Va} {i : Int} : opIx M (.lst l) (.int i) = atI l i := rfl
@[simp] theorem y_ixT {l : List Va} {i : Int} : opIx M (.tup l) (.int i) = atI l i := rfl
@[simp] theorem y_ixC {n : Nat} {i : Int} : opIx M (.cel n) (.int i) = (match (match M.c n with | some (.lst l) => some l | _ => none) with | some l => atI l i | none => none) := rfl
@[simp] theorem at_0 {α : Type} {a : α} {l : List α} : atI (a :: l) 0 = some a := by
  have e : ixN (a :: l).length 0 = some 0 := by unfold ixN; simp
  unfold atI; rw [e]; rfl
@[simp] theorem at_1 {α : Type} {a b : α} {l : List α} : atI (a :: b :: l) 1 = some b := by
  have e : ixN (a :: b :: l).length 1 = some 1 := by unfold ixN; simp; omega
  unfold atI; rw [e]; rfl
@[simp] theorem at_2 {α : Type} {a b c : α} {l : List α} : atI (a :: b :: c :: l) 2 = some c := by
  have e : ixN (a :: b :: c :: l).length 2 = some 2 := by unfold ixN; simp; omega
  unfold atI; rw [e]; rfl
theorem at_nat {α : Type} {l : List α} {i : Int} (h0 : 0 ≤ i) (h : i < l.length) : ∃ x, atI l i = some x ∧ x ∈ l ∧ l[i.toNat]? = some x := by
  have e : ixN l.length i = some i.toNat := by unfold ixN; rw [if_pos h0, if_pos h]
  have hl : i.toNat < l.length := by omega
  refine ⟨l[i.toNat], ?_, List.getElem_mem hl, by simp [hl]⟩
  unfold atI
  rw [e]
  simp [hl]
end
end PV

set_option Elab.async false
set_option linter.all false
set_option maxRecDepth 100000
set_option maxHeartbeats 4000000
namespace PV
open PySem L2

/-! ### comprehensions and loops, by invariants -/
inductive Al2 {α β : Type} (P : α → β → Prop) : List α → List β → Prop
  | nil : Al2 P [] []
  | cons {a : α} {b : β} {l : List α} {m : List β} : P a b → Al2 P l m → Al2 P (a :: l) (b :: m)
theorem Al2.len {α β : Type} {P : α → β → Prop} : ∀ {l : List α} {m : List β}, Al2 P l m → l.length = m.length
  | _, _, .nil => rfl
  | _, _, .cons _ t => by simp [t.len]
theorem Al2.all {α β : Type} {P : α → β → Prop} {Q : β → Prop} (h : ∀ a b, P a b → Q b) : ∀ {l : List α} {m : List β}, Al2 P l m → ∀ b ∈ m, Q b
  | _, _, .nil, _, hb => by cases hb
  | _, _, .cons p t, b, hb => by
    rcases List.mem_cons.mp hb with e | hb
    · subst e; exact h _ _ p
    · exact t.all h b hb
theorem compL_map {chk : Store → Prop} {tg : Tgt} {tt te : SE} {sw : SL} {M : Store} {α : Type} (enc f : α → Va) (hc : chk M) : ∀ (l : List α), (∀ x ∈ l, ∃ s1, tg (enc x) sw M = some s1 ∧ tt s1 M = some (.val (.bl true), M) ∧ te s1 M = some (.val (f x), M)) →
    compL chk tg tt te sw (l.map enc) M = some (l.map f, M)
  | [], _ => by
    show compL chk tg tt te sw [] M = _
    unfold compL
    rw [if_pos hc]; rfl
  | x :: l, h => by
    obtain ⟨s1, h1, h2, h3⟩ := h x (by simp)
    have ih := compL_map (tg := tg) (tt := tt) (te := te) (sw := sw) enc f hc l fun y hy => h y (by simp [hy])
    show compL chk tg tt te sw (enc x :: l.map enc) M = _
    unfold compL
    rw [if_pos hc, h1]
    dsimp only
    rw [h2]
    dsimp only
    rw [h3]
    dsimp only
    rw [ih]; rfl
theorem compL_filter {chk : Store → Prop} {tg : Tgt} {tt te : SE} {sw : SL} {M : Store} {α : Type} (enc f : α → Va) (p : α → Bool) (hc : chk M) : ∀ (l : List α), (∀ x ∈ l, ∃ s1, tg (enc x) sw M = some s1 ∧ tt s1 M = some (.val (.bl (p x)), M) ∧ (p x = true → te s1 M = some (.val (f x), M))) →
    compL chk tg tt te sw (l.map enc) M = some ((l.filter p).map f, M)
  | [], _ => by
    show compL chk tg tt te sw [] M = _
    unfold compL
    rw [if_pos hc]; rfl
  | x :: l, h => by
    obtain ⟨s1, h1, h2, h3⟩ := h x (by simp)
    have ih := compL_filter (tg := tg) (tt := tt) (te := te) (sw := sw) enc f p hc l fun y hy => h y (by simp [hy])
    show compL chk tg tt te sw (enc x :: l.map enc) M = _
    unfold compL
    rw [if_pos hc, h1]
    dsimp only
    rw [h2]
    cases q : p x with
    | true =>
      dsimp only
      rw [h3 q]
      dsimp only
      rw [ih, List.filter_cons_of_pos q]; rfl
    | false =>
      dsimp only
      rw [ih, List.filter_cons_of_neg (by simp [q])]
theorem compL_inv {chk : Store → Prop} {tg : Tgt} {tt te : SE} {sw : SL} (Inv : Nat → Store → Prop) (Good : Va → Va → Prop) (n : Nat) : ∀ (l : List Va) (i : Nat) (M : Store), i + l.length = n → Inv i M → (∀ i M, Inv i M → chk M) →
    (∀ i x M, i < n → x ∈ l → Inv i M → ∃ s1, tg x sw M = some s1 ∧ tt s1 M = some (.val (.bl true), M) ∧ ∃ y M', te s1 M = some (.val y, M') ∧ Good x y ∧ Inv (i + 1) M') →
    ∃ ys M', compL chk tg tt te sw l M = some (ys, M') ∧ Al2 Good l ys ∧ Inv n M'
  | [], i, M, hn, h, hc, _ => by
    refine ⟨[], M, ?_, .nil, by rw [← hn]; exact h⟩
    unfold compL
    rw [if_pos (hc i M h)]
  | x :: l, i, M, hn, h, hc, hs => by
    rw [List.length_cons] at hn
    obtain ⟨s1, h1, h2, y, M1, h3, gd, h4⟩ := hs i x M (by omega) (by simp) h
    obtain ⟨ys, M2, e, a, hi⟩ := compL_inv (tg := tg) (tt := tt) (te := te) (sw := sw) Inv Good n l (i + 1) M1 (by omega) h4 hc fun j z N hj hz => hs j z N hj (by simp [hz])
    refine ⟨y :: ys, M2, ?_, .cons gd a, hi⟩
    unfold compL
    rw [if_pos (hc i M h), h1]
    dsimp only
    rw [h2]
    dsimp only
    rw [h3]
    dsimp only
    rw [e]
theorem loopF_inv {chk : Store → Prop} {tg : Tgt} {body : SS} (Inv : List Va → SL → Store → Prop) (Post : RS → Prop)
    (step : ∀ x xs s M, Inv (x :: xs) s M → chk M ∧ ∃ s1, tg x s M = some s1 ∧ match body s1 M with
      | some (.nx, s2, M2) => Inv xs s2 M2
      | some (.ct, s2, M2) => Inv xs s2 M2
      | some (.bk, s2, M2) => Post (some (.nx, s2, M2))
      | r => Post r)
    (done : ∀ s M, Inv [] s M → chk M ∧ Post (some (.nx, s, M))) : ∀ (l : List Va) (s : SL) (M : Store), Inv l s M → Post (loopF chk tg body l s M)
  | [], s, M, h => by
    obtain ⟨h1, h2⟩ := done s M h
    unfold loopF
    rw [if_pos h1]
    exact h2
  | x :: l, s, M, h => by
    obtain ⟨h1, s1, h2, h3⟩ := step x l s M h
    unfold loopF
    rw [if_pos h1, h2]
    dsimp only
    rcases q : body s1 M with _ | ⟨_ | v | _ | _ | ⟨c, v⟩, s2, M2⟩ <;> rw [q] at h3
    · exact h3
    · exact loopF_inv Inv Post step done l s2 M2 h3
    · exact h3
    · exact h3
    · exact loopF_inv Inv Post step done l s2 M2 h3
    · exact h3

/-! ### what is walked -/
section
variable {s : SL} {M : Store}
@[simp] theorem z_for {src tg body} : sFor src tg body s M = (match src s M with
  | none => none
  | some (.it l chk, M1) => loopF chk tg body l s M1
  | some (.exc c v, M1) => some (.exc c v, s, M1)) := rfl
@[simp] theorem z_lc {src tg tt te vs} : evLc src tg tt te vs s M = (match src s M with
  | none => none
  | some (.it l chk, M1) => (match compL chk tg tt te (wipeI s vs) l M1 with
    | some (ys, M2) => some (.val (.lst ys), M2)
    | none => none)
  | some (.exc c v, M1) => some (.exc c v, M1)) := rfl
@[simp] theorem z_lcC {src tg tt te vs} : evLcC src tg tt te vs s M = (match src s M with
  | none => none
  | some (.it l chk, M1) => (match compL chk tg tt te (wipeI s vs) l M1 with
    | some (ys, M2) => some (.val (.cel M2.nx), M2.new (.lst ys))
    | none => none)
  | some (.exc c v, M1) => some (.exc c v, M1)) := rfl
theorem z_itL {e : SE} {l : List Va} {M1 : Store} (h : e s M = some (.val (.lst l), M1)) : itA e s M = some (.it l (fun _ => some l = some l), M1) := by
  unfold itA itL
  rw [h]; rfl
theorem z_itC {e : SE} {l : List Va} {n : Nat} {M1 : Store} (h : e s M = some (.val (.cel n), M1)) (h2 : M1.c n = some (.lst l)) : itA e s M = some (.it l (fun M => lstOf M (.cel n) = some l), M1) := by
  unfold itA itL
  rw [h]
  dsimp only
  rw [y_lstC, h2]
theorem z_itT {e : SE} {l : List Va} {M1 : Store} (h : e s M = some (.val (.tup l), M1)) : itA e s M = some (.it l (fun _ => True), M1) := by
  unfold itA itT
  rw [h]; rfl
theorem z_itS {e : SE} {z : Str} {M1 : Store} (h : e s M = some (.val (.str z), M1)) (hz : z.length ≤ 16777216) : itA e s M = some (.it (z.cps.toList.map fun c => Va.str ⟨#[c]⟩) (fun _ => True), M1) := by
  unfold itA itS
  rw [h]
  exact if_pos hz
theorem z_r1 {e : SE} {n : Int} {M1 : Store} (h : e s M = some (.val (.tup [.int n]), M1)) (h1 : n ≤ 100000) (h2 : -(2 ^ 62) ≤ n) : itR1 e s M = some (.it ((List.range n.toNat).map fun (i : Nat) => Va.int i) (fun _ => True), M1) := by
  unfold itR1
  rw [h]
  dsimp only
  rw [if_pos ⟨h1, h2⟩]
def rngO (r : Res) : Option (OutI × Store) := match r with
  | some (.val (.tup [.int n]), M1) => if n ≤ 100000 ∧ -(2 ^ 62) ≤ n then some (.it ((List.range n.toNat).map fun (i : Nat) => Va.int i) (fun _ => True), M1) else none
  | some (.exc c v, M1) => some (.exc c v, M1)
  | _ => none
@[simp] theorem z_itR1 {e : SE} : itR1 e s M = rngO (e s M) := rfl
theorem z_rng {n : Int} (h1 : n ≤ 100000) (h2 : -(2 ^ 62) ≤ n) : rngO (some (.val (.tup [.int n]), M)) = some (.it ((List.range n.toNat).map fun (i : Nat) => Va.int i) (fun _ => True), M) := if_pos ⟨h1, h2⟩
def anyO (r : Res) : Option (OutI × Store) := match r with
  | some (.val (.str z), M1) => if z.length ≤ sizeLine then some (.it (z.cps.toList.map fun c => Va.str ⟨#[c]⟩) (fun _ => True), M1) else none
  | some (.val (.tup l), M1) => some (.it l (fun _ => True), M1)
  | some (.val (.lst l), M1) => some (.it l (fun _ => True), M1)
  | some (.val (.scr l), M1) => some (.it (l.map Va.int) (fun _ => True), M1)
  | some (.val (.cel n), M1) => (match M1.c n with
    | some (.lst l) => some (.it l (fun M => lstOf M (.cel n) = some l), M1)
    | _ => none)
  | some (.exc c v, M1) => some (.exc c v, M1)
  | _ => none
@[simp] theorem z_itA {e : SE} : itA e s M = anyO (e s M) := by
  unfold itA itS itT itL
  rcases q : e s M with _ | ⟨x | ⟨c, x⟩, M1⟩
  · rfl
  · cases x <;> simp [anyO, tupOf, lstOf]
    rename_i n
    rcases M1.c n with _ | _ | _ | _ <;> rfl
  · rfl
@[simp] theorem z_anyL {l : List Va} : anyO (some (.val (.lst l), M)) = some (.it l (fun _ => True), M) := rfl
@[simp] theorem z_anyT {l : List Va} : anyO (some (.val (.tup l), M)) = some (.it l (fun _ => True), M) := rfl
@[simp] theorem z_anyI {l : List Int} : anyO (some (.val (.scr l), M)) = some (.it (l.map Va.int) (fun _ => True), M) := rfl
@[simp] theorem z_anyC {n : Nat} : anyO (some (.val (.cel n), M)) = (match M.c n with
    | some (.lst l) => some (.it l (fun M => lstOf M (.cel n) = some l), M)
    | _ => none) := rfl
theorem z_anyS {z : Str} (h : z.length ≤ 16777216) : anyO (some (.val (.str z), M)) = some (.it (z.cps.toList.map fun c => Va.str ⟨#[c]⟩) (fun _ => True), M) := if_pos h
@[simp] theorem z_wipe0 : wipeI s [] = s := rfl
@[simp] theorem z_wipeS {v : Nat} {vs : List Nat} : wipeI s (v :: vs) = (wipeI s vs).set v none := rfl
end

/-! ### texts as lists of signs -/
abbrev tl (x : Str) : List Nat := x.cps.toList
theorem tl_len (x : Str) : x.length = (tl x).length := by simp [tl, Str.length]
theorem tl_ext {x y : Str} (h : tl x = tl y) : x = y := TL.ext_tl h
theorem len_app (x y : Str) : (x ++ y).length = x.length + y.length := by
  rw [tl_len, tl_len, tl_len, show tl (x ++ y) = tl x ++ tl y from TL.tl_append x y, List.length_append]

/-! ### repr -/
theorem repr_of {M : Store} {x : Va} {d : PyData} (h : PdR M x d) (h1 : d.showable = true) (h3 : d.shown.length ≤ 16777216) (h4 : d.depth ≤ 60) : kRepr [x] M = some (.val (.str d.shown), M) := by
  unfold kRepr
  dsimp only
  rw [pdOf_eq h]
  dsimp only
  rw [if_pos ⟨h1, h3, h4⟩]
theorem shown_ok {d : PyData} {B W : Nat} (hB : 8 ≤ B) (hl : d.leavesShort B = true) (hw : d.weight ≤ W) (h : (B + 2) * W + B ≤ 16777216) : d.shown.length ≤ 16777216 := by
  have h1 := PyData.shown_le B hB d hl
  have h2 : (B + 2) * d.weight ≤ (B + 2) * W := Nat.mul_le_mul_left _ hw
  omega
end PV

set_option Elab.async false
set_option linter.all false
set_option maxRecDepth 100000
set_option maxHeartbeats 4000000
namespace PV
open PySem L2

/-! ### texts: numbers, pieces -/
def nmS (n : Int) : Str := Str.ofString (toString n)
theorem y_strN {M : Store} {i : Int} (h : i.natAbs.log2 < 1920) : gStr M [.int i] = some (.str (nmS i)) := if_pos h
theorem nm_tl (n : Int) : tl (nmS n) = if n < 0 then 45 :: TL.numL n.natAbs else TL.numL n.natAbs := by
  cases n with
  | ofNat m =>
    rw [if_neg (show ¬ Int.ofNat m < 0 from Int.not_lt.mpr (Int.natCast_nonneg m))]
    exact TL.tl_num m
  | negSucc m =>
    rw [if_pos (Int.negSucc_lt_zero m)]
    have e : toString (Int.negSucc m) = "-" ++ toString (m + 1) := rfl
    have e2 : toString (m + 1) = toString (((m + 1 : Nat) : Int)) := rfl
    show TL.tl (Str.ofString (toString (Int.negSucc m))) = _
    rw [e, TL.tl_ofString, String.toList_append, List.map_append, ← TL.tl_ofString (toString (m + 1)), e2, TL.tl_num]
    rfl
theorem nm_digits {n : Int} {c : Nat} (h : c ∈ tl (nmS n)) : c = 45 ∨ (48 ≤ c ∧ c ≤ 57) := by
  rw [nm_tl] at h
  split at h
  · rcases List.mem_cons.mp h with h | h
    · exact .inl h
    · exact .inr (TL.numL_digits _ c h)
  · exact .inr (TL.numL_digits _ c h)
theorem numL_head : ∀ (n : Nat), (TL.numL n).head? = some 48 → n = 0 := by
  intro n
  induction n using Nat.strongRecOn with
  | _ n ih =>
    intro h
    by_cases hn : n < 10
    · rw [TL.numL_lt hn] at h
      simp at h
      omega
    · have q := TL.numL_ne (n / 10)
      rw [TL.numL_step (by omega)] at h
      have : (TL.numL (n / 10)).head? = some 48 := by
        generalize TL.numL (n / 10) = l at h q
        cases l with
        | nil => exact absurd rfl q
        | cons a l => exact h
      have := ih (n / 10) (by omega) this
      omega
theorem nm_len {n : Int} {k : Nat} (hk : 0 < k) (h : n.natAbs < 10 ^ k) : (tl (nmS n)).length ≤ k + 1 := by
  have := TL.numL_len hk h
  rw [nm_tl]
  split
  · rw [List.length_cons]; omega
  · omega
theorem nm_val {n : Int} (h : n.natAbs < 10 ^ 600) : intText? (nmS n) = some n := by
  have hl := TL.numL_len (by decide) h
  by_cases hn : n < 0
  · have e : (nmS n).cps.toList = 45 :: TL.numL n.natAbs := by
      have := nm_tl n
      rw [if_pos hn] at this
      exact this
    rw [intText_neg e (TL.numL_digits _) (TL.numL_ne _) (by rw [tl_len, nm_tl, if_pos hn, List.length_cons]; omega), TL.numL_val]
    congr 1
    omega
  · have e : (nmS n).cps.toList = TL.numL n.natAbs := by
      have := nm_tl n
      rw [if_neg hn] at this
      exact this
    rw [intText_digits (by rw [e]; exact TL.numL_digits _) (by rw [e]; exact TL.numL_ne _) (by rw [tl_len, nm_tl, if_neg hn]; omega), e, TL.numL_val]
    congr 1
    omega
theorem starts_pre {x y : Str} (hy : TL.tl y ≠ []) : Txt.startswith x y = TL.pre (TL.tl y) (TL.tl x) := by
  have h := TL.at_iff (x := x) (y := y) hy 0
  rw [List.drop_zero] at h
  have e : Txt.startswith x y = true ↔ TL.pre (TL.tl y) (TL.tl x) = true := by
    rw [← h]
    unfold Txt.startswith
    rw [Bool.and_eq_true, decide_eq_true_eq]
    exact Iff.rfl
  cases a : Txt.startswith x y <;> cases b : TL.pre (TL.tl y) (TL.tl x) <;> simp_all
theorem cut_from {z : Str} (k : Nat) : tl (cutS z (some (k : Int)) none) = (tl z).drop k := by
  show (((tl z).drop (HT.sIx z.length 0 (some (k : Int)))).take (HT.sIx z.length z.length none - HT.sIx z.length 0 (some (k : Int)))) = _
  rw [HT.sIx_nat, HT.sIx_none]
  have e : z.length = (tl z).length := tl_len z
  rw [e]
  generalize tl z = l
  clear e
  by_cases h : k ≤ l.length
  · rw [Nat.min_eq_left h, List.take_of_length_le]
    rw [List.length_drop]; omega
  · rw [Nat.min_eq_right (by omega), Nat.sub_self, List.take_zero, List.drop_eq_nil_of_le (by omega)]
theorem cut_le (z : Str) (lo hi : Option Int) : (cutS z lo hi).length ≤ z.length := cutS_length z lo hi
theorem join_len (sep : Str) (parts : List Str) : (tl (Txt.join sep parts)) = TL.joinL (tl sep) (parts.map TL.tl) := by
  show TL.tl _ = _
  rw [TL.join_eq, TL.tl_join]
theorem split_ok {parts : List Str} {sep : Str} {s : Nat} {S : List Nat} (e : tl sep = s :: S) (hk : (tl sep).all (fun c => decide (c < 256)) = true) (hne : parts ≠ []) (hp : ∀ p ∈ parts, s ∉ tl p) : Txt.split (Txt.join sep parts) sep = parts := TL.split_join e (by rw [← Array.all_toList]; exact hk) hne hp
@[simp] theorem isN_non : isNonA .non = true := rfl
@[simp] theorem isN_bl {b : Bool} : isNonA (.bl b) = false := rfl
@[simp] theorem isN_int {b : Int} : isNonA (.int b) = false := rfl
@[simp] theorem isN_str {b : Str} : isNonA (.str b) = false := rfl
@[simp] theorem isN_lst {b : List Va} : isNonA (.lst b) = false := rfl
@[simp] theorem isN_tup {b : List Va} : isNonA (.tup b) = false := rfl
@[simp] theorem isN_cel {b : Nat} : isNonA (.cel b) = false := rfl
/-- a joined text, its parts glued behind one another with the separator ahead -/
theorem join_glue (S : List Nat) : ∀ (rows : List (List Nat)), TL.joinL S rows = ((rows.map fun r => S ++ r).flatten).drop S.length
  | [] => by simp [TL.joinL]
  | [r] => by simp [TL.joinL]
  | r :: q :: t => by
    have ih := join_glue S (q :: t)
    show r ++ (S ++ TL.joinL S (q :: t)) = _
    rw [ih]
    simp only [List.map_cons, List.flatten_cons, List.append_assoc, List.drop_left]
theorem joinL_len (S : List Nat) : ∀ (rows : List (List Nat)) (B : Nat), (∀ r ∈ rows, r.length ≤ B) → (TL.joinL S rows).length ≤ rows.length * (B + S.length)
  | [], _, _ => by simp [TL.joinL]
  | [r], B, h => by
    have := h r (by simp)
    simp [TL.joinL]; omega
  | r :: q :: t, B, h => by
    have ih := joinL_len S (q :: t) B fun x hx => h x (by simp [hx])
    have := h r (by simp)
    show (r ++ (S ++ TL.joinL S (q :: t))).length ≤ _
    rw [List.length_append, List.length_append, List.length_cons, Nat.succ_mul]
    omega
theorem sum_len {α : Type} (f : α → Nat) (B : Nat) : ∀ (l : List α), (∀ x ∈ l, f x ≤ B) → (l.map f).sum ≤ l.length * B
  | [], _ => by simp
  | x :: l, h => by
    have ih := sum_len f B l fun y hy => h y (by simp [hy])
    have := h x (by simp)
    rw [List.map_cons, List.sum_cons, List.length_cons, Nat.succ_mul]
    omega
end PV

set_option Elab.async false
set_option linter.all false
set_option maxRecDepth 100000
set_option maxHeartbeats 4000000
namespace PV
open PySem L2
open PyProof.Rows

/-! ### dicts by value -/
section
variable {α : Type}
def vaK (kvs : List (Key × α)) (k : Key) : Option α := (kvs.find? fun kv => decide (kv.1 = k)).map (·.2)
def puK (kvs : List (Key × α)) (k : Key) (v : α) : List (Key × α) :=
  if (kvs.any fun kv => decide (kv.1 = k)) = true then kvs.map (fun kv => if kv.1 = k then (kv.1, v) else kv) else kvs ++ [(k, v)]
def meK (kvs more : List (Key × α)) : List (Key × α) := more.foldl (fun acc kv => puK acc kv.1 kv.2) kvs
end
def keyA : Va → Option Key
  | .int i => some (.inl i)
  | .str x => some (.inr x)
  | _ => none
def keyVa : Key → Va
  | .inl i => .int i
  | .inr x => .str x
section
variable {G : Sig} {R : Hp} {ρ : List Addr}
theorem VR.key {x : Va} {v : V} {k : Key} (r : VR G R ρ x v) (h : keyA x = some k) : v = kV k := by
  cases r <;> cases h <;> rfl
theorem VR.ofKey (k : Key) : VR G R ρ (keyVa k) (kV k) := by
  cases k
  · exact .int _
  · exact .str _
theorem VRk.val {l : List (Key × Va)} {vs : List (Key × V)} (r : VRk G R ρ l vs) (k : Key) : match vaK l k, valV vs k with
    | some x, some v => VR G R ρ x v
    | none, none => True
    | _, _ => False := by
  unfold vaK valV
  induction l generalizing vs with
  | nil => cases r; exact trivial
  | cons p l ih =>
    cases r with
    | @cons k' x v _ us h t =>
      have ih := ih t
      rw [List.find?_cons, List.find?_cons]
      by_cases e : k' = k
      · simp only [e, decide_true]; exact h
      · simp only [e, decide_false]; exact ih
theorem VRk.some {l : List (Key × Va)} {vs : List (Key × V)} (r : VRk G R ρ l vs) {k : Key} {x : Va} (h : vaK l k = some x) : ∃ v, valV vs k = some v ∧ VR G R ρ x v := by
  have := r.val k
  rw [h] at this
  cases q : valV vs k with
  | none => rw [q] at this; exact this.elim
  | some v => rw [q] at this; exact ⟨v, rfl, this⟩
theorem VRk.isSome {l : List (Key × Va)} {vs : List (Key × V)} (r : VRk G R ρ l vs) (k : Key) : (valV vs k).isSome = (vaK l k).isSome := by
  have := r.val k
  cases q : valV vs k <;> cases q2 : vaK l k <;> rw [q, q2] at this <;> first | rfl | exact this.elim
theorem VRk.getD {l : List (Key × Va)} {vs : List (Key × V)} (r : VRk G R ρ l vs) (k : Key) {d : Va} {v : V} (h : VR G R ρ d v) : VR G R ρ ((vaK l k).getD d) ((valV vs k).getD v) := by
  have := r.val k
  cases q : valV vs k <;> cases q2 : vaK l k <;> rw [q, q2] at this <;> first | exact h | exact this | exact this.elim
theorem VRk.any {l : List (Key × Va)} {vs : List (Key × V)} (r : VRk G R ρ l vs) (k : Key) : (vs.any fun kv => decide (kv.1 = k)) = (l.any fun kv => decide (kv.1 = k)) := by
  induction l generalizing vs with
  | nil => cases r; rfl
  | cons p l ih =>
    cases r with
    | cons h t => rw [List.any_cons, List.any_cons, ih t]
theorem VRk.app {l m : List (Key × Va)} {vs us : List (Key × V)} (r : VRk G R ρ l vs) (q : VRk G R ρ m us) : VRk G R ρ (l ++ m) (vs ++ us) := by
  induction l generalizing vs with
  | nil => cases r; exact q
  | cons p l ih =>
    cases r with
    | cons h t => exact .cons h (ih t)
theorem VRk.mapPut (k : Key) {x : Va} {v : V} (h : VR G R ρ x v) : ∀ {l : List (Key × Va)} {vs : List (Key × V)}, VRk G R ρ l vs → VRk G R ρ (l.map fun kv => if kv.1 = k then (kv.1, x) else kv) (vs.map fun kv => if kv.1 = k then (kv.1, v) else kv)
  | _, _, .nil => .nil
  | _, _, .cons (k := k') h' t => by
    rw [List.map_cons, List.map_cons]
    by_cases e : k' = k
    · subst e
      rw [if_pos rfl, if_pos rfl]
      exact .cons h (VRk.mapPut _ h t)
    · rw [if_neg e, if_neg e]
      exact .cons h' (VRk.mapPut _ h t)
theorem VRk.put {l : List (Key × Va)} {vs : List (Key × V)} (r : VRk G R ρ l vs) (k : Key) {x : Va} {v : V} (h : VR G R ρ x v) : VRk G R ρ (puK l k x) (putK vs k v) := by
  unfold puK putK
  rw [r.any k]
  split
  · exact r.mapPut k h
  · exact r.app (.cons h .nil)
theorem VRk.merge {m : List (Key × Va)} {us : List (Key × V)} (q : VRk G R ρ m us) : ∀ {l : List (Key × Va)} {vs : List (Key × V)}, VRk G R ρ l vs → VRk G R ρ (meK l m) (mergeK vs us) := by
  induction m generalizing us with
  | nil => intro l vs r; cases q; exact r
  | cons p m ih =>
    intro l vs r
    cases q with
    | cons h t => exact ih t (r.put _ h)
theorem VRk.keys {l : List (Key × Va)} {vs : List (Key × V)} (r : VRk G R ρ l vs) : vs.map (·.1) = l.map (·.1) := by
  induction l generalizing vs with
  | nil => cases r; rfl
  | cons p l ih =>
    cases r with
    | cons h t => rw [List.map_cons, List.map_cons, ih t]
theorem puK_len {α : Type} (l : List (Key × α)) (k : Key) (x : α) : (puK l k x).length ≤ l.length + 1 := by
  unfold puK
  split
  · rw [List.length_map]; omega
  · rw [List.length_append]; simp
theorem meK_len {α : Type} : ∀ (m l : List (Key × α)), (meK l m).length ≤ l.length + m.length
  | [], l => by simp [meK]
  | p :: m, l => by
    have h := meK_len m (puK l p.1 p.2)
    have h2 := puK_len l p.1 p.2
    show (meK (puK l p.1 p.2) m).length ≤ _
    rw [List.length_cons]; omega
end

/-! ### {} -/
def evDNew : SE := fun _ M => some (.val (.cel M.nx), M.new (.dic []))
section
variable {X : Cx} {G : Sig} {E : XK} {a b c o : Expr} {es : List Expr} {ea eb ec eo : SE} {pos : Pos}
theorem q_dnew : PE X (.Dict [] [] pos) (tE G E evDNew) := pe_imp pe_dnewK fun σ H Q ⟨R, ρ, s, M, w, sr, p⟩ q hq => by
  obtain ⟨e, w', h⟩ := alloc_cel (o := .dK []) (x := .dic []) w hq ⟨[], upd_same, Nat.zero_le _, .nil⟩
  exact p _ _ _ _ e w' (.cel h)
end

/-! ### d[k], k in d -/
def rDGetA : R2 := fun x y H Q => ∃ a v, x = .ref a ∧ DGet H a y (some v) ∧ Q v H
def rDInA : R2 := fun y x H Q => ∃ a o, x = .ref a ∧ DGet H a y o ∧ Q (.bl o.isSome) H
def rDNotInA : R2 := fun y x H Q => ∃ a o, x = .ref a ∧ DGet H a y o ∧ Q (.bl (!o.isSome)) H
section
variable {X : Cx} {G : Sig} {k : Nat}
theorem ix_dict (hr : Room k X.A) : IxR X rDGetA := by
  intro value slice pins s σ H x y v u Q I rx ry ⟨a, z, ex, g, q⟩ hs
  subst ex
  obtain rfl : v = Value.ref a := rx
  have hT := dict_typeIs I g
  unfold subscriptTail
  refine wpAny_bind ?_
  rw [getitemInPython_of_ne hT.not_modules]
  refine wpAny_bind (wpAny_specialOf hT PySem.F.slot_dict_getitem.lookup ?_)
  have h2 : wpAny (model X.prog X.w) X.A (getItem (.ref a) u) (EP X pins σ Q) X.xe s := d_getItem (hu_of hr) I g ry fun w' s' I' rw' => ⟨z, H, I', rw', q⟩
  have fin : wpAny (model X.prog X.w) X.A (subscripted slice false (.ref a) u) (fun r s₃ => wpAny (model X.prog X.w) X.A (letTemporaryGo value (.ref a) r >>= fun _ => pure r) (EP X pins σ Q) X.xe s₃) X.xe s := by
    rw [hs]
    exact wpAny_operating (wpAny_mono h2 (fun r s₃ h₃ => wpAny_bind (wpAny_letTemporaryGo (wpAny_pure h₃))) fun _ _ x => x)
  first
    | exact wpAny_pure (wpAny_bind fin)
    | exact wpAny_bind (wpAny_pure (wpAny_bind fin))
    | exact wpAny_bind fin
theorem op_din (hr : Room k X.A) : OpR X (compareOp .In) rDInA := by
  intro pins s σ H x y v u Q I rx ry ⟨a, o, ey, g, q⟩
  subst ey
  obtain rfl : u = Value.ref a := ry
  exact d_in (hu_of hr) I g rx fun s' I' => ⟨.bl o.isSome, H, I', rfl, q⟩
theorem op_dnotin (hr : Room k X.A) : OpR X (compareOp .NotIn) rDNotInA := by
  intro pins s σ H x y v u Q I rx ry ⟨a, o, ey, g, q⟩
  subst ey
  obtain rfl : u = Value.ref a := ry
  exact d_notIn (hu_of hr) I g rx fun s' I' => ⟨.bl (!o.isSome), H, I', rfl, q⟩
theorem OpR.or {f : Value → Value → Sem Value} {r r' : R2} (h : OpR X f r) (h' : OpR X f r') : OpR X f (fun x y H Q => r x y H Q ∨ r' x y H Q) := by
  intro pins s σ H x y v u Q I rx ry q
  rcases q with q | q
  · exact h pins s σ H x y v u Q I rx ry q
  · exact h' pins s σ H x y v u Q I rx ry q
theorem CallR.or {f : Value} {r r' : List V → Hp → VK → Prop} (h : CallR X f r) (h' : CallR X f r') : CallR X f (fun xs H Q => r xs H Q ∨ r' xs H Q) := by
  intro pins s σ H xs us Q I rs q
  rcases q with q | q
  · exact h pins s σ H xs us Q I rs q
  · exact h' pins s σ H xs us Q I rs q
theorem PSet.or {t t' : TSet} (h : PSet X t) (h' : PSet X t') : PSet X (fun o i v H Q => t o i v H Q ∨ t' o i v H Q) := by
  intro pins s σ H o i v ov iv u Q I ro ri rv q
  rcases q with q | q
  · exact h pins s σ H o i v ov iv u Q I ro ri rv q
  · exact h' pins s σ H o i v ov iv u Q I ro ri rv q
def rSetD : TSet := fun o i v H Q => ∃ a H1, o = .ref a ∧ DPut H a i v H1 ∧ Q H1
theorem set_dict (hr : Room k X.A) : PSet X rSetD := by
  intro pins s σ H o i v ov iv u Q I ro ri rv ⟨a, H1, eo, g, q⟩
  subst eo
  obtain rfl : ov = Value.ref a := ro
  exact d_setItem (hu_of hr) I g ri rv fun s' I' => ⟨H1, I', q⟩
def opDGet (M : Store) (a b : Va) : Option Va := match dicOf M a, keyA b with
  | some l, some k => vaK l k
  | _, _ => none
/-- of a list, tuple, text or dict -/
def opIxD (M : Store) (a b : Va) : Option Va := match dicOf M a with
  | some _ => opDGet M a b
  | none => opIx M a b
theorem dget_of {R : Hp} {ρ : List Addr} {M : Store} {H : Hp} {va vb : Va} {x y : V} {l : List (Key × Va)} {key : Key} (w : Wd G R ρ M H) (ra : VR G R ρ va x) (rb : VR G R ρ vb y) (h : dicOf M va = some l) (hk : keyA vb = some key) :
    ∃ a vs, x = .ref a ∧ H a = some (.dK vs) ∧ VRk G R ρ l vs ∧ y = kV key ∧ DGet H a y (valV vs key) := by
  obtain ⟨a, vs, ex, ha, rk, _⟩ := dic_read w ra h
  have ey := rb.key hk
  exact ⟨a, vs, ex, ha, rk, ey, ey ▸ DGet.k ha⟩
theorem s_dget : Op2 G rDGetA opDGet := by
  intro R ρ M H x y va vb res Q w ra rb h g
  unfold opDGet at h
  split at h
  · rename_i l key h1 h2
    obtain ⟨a, vs, ex, ha, rk, ey, dg⟩ := dget_of w ra rb h1 h2
    obtain ⟨v, hv, rv⟩ := rk.some h
    exact ⟨a, v, ex, hv ▸ dg, gives_now w rv g⟩
  · cases h
theorem s_ixD (hK : X.K = G.K) : Op2 G (fun x y H Q => rIx X.K x y H Q ∨ rDGetA x y H Q) opIxD := by
  intro R ρ M H x y va vb res Q w ra rb h g
  unfold opIxD at h
  split at h
  · exact .inr (s_dget R ρ M H x y va vb res Q w ra rb h g)
  · exact .inl (s_ix hK R ρ M H x y va vb res Q w ra rb h g)
noncomputable def opInX (M : Store) (a b : Va) : Option Va := match dicOf M b with
  | some l => (keyA a).map fun k => .bl (vaK l k).isSome
  | none => opInD M a b
noncomputable def opNotInX (M : Store) (a b : Va) : Option Va := match dicOf M b with
  | some l => (keyA a).map fun k => .bl (!(vaK l k).isSome)
  | none => opNotInD M a b
theorem s_inX {r : R2} (hs : Op2 G r opInD) : Op2 G (fun x y H Q => r x y H Q ∨ rDInA x y H Q) opInX := by
  intro R ρ M H x y va vb res Q w ra rb h g
  unfold opInX at h
  split at h
  · rename_i l h1
    cases h2 : keyA va with
    | none => rw [h2] at h; cases h
    | some key =>
      rw [h2] at h; cases h
      obtain ⟨a, vs, ex, ha, rk, ey, dg⟩ := dget_of w rb ra h1 h2
      refine .inr ⟨a, _, ex, dg, ?_⟩
      rw [rk.isSome key]
      exact gives_now w (.bl _) g
  · exact .inl (hs R ρ M H x y va vb res Q w ra rb h g)
theorem s_notInX {r : R2} (hs : Op2 G r opNotInD) : Op2 G (fun x y H Q => r x y H Q ∨ rDNotInA x y H Q) opNotInX := by
  intro R ρ M H x y va vb res Q w ra rb h g
  unfold opNotInX at h
  split at h
  · rename_i l h1
    cases h2 : keyA va with
    | none => rw [h2] at h; cases h
    | some key =>
      rw [h2] at h; cases h
      obtain ⟨a, vs, ex, ha, rk, ey, dg⟩ := dget_of w rb ra h1 h2
      refine .inr ⟨a, _, ex, dg, ?_⟩
      rw [rk.isSome key]
      exact gives_now w (.bl _) g
  · exact .inl (hs R ρ M H x y va vb res Q w ra rb h g)

/-! ### d[k] = v -/
def cSetK (o i v : Va) (M : Store) : Option Store := match o with
  | .cel n => (match M.c n, keyA i with
    | some (.dic l), some k => if l.length < sizeLine then some (M.put n (.dic (puK l k v))) else none
    | _, _ => none)
  | _ => none
def cSetX (o i v : Va) (M : Store) : Option Store := match dicOf M o with
  | some _ => cSetK o i v M
  | none => cSetAt o i v M
theorem s_setK : SubSim G rSetD cSetK := fun R ρ M M' H o i x vo vi v kk w ro ri rv h q => by
  unfold cSetK at h
  split at h
  · rename_i n
    split at h
    · rename_i l key hc hk
      split at h
      · rename_i hz
        cases h
        cases ro with
        | cel e =>
          obtain ⟨a, e1, ra, vs, ha, z, r0⟩ := w.cel n _ hc
          rw [e] at e1
          cases e1
          have ei := ri.key hk
          subst ei
          refine ⟨_, _, rfl, DPut.k (v := x) ha (by rw [← r0.length]; exact hz), ?_⟩
          have rp := r0.put key rv
          have hl := puK_len l key v
          obtain ⟨ex, wd⟩ := write_cel (o := .dK (putK vs key x)) (y := .dic (puK l key v)) w hc e ⟨_, upd_same, by omega, rp⟩
          exact q _ ex wd
      · cases h
    · cases h
  · cases h
theorem s_setX : SubSim G (fun o i v H Q => rSetL o i v H Q ∨ rSetD o i v H Q) cSetX := fun R ρ M M' H o i x vo vi v kk w ro ri rv h q => by
  unfold cSetX at h
  split at h
  · exact .inr (s_setK R ρ M M' H o i x vo vi v kk w ro ri rv h q)
  · exact .inl (s_setAt R ρ M M' H o i x vo vi v kk w ro ri rv h q)
end
end PV

set_option Elab.async false
set_option linter.all false
set_option maxRecDepth 100000
set_option maxHeartbeats 4000000
namespace PV
open PySem L2
open PyProof.Rows

/-! ### an object that was made before its place in the store -/
section
variable {G : Sig} {R R' : Hp} {ρ ρ' : List Addr} {M : Store} {H H' : Hp} {D : Addr} {o : HO}
theorem Ext.takeC (e : Ext R ρ H R' ρ' H') (hD : H D = none) : Ext R ρ H R' (ρ' ++ [D]) H' := by
  obtain ⟨τ, z, f⟩ := e.cls
  refine ⟨e.reg, ⟨τ ++ [D], by rw [z, List.append_assoc], fun x hx => ?_⟩, e.keep, e.dom, e.nreg⟩
  rcases List.mem_append.mp hx with h | h
  · exact f x h
  · rw [List.mem_singleton.mp h]; exact hD
theorem Wd.takeC {x : Cell} (w' : Wd G R ρ M H) (hDc : H D ≠ none) (rDn : R D = none) (nDr : D ∉ ρ) (hx : CelR G R ρ H D x) : Wd G R (ρ ++ [D]) (M.new x) H ∧ (ρ ++ [D])[M.nx]? = some D := by
  have gp : (ρ ++ [D])[M.nx]? = some D := by rw [← w'.len]; simp
  have gr : Gr R ρ R (ρ ++ [D]) := ⟨fun _ _ h => h, fun n a h => by rw [List.getElem?_append_left (List.getElem?_eq_some_iff.mp h).1]; exact h⟩
  have old : ∀ n y, n ≠ M.nx → (M.new x).c n = some y → M.c n = some y := fun n y hn h => by
    have h' : (if n = M.nx then some x else M.c n) = some y := h
    rw [if_neg hn] at h'
    exact h'
  have neD : ∀ n y a, M.c n = some y → (ρ ++ [D])[n]? = some a → a ≠ D := fun n y a h e z => by
    obtain ⟨b, e2, _, _⟩ := w'.cel n y h
    rw [gr.get n b e2] at e
    cases e
    exact nDr (by rw [← z]; exact List.mem_of_getElem? e2)
  refine ⟨⟨w'.sub, by simp [Store.new, w'.len], fun n y h => ?_, fun n m b y z h1 h2 f1 f2 => ?_, fun a h => ?_⟩, gp⟩
  · by_cases e : n = M.nx
    · subst e
      have h' : (if M.nx = M.nx then some x else M.c M.nx) = some y := h
      rw [if_pos rfl] at h'
      cases h'
      exact ⟨D, gp, rDn, celR_mono gr hx fun u q => q⟩
    · obtain ⟨b, e1, r, c⟩ := w'.cel n y (old n y e h)
      exact ⟨b, gr.get n b e1, r, celR_mono gr c fun u q => q⟩
  · by_cases q1 : n = M.nx <;> by_cases q2 : m = M.nx
    · rw [q1, q2]
    · rw [q1, gp] at f1
      cases f1
      exact absurd rfl (neD m z _ (old m z q2 h2) f2)
    · rw [q2, gp] at f2
      cases f2
      exact absurd rfl (neD n y _ (old n y q1 h1) f1)
    · have h1' := old n y q1 h1
      have h2' := old m z q2 h2
      obtain ⟨b1, g1, _⟩ := w'.cel n y h1'
      obtain ⟨b2, g2, _⟩ := w'.cel m z h2'
      rw [gr.get n b1 g1] at f1
      rw [gr.get m b2 g2] at f2
      cases f1
      cases f2
      exact w'.inj n m b y z h1' h2' g1 g2
  · rcases List.mem_append.mp h with h | h
    · exact w'.al a h
    · rw [List.mem_singleton.mp h]; exact hDc
/-- an object that nothing leans on is replaced -/
theorem Wd.chg (w : Wd G R ρ M H) (rDn : R D = none) (nDr : D ∉ ρ) : Wd G R ρ M (upd H D o) := by
  refine ⟨fun a u h => ?_, w.len, fun n x h => ?_, w.inj, fun a h => ?_⟩
  · rw [upd_ne (fun z => by subst z; rw [rDn] at h; cases h)]
    exact w.sub a u h
  · obtain ⟨a, e, r, c⟩ := w.cel n x h
    have ne : a ≠ D := fun z => nDr (by rw [← z]; exact List.mem_of_getElem? e)
    refine ⟨a, e, r, ?_⟩
    cases x with
    | lst l => obtain ⟨vs, h1, h2⟩ := c; exact ⟨vs, by rw [upd_ne ne]; exact h1, h2⟩
    | dic l => obtain ⟨vs, h1, h2⟩ := c; exact ⟨vs, by rw [upd_ne ne]; exact h1, h2⟩
    | ins k l => obtain ⟨dx, vs, h1, h2⟩ := c; exact ⟨dx, vs, by rw [upd_ne ne]; exact h1, h2⟩
  · by_cases z : a = D
    · subst z; exact absurd h nDr
    · rw [upd_ne z]; exact w.al a h
theorem Ext.chg (e : Ext R ρ H R' ρ' H') (hD : H D = none) : Ext R ρ H R' ρ' (upd H' D o) := by
  refine ⟨e.reg, e.cls, fun a u h n => ?_, fun a h => ?_, e.nreg⟩
  · rw [upd_ne (ne_of_none h hD)]; exact e.keep a u h n
  · by_cases z : a = D
    · subst z; rw [upd_same]; simp
    · rw [upd_ne z]; exact e.dom a h
end

/-! ### written dicts -/
def evPairs : List (SE × SE) → SE
  | [] => fun _ M => some (.val (.dic []), M)
  | (k, v) :: r => fun s M => bindO (k s M) fun kv M1 => bindO (v s M1) fun x M2 => bindO (evPairs r s M2) fun t M3 => match keyA kv, t with
    | some key, .dic l => some (.val (.dic ((key, x) :: l)), M3)
    | _, _ => none
def evDisp (ps : List (SE × SE)) : SE := fun s M => bindO (evPairs ps s M) fun t M1 => match t with
  | .dic l => if l.length ≤ 15 then some (.val (.dic (meK [] l)), M1) else none
  | _ => none
def evDispC (ps : List (SE × SE)) : SE := fun s M => bindO (evPairs ps s M) fun t M1 => match t with
  | .dic l => if l.length ≤ 15 then some (.val (.cel M1.nx), M1.new (.dic (meK [] l))) else none
  | _ => none
section
variable {X : Cx} {G : Sig} {E : XK} {pos : Pos}
def PostP (G : Sig) (R : Hp) (ρ : List Addr) (H : Hp) (r : Res) (Q : List (V × V) → Hp → Prop) (E : XK) : Prop := match r with
  | none => False
  | some (.val (.dic l), M) => ∀ R' ρ' H' vs, Ext R ρ H R' ρ' H' → Wd G R' ρ' M H' → VRk G R' ρ' l vs → Q (vs.map fun kv => (kV kv.1, kv.2)) H'
  | some (.val _, _) => False
  | some (.exc c x, M) => PostX G R ρ H M E c x
theorem pairs_sim {σ : L2.St} : ∀ (ps : List (SE × SE)) {R : Hp} {ρ : List Addr} {M : Store} {H : Hp} {s : SL} {Q : List (V × V) → Hp → Prop}, Wd G R ρ M H → SR G R ρ s σ → PostP G R ρ H (evPairs ps s M) Q E →
    tPairs (ps.map fun p => (tE G E p.1, tE G E p.2)) σ H Q
  | [], R, ρ, M, H, s, Q, w, sr, p => p R ρ H [] Ext.refl w .nil
  | (k, v) :: r, R, ρ, M, H, s, Q, w, sr, p => by
    show tE G E k σ H fun x H1 => tE G E v σ H1 fun y H2 => tPairs (r.map fun p => (tE G E p.1, tE G E p.2)) σ H2 fun qs H3 => Q ((x, y) :: qs) H3
    unfold evPairs at p
    refine ⟨R, ρ, s, M, w, sr, ?_⟩
    rcases q : k s M with _ | ⟨x | ⟨c, x⟩, M1⟩ <;> rw [q] at p
    · exact p
    · intro R1 ρ1 H1 xv e1 w1 r1
      refine ⟨R1, ρ1, s, M1, w1, sr.mono e1.gr, ?_⟩
      rw [bindO_val] at p
      rcases q2 : v s M1 with _ | ⟨y | ⟨c, y⟩, M2⟩ <;> rw [q2] at p
      · exact p
      · intro R2 ρ2 H2 yv e2 w2 r2
        rw [bindO_val] at p
        refine pairs_sim r w2 (sr.mono (e1.trans e2).gr) ?_
        rcases q3 : evPairs r s M2 with _ | ⟨z | ⟨c, z⟩, M3⟩ <;> rw [q3] at p
        · exact p
        · rw [bindO_val] at p
          cases hk : keyA x with
          | none => rw [hk] at p; exact p.elim
          | some key =>
            rw [hk] at p
            cases z <;> first | exact p.elim | skip
            intro R3 ρ3 H3 vs e3 w3 r3
            have := p R3 ρ3 H3 ((key, yv) :: vs) ((e1.trans e2).trans e3) w3 (.cons (r2.mono e3.gr) r3)
            rw [r1.key hk]
            exact this
        · exact PostX.ext (e1.trans e2) p
      · exact PostX.ext e1 p
    · exact p
theorem disp_core {trs : List (SE × SE)} {σ : L2.St} {H : Hp} {Q : VK} {mk : List (Key × Va) → Store → Res} (h : tE G E (fun s M => bindO (evPairs trs s M) fun t M1 => match t with
  | .dic l => if l.length ≤ 15 then mk l M1 else none
  | _ => none) σ H Q)
    (hm : ∀ R ρ R' ρ' H' M' l vs p o, o = HO.dK (mergeK [] vs) → H p = none → Ext R ρ H R' ρ' (upd H' p o) → Wd G R' ρ' M' (upd H' p o) → R' p = none → p ∉ ρ' → VRk G R' ρ' l vs → l.length ≤ 15 → Post G R ρ H (mk l M') Q E → Q (.ref p) (upd H' p o)) :
    tDisp (trs.map fun p => (tE G E p.1, tE G E p.2)) σ H Q := by
  obtain ⟨R, ρ, s, M, w, sr, p⟩ := h
  intro a ha
  have e0 : Ext R ρ H R ρ (upd H a (.dK [])) := Ext.heapNew ha
  have w0 : Wd G R ρ M (upd H a (.dK [])) := w.heap fun b o h => by rw [upd_ne (ne_of_none h ha)]; exact h
  have hR := w.nonR ha
  have hρ : a ∉ ρ := fun z => w.al a z ha
  refine pairs_sim trs w0 (sr.mono e0.gr) ?_
  replace p : Post G R ρ H (bindO (evPairs trs s M) _) Q E := p
  rcases q : evPairs trs s M with _ | ⟨z | ⟨c, z⟩, M1⟩ <;> rw [q] at p
  · exact p
  · rw [bindO_val] at p
    cases z <;> first | exact p.elim | skip
    intro R1 ρ1 H1 vs e1 w1 r1
    obtain ⟨a1, a2, a3⟩ := e1.apart upd_same hR hρ
    dsimp only at p
    split at p
    · rename_i hl
      refine ⟨a3, vs, rfl, by rw [← r1.length]; exact hl, ?_⟩
      exact hm R ρ R1 ρ1 H1 M1 _ vs a _ rfl ha ((e0.trans e1).chg ha) (w1.chg a1 a2) a1 a2 r1 hl p
    · exact p.elim
  · exact PostX.ext e0 p
theorem disp_len {l : List (Key × Va)} (h : l.length ≤ 15) : (meK [] l).length ≤ sizeLine := by
  have := meK_len l []
  have : (meK [] l).length ≤ 15 := by simp at this; omega
  exact Nat.le_trans this (by decide)
theorem q_disp {keys : List (Option Expr)} {values : List Expr} {trs : List (SE × SE)} (h : PPs X pos keys values (trs.map fun p => (tE G E p.1, tE G E p.2))) (hall : keys.all (·.isSome) = true) (hl : keys.length = values.length) (h0 : keys ≠ []) (h15 : keys.length ≤ 15) :
    PE X (.Dict keys values pos) (tE G E (evDisp trs)) :=
  pe_imp (pe_disp h hall hl h0 h15) fun σ H Q q => disp_core (mk := fun l M1 => some (.val (.dic (meK [] l)), M1)) q fun R ρ R' ρ' H' M' l vs p o eo hp e w hR hρ r hl q => by
    subst eo
    have gr : Gr R' ρ' (upd R' p (.dK (mergeK [] vs))) ρ' := ⟨fun b u z => by rw [upd_ne (fun y => by subst y; rw [hR] at z; cases z)]; exact z, fun _ _ z => z⟩
    exact q _ ρ' _ (.ref p) (e.take hp hR) (w.take upd_same hR hρ) (.dic upd_same (disp_len hl) ((r.merge .nil).mono gr))
theorem q_dispC {keys : List (Option Expr)} {values : List Expr} {trs : List (SE × SE)} (h : PPs X pos keys values (trs.map fun p => (tE G E p.1, tE G E p.2))) (hall : keys.all (·.isSome) = true) (hl : keys.length = values.length) (h0 : keys ≠ []) (h15 : keys.length ≤ 15) :
    PE X (.Dict keys values pos) (tE G E (evDispC trs)) :=
  pe_imp (pe_disp h hall hl h0 h15) fun σ H Q q => disp_core (mk := fun l M1 => some (.val (.cel M1.nx), M1.new (.dic (meK [] l)))) q fun R ρ R' ρ' H' M' l vs p o eo hp e w hR hρ r hl q => by
    subst eo
    obtain ⟨w2, g2⟩ := w.takeC (x := .dic (meK [] l)) (by rw [upd_same]; simp) hR hρ ⟨_, upd_same, disp_len hl, r.merge .nil⟩
    exact q _ _ _ (.ref p) (e.takeC hp) w2 (.cel g2)
theorem qp_nil : PPs X pos [] [] (([] : List (SE × SE)).map fun p => (tE G E p.1, tE G E p.2)) := pps_nil
theorem qp_cons {k v : Expr} {ks : List (Option Expr)} {vs : List Expr} {ek ev : SE} {trs : List (SE × SE)} (hk : PE X k (tE G E ek)) (hv : PE X v (tE G E ev)) (hr : PPs X pos ks vs (trs.map fun p => (tE G E p.1, tE G E p.2))) :
    PPs X pos (some k :: ks) (v :: vs) (((ek, ev) :: trs).map fun p => (tE G E p.1, tE G E p.2)) := pps_cons hk hv hr
end

/-! ### d.get, clear, sorted, list, dict -/
def gGetD (M : Store) : Va → List Va → Option Va
  | d, [k] => (match dicOf M d, keyA k with
    | some l, some key => some ((vaK l key).getD .non)
    | _, _ => none)
  | d, [k, z] => (match dicOf M d, keyA k with
    | some l, some key => some ((vaK l key).getD z)
    | _, _ => none)
  | _, _ => none
def rGetD : V → List V → Hp → VK → Prop := fun x xs H Q => (∃ a y o, x = .ref a ∧ xs = [y] ∧ DGet H a y o ∧ Q (o.getD .non) H) ∨ ∃ a y z o, x = .ref a ∧ xs = [y, z] ∧ DGet H a y o ∧ Q (o.getD z) H
section
variable {X : Cx} {G : Sig} {k : Nat}
theorem mt_getD (hr : Room k X.A) : MtR X "dict.get" rGetD := by
  intro pins s σ H x xs v us Q I rx rv h
  rcases h with ⟨a, y, o, ex, es, g, q⟩ | ⟨a, y, z, o, ex, es, g, q⟩
  · subst ex es
    obtain rfl : v = Value.ref a := rx
    obtain ⟨u, rfl, ru⟩ := vals1 rv
    exact d_get1 (hu_of hr) I g ru fun w' s' I' rw' => ⟨_, H, I', rw', q⟩
  · subst ex es
    obtain rfl : v = Value.ref a := rx
    cases rv with
    | cons r1 r2 =>
      obtain ⟨u, rfl, ru⟩ := vals1 r2
      exact d_get2 (hu_of hr) I g r1 ru fun w' s' I' rw' => ⟨_, H, I', rw', q⟩
theorem s_getD : OpM G "dict" rGetD (kVal gGetD) := by
  intro R ρ M H x xs o l Q E w ro rv p
  unfold kVal at p
  cases q : gGetD M o l with
  | none => rw [q] at p; exact p.elim
  | some res =>
    rw [q] at p
    unfold gGetD at q
    split at q
    · split at q
      · rename_i l' key h1 h2
        cases q
        obtain ⟨y, rfl, ry⟩ := one_of rv
        obtain ⟨a, vs, ex, ha, rk, ey, dg⟩ := dget_of w ro ry h1 h2
        exact .inl ⟨a, y, _, ex, rfl, dg, gives_now w (rk.getD key .non) p⟩
      · cases q
    · split at q
      · rename_i l' key h1 h2
        cases q
        obtain ⟨y, z, rfl, ry, rz⟩ := two_of rv
        obtain ⟨a, vs, ex, ha, rk, ey, dg⟩ := dget_of w ro ry h1 h2
        exact .inr ⟨a, y, z, _, ex, rfl, dg, gives_now w (rk.getD key rz) p⟩
      · cases q
    · cases q
def cDClear : Cell → List Va → Option (Cell × Va)
  | .dic _, [] => some (.dic [], .non)
  | _, _ => none
theorem s_dclear : OpM G "dict" rDClear (kMut cDClear) := by
  intro R ρ M H x xs o l Q E w ro rv p
  unfold kMut at p
  split at p
  · rename_i n
    split at p
    · rename_i c hc
      split at p
      · rename_i c' y hg
        unfold cDClear at hg
        split at hg
        · rename_i l0
          cases hg
          cases rv
          cases ro with
          | cel e =>
            obtain ⟨a, e1, ra, vs, ha, z, r0⟩ := w.cel n _ hc
            rw [e] at e1
            cases e1
            obtain ⟨ex, wd⟩ := write_cel (o := .dK []) (y := .dic []) w hc e ⟨[], upd_same, Nat.zero_le _, .nil⟩
            exact ⟨_, vs, rfl, rfl, ha, p _ _ _ _ ex wd .non⟩
        · cases hg
      · exact p.elim
    · exact p.elim
  · exact p.elim
end

/-! ### sorted, list(d), dict(d) -/
def txtOfKeys : List Key → Option (List Str)
  | [] => some []
  | .inr x :: r => (txtOfKeys r).map (x :: ·)
  | _ :: _ => none
theorem txtOfKeys_eq : ∀ {ks : List Key} {zs : List Str}, txtOfKeys ks = some zs → ks = zs.map Sum.inr
  | [], _, h => by cases h; rfl
  | .inr x :: r, _, h => by
    unfold txtOfKeys at h
    cases q : txtOfKeys r with
    | none => rw [q] at h; cases h
    | some l => rw [q] at h; cases h; rw [List.map_cons, ← txtOfKeys_eq q]
  | .inl _ :: _, _, h => by cases h
theorem txtOfKeys_map : ∀ zs : List Str, txtOfKeys (zs.map Sum.inr) = some zs
  | [] => rfl
  | z :: zs => by
    show (txtOfKeys (zs.map Sum.inr)).map (z :: ·) = _
    rw [txtOfKeys_map zs]; rfl
def leS (a b : Str) : Bool := decide (a.cps.toList ≤ b.cps.toList)
/-- the texts in ascending order -/
def srtS (zs : List Str) : List Str := zs.mergeSort leS
theorem leS_trans (a b c : Str) (h1 : leS a b = true) (h2 : leS b c = true) : leS a c = true := by
  unfold leS at *
  rw [decide_eq_true_eq] at *
  exact List.le_trans h1 h2
theorem leS_total (a b : Str) : (leS a b || leS b a) = true := by
  unfold leS
  rw [Bool.or_eq_true, decide_eq_true_eq, decide_eq_true_eq]
  exact List.le_total _ _
theorem leS_antisymm (a b : Str) (h1 : leS a b = true) (h2 : leS b a = true) : a = b := by
  unfold leS at *
  rw [decide_eq_true_eq] at *
  exact tl_ext (List.le_antisymm h1 h2)
theorem rising_pw : ∀ (l : List Str) (p : Str), risingS p l = true → (p :: l).Pairwise fun a b => leS a b = true
  | [], p, _ => by simp
  | x :: r, p, h => by
    replace h : (!PySem.Spec.ltCps x.cps.toList p.cps.toList && risingS x r) = true := h
    rw [Bool.and_eq_true] at h
    have ih := rising_pw r x h.2
    have hx : leS p x = true := by
      unfold leS
      rw [decide_eq_true_eq, ← List.not_lt]
      have := h.1
      rw [PyProof.Rows.ltCps_eq] at this
      simpa using this
    refine List.pairwise_cons.mpr ⟨fun y hy => ?_, ih⟩
    rcases List.mem_cons.mp hy with e | hy
    · subst e; exact hx
    · exact leS_trans _ _ _ hx ((List.pairwise_cons.mp ih).1 y hy)
theorem sorted_pw : ∀ (l : List Str), sortedS l = true → l.Pairwise fun a b => leS a b = true
  | [], _ => .nil
  | x :: r, h => rising_pw r x h
theorem srtS_perm (zs : List Str) : (srtS zs).Perm zs := List.mergeSort_perm zs leS
theorem srtS_pw (zs : List Str) : (srtS zs).Pairwise fun a b => leS a b = true := List.pairwise_mergeSort leS_trans leS_total zs
theorem srtS_eq {ys zs : List Str} (p : ys.Perm zs) (h : sortedS ys = true) : ys = srtS zs :=
  List.Perm.eq_of_pairwise (le := fun a b => leS a b = true) (fun a b _ _ => leS_antisymm a b) (sorted_pw ys h) (srtS_pw zs) (p.trans (srtS_perm zs).symm)
/-- sorted, of a list of texts or a dict with such keys -/
def srtOf (M : Store) (x : Va) : Option (List Str) := match dicOf M x with
  | some l => txtOfKeys (l.map (·.1))
  | none => (lstOf M x).bind strsOf
def gSorted (M : Store) : List Va → Option Va
  | [x] => match srtOf M x with
    | some zs => if zs.length < 64 then some (.lst ((srtS zs).map Va.str)) else none
    | none => none
  | _ => none
def rSortedD : List V → Hp → VK → Prop := fun xs H Q => ∃ (a : Addr) (kvs : List (Key × V)) (ks : List Str), xs = [.ref a] ∧ Rd H a (.dK kvs) ∧ kvs.map (·.1) = ks.map Sum.inr ∧ ks.length < 64 ∧
    ∀ ys p, ys.Perm ks → sortedS ys = true → H p = none → Q (.ref p) (upd H p (.lst (ys.map V.str)))
section
variable {X : Cx} {G : Sig} {k : Nat}
theorem s_sorted (hK : X.K = G.K) : OpL G (fun xs H Q => rSortedS X.K xs H Q ∨ rSortedD xs H Q) (kPure gSorted) := pure_of fun R ρ M H xs l res Q w rv h g => by
  unfold gSorted at h
  split at h
  · rename_i x
    obtain ⟨v, rfl, r⟩ := one_of rv
    split at h
    · rename_i zs hz
      split at h
      · rename_i h64
        cases h
        have fin : ∀ ys p, ys.Perm zs → sortedS ys = true → H p = none → Q (.ref p) (upd H p (.lst (ys.map V.str))) := fun ys p hp hs hq => by
          have e := srtS_eq hp hs
          subst e
          exact gives_lst w (VRs.strs _) (by rw [List.length_map, hp.length_eq, sizeLine_eq]; omega) g hq
        unfold srtOf at hz
        split at hz
        · rename_i l' hl'
          obtain ⟨a, vs, rfl, ha, rk, _⟩ := dic_read w r hl'
          exact .inr ⟨a, vs, zs, rfl, .inl ha, by rw [rk.keys]; exact txtOfKeys_eq hz, h64, fin⟩
        · cases hq : lstOf M x with
          | none => rw [hq] at hz; cases hz
          | some l' =>
            rw [hq] at hz
            obtain ⟨a, vs, rfl, sq, rvs, _⟩ := lst_read w r hq
            have := strs_of rvs hz
            subst this
            exact .inl ⟨a, zs, rfl, by rw [hK]; exact sq, h64, fin⟩
      · cases h
    · cases h
  · cases h
/-- dict(d): a copy -/
def gDict (M : Store) : List Va → Option Va
  | [x] => (dicOf M x).map Va.dic
  | _ => none
def kDict (l : List Va) (M : Store) : Res := match l with
  | [x] => (match dicOf M x with
    | some l => some (.val (.cel M.nx), M.new (.dic l))
    | none => none)
  | _ => none
def rDictD : List V → Hp → VK → Prop := fun xs H Q => ∃ (a : Addr) (kvs : List (Key × V)), xs = [.ref a] ∧ Rd H a (.dK kvs) ∧ ∀ p, H p = none → Q (.ref p) (upd H p (.dK kvs))
theorem s_dictF : OpL G rDictD (kPure gDict) := pure_of fun R ρ M H xs l res Q w rv h g => by
  unfold gDict at h
  split at h
  · rename_i x
    obtain ⟨v, rfl, r⟩ := one_of rv
    cases hq : dicOf M x with
    | none => rw [hq] at h; cases h
    | some l' =>
      rw [hq] at h; cases h
      obtain ⟨a, vs, rfl, ha, rk, z⟩ := dic_read w r hq
      exact ⟨a, vs, rfl, .inl ha, fun p hp => gives_dic w rk z g hp⟩
  · cases h
theorem s_dictC : OpL G rDictD kDict := fun R ρ M H xs l Q E w rv p => by
  unfold kDict at p
  split at p
  · rename_i x
    obtain ⟨v, rfl, r⟩ := one_of rv
    split at p
    · rename_i l' hq
      obtain ⟨a, vs, rfl, ha, rk, z⟩ := dic_read w r hq
      refine ⟨a, vs, rfl, .inl ha, fun q hq => ?_⟩
      obtain ⟨e, w', h⟩ := alloc_cel (o := .dK vs) (x := .dic l') w hq ⟨vs, upd_same, z, rk⟩
      exact p _ _ _ _ e w' (.cel h)
    · exact p.elim
  · exact p.elim
/-- list(d): the keys -/
def lstOrKeys (M : Store) (x : Va) : Option (List Va) := match dicOf M x with
  | some l => some (l.map fun kv => keyVa kv.1)
  | none => seqOf M x
def gListX (M : Store) : List Va → Option Va
  | [x] => (lstOrKeys M x).map Va.lst
  | _ => none
def kListX (l : List Va) (M : Store) : Res := match l with
  | [x] => (match lstOrKeys M x with
    | some l => some (.val (.cel M.nx), M.new (.lst l))
    | none => none)
  | _ => none
end

/-! ### objects of own classes -/
/-- the class stands, and these names are attributes of its objects alone -/
structure ClsF (K : PySem.W.Frag) (C : Addr) (fs : List Str) : Prop where
  cl : Cls K C
  no : ∀ f ∈ fs, NoAttr K C f
def opFld (c : Nat) (f : Str) (M : Store) : Va → Option Va
  | .cel n => (match M.c n with
    | some (.ins k l) => if k = c then l.lookup f else none
    | _ => none)
  | _ => none
section
variable {G : Sig} {R : Hp} {ρ : List Addr}
theorem VRf.look {f : Str} {x : Va} : ∀ {l : List (Str × Va)} {vs : List (Str × V)}, VRf G R ρ l vs → l.lookup f = some x → ∃ v, vs.lookup f = some v ∧ VR G R ρ x v
  | _, _, .nil, h => by cases h
  | _, _, .cons (k := k) r t, h => by
    rw [List.lookup_cons] at h ⊢
    cases q : f == k with
    | true => rw [q] at h; cases h; exact ⟨_, rfl, r⟩
    | false => rw [q] at h; exact VRf.look t h
theorem VRf.len : ∀ {l : List (Str × Va)} {vs : List (Str × V)}, VRf G R ρ l vs → l.length = vs.length
  | _, _, .nil => rfl
  | _, _, .cons _ t => by rw [List.length_cons, List.length_cons, VRf.len t]
theorem VRf.none {f : Str} : ∀ {l : List (Str × Va)} {vs : List (Str × V)}, VRf G R ρ l vs → l.lookup f = none → vs.lookup f = none
  | _, _, .nil, h => rfl
  | _, _, .cons (k := k) r t, h => by
    rw [List.lookup_cons] at h ⊢
    cases q : f == k with
    | true => rw [q] at h; cases h
    | false => rw [q] at h; exact VRf.none t h
theorem VRf.put {f : Str} {x : Va} {v : V} (r0 : VR G R ρ x v) : ∀ {l : List (Str × Va)} {vs : List (Str × V)}, VRf G R ρ l vs → VRf G R ρ (putA f x l) (putF f v vs)
  | _, _, .nil => .cons r0 .nil
  | _, _, .cons (k := k) r t => by
    unfold putA putF
    by_cases e : k = f
    · rw [if_pos e, if_pos e]; exact .cons r0 t
    · rw [if_neg e, if_neg e]; exact .cons r (VRf.put r0 t)
theorem ins_read {M : Store} {H : Hp} {n c : Nat} {l : List (Str × Va)} {v : V} (w : Wd G R ρ M H) (r : VR G R ρ (.cel n) v) (h : M.c n = some (.ins c l)) : ∃ a dx vs, v = .ref a ∧ ρ[n]? = some a ∧ H a = some (.ins (G.CA c) dx vs) ∧ VRf G R ρ l vs := by
  cases r with
  | cel e =>
    obtain ⟨a, e1, _, dx, vs, ha, r0⟩ := w.cel n _ h
    rw [e] at e1
    cases e1
    exact ⟨_, dx, vs, rfl, e, ha, r0⟩
end
def cSetF (c : Nat) (f : Str) (o v : Va) (M : Store) : Option Store := match o with
  | .cel n => (match M.c n with
    | some (.ins k l) => if k = c ∧ l.length < 1000 then some (M.put n (.ins k (putA f v l))) else none
    | _ => none)
  | _ => none
def sFldS (e eo : SE) (g : Va → Va → Store → Option Store) : SS := sE e fun v s M => sE eo (fun o s M => match g o v M with
  | some M1 => some (.nx, s, M1)
  | none => none) s M
section
variable {X : Cx} {G : Sig} {E : XK} {a b e o value : Expr} {es : List Expr} {ea eo ev : SE} {pos pos' p' apos : Pos} {c : Nat} {f : Str} {fs : List Str}
theorem q_fld (hK : X.K = G.K) (F : ClsF X.K (G.CA c) fs) (hf : f ∈ fs) (ha : PE X a (tE G E ea)) (hb : attributeBase a f X.env (eval a X.env) = eval a X.env := by rfl) : PE X (.Attribute a f pos) (tE G E (ev1 (opFld c f) ea)) :=
  pe_imp (pe_fld ha hb) fun σ H Q ⟨R, ρ, s, M, w, sr, p⟩ => stepE w sr p fun R1 ρ1 M1 H1 va v e1 w1 sr1 r1 p1 => by
    cases h : opFld c f M1 va with
    | none => rw [h] at p1; exact p1.elim
    | some res =>
      rw [h] at p1
      unfold opFld at h
      split at h
      · split at h
        · rename_i n k l hc
          split at h
          · rename_i ek
            subst ek
            obtain ⟨a, dx, vs, rfl, e2, ha, rf⟩ := ins_read w1 r1 hc
            obtain ⟨u, hu, ru⟩ := rf.look h
            exact ⟨a, _, dx, vs, u, rfl, ha, F.cl, F.no f hf, hu, gives_now w1 ru p1⟩
          · cases h
        · cases h
      · cases h
theorem qs_fld (hK : X.K = G.K) (F : ClsF X.K (G.CA c) fs) (hf : f ∈ fs) (ha : PE X value (tE G E ev)) (ho : PE X o (tE G E eo)) (hs : swapsWith value (some (.Attribute o f pos')) pos.line X.env = pure false := by rfl) :
    PS X (.Assign [.Attribute o f pos'] value pos) (tS G E (sFldS ev eo (cSetF c f))) :=
  ps_imp (ps_fld ho ha hs) fun D σ H ⟨R, ρ, s, M, w, sr, p⟩ => stepS w sr p fun R1 ρ1 M1 H1 va v e1 w1 sr1 r1 p1 =>
    stepS w1 sr1 p1 fun R2 ρ2 M2 H2 vo x e2 w2 sr2 r2 p2 => by
      cases h : cSetF c f vo va M2 with
      | none => rw [h] at p2; exact p2.elim
      | some M3 =>
        rw [h] at p2
        unfold cSetF at h
        split at h
        · split at h
          · rename_i n k l hc
            split at h
            · rename_i ek
              obtain ⟨ek, hl⟩ := ek
              cases h
              subst ek
              obtain ⟨a, dx, vs, rfl, en, ha, rf⟩ := ins_read w2 r2 hc
              refine ⟨a, _, dx, vs, rfl, ha, F.cl, F.no f hf, by rw [← rf.len]; exact hl, ?_⟩
              obtain ⟨ex, wd⟩ := write_cel (o := .ins (G.CA k) dx (putF f v vs)) (y := .ins k (putA f va l)) w2 hc en ⟨dx, _, upd_same, rf.put (r1.mono e2.gr)⟩
              exact nxt_now wd (sr2.mono ex.gr) (Nxt.ext ex p2)
            · cases h
          · cases h
        · cases h
end

/-! ### making, properties, methods, an own == -/
def kMake (c : Nat) (n : Nat) (f : FM) (l : List Va) (M : Store) : Res := if l.length = n then (match f (.cel M.nx :: l) (M.new (.ins c [])) with
  | some (.val .non, M2) => some (.val (.cel M.nx), M2)
  | some (.val _, _) => none
  | some (.exc k v, M2) => some (.exc k v, M2)
  | none => none) else none
def kProp (c : Nat) (f : FM) (M : Store) (o : Va) : Res := match o with
  | .cel n => (match M.c n with
    | some (.ins k _) => if k = c then f [.cel n] M else none
    | _ => none)
  | _ => none
def evProp (c : Nat) (f : FM) (e : SE) : SE := fun s M => bindO (e s M) fun o M1 => kProp c f M1 o
def kMethA (c : Nat) (m : Str) (n : Nat) (f : FM) (o : Va) (l : List Va) (M : Store) : Res := if l.length = n then f (o :: l) M else none
def isObj (c : Nat) (m : Str) (M : Store) (o : Va) : Bool := match o with
  | .cel n => (match M.c n with
    | some (.ins k l) => decide (k = c) && (l.lookup m).isNone
    | _ => false)
  | _ => false
def evMeth (c : Nat) (m : Str) (n : Nat) (f : FM) (eo ea : SE) : SE := fun s M => bindO (eo s M) fun o M1 => if isObj c m M1 o = true then bindO (ea s M1) fun t M2 => (match t with
  | .tup l => if l.length = n then f (o :: l) M2 else none
  | _ => none) else none
section
variable {X : Cx} {G : Sig} {E : XK} {a o e : Expr} {es : List Expr} {ea eo : SE} {pos p' apos : Pos} {c n k : Nat} {f C g p : Addr} {fd : FuncData} {ps : List Str} {x m : Str} {fM : FM} {sp : Sp} {CX : CXT} {ta : TE} {t : TA} {dvs : List V} {ds : List Value}
theorem run_makeG {pins : List (Addr × Obj)} {σ : L2.St} {H : Hp} {s : Shared} {Q : VK} {us : List Value} {vs : List V} (M : Mk X.K C f) (F : FnG X.prog X.w X.K X.mg X.base CX k f fd ps sp) (hr : Room (k + 1) X.A) (hgd : X.A.guards = some []) (hb : Binds X.K fd ps ds) (hd : Vals dvs ds)
    (hx : Passes CX X E) (I : Inv X pins σ H s) (r : Vals vs us)
    (h : ∀ x dx, H x = none → H dx = none → dx ≠ x → sp (.ref x :: (vs ++ dvs)) (upd (upd H dx (.own x)) x (.ins C dx [])) (fun v H2 => v = .non ∧ Q (.ref x) H2) E) :
    wpAny (model X.prog X.w) X.A (call (.ref C) us) (EP X pins σ Q) X.xe s := by
  have hq := h (s.heap.objs.size + 1) s.heap.objs.size (I.hok.fresh (Nat.le_succ _)) (I.hok.fresh (Nat.le_refl _)) (Nat.ne_of_lt (Nat.lt_succ_self _))
  have I2 := Inv.made (C := C) I
  have r2 : Vals (V.ref (s.heap.objs.size + 1) :: (vs ++ dvs)) (Value.ref (s.heap.objs.size + 1) :: (us ++ ds)) := .cons rfl (r.append hd)
  have hl : (Value.ref (s.heap.objs.size + 1) :: us ++ ds).length = ps.length := by
    have e := r2.length
    rw [F.arity _ _ _ _ hq] at e
    exact e.symm
  refine wpAny_call (make_map (f := f) I.kIn M.makes M.init (beq_iff_eq.mp M.fn) (codeAny_mono (F.go _ (hr.make C us []) (by exact hgd) X.stack _ _ (I2.env0.make C us []) ⟨Value.ref (s.heap.objs.size + 1) :: us, []⟩ (Value.ref (s.heap.objs.size + 1) :: (us ++ ds)) _
    (hb _ (Value.ref (s.heap.objs.size + 1) :: us) I2.kIn hl) r2 _ E hq) fun r s' hq' => ?_))
  cases r with
  | error e => exact hx pins σ _ _ e s' I2 hq'
  | ok fl =>
    cases fl with
    | ret u =>
      obtain ⟨v, H', I3, rv, ev, q3⟩ := I2.after hq'
      subst ev
      exact ⟨rv, ⟨V.ref (s.heap.objs.size + 1), H', I3, rfl, q3⟩⟩
    | next => exact False.elim hq'
    | brk => exact False.elim hq'
    | cont => exact False.elim hq'
theorem pe_makeG (M : Mk X.K C f) (F : FnG X.prog X.w X.K X.mg X.base CX k f fd ps sp) (hr : Room (k + 1) X.A) (hgd : X.A.guards = some []) (hg : Gl X x) (hm : X.mg x = some (.ref C)) (hb : Binds X.K fd ps ds) (hd : Vals dvs ds) (hx : Passes CX X E)
    (ha : PA X (e :: es) t) (hdb : (x == ("__debug__" : Str)) = false := by decide) (he : starEach (e :: es) X.env = (false, eval e X.env) :: starEach es X.env := by rfl) (hpl : (backTo pos (starEach es X.env)).any (·.1) = false := by rfl) :
    PE X (.Call (.Name x p') (e :: es) [] pos) (tMake C sp dvs E t) :=
  ⟨fun pins s σ H Q I h => wpAny_Call_Name_kw (ld_glob I hg hm (PySem.W.callWith_K (h₀ := X.base) I.ok.mod.kin M.kp
    (thn (ha.run pos pins s σ H _ I h) fun us s1 ⟨vs, H1, I1, r, q⟩ => ⟨I1.kIn, run_makeG M F hr hgd hb hd hx I1 r q⟩) he hpl) hdb)⟩
theorem make_sim {R : Hp} {ρ : List Addr} {M : Store} {H : Hp} {l : List Va} {vs : List V} {Q : VK} (w : Wd G R ρ M H) (r : VRs G R ρ l vs) (q : Post G R ρ H (kMake c n fM l M) Q E0) (hC : G.CA c = C) :
    ∀ x dx, H x = none → H dx = none → dx ≠ x → spI G (n + 1) fM (.ref x :: (vs ++ [])) (upd (upd H dx (.own x)) x (.ins C dx [])) (fun v H2 => v = .non ∧ Q (.ref x) H2) E0 := by
  intro x dx hx hdx ne
  unfold kMake at q
  by_cases hl : l.length = n
  · rw [if_pos hl] at q
    have e0 : Ext R ρ H R ρ (upd H dx (.own x)) := Ext.heapNew hdx
    have w0 : Wd G R ρ M (upd H dx (.own x)) := w.heap fun b o h => by rw [upd_ne (ne_of_none h hdx)]; exact h
    have hx' : (upd H dx (.own x)) x = none := by rw [upd_ne ne.symm]; exact hx
    obtain ⟨e1, w1, g1⟩ := alloc_cel (o := .ins C dx []) (x := .ins c []) w0 hx' ⟨dx, [], by rw [hC, upd_same], .nil⟩
    refine ⟨by rw [List.append_nil, List.length_cons, ← r.length, hl], R, _, _, .cel M.nx :: l, w1, .cons (.cel g1) (by rw [List.append_nil]; exact r.mono e1.gr), ?_⟩
    rcases z : fM (.cel M.nx :: l) (M.new (.ins c [])) with _ | ⟨y | ⟨k, y⟩, M2⟩ <;> rw [z] at q
    · exact q
    · cases y <;> first | exact q.elim | skip
      intro R' ρ' H' v e w' rv
      cases rv
      exact ⟨rfl, q R' ρ' H' (.ref x) ((e0.trans e1).trans e) w' (.cel (e.get g1))⟩
    · intro R' ρ' H' d v e w' h rv
      exact q R' ρ' H' d v ((e0.trans e1).trans e) w' h rv
  · rw [if_neg hl] at q; exact q.elim
/-- how a class stands in the text: made by its __init__, of n arguments -/
structure MkB (P : Program) (w : World) (K : PySem.W.Frag) (mg : Str → Option Value) (base : Heap) (G : Sig) (x : Str) (c : Nat) (lv n : Nat) (fM : FM) : Prop where
  ex : ∃ (f : Addr) (fd : FuncData) (ps : List Str), mg x = some (.ref (G.CA c)) ∧ Mk K (G.CA c) f ∧ Binds K fd ps [] ∧ FnG P w K mg base CX0 lv f fd ps (spI G (n + 1) fM)
/-- a property, or a method, of a class -/
structure PrB (P : Program) (w : World) (K : PySem.W.Frag) (mg : Str → Option Value) (base : Heap) (G : Sig) (c : Nat) (x : Str) (lv : Nat) (fM : FM) : Prop where
  ex : ∃ (p f : Addr) (fd : FuncData) (ps : List Str), Cls K (G.CA c) ∧ PropOf K (G.CA c) x p f ∧ Binds K fd ps [] ∧ FnG P w K mg base CX0 lv f fd ps (spI G 1 fM)
structure MeB (P : Program) (w : World) (K : PySem.W.Frag) (mg : Str → Option Value) (base : Heap) (G : Sig) (c : Nat) (x : Str) (lv n : Nat) (fM : FM) : Prop where
  ex : ∃ (f : Addr) (fd : FuncData) (ps : List Str), Cls K (G.CA c) ∧ Meth K (G.CA c) x f ∧ Binds K fd ps [] ∧ FnG P w K mg base CX0 lv f fd ps (spI G (n + 1) fM)
variable {lv : Nat}
theorem q_make (B : MkB X.prog X.w X.K X.mg X.base G x c lv n fM) (hr : Room k X.A) (hl : lv + 1 ≤ k) (hgd : X.A.guards = some []) (hg : Gl X x) (ha : PA X (e :: es) (tA G E0 ea)) (hdb : (x == ("__debug__" : Str)) = false := by decide)
    (he : starEach (e :: es) X.env = (false, eval e X.env) :: starEach es X.env := by rfl) (hpl : (backTo pos (starEach es X.env)).any (·.1) = false := by rfl) :
    PE X (.Call (.Name x p') (e :: es) [] pos) (tE G E0 (evL (kMake c n fM) ea)) := by
  obtain ⟨f, fd, ps, hm, hk, hb, F⟩ := B.ex
  exact pe_imp (pe_makeG hk F (hr.mono hl) hgd hg hm hb .nil pass0 ha hdb he hpl) fun σ H Q ⟨R, ρ, s, M, w, sr, p⟩ => stepA w sr p fun R1 ρ1 M1 H1 l vs e1 w1 sr1 r1 p1 => make_sim w1 r1 p1 rfl
theorem getprop_G {pins : List (Addr × Obj)} {σ : L2.St} {H : Hp} {s : Shared} {Q : VK} {b : Bool} {a dx : Addr} {fs : List (Str × V)} (I : Inv X pins σ H s) (ea : H a = some (.ins C dx fs)) (c : Cls X.K C) (hp : PropOf X.K C m p g)
    (F : FnG X.prog X.w X.K X.mg X.base CX k g fd ps sp) (hr : Room (k + 1) X.A) (hgd : X.A.guards = some []) (hb : Binds X.K fd ps ds) (hd : Vals dvs ds) (hx : Passes CX X.nox E) (h : sp (.ref a :: dvs) H Q E) :
    wpAny (model X.prog X.w) X.A (getAttr (.ref a) m b) (EP X pins σ Q) X.xe s := by
  obtain ⟨mA, O, _, _, _, _⟩ := ins_get I.hok ea
  obtain ⟨od, J, _⟩ := O.look
  obtain ⟨rest, hrec⟩ := hp.rec_
  have I1 := I.tok (s.toks + 1)
  have hl : ([Value.ref a] ++ ds).length = ps.length := by
    rw [← F.arity _ _ _ _ h]
    show ds.length + 1 = dvs.length + 1
    rw [hd.length]
  have hc : (PySem.W.clsIn X.K C).isSome = true := by
    obtain ⟨cd, hc, _⟩ := PySem.W.any_some c.hd
    rw [hc]
    rfl
  refine PySem.W.get_bind I.kIn J (PySem.W.plainGet_of (c.get m)).1 (PySem.W.findObj_data hc hp.at_ hp.get hp.tak) (PySem.W.plainGet_of (c.get m)).2 (wpAny_call (PySem.W.prop_get (s := { s with toks := s.toks + 1 }) I.kIn hrec ?_))
  refine codeAny_mono (F.go X.A.in1 hr.in1 (by exact hgd) X.stack { s with toks := s.toks + 1 } H I1.env0.in1 ⟨[.ref a], []⟩ (.ref a :: ds) (.ref a :: dvs) (hb _ [.ref a] I1.kIn hl) (.cons rfl hd) Q E h) fun r s' hq => ?_
  cases r with
  | error er => exact False.elim (hx pins σ H { s with toks := s.toks + 1 } er s' (I1.wish _) hq)
  | ok fl =>
    cases fl with
    | ret u =>
      obtain ⟨v, H', I3, rv, q3⟩ := I1.after hq
      show wpAny _ _ (handedOut u) _ _ _
      rw [PySem.W.handedOut_of (handed_of rv)]
      exact wpAny_pure ⟨v, H', I3, rv, q3⟩
    | next => exact False.elim hq
    | brk => exact False.elim hq
    | cont => exact False.elim hq
theorem q_prop (B : PrB X.prog X.w X.K X.mg X.base G c m lv fM) (hr : Room k X.A) (hl : lv + 1 ≤ k) (hgd : X.A.guards = some []) (ha : PE X a (tE G E0 ea)) (hab : attributeBase a m X.env (eval a X.env) = eval a X.env := by rfl) :
    PE X (.Attribute a m pos) (tE G E0 (evProp c fM ea)) := by
  obtain ⟨p, f, fd, ps, hc, hp, hb, F⟩ := B.ex
  refine ⟨fun pins s σ H Q I h => ?_⟩
  have h' : tE G E0 ea σ H fun x H1 => ∃ b dx fs, x = .ref b ∧ H1 b = some (.ins (G.CA c) dx fs) ∧ spI G 1 fM [.ref b] H1 Q E0 := by
    obtain ⟨R, ρ, s', M, w, sr, p⟩ := h
    refine stepE w sr p fun R1 ρ1 M1 H1 va v e1 w1 sr1 r1 p1 => ?_
    unfold kProp at p1
    split at p1
    · split at p1
      · rename_i n' k' l' hc'
        split at p1
        · rename_i ek
          subst ek
          obtain ⟨b, dx, vs, rfl, _, hb', _⟩ := ins_read w1 r1 hc'
          exact ⟨b, dx, vs, rfl, hb', rfl, R1, ρ1, M1, _, w1, .cons r1 .nil, p1⟩
        · exact p1.elim
      · exact p1.elim
    · exact p1.elim
  refine attr_of hab (thn (ha.run pins s σ H _ I h') fun u s1 ⟨x, H1, I1, rx, b, dx, fs, ex, eb, q⟩ => ?_)
  subst ex
  obtain rfl : u = Value.ref b := rx
  exact getprop_G I1 eb hc hp F (hr.mono hl) hgd hb .nil pass0 q
theorem meth_obj {R : Hp} {ρ : List Addr} {M : Store} {H : Hp} {va : Va} {v : V} (w : Wd G R ρ M H) (r : VR G R ρ va v) (h : isObj c m M va = true) : ∃ b dx fs, v = .ref b ∧ H b = some (.ins (G.CA c) dx fs) ∧ fs.lookup m = none := by
  unfold isObj at h
  split at h
  · split at h
    · rename_i n' k' l' hc'
      rw [Bool.and_eq_true, decide_eq_true_eq] at h
      obtain ⟨ek, hl⟩ := h
      subst ek
      obtain ⟨b, dx, vs, rfl, _, hb', rf⟩ := ins_read w r hc'
      exact ⟨b, dx, vs, rfl, hb', rf.none (by simpa using hl)⟩
    · cases h
  · cases h
theorem q_meth {pl : Sem Bool} (B : MeB X.prog X.w X.K X.mg X.base G c m lv n fM) (hr : Room k X.A) (hl : lv ≤ k) (hgd : X.A.guards = some []) (ho : PE X o (tE G E0 eo)) (ha : PA X (e :: es) (tA G E0 ea))
    (hst : starEach (e :: es) X.env = (false, eval e X.env) :: starEach es X.env := by rfl) (hpl : (backTo pos (starEach es X.env)).any (·.1) = false := by rfl)
    (ht : eval (.Call (.Attribute o m apos) (e :: es) [] pos) X.env = (do
      let ov ← eval o X.env
      standAt apos.atName
      let (f, first) ← holding [ov] (getMethod ov m pl)
      callWith pos f first (backTo pos (starEach (e :: es) X.env)) (backToKw pos (keywordEach [] X.env))) := by rfl) :
    PE X (.Call (.Attribute o m apos) (e :: es) [] pos) (tE G E0 (evMeth c m n fM eo ea)) := by
  obtain ⟨f, fd, ps, hc, hm, hb, F⟩ := B.ex
  refine ⟨fun pins s σ H Q I h => ?_⟩
  have h' : tE G E0 eo σ H fun x H1 => ∃ b dx fs, x = .ref b ∧ H1 b = some (.ins (G.CA c) dx fs) ∧ fs.lookup m = none ∧ tA G E0 ea σ H1 fun vs H2 => spI G (n + 1) fM (x :: vs) H2 Q E0 := by
    obtain ⟨R, ρ, s', M, w, sr, p⟩ := h
    refine stepE w sr p fun R1 ρ1 M1 H1 va v e1 w1 sr1 r1 p1 => ?_
    split at p1
    · rename_i hob
      obtain ⟨b, dx, fs, rfl, hb', hn⟩ := meth_obj w1 r1 hob
      refine ⟨b, dx, fs, rfl, hb', hn, stepA w1 sr1 p1 fun R2 ρ2 M2 H2 l vs e2 w2 sr2 r2 p2 => ?_⟩
      by_cases hl : l.length = n
      · rw [if_pos hl] at p2
        exact ⟨by rw [List.length_cons, ← r2.length, hl], R2, ρ2, M2, va :: l, w2, .cons (r1.mono e2.gr) r2, p2⟩
      · rw [if_neg hl] at p2; exact p2.elim
    · exact p1.elim
  refine PySem.W.methodCall_KW (pl := pl) (thn (ho.run pins s σ H _ I h') fun u s1 ⟨x, H1, I1, rx, b, dx, fs, ex, ea, l, q⟩ => ?_) ht
  subst ex
  obtain rfl : u = Value.ref b := rx
  refine getmeth_ok I1 ea hc hm l ?_
  refine PySem.W.callWith_K (first := [.ref b]) (h₀ := X.base) I.ok.mod.kin hm.kp (thn (ha.run pos pins s1 σ H1 _ I1 q) fun us s2 ⟨vs, H2, I2, r, q2⟩ => ⟨I2.kIn, ?_⟩) hst hpl
  exact run_fnG (us := .ref b :: us) (vs := .ref b :: vs) F (hr.mono hl) hgd hb .nil pass0 I2 (.cons rfl r) (by rw [List.append_nil]; exact q2)
theorem q_meth0 {pl : Sem Bool} (B : MeB X.prog X.w X.K X.mg X.base G c m lv 0 fM) (hr : Room k X.A) (hl : lv ≤ k) (hgd : X.A.guards = some []) (ho : PE X o (tE G E0 eo))
    (ht : eval (.Call (.Attribute o m apos) [] [] pos) X.env = (do
      let ov ← eval o X.env
      standAt apos.atName
      let (f, first) ← holding [ov] (getMethod ov m pl)
      callWith pos f first (backTo pos (starEach [] X.env)) (backToKw pos (keywordEach [] X.env))) := by rfl) :
    PE X (.Call (.Attribute o m apos) [] [] pos) (tE G E0 (evMeth c m 0 fM eo evNil)) := by
  obtain ⟨f, fd, ps, hc, hm, hb, F⟩ := B.ex
  refine ⟨fun pins s σ H Q I h => ?_⟩
  have h' : tE G E0 eo σ H fun x H1 => ∃ b dx fs, x = .ref b ∧ H1 b = some (.ins (G.CA c) dx fs) ∧ fs.lookup m = none ∧ spI G 1 fM [x] H1 Q E0 := by
    obtain ⟨R, ρ, s', M, w, sr, p⟩ := h
    refine stepE w sr p fun R1 ρ1 M1 H1 va v e1 w1 sr1 r1 p1 => ?_
    split at p1
    · rename_i hob
      obtain ⟨b, dx, fs, rfl, hb', hn⟩ := meth_obj w1 r1 hob
      exact ⟨b, dx, fs, rfl, hb', hn, rfl, R1, ρ1, M1, [va], w1, .cons r1 .nil, p1⟩
    · exact p1.elim
  refine PySem.W.methodCall_KW (pl := pl) (thn (ho.run pins s σ H _ I h') fun u s1 ⟨x, H1, I1, rx, b, dx, fs, ex, ea, l, q⟩ => ?_) ht
  subst ex
  obtain rfl : u = Value.ref b := rx
  refine getmeth_ok I1 ea hc hm l ?_
  exact PySem.W.callWith_K0 (first := [.ref b]) I1.kIn hm.kp (run_fnG (us := [.ref b]) (vs := [.ref b]) F (hr.mono hl) hgd hb .nil pass0 I1 (.cons rfl .nil) (by exact q))
/-- == of two objects of a class with its own -/
structure EqB (P : Program) (w : World) (K : PySem.W.Frag) (mg : Str → Option Value) (base : Heap) (G : Sig) (c : Nat) (lv : Nat) (fM : FM) : Prop where
  ex : ∃ (f : Addr) (fd : FuncData) (ps : List Str), PySem.W.findIn K (.ref (G.CA c)) "__eq__" = some (some (.ref f)) ∧ PySem.W.isFn K (.ref f) = true ∧ Binds K fd ps [] ∧ FnG P w K mg base CX0 lv f fd ps (spI G 2 fM)
def rOwnEq (G : Sig) (c : Nat) (fM : FM) : R2 := fun x y H Q => ∃ a b dx dy fs gs, x = .ref a ∧ y = .ref b ∧ H a = some (.ins (G.CA c) dx fs) ∧ H b = some (.ins (G.CA c) dy gs) ∧ spI G 2 fM [.ref a, .ref b] H Q E0
theorem op_eqOwn (B : EqB X.prog X.w X.K X.mg X.base G c lv fM) (hr : Room k X.A) (hl : lv ≤ k) (hgd : X.A.guards = some []) : OpR X (compareOp .Eq) (rOwnEq G c fM) := by
  intro pins s σ H x y v u Q I rx ry ⟨a, b, dx, dy, fs, gs, ex, ey, ha, hb', hsp⟩
  obtain ⟨f, fd, ps, hs, hf, hb, F⟩ := B.ex
  subst ex ey
  cases rx
  cases ry
  obtain ⟨mA, J, _⟩ := ins_get I.hok ha
  obtain ⟨mB, J', _⟩ := ins_get I.hok hb'
  obtain ⟨od, J, _⟩ := J.look
  obtain ⟨od', J', _⟩ := J'.look
  obtain ⟨m, hF⟩ := I.fr
  refine PySem.W.cmp_K (op := .Eq) (tb := .ref (G.CA c)) hr.units0 hF I.ok.mod.kin J J'.type (by simp [PySem.W.notFirst]) hs hf ?_
  refine wpAny_mono (run_fnG (us := [.ref a, .ref b]) (vs := [.ref a, .ref b]) F (hr.mono hl) hgd hb .nil pass0 I (.cons rfl (.cons rfl .nil)) (by exact hsp)) (fun r s' hq => ?_) fun _ _ x => x
  obtain ⟨z, H', I', rz, q⟩ := hq
  cases r with
  | notImplemented =>
    cases z <;> first
      | (obtain ⟨_, e⟩ := rz; exact (nomatch e))
      | exact (nomatch rz)
  | _ => exact ⟨z, H', I', rz, q⟩
noncomputable def evEqOwn (c : Nat) (f : FM) (ea eb : SE) : SE := fun s M => bindO (ea s M) fun va M1 => bindO (eb s M1) fun vb M2 => if isObj c "" M2 va = true ∧ isObj c "" M2 vb = true then f [va, vb] M2 else (match opEq M2 va vb with
  | some r => some (.val r, M2)
  | none => none)
theorem own_sim {r : R2} {a b : Expr} {ea eb : SE} (hs : Op2 G r opEq) {σ : L2.St} {H : Hp} {Q : VK} (h : tE G E0 (evEqOwn c fM ea eb) σ H Q) : tOp (fun x y H Q => r x y H Q ∨ rOwnEq G c fM x y H Q) (tE G E0 ea) (tE G E0 eb) σ H Q := by
  obtain ⟨R, ρ, s', M, w, sr, p⟩ := h
  refine stepE w sr p fun R1 ρ1 M1 H1 va v e1 w1 sr1 r1 p1 => stepE w1 sr1 p1 fun R2 ρ2 M2 H2 vb u e2 w2 sr2 r2 p2 => ?_
  have r1' := r1.mono e2.gr
  split at p2
  · rename_i hob
    obtain ⟨a, dx, fs, rfl, ha, _⟩ := meth_obj w2 r1' hob.1
    obtain ⟨b, dy, gs, rfl, hb, _⟩ := meth_obj w2 r2 hob.2
    exact .inr ⟨a, b, dx, dy, fs, gs, rfl, rfl, ha, hb, rfl, R2, ρ2, M2, [va, vb], w2, .cons r1' (.cons r2 .nil), p2⟩
  · refine .inl ?_
    cases q : opEq M2 va vb with
    | none => rw [q] at p2; exact p2.elim
    | some res => rw [q] at p2; exact hs R2 ρ2 M2 H2 v u va vb res Q w2 r1' r2 q p2
theorem q_eqOwn {r : R2} {a b : Expr} {ea eb : SE} (B : EqB X.prog X.w X.K X.mg X.base G c lv fM) (hr : Room k X.A) (hl : lv ≤ k) (hgd : X.A.guards = some []) (ho : OpR X (compareOp .Eq) r) (hs : Op2 G r opEq) (ha : PE X a (tE G E0 ea)) (hb : PE X b (tE G E0 eb)) :
    PE X (.Compare a [.Eq] [b] pos) (tE G E0 (evEqOwn c fM ea eb)) :=
  pe_imp (pe_cmpR (OpR.or ho (op_eqOwn B hr hl hgd)) ha hb (nomark _)) fun σ H Q h => own_sim (a := a) (b := b) hs h
theorem qt_eqOwn {r : R2} {a b : Expr} {ea eb : SE} (B : EqB X.prog X.w X.K X.mg X.base G c lv fM) (hr : Room k X.A) (hl : lv ≤ k) (hgd : X.A.guards = some []) (ho : OpR X (compareOp .Eq) r) (hs : Op2 G r opEq) (ha : PE X a (tE G E0 ea)) (hb : PE X b (tE G E0 eb)) :
    PT X (.Compare a [.Eq] [b] pos) (tT G E0 (evEqOwn c fM ea eb)) :=
  pt_imp (pt_cmpR (OpR.or ho (op_eqOwn B hr hl hgd)) ha hb (nomark _)) fun σ H Q h => own_sim (a := a) (b := b) hs (toT h)
end
end PV

set_option Elab.async false
set_option linter.all false
set_option maxRecDepth 100000
set_option maxHeartbeats 4000000
namespace PV
open PySem L2
open PyProof.Rows

/-! ### x += e -/
def augO (x y : Va) (M : Store) : Option (Va × Store) := match x with
  | .int i => (match y with
    | .int j => some (.int (i + j), M)
    | _ => none)
  | .str a => (match y with
    | .str b => if a.length + b.length ≤ sizeLine then some (.str (a ++ b), M) else none
    | _ => none)
  | .cel n => (match M.c n, ownOf M y with
    | some (.lst l), some m => if l.length + m.length ≤ sizeLine then some (.cel n, M.put n (.lst (l ++ m))) else none
    | _, _ => none)
  | _ => none
def sAug (i : Nat) (e : SE) : SS := fun s M => match s[i]? with
  | some (some x) => (match e s M with
    | some (.val y, M1) => (match augO x y M1 with
      | some (z, M2) => some (.nx, s.set i (some z), M2)
      | none => none)
    | some (.exc c v, M1) => some (.exc c v, s, M1)
    | none => none)
  | _ => none
def ipAny : TIp := fun x y H Q => (ipI (fun i j => i + j) x y H Q ∨ rAddS x y H Q) ∨ rExt2 x y H Q
section
variable {X : Cx} {G : Sig} {E : XK} {e : Expr} {ee : SE} {pos pos' : Pos} {i : Nat} {x : Str}
theorem pip_any : PIp X .Add ipAny := by
  intro pins s σ H x y v u Q I rx ry h
  rcases h with (h | h) | h
  · exact ip_add pins s σ H x y v u Q I rx ry h
  · exact in_addS pins s σ H x y v u Q I rx ry h
  · exact iop_ext pins s σ H x y v u Q I rx ry h
theorem aug_sim {R : Hp} {ρ : List Addr} {M M' : Store} {H : Hp} {vx vy z : Va} {x y : V} {Q : VK} (w : Wd G R ρ M H) (rx : VR G R ρ vx x) (ry : VR G R ρ vy y) (h : augO vx vy M = some (z, M')) (g : Gives G R ρ H M' z Q) : ipAny x y H Q := by
  unfold augO at h
  split at h
  · split at h
    · cases h; cases rx; cases ry
      exact .inl (.inl ⟨_, _, rfl, rfl, gives_now w (.int _) g⟩)
    · cases h
  · split at h
    · cases rx; cases ry
      split at h
      · rename_i hz; cases h
        exact .inl (.inr ⟨_, _, rfl, rfl, hz, gives_now w (.str _) g⟩)
      · cases h
    · cases h
  · rename_i n
    split at h
    · rename_i l m hc hm
      split at h
      · rename_i hz; cases h
        obtain ⟨b, zs, ey, hb, rz, _⟩ := own_read w ry hm
        cases rx with
        | cel en =>
          obtain ⟨a, e1, ra, vs, ha, z, r0⟩ := w.cel n _ hc
          rw [en] at e1
          cases e1
          refine .inr ⟨_, b, vs, zs, rfl, ey, ha, hb, by rw [← r0.length, ← rz.length]; exact hz, ?_⟩
          obtain ⟨ex, wd⟩ := write_cel (o := .lst (vs ++ zs)) (y := .lst (l ++ m)) w hc en ⟨_, upd_same, by rw [List.length_append]; exact hz, r0.append rz⟩
          exact g _ _ _ _ ex wd (.cel en)
      · cases h
    · cases h
  · cases h
theorem qs_aug (i : Nat) (hN : X.N.Nodup) (hi : X.N[i]? = some x) (hx : Loc X.env.scope x) (he : PE X e (tE G E ee)) (hf : X.fn x = true ∨ X.env.scope.names.lookup x = some .local := by first | exact .inl rfl | exact .inr rfl | assumption) :
    PS X (.AugAssign (.Name x pos') .Add e pos) (tS G E (sAug i ee)) :=
  ps_imp (ps_aug hN hi hx he pip_any hf) fun D σ H ⟨R, ρ, s, M, w, sr, p⟩ => by
    unfold sAug at p
    split at p
    · rename_i vx hv
      obtain ⟨xv, hxv, rx⟩ := sr.at_ i vx hv
      refine ⟨xv, hxv, R, ρ, s, M, w, sr, ?_⟩
      rcases q : ee s M with _ | ⟨y | ⟨c, y⟩, M1⟩ <;> rw [q] at p
      · exact p
      · intro R1 ρ1 H1 yv e1 w1 r1
        dsimp only at p
        cases q2 : augO vx y M1 with
        | none => rw [q2] at p; exact p.elim
        | some zz =>
          obtain ⟨z, M2⟩ := zz
          rw [q2] at p
          refine aug_sim w1 (rx.mono e1.gr) r1 q2 fun R2 ρ2 H2 zv e2 w2 r2 => ?_
          exact p R2 ρ2 H2 _ (e1.trans e2) w2 ((sr.mono (e1.trans e2).gr).set i r2)
      · exact p
    · exact p.elim

/-! ### xs[::-1] -/
def opRev (M : Store) (x : Va) : Option Va := (lstOf M x).map fun l => .lst l.reverse
theorem q_rev {k : Nat} {p1 p2 p3 : Pos} (hK : X.K = G.K) (he : PE X e (tE G E ee)) : PE X (.Subscript e (.Slice none none (some (.UnaryOp .USub (.Constant (.int 1) k p1) p2)) p3) pos) (tE G E (ev1 opRev ee)) :=
  pe_imp (pe_revL he) fun σ H Q ⟨R, ρ, s, M, w, sr, p⟩ => stepE w sr p fun R1 ρ1 M1 H1 va v e1 w1 sr1 r1 p1 => by
    unfold opRev at p1
    cases q : lstOf M1 va with
    | none => rw [q] at p1; exact p1.elim
    | some l =>
      rw [q] at p1
      obtain ⟨a, vs, rfl, sq, rv, z⟩ := lst_read w1 r1 q
      exact ⟨a, vs, rfl, by rw [hK]; exact sq, fun p hp => gives_lst w1 rv.reverse (by rw [List.length_reverse]; exact z) p1 hp⟩

/-! ### f-strings -/
def evFmt (e : SE) : SE := ev1 (fun _ v => match v with
  | .str a => if a.length ≤ sizeLine then some (.str a) else none
  | .int i => if i.natAbs.log2 < 1920 then some (.str (toString i)) else none
  | _ => none) e
theorem q_fmt (he : PE X e (tE G E ee)) : PE X (.FormattedValue e (-1) none pos) (tE G E (evFmt ee)) :=
  pe_imp (pe_fmt he) fun σ H Q ⟨R, ρ, s, M, w, sr, p⟩ => stepE w sr p fun R1 ρ1 M1 H1 va v e1 w1 sr1 r1 p1 => by
    cases r1 <;> first | exact p1.elim | skip
    · rename_i i
      dsimp only at p1
      split at p1
      · rename_i q
        split at q
        · cases q
          rename_i hz
          exact .inr ⟨_, rfl, hz, gives_now w1 (.str _) p1⟩
        · cases q
      · exact p1.elim
    · rename_i a
      dsimp only at p1
      split at p1
      · rename_i q
        split at q
        · cases q
          rename_i hz
          exact .inl ⟨_, rfl, hz, gives_now w1 (.str _) p1⟩
        · cases q
      · exact p1.elim
def evJs : List SE → Str → SE
  | [], acc => fun _ M => some (.val (.str acc), M)
  | e :: r, acc => fun s M => bindO (e s M) fun v M1 => match v with
    | .str y => if (acc ++ y).length ≤ sizeLine then evJs r (acc ++ y) s M1 else none
    | _ => none
theorem js_sim {σ : L2.St} : ∀ (es : List SE) {R : Hp} {ρ : List Addr} {M : Store} {H : Hp} {s : SL} {Q : VK} (acc : Str), Wd G R ρ M H → SR G R ρ s σ → Post G R ρ H (evJs es acc s M) Q E → tJs (es.map fun e => tE G E e) acc σ H fun out H1 => Q (.str out) H1
  | [], R, ρ, M, H, s, Q, acc, w, sr, p => p R ρ H _ Ext.refl w (.str _)
  | e :: r, R, ρ, M, H, s, Q, acc, w, sr, p => by
    show tE G E e σ H fun x H1 => ∃ y : Str, x = .str y ∧ (acc ++ y).length ≤ sizeLine ∧ tJs (r.map fun e => tE G E e) (acc ++ y) σ H1 fun out H1 => Q (.str out) H1
    refine stepE w sr p fun R1 ρ1 M1 H1 va v e1 w1 sr1 r1 p1 => ?_
    cases r1 <;> first | exact p1.elim | skip
    rename_i y
    dsimp only at p1
    split at p1
    · rename_i hz
      exact ⟨y, rfl, hz, js_sim r (acc ++ y) w1 sr1 p1⟩
    · exact p1.elim
theorem qj_nil : PJ X [] (([] : List SE).map fun e => tE G E e) := .nil
theorem qj_cons {es : List Expr} {ts : List SE} (h : PE X e (tE G E ee)) (r : PJ X es (ts.map fun e => tE G E e)) : PJ X (e :: es) ((ee :: ts).map fun e => tE G E e) := .cons h r
theorem q_joined {v1 v2 : Expr} {rest : List Expr} {ts : List SE} (h : PJ X (v1 :: v2 :: rest) (ts.map fun e => tE G E e)) : PE X (.JoinedStr (v1 :: v2 :: rest) pos) (tE G E (evJs ts Str.empty)) :=
  pe_imp (pe_joined h) fun σ H Q ⟨R, ρ, s, M, w, sr, p⟩ => js_sim ts _ w sr p

/-! ### enumerate, zip -/
def enumL : Nat → List Va → List Va
  | _, [] => []
  | i, x :: r => .tup [.int (i : Nat), x] :: enumL (i + 1) r
theorem enumL_get : ∀ (l : List Va) (k i : Nat), (enumL k l)[i]? = l[i]?.map fun x => .tup [.int ((k + i : Nat) : Int), x]
  | [], _, _ => by simp [enumL]
  | x :: r, k, 0 => by simp [enumL]
  | x :: r, k, i + 1 => by
    rw [enumL, List.getElem?_cons_succ, List.getElem?_cons_succ, enumL_get r (k + 1) i]
    have : k + 1 + i = k + (i + 1) := by omega
    rw [this]
theorem enumL_len : ∀ (l : List Va) (k : Nat), (enumL k l).length = l.length
  | [], _ => rfl
  | x :: r, k => by rw [enumL, List.length_cons, List.length_cons, enumL_len r]
def itEn (e : SE) : SI := fun s M => match e s M with
  | none => none
  | some (.val (.tup [v]), M1) => (match lstOf M1 v with
    | some l => some (.it (enumL 0 l) (fun M => lstOf M v = some l), M1)
    | none => none)
  | some (.val _, _) => none
  | some (.exc c v, M1) => some (.exc c v, M1)
theorem qi_enum {p tpos : Pos} {elts : List Expr} {kk : Nat} (hK : X.K = G.K) (hg : Gl X "enumerate") (hm : X.mg "enumerate" = none) (ha : PA X [e] (tA G E ee)) (hs : starEach [e] X.env = [(false, eval e X.env)] := by rfl) :
    PI X (.Tuple elts kk tpos) (.Call (.Name "enumerate" p) [e] [] pos) (tI G E (itEn ee)) :=
  pi_imp (pi_enum hg hm ha hs) fun σ H Q ⟨R, ρ, s, M, w, sr, p⟩ => by
    refine ⟨R, ρ, s, M, w, sr, ?_⟩
    unfold itEn at p
    rcases q : ee s M with _ | ⟨x | ⟨c, x⟩, M1⟩ <;> rw [q] at p
    · exact p
    · split at p
      · rename_i h; cases h
      · rename_i v M2 h
        cases h
        intro R1 ρ1 H1 vs e1 w1 r1
        obtain ⟨xv, rfl, rx⟩ := one_of r1
        cases q2 : lstOf M1 v with
        | none => rw [q2] at p; exact p.elim
        | some l =>
          rw [q2] at p
          obtain ⟨ad, vs, rfl, hv, rv, hz⟩ := lst_read w1 rx q2
          refine ⟨ad, vs, rfl, by rw [hK]; exact hv, p R1 ρ1 H1 (Ite X.K ad) e1 w1 (by rw [enumL_len]; exact hz) fun R2 ρ2 M2 H2 g2 w2 ck => ?_⟩
          obtain ⟨ad', vs', e', hv', rv', _⟩ := lst_read w2 (rx.mono g2) ck
          cases e'
          rw [hK]
          refine ⟨fun i y hy => ?_, fun i hi => ⟨vs', hv', by rw [← rv'.length, ← enumL_len l 0]; exact hi⟩⟩
          rw [enumL_get] at hy
          cases q3 : l[i]? with
          | none => rw [q3] at hy; cases hy
          | some y' =>
            rw [q3] at hy
            cases hy
            obtain ⟨u, hu, ru⟩ := rv'.get q3
            refine ⟨⟨vs', u, hv', hu⟩, fun v H' ⟨T, x', e3, hT, h3, h4⟩ => ?_⟩
            subst e3 h3
            have := h4 vs' hv'
            rw [hu] at this
            cases this
            obtain ⟨ex, wd⟩ := alloc_frz (o := .tup [.int (i : Nat), u]) w2 hT
            refine ⟨_, ex, wd, .tup upd_same (by show 2 ≤ sizeLine; decide) (.cons ?_ (.cons (ru.mono ex.gr) .nil))⟩
            rw [Nat.zero_add]
            exact .int _
      · exact p.elim
      · rename_i h; cases h
    · exact p
def zipL : List Va → List Va → List Va
  | x :: r, y :: t => .tup [x, y] :: zipL r t
  | _, _ => []
theorem zipL_get : ∀ (l m : List Va) (i : Nat) (z : Va), (zipL l m)[i]? = some z → ∃ x y, l[i]? = some x ∧ m[i]? = some y ∧ z = .tup [x, y]
  | [], _, i, z, h => by simp [zipL] at h
  | _ :: _, [], i, z, h => by simp [zipL] at h
  | x :: r, y :: t, 0, z, h => by simp [zipL] at h; exact ⟨x, y, rfl, rfl, h.symm⟩
  | x :: r, y :: t, i + 1, z, h => by
    rw [zipL, List.getElem?_cons_succ] at h
    obtain ⟨x', y', h1, h2, h3⟩ := zipL_get r t i z h
    exact ⟨x', y', by rw [List.getElem?_cons_succ]; exact h1, by rw [List.getElem?_cons_succ]; exact h2, h3⟩
theorem zipL_len : ∀ (l m : List Va), (zipL l m).length = min l.length m.length
  | [], _ => by simp [zipL]
  | _ :: _, [] => by simp [zipL]
  | x :: r, y :: t => by
    rw [zipL, List.length_cons, List.length_cons, List.length_cons, zipL_len r t]
    omega
def itZp (e : SE) : SI := fun s M => match e s M with
  | none => none
  | some (.val (.tup [v, u]), M1) => (match lstOf M1 v, lstOf M1 u with
    | some l, some m => some (.it (zipL l m) (fun M => lstOf M v = some l ∧ lstOf M u = some m), M1)
    | _, _ => none)
  | some (.val _, _) => none
  | some (.exc c v, M1) => some (.exc c v, M1)
theorem qi_zip {p tpos : Pos} {elts : List Expr} {kk : Nat} {e2 : Expr} (hK : X.K = G.K) (hg : Gl X "zip") (hm : X.mg "zip" = none) (ha : PA X [e, e2] (tA G E ee))
    (hs : starEach [e, e2] X.env = (false, eval e X.env) :: starEach [e2] X.env := by rfl) (hpl : (backTo pos (starEach [e2] X.env)).any (·.1) = false := by rfl) :
    PI X (.Tuple elts kk tpos) (.Call (.Name "zip" p) [e, e2] [] pos) (tI G E (itZp ee)) :=
  pi_imp (pi_zip hg hm ha hs hpl) fun σ H Q ⟨R, ρ, s, M, w, sr, p⟩ => by
    refine ⟨R, ρ, s, M, w, sr, ?_⟩
    unfold itZp at p
    rcases q : ee s M with _ | ⟨x | ⟨c, x⟩, M1⟩ <;> rw [q] at p
    · exact p
    · split at p
      · rename_i h; cases h
      · rename_i v u M2 h
        cases h
        intro R1 ρ1 H1 vs e1 w1 r1
        obtain ⟨xv, yv, rfl, rx, ry⟩ := two_of r1
        split at p
        · rename_i l m q2 q3
          obtain ⟨ad, vs, rfl, hv, rv, hz⟩ := lst_read w1 rx q2
          obtain ⟨bd, us, rfl, hu, ru, hy⟩ := lst_read w1 ry q3
          refine ⟨ad, bd, vs, us, rfl, by rw [hK]; exact hv, by rw [hK]; exact hu, p R1 ρ1 H1 (Itz X.K ad bd) e1 w1 (by rw [zipL_len]; omega) fun R2 ρ2 M2 H2 g2 w2 ck => ?_⟩
          obtain ⟨ad', vs', e', hv', rv', _⟩ := lst_read w2 (rx.mono g2) ck.1
          cases e'
          obtain ⟨bd', us', e'', hu', ru', _⟩ := lst_read w2 (ry.mono g2) ck.2
          cases e''
          rw [hK]
          refine ⟨fun i z hz => ?_, fun i hi => ⟨vs', us', hv', hu', by rw [← rv'.length, ← ru'.length]; rw [zipL_len] at hi; omega⟩⟩
          obtain ⟨x, y, hx, hy, rfl⟩ := zipL_get l m i z hz
          obtain ⟨xu, hxu, rxu⟩ := rv'.get hx
          obtain ⟨yu, hyu, ryu⟩ := ru'.get hy
          refine ⟨⟨vs', us', xu, yu, hv', hu', hxu, hyu⟩, fun v H' ⟨T, x', y', e3, hT, h3, h4, h5⟩ => ?_⟩
          subst e3 h3
          have a1 := h4 vs' hv'
          have a2 := h5 us' hu'
          rw [hxu] at a1
          rw [hyu] at a2
          cases a1
          cases a2
          obtain ⟨ex, wd⟩ := alloc_frz (o := .tup [xu, yu]) w2 hT
          exact ⟨_, ex, wd, .tup upd_same (by show 2 ≤ sizeLine; decide) (.cons (rxu.mono ex.gr) (.cons (ryu.mono ex.gr) .nil))⟩
        · exact p.elim
      · exact p.elim
      · rename_i h; cases h
    · exact p
end
end PV

set_option Elab.async false
set_option linter.all false
set_option maxRecDepth 100000
set_option maxHeartbeats 4000000
namespace PV
open PySem L2
open PyProof.Rows

/-! ### lists of unlike length are not equal, whatever they hold -/
def rEqLen (K : PySem.W.Frag) : R2 := fun x y H Q => ∃ a b xs ys, x = .ref a ∧ y = .ref b ∧ SqL K H a xs ∧ SqL K H b ys ∧ xs.length ≠ ys.length ∧ Q (.bl false) H
section
variable {X : Cx} {G : Sig} {k : Nat}
theorem op_eqLen (hr : Room k X.A) : OpR X (compareOp .Eq) (rEqLen X.K) := by
  intro pins s σ H x y v u Q I rx ry ⟨a, b, xs, ys, ex, ey, sx, sy, hne, q⟩
  subst ex ey
  cases rx
  cases ry
  obtain ⟨its, rv, ⟨⟨c1, d1, t1, l1⟩, n, ho, hc, hdn, hd⟩, _⟩ := I.list sx
  obtain ⟨its2, rv2, ⟨⟨c2, d2, t2, l2⟩, n2, ho2, hc2, hdn2, hd2⟩, _⟩ := I.list sy
  simp only at hc hd hc2 hd2
  subst hc hd hc2 hd2
  have hsz : (its.toArray.size != its2.toArray.size) = true := by
    rw [List.size_toArray, List.size_toArray, ← rv.length, ← rv2.length]
    simpa using hne
  exact wpAny_richCompare_same_room (op := .Eq) ⟨_, ho, rfl⟩ ⟨_, ho2, rfl⟩ F.slot_list_eq (call_meets F.slot_list_eq ⟨_, ho, rfl⟩ F.entry_list_eq (F.args_list_eq_2 _ _) (SeqAt.list_eq_lengthsAt a b _ _ n n2 d1 d2 l1 l2 hsz) ⟨ho, ho2, (fun z => nomatch z), .bl false, H, I, rfl, q⟩) hr.units0
def rNeLen (K : PySem.W.Frag) : R2 := fun x y H Q => ∃ a b xs ys, x = .ref a ∧ y = .ref b ∧ SqL K H a xs ∧ SqL K H b ys ∧ xs.length ≠ ys.length ∧ Q (.bl true) H
theorem op_neLen (hr : Room k X.A) : OpR X (compareOp .NotEq) (rNeLen X.K) := by
  intro pins s σ H x y v u Q I rx ry ⟨a, b, xs, ys, ex, ey, sx, sy, hne, q⟩
  subst ex ey
  cases rx
  cases ry
  obtain ⟨its, rv, ⟨⟨c1, d1, t1, l1⟩, n, ho, hc, hdn, hd⟩, _⟩ := I.list sx
  obtain ⟨its2, rv2, ⟨⟨c2, d2, t2, l2⟩, n2, ho2, hc2, hdn2, hd2⟩, _⟩ := I.list sy
  simp only at hc hd hc2 hd2
  subst hc hd hc2 hd2
  have hsz : (its.toArray.size != its2.toArray.size) = true := by
    rw [List.size_toArray, List.size_toArray, ← rv.length, ← rv2.length]
    simpa using hne
  exact wpAny_richCompare_same_room (op := .NotEq) ⟨_, ho, rfl⟩ ⟨_, ho2, rfl⟩ F.slot_list_ne (call_meets F.slot_list_ne ⟨_, ho, rfl⟩ F.entry_list_ne (F.args_list_ne_2 _ _) (SeqAt.list_ne_lengthsAt a b _ _ n n2 d1 d2 l1 l2 hsz) ⟨ho, ho2, (fun z => nomatch z), .bl true, H, I, rfl, q⟩) hr.units0
noncomputable def opEqX (M : Store) (a b : Va) : Option Va := match opEq M a b with
  | some r => some r
  | none => (match lstOf M a, lstOf M b with
    | some l, some m => if l.length ≠ m.length then some (.bl false) else none
    | _, _ => none)
noncomputable def opNeX (M : Store) (a b : Va) : Option Va := match opNe M a b with
  | some r => some r
  | none => (match lstOf M a, lstOf M b with
    | some l, some m => if l.length ≠ m.length then some (.bl true) else none
    | _, _ => none)
theorem s_eqX {r : R2} (hK : X.K = G.K) (hs : Op2 G r opEq) : Op2 G (fun x y H Q => r x y H Q ∨ rEqLen X.K x y H Q) opEqX := by
  intro R ρ M H x y va vb res Q w ra rb h g
  unfold opEqX at h
  split at h
  · rename_i r' h'
    cases h
    exact .inl (hs R ρ M H x y va vb _ Q w ra rb h' g)
  · split at h
    · rename_i l m hl hm
      split at h
      · rename_i hne
        cases h
        obtain ⟨a, vs, ex, sa, rv, _⟩ := lst_read w ra hl
        obtain ⟨b, us, ey, sb, ru, _⟩ := lst_read w rb hm
        exact .inr ⟨a, b, vs, us, ex, ey, by rw [hK]; exact sa, by rw [hK]; exact sb, by rw [← rv.length, ← ru.length]; exact hne, gives_now w (.bl _) g⟩
      · cases h
    · cases h
theorem s_neX {r : R2} (hK : X.K = G.K) (hs : Op2 G r opNe) : Op2 G (fun x y H Q => r x y H Q ∨ rNeLen X.K x y H Q) opNeX := by
  intro R ρ M H x y va vb res Q w ra rb h g
  unfold opNeX at h
  split at h
  · rename_i r' h'
    cases h
    exact .inl (hs R ρ M H x y va vb _ Q w ra rb h' g)
  · split at h
    · rename_i l m hl hm
      split at h
      · rename_i hne
        cases h
        obtain ⟨a, vs, ex, sa, rv, _⟩ := lst_read w ra hl
        obtain ⟨b, us, ey, sb, ru, _⟩ := lst_read w rb hm
        exact .inr ⟨a, b, vs, us, ex, ey, by rw [hK]; exact sa, by rw [hK]; exact sb, by rw [← rv.length, ← ru.length]; exact hne, gives_now w (.bl _) g⟩
      · cases h
    · cases h

/-! ### a joined list, a repeated one, {} as they will change or not -/
def evCatC (ea eb : SE) : SE := fun s M => bindO (ea s M) fun va M1 => bindO (eb s M1) fun vb M2 => match ownOf M2 va, ownOf M2 vb with
  | some l, some m => if l.length + m.length ≤ sizeLine then some (.val (.cel M2.nx), M2.new (.lst (l ++ m))) else none
  | _, _ => none
theorem q_catC {E : XK} {a b : Expr} {ea eb : SE} {pos : Pos} (ha : PE X a (tE G E ea)) (hb : PE X b (tE G E eb)) : PE X (.BinOp a .Add b pos) (tE G E (evCatC ea eb)) :=
  pe_imp (pe_op op_cat ha hb) fun σ H Q ⟨R, ρ, s, M, w, sr, p⟩ => stepE w sr p fun R1 ρ1 M1 H1 va v e1 w1 sr1 r1 p1 => stepE w1 sr1 p1 fun R2 ρ2 M2 H2 vb u e2 w2 sr2 r2 p2 => by
    split at p2
    · rename_i l m hl hm
      split at p2
      · rename_i hz
        obtain ⟨a, vs, rfl, ha, rv, _⟩ := own_read w2 (r1.mono e2.gr) hl
        obtain ⟨b, us, rfl, hb, ru, _⟩ := own_read w2 r2 hm
        exact ⟨a, b, vs, us, rfl, rfl, ha, hb, by rw [← rv.length, ← ru.length]; exact hz, fun p hp => gives_new w2 (rv.append ru) (by rw [List.length_append]; exact hz) p2 hp⟩
      · exact p2.elim
    · exact p2.elim
def evDNewF : SE := evC (.dic [])
theorem q_dnewF {E : XK} {pos : Pos} : PE X (.Dict [] [] pos) (tE G E evDNewF) := pe_imp pe_dnewK fun σ H Q ⟨R, ρ, s, M, w, sr, p⟩ q hq => gives_dic w .nil (Nat.zero_le _) p hq

/-! ### isinstance of an object of a class -/
def opIsC (c : Nat) (M : Store) : Va → Option Va
  | .cel n => (match M.c n with
    | some (.ins k _) => if k = c then some (.bl true) else none
    | _ => none)
  | _ => none
structure IsB (K : PySem.W.Frag) (mg : Str → Option Value) (G : Sig) (x : Str) (c : Nat) : Prop where
  m : mg x = some (.ref (G.CA c))
  i : C8.InsC K (G.CA c)
theorem q_isC {E : XK} {e : Expr} {ee : SE} {pos p p2 : Pos} {x : Str} {c : Nat} (B : IsB X.K X.mg G x c) (hx : Gl X x) (hg : Gl X "isinstance") (hm : X.mg "isinstance" = none) (he : PE X e (tE G E ee)) (hdb : (x == ("__debug__" : Str)) = false := by decide)
    (hst : starEach [e, .Name x p2] X.env = (false, eval e X.env) :: starEach [.Name x p2] X.env := by rfl) (hpl : (backTo pos (starEach [.Name x p2] X.env)).any (·.1) = false := by rfl) :
    PE X (.Call (.Name "isinstance" p) [e, .Name x p2] [] pos) (tE G E (ev1 (opIsC c) ee)) :=
  pe_imp (pe_callB (id := "isinstance") (C8.call_isC B.i) hg hm (by decide +kernel) (pa_cons he (pa_cons (pe_glob (v := V.ref (G.CA c)) hx B.m rfl hdb) pa_nil) (hs := hst)) (he := hst) (hpl := hpl)) fun σ H Q ⟨R, ρ, s, M, w, sr, p⟩ => stepE w sr p fun R1 ρ1 M1 H1 va v e1 w1 sr1 r1 p1 => by
    cases h : opIsC c M1 va with
    | none => rw [h] at p1; exact p1.elim
    | some res =>
      rw [h] at p1
      unfold opIsC at h
      split at h
      · split at h
        · rename_i n k' l hc
          split at h
          · rename_i ek
            cases h
            subst ek
            obtain ⟨a, dx, vs, rfl, _, ha, _⟩ := ins_read w1 r1 hc
            exact ⟨a, dx, vs, rfl, ha, gives_now w1 (.bl _) p1⟩
          · cases h
        · cases h
      · cases h
end
end PV

set_option Elab.async false
set_option linter.all false
set_option maxRecDepth 100000
set_option maxHeartbeats 4000000
namespace PV
open PySem L2
open PyProof.Rows

/-! ### places, defs of classes -/
def eKy (i : Nat) : Expr → Expr
  | .Dict ks _ _ => (ks.getD i none).getD noE
  | e => e
section
variable {P : Program} {w : World} {K : PySem.W.Frag} {mg : Str → Option Value} {base : Heap} {CA : Nat → Addr} {x qual : Str} {st : Stmt} {f p : Addr} {fd : FuncData} {N ps : List Str} {k n N' c : Nat} {es : SS} {fM : FM}
theorem fnG_by (F : Fun K x qual st f fd) (S : FnScope N ps (defScope st)) (hn : ps.length = n) (hN : N.length = N') (hc : fM = runF N' es)
    (body : ∀ (cdv : Value) (A : Around) (outer : List Env) (s : Shared) (H : Hp) (E : XK), Room k (A.deeper (envOfC qual (defScope st) s.heap.objs.size f cdv)) → A.guards = some [] →
      PSs (cxOf CX0 P w K mg base N qual (defScope st) f cdv A outer s H E).nox (defBody st) (tS ⟨K, CA⟩ E0 es)) : FnG P w K mg base CX0 (k + 1) f fd ps (spI ⟨K, CA⟩ n fM) := by
  subst hn hN hc
  exact ok_fn F S body
theorem mk_of {y : Str} (hm : mg y = some (.ref (CA c))) (M : Mk K (CA c) f) (hb : Binds K fd ps []) (F : FnG P w K mg base CX0 k f fd ps (spI ⟨K, CA⟩ (n + 1) fM)) : MkB P w K mg base ⟨K, CA⟩ y c k n fM := ⟨f, fd, ps, hm, M, hb, F⟩
theorem pr_of {y : Str} (C : Cls K (CA c)) (hp : PropOf K (CA c) y p f) (hb : Binds K fd ps []) (F : FnG P w K mg base CX0 k f fd ps (spI ⟨K, CA⟩ 1 fM)) : PrB P w K mg base ⟨K, CA⟩ c y k fM := ⟨p, f, fd, ps, C, hp, hb, F⟩
theorem me_of {y : Str} (C : Cls K (CA c)) (hp : Meth K (CA c) y f) (hb : Binds K fd ps []) (F : FnG P w K mg base CX0 k f fd ps (spI ⟨K, CA⟩ (n + 1) fM)) : MeB P w K mg base ⟨K, CA⟩ c y k n fM := ⟨f, fd, ps, C, hp, hb, F⟩
theorem eq_of (h1 : PySem.W.findIn K (.ref (CA c)) "__eq__" = some (some (.ref f))) (h2 : PySem.W.isFn K (.ref f) = true) (hb : Binds K fd ps []) (F : FnG P w K mg base CX0 k f fd ps (spI ⟨K, CA⟩ 2 fM)) : EqB P w K mg base ⟨K, CA⟩ c k fM := ⟨f, fd, ps, h1, h2, hb, F⟩
end
theorem qg_tupG {X : Cx} {G : Sig} {es : List Expr} {pos : Pos} {ts : List Tgt} {g : TGs} {ix : List Nat} {k : Nat} {n : Nat} (hK : X.K = G.K) (hc : X.calm = true) (h : QGs X G es g ts ix) (hl : ts.length = n := by rfl) (hn : (assignEach es X.env).length = n := by rfl) (hst : (assignEach es X.env).findIdx? (·.1) = none := by rfl) :
    QG X G (.Tuple es k pos) (gTup G.K n g) (tgTup ts) ix := by
  rw [← hK]
  exact qg_tup hc h hl hn hst
/-! ### clear, of a list or a dict -/
def kClear (o : Va) (M : Store) : Res := match o with
  | .cel n => (match M.c n with
    | some (.lst _) => some (.val .non, M.put n (.lst []))
    | some (.dic _) => some (.val .non, M.put n (.dic []))
    | _ => none)
  | _ => none
def evClear (eo : SE) : SE := fun s M => bindO (eo s M) kClear
section
variable {X : Cx} {G : Sig} {E : XK} {e : Expr} {eo : SE}
theorem q_clear (hL : PE X e (tE G E (evM2 isLstA (kMut cClear) eo evNil))) (hD : PE X e (tE G E (evM2 isDicA (kMut cDClear) eo evNil))) : PE X e (tE G E (evClear eo)) :=
  ⟨fun pins s σ H Q I ⟨R, ρ, s', M, w, sr, p⟩ => by
    unfold evClear at p
    rcases q : eo s' M with _ | ⟨x | ⟨c, x⟩, M1⟩ <;> rw [q] at p
    · exact p.elim
    · rw [bindO_val] at p
      unfold kClear at p
      split at p
      · rename_i n
        split at p
        · rename_i l hc
          refine hL.run pins s σ H Q I ⟨R, ρ, s', M, w, sr, ?_⟩
          have : evM2 isLstA (kMut cClear) eo evNil s' M = some (.val .non, M1.put n (.lst [])) := by
            simp [evM2, q, isLstA, lstOf, hc, evNil, kMut, cClear]
          rw [this]; exact p
        · rename_i l hc
          refine hD.run pins s σ H Q I ⟨R, ρ, s', M, w, sr, ?_⟩
          have : evM2 isDicA (kMut cDClear) eo evNil s' M = some (.val .non, M1.put n (.dic [])) := by
            simp [evM2, q, isDicA, dicOf, hc, evNil, kMut, cDClear]
          rw [this]; exact p
        · exact p.elim
      · exact p.elim
    · refine hL.run pins s σ H Q I ⟨R, ρ, s', M, w, sr, ?_⟩
      have : evM2 isLstA (kMut cClear) eo evNil s' M = some (.exc c x, M1) := by simp [evM2, q]
      rw [this]; exact p⟩
end
end PV

set_option Elab.async false
set_option linter.all false
set_option maxRecDepth 100000
set_option maxHeartbeats 1000000
namespace PV
open PySem L2
/-! ### a list of texts, in a list, a frozen one or a cell -/
theorem inA_strs (z : Str) : ∀ zs : List Str, inA (.str z) (zs.map Va.str) = decide (z ∈ zs)
  | [] => rfl
  | y :: ys => by
    show (eqF (.str y) (.str z) || inA (.str z) (ys.map Va.str)) = _
    rw [inA_strs z ys]
    show ((y == z) || _) = _
    by_cases h : y = z
    · subst h; simp
    · have : (y == z) = false := by rw [beq_eq_false_iff_ne]; exact h
      rw [this]
      simp [Ne.symm h]
theorem flat_strs (zs : List Str) : (zs.map Va.str).all flatA = true := by
  rw [List.all_eq_true]
  intro x hx
  obtain ⟨z, _, rfl⟩ := List.mem_map.mp hx
  rfl
/-- x stands for this list -/
inductive LstAt (M : Store) : Va → List Va → Prop
  | lst (l : List Va) : LstAt M (.lst l) l
  | cel {n : Nat} {l : List Va} : M.c n = some (.lst l) → LstAt M (.cel n) l
theorem LstAt.seq {M : Store} {x : Va} {l : List Va} (h : LstAt M x l) : seqOf M x = some l := by
  cases h with
  | lst => rfl
  | cel h => rw [y_seqC, h]
theorem LstAt.lof {M : Store} {x : Va} {l : List Va} (h : LstAt M x l) : lstOf M x = some l := by
  cases h with
  | lst => rfl
  | cel h => rw [y_lstC, h]
theorem LstAt.own {M : Store} {x : Va} {l : List Va} (h : LstAt M x l) : ownOf M x = some l := by
  cases h with
  | lst => rfl
  | cel h => rw [y_ownC, h]
theorem LstAt.any {M : Store} {x : Va} {l : List Va} (h : LstAt M x l) : ∃ chk : Store → Prop, anyO (some (.val x, M)) = some (.it l chk, M) ∧ chk M ∧ ∀ M', LstAt M' x l → chk M' := by
  cases h with
  | lst => exact ⟨_, rfl, trivial, fun _ _ => trivial⟩
  | @cel n l h =>
    refine ⟨fun M => lstOf M (.cel n) = some l, by rw [z_anyC, h], ?_, fun M' h' => h'.lof⟩
    show lstOf M (.cel n) = some l
    rw [y_lstC, h]
theorem LstAt.len {M : Store} {x : Va} {l : List Va} (h : LstAt M x l) : gLen M [x] = some (.int l.length) := by
  cases h with
  | lst => rfl
  | cel h =>
    show (match seqOf M _ with | some l => some (Va.int l.length) | none => _) = _
    rw [y_seqC, h]
theorem LstAt.ix {M : Store} {x : Va} {l : List Va} (h : LstAt M x l) (i : Int) : opIx M x (.int i) = atI l i := by
  cases h with
  | lst => rfl
  | cel h => rw [y_ixC, h]
theorem LstAt.in_ {M : Store} {x : Va} {zs : List Str} (h : LstAt M x (zs.map Va.str)) (z : Str) : opInD M (.str z) x = some (.bl (decide (z ∈ zs))) := by
  have hs := h.seq
  have e : opIn M (.str z) x = some (.bl (decide (z ∈ zs))) := by
    have e2 : opIn M (.str z) x = (match seqOf M x with | some l => if flatA (.str z) = true ∧ l.all flatA = true then some (Va.bl (inA (.str z) l)) else none | none => none) := by cases h <;> rfl
    rw [e2, hs]
    dsimp only
    rw [if_pos ⟨rfl, flat_strs zs⟩, inA_strs]
  unfold opInD
  rw [e]
theorem LstAt.notIn {M : Store} {x : Va} {zs : List Str} (h : LstAt M x (zs.map Va.str)) (z : Str) : opNotInD M (.str z) x = some (.bl (!decide (z ∈ zs))) := by
  have hs := h.seq
  have e : opNotIn M (.str z) x = some (.bl (!decide (z ∈ zs))) := by
    have e2 : opNotIn M (.str z) x = (match seqOf M x with | some l => if flatA (.str z) = true ∧ l.all flatA = true then some (Va.bl (!inA (.str z) l)) else none | none => none) := by cases h <;> rfl
    rw [e2, hs]
    dsimp only
    rw [if_pos ⟨rfl, flat_strs zs⟩, inA_strs]
  unfold opNotInD
  rw [e]
/-! ### == with the empty list -/
theorem strs_reads {M : Store} : ∀ zs : List Str, PdRs M (zs.map Va.str) (zs.map PyData.str)
  | [] => .nil
  | z :: zs => .cons (.str z) (strs_reads zs)
theorem strs_lay : ∀ {zs : List Str}, (∀ z ∈ zs, PyData.strOk z = true) → PyData.canLayAll0 (zs.map PyData.str) = true
  | [], _ => rfl
  | z :: zs, h => by
    have h1 := h z (by simp)
    have h2 := strs_lay (zs := zs) fun y hy => h y (by simp [hy])
    simp [PyData.canLayAll0, PyData.canLay0, h1, h2]
theorem strs_depth : ∀ zs : List Str, PyData.depthAll (zs.map PyData.str) = 0
  | [] => rfl
  | z :: zs => by simp [PyData.depthAll, PyData.depth, strs_depth zs]
theorem strs_shaped {zs : List Str} (h : ∀ z ∈ zs, PyData.strOk z = true) : SeqAt.shaped (.list (zs.map PyData.str)) = true := by
  simp [SeqAt.shaped, PyData.canLay0, PyData.depth, strs_lay h, strs_depth]
theorem LstAt.eqP_nil {M : Store} {x : Va} {zs : List Str} (h : LstAt M x (zs.map Va.str)) (ok : ∀ z ∈ zs, PyData.strOk z = true) : eqP M x (.lst []) = some (decide (zs = [])) := by
  unfold eqP
  rw [pdOf_eq (.lst h.lof (strs_reads zs)), pdOf_eq (.lst rfl .nil)]
  dsimp only
  rw [if_pos ⟨strs_shaped ok, by decide⟩]
  cases zs <;> simp [PyData.eqv, PyData.eqvAll]
theorem LstAt.eqS_nil {M : Store} {x : Va} {l : List Va} (h : LstAt M x l) : eqS x (.lst []) = none := by
  cases h <;> rfl
theorem LstAt.ne_nil {M : Store} {x : Va} {zs : List Str} (h : LstAt M x (zs.map Va.str)) (ok : ∀ z ∈ zs, PyData.strOk z = true) : opNe M x (.lst []) = some (.bl (!decide (zs = []))) := by
  unfold opNe
  rw [h.eqS_nil, h.eqP_nil ok]; rfl
theorem LstAt.eq_nil {M : Store} {x : Va} {zs : List Str} (h : LstAt M x (zs.map Va.str)) (ok : ∀ z ∈ zs, PyData.strOk z = true) : opEq M x (.lst []) = some (.bl (decide (zs = []))) := by
  unfold opEq
  rw [h.eqS_nil, h.eqP_nil ok]; rfl
/-- the letters -/
def letS : Str := "abcdefghijklmnopqrstuvwxyz"
theorem let_is {M : Store} {r : Int} (h0 : 0 ≤ r) (h1 : r < 26) : opIx M (.str "abcdefghijklmnopqrstuvwxyz") (.int r) = some (.str ⟨#[97 + r.toNat]⟩) := by
  have hl : (tl letS).length = 26 := by decide
  obtain ⟨c, e, _, hc⟩ := at_nat (l := tl letS) h0 (by rw [hl]; exact h1)
  have he : tl letS = (List.range 26).map (97 + ·) := by decide
  rw [he, List.getElem?_map, List.getElem?_range (by omega)] at hc
  cases hc
  show (if letS.length ≤ sizeLine then (atI (tl letS) r).map fun c => Va.str ⟨#[c]⟩ else none) = _
  rw [if_pos (by decide), e]; rfl
/-! ### step by step -/
theorem seq_nx {a b : SS} {s s1 : SL} {M M1 : Store} {r : RS} (h : a s M = some (.nx, s1, M1)) (h2 : b s1 M1 = r) : sSeq a b s M = r := by
  rw [x_seq, h]; exact h2
theorem seq_ret {a b : SS} {s s1 : SL} {M M1 : Store} {v : Va} (h : a s M = some (.ret v, s1, M1)) : sSeq a b s M = some (.ret v, s1, M1) := by
  rw [x_seq, h]
theorem set_val {i : Nat} {e : SE} {s s1 : SL} {M M1 : Store} {v : Va} (h : e s M = some (.val v, M1)) (hs : s.set i (some v) = s1 := by rfl) : sSet i e s M = some (.nx, s1, M1) := by
  rw [x_set, h, ← hs]
theorem drop_val {e : SE} {s : SL} {M M1 : Store} {v : Va} (h : e s M = some (.val v, M1)) : sDrop e s M = some (.nx, s, M1) := by
  rw [x_drop, h]
theorem loop_nx {chk : Store → Prop} {tg : Tgt} {body : SS} {x : Va} {xs : List Va} {s s1 s2 : SL} {M M2 : Store} {r : RS} (hc : chk M) (ht : tg x s M = some s1) (hb : body s1 M = some (.nx, s2, M2)) (hr : loopF chk tg body xs s2 M2 = r) : loopF chk tg body (x :: xs) s M = r := by
  unfold loopF
  rw [if_pos hc, ht]
  dsimp only
  rw [hb]
  exact hr
theorem loop_nil {chk : Store → Prop} {tg : Tgt} {body : SS} {s : SL} {M : Store} (hc : chk M) : loopF chk tg body [] s M = some (.nx, s, M) := by
  unfold loopF
  rw [if_pos hc]
theorem end_ret {a : SS} {s s1 : SL} {M M1 : Store} {v : Va} (h : a s M = some (.ret v, s1, M1)) : endF (a s M) = some (.val v, M1) := by rw [h]; rfl
theorem ret_val {e : SE} {s : SL} {M M1 : Store} {v : Va} (h : e s M = some (.val v, M1)) : sRet e s M = some (.ret v, s, M1) := by rw [x_ret, h]
theorem for_it {src : SI} {tg : Tgt} {body : SS} {s : SL} {M M1 : Store} {l : List Va} {chk : Store → Prop} {r : RS} (h : src s M = some (.it l chk, M1)) (h2 : loopF chk tg body l s M1 = r) : sFor src tg body s M = r := by
  rw [z_for, h]; exact h2
end PV

set_option Elab.async false
set_option linter.all false
set_option maxRecDepth 100000
set_option maxHeartbeats 1000000
set_option exponentiation.threshold 3000
namespace PV
open PySem L2
/-! ### what is small enough to be shown -/
structure Sm (W dp : Nat) (d : PyData) : Prop where
  sh : d.showable = true
  lf : d.leavesShort 14 = true
  wt : d.weight ≤ W
  dp : d.depth ≤ dp
theorem Sm.mono {W W' dp dp' : Nat} {d : PyData} (h : Sm W dp d) (h1 : W ≤ W') (h2 : dp ≤ dp') : Sm W' dp' d := ⟨h.sh, h.lf, Nat.le_trans h.wt h1, Nat.le_trans h.dp h2⟩
theorem Sm.int {n : Int} {w : Nat} (h : n.natAbs < 10 ^ 13) (h2 : n.natAbs < 2 ^ w) : Sm w 0 (.int n) := by
  have hl : n.natAbs.log2 < 1920 := by
    by_cases z : n.natAbs = 0
    · rw [z]; decide
    · rw [Nat.log2_lt z]; exact Nat.lt_trans h (by decide)
  refine ⟨by simp only [PyData.showable]; exact decide_eq_true hl, ?_, ?_, by simp only [PyData.depth]; exact Nat.le_refl _⟩
  · simp only [PyData.leavesShort]
    refine decide_eq_true ?_
    have := nm_len (n := n) (k := 13) (by decide) h
    rw [← tl_len] at this
    exact this
  · simp only [PyData.weight]
    by_cases z : n = 0
    · rw [if_pos (by simp [z])]; exact Nat.zero_le _
    · rw [if_neg (by simp [z])]
      have : n.natAbs.log2 < w := (Nat.log2_lt (by omega)).mpr h2
      omega
theorem Sm.str {z : Str} {w : Nat} (h : ∀ c ∈ tl z, c < 256) (hl : z.length ≤ w) : Sm w 0 (.str z) := by
  refine ⟨by simp only [PyData.showable], ?_, ?_, by simp only [PyData.depth]; exact Nat.le_refl _⟩
  · unfold PyData.leavesShort
    rw [List.all_eq_true]
    intro c hc
    have := h c hc
    exact decide_eq_true (by omega)
  · simp only [PyData.weight]; exact hl
theorem sm_all {W dp : Nat} : ∀ {ds : List PyData}, (∀ d ∈ ds, Sm W dp d) → PyData.showableAll ds = true ∧ PyData.leavesShortAll 14 ds = true ∧ PyData.weightAll ds ≤ ds.length * (W + 1) ∧ PyData.depthAll ds ≤ dp
  | [], _ => ⟨by simp only [PyData.showableAll], by simp only [PyData.leavesShortAll], by simp only [PyData.weightAll]; exact Nat.zero_le _, by simp only [PyData.depthAll]; exact Nat.zero_le _⟩
  | d :: ds, h => by
    obtain ⟨a1, a2, a3, a4⟩ := h d (by simp)
    obtain ⟨b1, b2, b3, b4⟩ := sm_all (ds := ds) fun e he => h e (by simp [he])
    refine ⟨by simp only [PyData.showableAll, a1, b1, Bool.and_self], by simp only [PyData.leavesShortAll, a2, b2, Bool.and_self], ?_, ?_⟩
    · simp only [PyData.weightAll, List.length_cons]
      rw [Nat.add_mul]; omega
    · simp only [PyData.depthAll]; omega
theorem Sm.list {W W' dp n : Nat} {ds : List PyData} (h : ∀ d ∈ ds, Sm W dp d) (hn : ds.length ≤ n) (hW : n * (W + 1) ≤ W') : Sm W' (dp + 1) (.list ds) := by
  obtain ⟨a1, a2, a3, a4⟩ := sm_all h
  refine ⟨by simp only [PyData.showable]; exact a1, by simp only [PyData.leavesShort]; exact a2, ?_, by simp only [PyData.depth]; omega⟩
  simp only [PyData.weight]
  exact Nat.le_trans a3 (Nat.le_trans (Nat.mul_le_mul_right _ hn) hW)
theorem Sm.tup3 {W1 W2 W3 W' dp : Nat} {a b c : PyData} (h1 : Sm W1 dp a) (h2 : Sm W2 dp b) (h3 : Sm W3 dp c) (hW : W1 + W2 + W3 + 3 ≤ W') : Sm W' (dp + 1) (.tuple [a, b, c]) := by
  obtain ⟨a1, a2, a3, a4⟩ := h1
  obtain ⟨b1, b2, b3, b4⟩ := h2
  obtain ⟨c1, c2, c3, c4⟩ := h3
  refine ⟨by simp only [PyData.showable, PyData.showableAll, a1, b1, c1, Bool.and_self], by simp only [PyData.leavesShort, PyData.leavesShortAll, a2, b2, c2, Bool.and_self], ?_, ?_⟩
  · simp only [PyData.weight, PyData.weightAll]; omega
  · simp only [PyData.depth, PyData.depthAll]; omega
theorem sm_kv {W1 W2 dp : Nat} : ∀ {ds : List (PyData × PyData)}, (∀ d ∈ ds, Sm W1 dp d.1 ∧ Sm W2 dp d.2) → PyData.showableKv ds = true ∧ PyData.leavesShortKv 14 ds = true ∧ PyData.weightKv ds ≤ ds.length * (W1 + W2 + 2) ∧ PyData.depthKv ds ≤ dp
  | [], _ => ⟨by simp only [PyData.showableKv], by simp only [PyData.leavesShortKv], by simp only [PyData.weightKv]; exact Nat.zero_le _, by simp only [PyData.depthKv]; exact Nat.zero_le _⟩
  | (k, v) :: ds, h => by
    obtain ⟨⟨a1, a2, a3, a4⟩, ⟨c1, c2, c3, c4⟩⟩ := h (k, v) (by simp)
    obtain ⟨b1, b2, b3, b4⟩ := sm_kv (ds := ds) fun e he => h e (by simp [he])
    dsimp only at a1 a2 a3 a4 c1 c2 c3 c4
    refine ⟨by simp only [PyData.showableKv, a1, b1, c1, Bool.and_self], by simp only [PyData.leavesShortKv, a2, b2, c2, Bool.and_self], ?_, ?_⟩
    · simp only [PyData.weightKv, List.length_cons]
      rw [Nat.add_mul]; omega
    · simp only [PyData.depthKv]; omega
theorem Sm.dict {W1 W2 W' dp n : Nat} {ds : List (PyData × PyData)} (h : ∀ d ∈ ds, Sm W1 dp d.1 ∧ Sm W2 dp d.2) (hn : ds.length ≤ n) (hW : n * (W1 + W2 + 2) ≤ W') : Sm W' (dp + 1) (.dict ds) := by
  obtain ⟨a1, a2, a3, a4⟩ := sm_kv h
  refine ⟨by simp only [PyData.showable]; exact a1, by simp only [PyData.leavesShort]; exact a2, ?_, by simp only [PyData.depth]; omega⟩
  simp only [PyData.weight]
  exact Nat.le_trans a3 (Nat.le_trans (Nat.mul_le_mul_right _ hn) hW)
theorem Sm.repr {M : Store} {x : Va} {d : PyData} (h : Sm 1048570 60 d) (r : PdR M x d) : kRepr [x] M = some (.val (.str d.shown), M) :=
  repr_of r h.sh (shown_ok (B := 14) (W := 1048570) (by decide) h.lf h.wt (by decide)) h.dp
end PV

set_option Elab.async false
set_option linter.all false
set_option maxRecDepth 100000
set_option maxHeartbeats 4000000
namespace PV
open PySem L2
open PyProof.Rows

/-! ### dict comprehensions -/
section
open Classical
noncomputable def dcL (chk : Store → Prop) (tg : Tgt) (tt tk tv : SE) (sw : SL) : List Va → List (Key × Va) → Store → Option (List (Key × Va) × Store)
  | [], acc, M => if chk M then some (acc, M) else none
  | x :: xs, acc, M => if chk M then (match tg x sw M with
    | none => none
    | some s1 => match tt s1 M with
      | some (.val (.bl true), M1) => (match tk s1 M1 with
        | some (.val y, M2) => (match keyA y with
          | some k => (match tv s1 M2 with
            | some (.val z, M3) => dcL chk tg tt tk tv sw xs (puK acc k z) M3
            | _ => none)
          | none => none)
        | _ => none)
      | some (.val (.bl false), M1) => dcL chk tg tt tk tv sw xs acc M1
      | _ => none) else none
noncomputable def evDc (src : SI) (tg : Tgt) (tt tk tv : SE) (vs : List Nat) : SE := fun s M => match src s M with
  | none => none
  | some (.it l chk, M1) => (match dcL chk tg tt tk tv (wipeI s vs) l [] M1 with
    | some (kv, M2) => some (.val (.dic kv), M2)
    | none => none)
  | some (.exc c v, M1) => some (.exc c v, M1)
end
theorem puK_len1 {α : Type} (l : List (Key × α)) (k : Key) (v : α) : (puK l k v).length ≤ l.length + 1 := by
  unfold puK
  split <;> simp
section
variable {X : Cx} {G : Sig} {E E2 : XK} {tg kx vx iter : Expr} {ifs : List Expr} {pos : Pos}
theorem dc_walk {t : Tgt} {tt tk tv : SE} {vs ix : List Nat} {g : TG} (sm : TgSim G g t ix) (hix : ∀ i ∈ ix, i ∈ vs) {σ : L2.St} {R1 : Hp} {ρ1 : List Addr} {M1 M2 : Store} {H1 : Hp} {s : SL} {J : It} {l : List Va} {ys : List (Key × Va)} {chk : Store → Prop} {Q : VK} {D : Addr}
    (w1 : Wd G R1 ρ1 M1 H1) (sr : SR G R1 ρ1 s σ) (hz : l.length ≤ sizeLine) (js : ItSim G R1 ρ1 J l chk) (hcomp : dcL chk t tt tk tv (wipeI s vs) l [] M1 = some (ys, M2)) (hD : H1 D = none)
    (fin : ∀ R' ρ' H' acc, Ext R1 ρ1 H1 R' ρ' H' → Wd G R' ρ' M2 H' → H' D = some (.dK acc) → R' D = none → D ∉ ρ' → VRk G R' ρ' ys acc → ys.length ≤ sizeLine → Q (.ref D) H') :
    ∃ W : Nat → Nat → Hp → Prop, (∃ m, W 0 m (upd H1 D (.dK []))) ∧ ∀ i m H, W i m H →
      (J.stop i H ∧ Q (.ref D) H) ∨ (J.go i H ∧ ∃ Nx : Hp → Prop, (∀ H', Nx H' → ∃ m', m' < m ∧ W (i + 1) m' H') ∧ ∀ x H', J.yld i H x H' → g x (wipe σ vs) H' fun σ2 H2 => wipe σ2 vs = wipe σ vs ∧ tT G E tt σ2 H2 fun b H3 =>
        if b = true then tE G E tk σ2 H3 fun y H4 => tE G E tv σ2 H4 fun z H5 => ∃ kvs k, y = kV k ∧ H5 D = some (.dK kvs) ∧ kvs.length < sizeLine ∧ Nx (upd H5 D (.dK (putK kvs k z))) else Nx H3) := by
  have rD : R1 D = none := w1.nonR hD
  refine ⟨fun i m Hc => ∃ R' ρ' M' acc accI, m = l.length - i ∧ i ≤ l.length ∧ Ext R1 ρ1 H1 R' ρ' Hc ∧ Wd G R' ρ' M' Hc ∧ Hc D = some (.dK acc) ∧ VRk G R' ρ' accI acc ∧ R' D = none ∧ (D ∉ ρ') ∧
    dcL chk t tt tk tv (wipeI s vs) (l.drop i) accI M' = some (ys, M2) ∧ accI.length ≤ i, ?_, ?_⟩
  · refine ⟨l.length, R1, ρ1, M1, [], [], rfl, Nat.zero_le _, Ext.heapNew hD, ?_, upd_same, .nil, rD, ?_, hcomp, Nat.zero_le _⟩
    · exact w1.heap fun a o h => by rw [upd_ne (ne_of_none h hD)]; exact h
    · exact fun hm => w1.al D hm hD
  · rintro i m Hc ⟨R', ρ', M', acc, accI, rfl, hi, e', w', hDc, ra, rDn, nDr, hc, hal⟩
    by_cases hlt : i < l.length
    · have ed : l.drop i = l[i] :: l.drop (i + 1) := List.drop_eq_getElem_cons hlt
      rw [ed] at hc
      unfold dcL at hc
      by_cases ck : chk M'
      · rw [if_pos ck] at hc
        obtain ⟨go, _⟩ := js R' ρ' M' Hc e'.gr w' ck
        obtain ⟨go, yld⟩ := go i l[i] (by simp [hlt])
        refine .inr ⟨go, fun H2 => ∃ R2 ρ2 M3 acc accI, Ext R1 ρ1 H1 R2 ρ2 H2 ∧ Wd G R2 ρ2 M3 H2 ∧ H2 D = some (.dK acc) ∧ VRk G R2 ρ2 accI acc ∧ R2 D = none ∧ (D ∉ ρ2) ∧
          dcL chk t tt tk tv (wipeI s vs) (l.drop (i + 1)) accI M3 = some (ys, M2) ∧ accI.length ≤ i + 1, fun H2 ⟨R2, ρ2, M3, acc, accI, q⟩ => ⟨l.length - (i + 1), by omega, R2, ρ2, M3, acc, accI, rfl, hlt, q⟩, fun x H2 hyl => ?_⟩
        obtain ⟨R2, e2, w2, r2⟩ := yld x H2 hyl
        obtain ⟨rD2, nD2, hD2⟩ := e2.apart hDc rDn nDr
        cases q3 : t l[i] (wipeI s vs) M' with
        | none => rw [q3] at hc; cases hc
        | some s3 =>
          rw [q3] at hc
          have srw : SR G R2 ρ' (wipeI s vs) (wipe σ vs) := (SR.wipe (sr.mono (e'.gr.trans e2.gr)) vs)
          refine sm R2 ρ' M' H2 (wipeI s vs) s3 (wipe σ vs) l[i] x _ w2 srw r2 q3 fun σ3 sr3 hl3 hk3 => ⟨?_, ?_⟩
          · have z1 : wipe σ3 vs = wipe (wipe σ vs) vs := wipe_same hl3 fun j hj => hk3 j fun z => hj (hix j z)
            rw [z1]
            exact wipe_same (wipe_length σ vs) fun j hj => wipe_get σ j vs hj
          · dsimp only at hc
            rcases q4 : tt s3 M' with _ | ⟨y | ⟨c, y⟩, M4⟩ <;> rw [q4] at hc
            · cases hc
            · cases y <;> first | (cases hc; done) | skip
              rename_i bb
              refine ⟨R2, ρ', s3, M', w2, sr3, ?_⟩
              rw [q4]
              intro R5 ρ5 H5 e5 w5
              obtain ⟨rD5, nD5, hD5⟩ := e5.apart hD2 rD2 nD2
              cases bb with
              | false =>
                refine iteF ?_
                exact ⟨R5, ρ5, M4, acc, accI, (e'.trans e2).trans e5, w5, hD5, ra.mono (e2.trans e5).gr, rD5, nD5, hc, Nat.le_succ_of_le hal⟩
              | true =>
                refine iteT ?_
                dsimp only at hc
                rcases q6 : tk s3 M4 with _ | ⟨y | ⟨c, y⟩, M6⟩ <;> rw [q6] at hc
                · cases hc
                · refine ⟨R5, ρ5, s3, M4, w5, sr3.mono e5.gr, ?_⟩
                  rw [q6]
                  intro R7 ρ7 H7 v e7 w7 r7
                  obtain ⟨rD7, nD7, hD7⟩ := e7.apart hD5 rD5 nD5
                  dsimp only at hc
                  cases hk : keyA y with
                  | none => rw [hk] at hc; cases hc
                  | some key =>
                    rw [hk] at hc
                    dsimp only at hc
                    rcases q8 : tv s3 M6 with _ | ⟨z | ⟨c, z⟩, M8⟩ <;> rw [q8] at hc
                    · cases hc
                    · refine ⟨R7, ρ7, s3, M6, w7, sr3.mono (e5.trans e7).gr, ?_⟩
                      rw [q8]
                      intro R9 ρ9 H9 u e9 w9 r9
                      obtain ⟨rD9, nD9, hD9⟩ := e9.apart hD7 rD7 nD7
                      dsimp only at hc
                      have eall := (((e'.trans e2).trans e5).trans e7).trans e9
                      have ra9 := ra.mono (((e2.trans e5).trans e7).trans e9).gr
                      refine ⟨acc, key, r7.key hk, hD9, ?_, R9, ρ9, M8, putK acc key u, puK accI key z, eall.mut hD, w9.other rD9 nD9, upd_same, ra9.put key r9, rD9, nD9, hc, ?_⟩
                      · rw [← ra.length]
                        omega
                      · have := puK_len1 accI key z
                        omega
                    · cases hc
                · cases hc
            · cases hc
      · rw [if_neg ck] at hc; cases hc
    · have e0 : i = l.length := by omega
      subst e0
      rw [List.drop_length] at hc
      unfold dcL at hc
      by_cases ck : chk M'
      · rw [if_pos ck] at hc
        cases hc
        obtain ⟨_, stop⟩ := js R' ρ' _ Hc e'.gr w' ck
        exact .inl ⟨stop _ (Nat.le_refl _), fin R' ρ' Hc acc e' w' hDc rDn nDr ra (by omega)⟩
      · rw [if_neg ck] at hc; cases hc
variable {src : SI} {t : Tgt} {tt tk tv : SE} {ix : List Nat} {g : TG} {scope : Scope} {own : List (Str × Nat)}
theorem dc_frz {σ : L2.St} {H : Hp} {Q : VK} (sm : TgSim G g t ix) (hix : ∀ i ∈ ix, i ∈ own.map (·.2)) (h : tE G E (evDc src t tt tk tv (own.map (·.2))) σ H Q) : tDc (tI G E src) g (tT G E2 tt) (tE G E2 tk) (tE G E2 tv) (own.map (·.2)) σ H Q := by
  obtain ⟨R, ρ, s, M, w, sr, p⟩ := h
  refine ⟨R, ρ, s, M, w, sr, ?_⟩
  unfold evDc at p
  rcases q : src s M with _ | ⟨⟨l, chk⟩ | ⟨c, x⟩, M1⟩ <;> rw [q] at p
  · exact p
  · intro R1 ρ1 H1 J e1 w1 hz js D hD
    dsimp only at p
    rcases q2 : dcL chk t tt tk tv (wipeI s (own.map (·.2))) l [] M1 with _ | ⟨ys, M2⟩ <;> rw [q2] at p
    · exact False.elim p
    · refine dc_walk sm hix w1 (sr.mono e1.gr) hz js q2 hD fun R' ρ' H' acc e' w' hDc rDn nDr ra hzy => ?_
      exact p (upd R' D (.dK acc)) ρ' H' (.ref D) (e1.trans (e'.take hD rDn)) (w'.take hDc rDn nDr) (.dic upd_same hzy (ra.mono ⟨fun a o q => by rw [upd_ne (fun z => by subst z; rw [rDn] at q; cases q)]; exact q, fun _ _ q => q⟩))
  · exact p
theorem q_dc (hc : X.calm = true) (hN : X.N.Nodup) (hi : PI X tg iter (tI G E src)) (ok : BlkOk X.N X.env.scope scope own)
    (hg : ∀ (s : Shared) (H : Hp) (C : Addr) (cl : List (Str × Addr)) (fp : List Addr), QG (X.blk s H scope (compEnvC scope cl C X.env) fp) G tg g t ix)
    (ht : ∀ (s : Shared) (H : Hp) (C : Addr) (cl : List (Str × Addr)) (fp : List Addr), PTs (X.blk s H scope (compEnvC scope cl C X.env) fp) ifs (tT G E2 tt))
    (hk : ∀ (s : Shared) (H : Hp) (C : Addr) (cl : List (Str × Addr)) (fp : List Addr), PE (X.blk s H scope (compEnvC scope cl C X.env) fp) kx (tE G E2 tk))
    (he : ∀ (s : Shared) (H : Hp) (C : Addr) (cl : List (Str × Addr)) (fp : List Addr), PE (X.blk s H scope (compEnvC scope cl C X.env) fp) vx (tE G E2 tv))
    (hix : ∀ i ∈ ix, i ∈ own.map (·.2) := by decide) (hs : ∀ x, foldedSetIterable iter X.env x = pure x := by intro _; rfl) :
    PE X (.DictComp kx vx [⟨tg, iter, ifs, 0⟩] scope pos) (tE G E (evDc src t tt tk tv (own.map (·.2)))) :=
  ⟨fun pins s σ H Q I h => (pe_dc hc hN hi ok (fun s H C cl fp => (hg s H C cl fp).pg) ht hk he hs).run pins s σ H Q I (dc_frz (hg s H 0 [] []).sim hix h)⟩
end

theorem kit_self {K : PySem.W.Frag} {a : Addr} : PySem.W.kitOne K (.ref a) (.ref a) = some true := if_pos (by simp)
/-! ### x is True -/
def opIsB (M : Store) (a b : Va) : Option Va := match a, b with
  | .bl x, .bl y => some (.bl (decide (x = y)))
  | _, _ => none
theorem s_isB {G : Sig} : Op2 G rIsB opIsB := by
  intro R ρ M H x y va vb res Q w ra rb h g
  unfold opIsB at h
  split at h
  · cases h; cases ra; cases rb
    exact ⟨_, _, rfl, rfl, gives_now w (.bl _) g⟩
  · cases h

def opNotB (M : Store) (a b : Va) : Option Va := match a, b with
  | .bl x, .bl y => some (.bl (!decide (x = y)))
  | _, _ => none
theorem s_notB {G : Sig} : Op2 G rNotB opNotB := by
  intro R ρ M H x y va vb res Q w ra rb h g
  unfold opNotB at h
  split at h
  · cases h; cases ra; cases rb
    exact ⟨_, _, rfl, rfl, gives_now w (.bl _) g⟩
  · cases h

/-! ### xs.index(z), of a list of texts -/
def idxS (z : Str) : List Str → Option Nat
  | [] => none
  | y :: r => if y = z then some 0 else (idxS z r).map (· + 1)
theorem idxS_get {z : Str} : ∀ {l : List Str} {j : Nat}, idxS z l = some j → l[j]? = some z ∧ ∀ m y, m < j → l[m]? = some y → y ≠ z
  | [], j, h => by cases h
  | y :: r, j, h => by
    unfold idxS at h
    by_cases e : y = z
    · rw [if_pos e] at h
      cases h
      exact ⟨by simp [e], fun m _ hm => absurd hm (Nat.not_lt_zero _)⟩
    · rw [if_neg e] at h
      cases q : idxS z r with
      | none => rw [q] at h; cases h
      | some i =>
        rw [q] at h
        cases h
        obtain ⟨h1, h2⟩ := idxS_get q
        refine ⟨by simpa using h1, fun m y' hm hy => ?_⟩
        cases m with
        | zero => simp at hy; rw [← hy]; exact e
        | succ m => exact h2 m y' (Nat.lt_of_succ_lt_succ hm) (by simpa using hy)
def gIndexS (M : Store) (o : Va) : List Va → Option Va
  | [.str z] => (match (lstOf M o).bind strsOf with
    | some zs => (idxS z zs).map fun j => .int (j : Nat)
    | none => none)
  | _ => none
theorem s_index {X : Cx} {G : Sig} (hK : X.K = G.K) : OpM G "list" (rIndex X.K) (kVal gIndexS) :=
  val_of fun R ρ M H x xs o l res Q w ro rv h g => by
    unfold gIndexS at h
    split at h
    · rename_i z
      obtain ⟨v, rfl, r⟩ := one_of rv
      cases r
      cases q : lstOf M o with
      | none => rw [q] at h; cases h
      | some l =>
        rw [q] at h
        cases q2 : strsOf l with
        | none => simp [q2] at h
        | some zs =>
          simp only [Option.bind_some, q2] at h
          cases q3 : idxS z zs with
          | none => rw [q3] at h; cases h
          | some j =>
            rw [q3] at h
            cases h
            obtain ⟨a, vs, rfl, sq, rv2, _⟩ := lst_read w ro q
            have e := strs_of rv2 q2
            subst e
            obtain ⟨h1, h2⟩ := idxS_get q3
            refine ⟨a, zs.map V.str, .str z, j, .str z, rfl, rfl, by rw [hK]; exact sq, rfl, by rw [List.all_eq_true]; intro y hy; obtain ⟨c, _, rfl⟩ := List.mem_map.mp hy; rfl, by rw [List.getElem?_map, h1]; rfl, by simp [eqV], fun m z' hm hz => ?_, gives_now w (.int _) g⟩
            rw [List.getElem?_map] at hz
            cases q4 : zs[m]? with
            | none => rw [q4] at hz; cases hz
            | some y =>
              rw [q4] at hz
              cases hz
              have := h2 m y hm q4
              simp [eqV, this]
    · cases h
end PV

set_option Elab.async false
set_option linter.all false
set_option maxRecDepth 100000
set_option maxHeartbeats 4000000
namespace PV
open PySem L2
open PyProof.Rows

theorem vals_rev : ∀ {vs : List V} {us : List Value}, Vals vs us → Vals vs.reverse us.reverse
  | _, _, .nil => .nil
  | _, _, .cons h t => by
    rw [List.reverse_cons, List.reverse_cons]
    exact (vals_rev t).append (.cons h .nil)
/-! ### calls by keywords alone -/
def kFnW (m : Nat) (gA : List Va → List Va) (f : FM) : FM := fun l M => if l.length = m then f (gA l) M else none
section
variable {X : Cx} {G : Sig} {E : XK} {e : Expr} {kws : List Keyword} {ea eb : SE} {pos kpos p' : Pos} {nm : Option Str}
theorem qk_nil : PK X [] (tA G E evNil) := by
  refine ⟨fun pos pins s σ H Q I h => pk_nil.run pos pins s σ H Q I ?_⟩
  obtain ⟨R, ρ, s', M, w, sr, p⟩ := h
  exact p R ρ H [] Ext.refl w .nil
theorem qk_cons (ha : PE X e (tE G E ea)) (hr : PK X kws (tA G E eb)) : PK X (⟨nm, e, kpos⟩ :: kws) (tA G E (evCons ea eb)) := by
  refine ⟨fun pos pins s σ H Q I h => (pk_cons ha hr).run pos pins s σ H Q I ?_⟩
  obtain ⟨R, ρ, s, M, w, sr, p⟩ := h
  refine ⟨R, ρ, s, M, w, sr, ?_⟩
  replace p : PostA G R ρ H (bindO (ea s M) fun v M1 => bindO (eb s M1) fun t M2 => match t with | .tup l => some (.val (.tup (v :: l)), M2) | _ => none) Q E := p
  rcases q : ea s M with _ | ⟨x | ⟨c, x⟩, M1⟩ <;> rw [q] at p
  · exact p
  · intro R1 ρ1 H1 v e1 w1 r1
    refine ⟨R1, ρ1, s, M1, w1, sr.mono e1.gr, ?_⟩
    rw [bindO_val] at p
    rcases q2 : eb s M1 with _ | ⟨y | ⟨c, y⟩, M2⟩ <;> rw [q2] at p
    · exact p
    · cases y <;> first | exact p | skip
      intro R2 ρ2 H2 vs e2 w2 r2
      exact p R2 ρ2 H2 (v :: vs) (e1.trans e2) w2 (.cons (r1.mono e2.gr) r2)
    · exact PostX.ext e1 p
  · exact p
end
section
variable {X : Cx} {G : Sig} {E : XK} {k n : Nat} {f : Addr} {fd : FuncData} {ps ks : List Str} {x : Str} {p pos : Pos} {kws : List Keyword} {tk : TA} {sp : Sp} {g : List Value → List Value → List Value} {gV : List V → List V → List V} {CX : CXT}
theorem run_fnGW {pins : List (Addr × Obj)} {σ : L2.St} {H : Hp} {s : Shared} {Q : VK} {us ws : List Value} {vs zs : List V} (F : FnG X.prog X.w X.K X.mg X.base CX k f fd ps sp) (hr : Room k X.A) (hgd : X.A.guards = some []) (hb : KBn X.K fd ps n ks g gV) (hx : Passes CX X E)
    (I : Inv X pins σ H s) (r : Vals vs us) (rz : Vals zs ws) (l1 : vs.length = n) (l2 : zs.length = ks.length) (h : sp (gV vs zs) H Q E) : wpAny (model X.prog X.w) X.A (call (.ref f) us (ks.zip ws)) (EP X pins σ Q) X.xe s := by
  have r2 := hb.rel r rz
  refine wpAny_call (codeAny_mono (F.go X.A hr hgd X.stack s H I.env0 ⟨us, ks.zip ws⟩ (g us ws) (gV vs zs) (hb.to s us ws I.kIn (r.length.symm.trans l1) (rz.length.symm.trans l2)) r2 Q E h) fun r s' hq => ?_)
  cases r with
  | error e => exact hx pins σ H s e s' I hq
  | ok fl =>
    cases fl with
    | ret u => exact I.after hq
    | next => exact False.elim hq
    | brk => exact False.elim hq
    | cont => exact False.elim hq
theorem pe_callGW (F : FnG X.prog X.w X.K X.mg X.base CX k f fd ps sp) (hr : Room k X.A) (hgd : X.A.guards = some []) (hg : Gl X x) (hm : X.mg x = some (.ref f)) (hk : PySem.W.keepIn X.K (.ref f) = true) (hb : KBn X.K fd ps 0 ks g gV) (hx : Passes CX X E)
    (hkw : PK X kws tk) (hall : (backToKw pos (keywordEach kws X.env)).all (·.1.isSome) = true := by rfl) (hks : (backToKw pos (keywordEach kws X.env)).filterMap (·.1) = ks := by rfl)
    (hdb : (x == ("__debug__" : Str)) = false := by decide)
    (hpl : ((backTo pos (starEach [] X.env)).any (·.1) || (backToKw pos (keywordEach kws X.env)).any (·.1.isNone)) = false := by rfl) :
    PE X (.Call (.Name x p) [] kws pos) (fun σ H Q => tk σ H fun zs H2 => zs.length = ks.length ∧ sp (gV [] zs) H2 Q E) := by
  refine ⟨fun pins s σ H Q I h => ?_⟩
  refine wpAny_Call_Name_kw (ld_glob I hg hm ?_ hdb)
  refine PySem.W.callWith_KW0 (h₀ := X.base) I.ok.mod.kin hk hall ?_ hpl
  refine thn (hkw.run pos pins s σ H _ I h) fun ws s2 ⟨zs, H2, I2, rz, l2, q2⟩ => ⟨I2.kIn, ?_⟩
  rw [hks]
  exact run_fnGW F hr hgd hb hx I2 .nil rz rfl l2 q2
end
/-- a callee by keywords alone, its body by value -/
structure CalW (P : Program) (w : World) (K : PySem.W.Frag) (mg : Str → Option Value) (base : Heap) (G : Sig) (x : Str) (lv n : Nat) (ks : List Str) (gA : List Va → List Va) (fM : FM) : Prop where
  ex : ∃ (f : Addr) (fd : FuncData) (ps : List Str) (g : List Value → List Value → List Value) (gV : List V → List V → List V), mg x = some (.ref f) ∧ PySem.W.keepIn K (.ref f) = true ∧ KBn K fd ps 0 ks g gV ∧
    FnG P w K mg base CX0 lv f fd ps (spI G n fM) ∧ (∀ R ρ l zs, VRs G R ρ l zs → l.length = ks.length → VRs G R ρ (gA l) (gV [] zs)) ∧ ∀ zs, zs.length = ks.length → (gV [] zs).length = n
section
variable {X : Cx} {G : Sig} {k lv n : Nat} {x : Str} {p' pos : Pos} {kws : List Keyword} {ea : SE} {ks : List Str} {gA : List Va → List Va} {fM : FM}
theorem q_calW (C : CalW X.prog X.w X.K X.mg X.base G x lv n ks gA fM) (hr : Room k X.A) {m : Nat} (hml : ks.length = m) (hl : lv ≤ k) (hgd : X.A.guards = some []) (hg : Gl X x) (hkw : PK X kws (tA G E0 ea)) (hdb : (x == ("__debug__" : Str)) = false := by decide)
    (hall : (backToKw pos (keywordEach kws X.env)).all (·.1.isSome) = true := by rfl) (hks : (backToKw pos (keywordEach kws X.env)).filterMap (·.1) = ks := by rfl)
    (hpl : ((backTo pos (starEach [] X.env)).any (·.1) || (backToKw pos (keywordEach kws X.env)).any (·.1.isNone)) = false := by rfl) :
    PE X (.Call (.Name x p') [] kws pos) (tE G E0 (evL (kFnW m gA fM) ea)) := by
  subst hml
  obtain ⟨f, fd, ps, g, gV, hm, hk, hb, F, hv, hlen⟩ := C.ex
  refine pe_imp (pe_callGW F (hr.mono hl) hgd hg hm hk hb pass0 hkw hall hks hdb hpl) fun σ H Q ⟨R, ρ, s, M, w, sr, p⟩ => stepA w sr p fun R1 ρ1 M1 H1 l vs e1 w1 sr1 r1 p1 => ?_
  unfold kFnW at p1
  by_cases hl : l.length = ks.length
  · rw [if_pos hl] at p1
    have hz : vs.length = ks.length := by rw [← r1.length]; exact hl
    exact ⟨hz, hlen vs hz, R1, ρ1, M1, gA l, w1, hv _ _ _ _ r1 hl, p1⟩
  · rw [if_neg hl] at p1; exact p1.elim
end
end PV

set_option Elab.async false
set_option linter.all false
set_option maxRecDepth 100000
set_option maxHeartbeats 4000000
/-! zip of three lists: its new, its next, its turns -/
namespace Z3
open PySem
open PySem.Sem (wp)
theorem typeCall3 (a b c : Value) : checkTypeCall "zip" ⟨[a, b, c], []⟩ = pure () := by kernel_rfl
theorem newCall3 (a b c : Value) : checkBuiltinCall "zip.__new__" ⟨[.type "zip", a, b, c], []⟩ = pure () := by kernel_rfl
theorem args_init4 (a b c d : Value) : argsOk "object.__init__" ⟨[a, b, c, d], []⟩ := by
  unfold argsOk; rw [signature?_of (id := "object.__init__") (n := ['_', '_', 't', 'i', 'n', 'i', '_', '_']) (o := ['t', 'c', 'e', 'j', 'b', 'o']) (by kernel_rfl) F.owner_object]; kernel_rfl
abbrev IsTri (h : Heap) (T : Addr) (a b c : Value) : Prop := h.get? T = some { cls := .type "tuple", data := .seq #[a, b, c] }
/-- all the parts of a zip of three lists apart -/
structure Ap (z TI TO i1 i2 i3 l1 l2 l3 : Addr) : Prop where
  TOz : TO ≠ z
  i1z : i1 ≠ z
  i2z : i2 ≠ z
  i3z : i3 ≠ z
  TOi1 : TO ≠ i1
  TOi2 : TO ≠ i2
  TOi3 : TO ≠ i3
  i12 : i1 ≠ i2
  i13 : i1 ≠ i3
  i23 : i2 ≠ i3
  nTI : TI ≠ z ∧ TI ≠ TO ∧ TI ≠ i1 ∧ TI ≠ i2 ∧ TI ≠ i3
  n1 : l1 ≠ z ∧ l1 ≠ TO ∧ l1 ≠ i1 ∧ l1 ≠ i2 ∧ l1 ≠ i3
  n2 : l2 ≠ z ∧ l2 ≠ TO ∧ l2 ≠ i1 ∧ l2 ≠ i2 ∧ l2 ≠ i3
  n3 : l3 ≠ z ∧ l3 ≠ TO ∧ l3 ≠ i1 ∧ l3 ≠ i2 ∧ l3 ≠ i3
section
variable {prog : Program} {w : World} {A : Around} {E : Value → Shared → Prop} {s : Shared}
theorem upd3 {T : Addr} {a b c x : Value} {k : Nat} {Q : Unit → Shared → Prop} (hT : IsTri s.heap T a b c)
    (h : ∀ h', h'.get? T = some { cls := .type "tuple", data := .seq ((#[a, b, c] : Array Value).setIfInBounds k x) } → Heap.SameBut T s.heap h' → Q () { s with heap := h' }) :
    wpAny (model prog w) A (updateSeq T (·.setIfInBounds k x)) Q E s := by
  refine wpAny_updateSeq hT rfl (h _ ?_ (Heap.SameBut.update ..))
  rw [Heap.get?_update_self _ hT rfl]
  simp [Obj.mapSeq]
theorem next_item {z TI TO i1 i2 i3 l1 l2 l3 : Addr} {k : Nat} {xs ys us : Array Value} {x y u a b c : Value} {Q : Value → Shared → Prop} (D : Ap z TI TO i1 i2 i3 l1 l2 l3)
    (hz : IsZip s.heap z TI TO .none) (hTI : IsTri s.heap TI (.ref i1) (.ref i2) (.ref i3)) (hTO : IsTri s.heap TO a b c)
    (h1 : s.heap.IsListIter i1 l1 k) (h2 : s.heap.IsListIter i2 l2 k) (h3 : s.heap.IsListIter i3 l3 k) (hl1 : s.heap.IsList l1 xs) (hl2 : s.heap.IsList l2 ys) (hl3 : s.heap.IsList l3 us) (hx : xs[k]? = some x) (hy : ys[k]? = some y) (hu : us[k]? = some u)
    (hQ : ∀ h', IsZip h' z TI TO (rawInt s.heap.objs.size) → IsTri h' TO x y u → h'.IsListIter i1 l1 (k + 1) → h'.IsListIter i2 l2 (k + 1) → h'.IsListIter i3 l3 (k + 1) → IsTri h' s.heap.objs.size x y u → h'.objs.size = s.heap.objs.size + 1 →
      (∀ c o, c ≠ z → c ≠ TO → c ≠ i1 → c ≠ i2 → c ≠ i3 → s.heap.get? c = some o → h'.get? c = some o) → Q (.ref s.heap.objs.size) { s with heap := h' }) :
    wpAny (model prog w) A (Builtin.«zip.__next__» ⟨[.ref z], []⟩) (fun fin s' => ∃ v, fin = .done (.ret v) ∧ Q v s') E s := by
  show wpAny _ _ (field (.ref z) 2 >>= _) _ _ _
  refine wpAny_bind (wpAny_field hz rfl (x := .bool false) rfl ?_)
  show wpAny _ _ (field (.ref z) 3 >>= _) _ _ _
  refine wpAny_bind (wpAny_field hz rfl (x := .ref TI) rfl ?_)
  refine wpAny_bind (wpAny_seqItems hTI rfl ?_)
  show wpAny _ _ (Builtin.SmallTypes.ownedTupleIsFree (.ref z) >>= _) _ _ _
  refine wpAny_bind ?_
  unfold Builtin.SmallTypes.ownedTupleIsFree
  refine wpAny_bind (wpAny_field hz rfl (x := .none) rfl (wpAny_pure ?_))
  simp only [if_true]
  refine wpAny_bind (wpAny_rule ?_)
  refine wpAny_bind (wpAny_field hz rfl (x := .ref TO) rfl ?_)
  refine wpAny_bind (wpAny_setField_rec hz (by simp) fun g1 hz1 s1 => ?_)
  replace hz1 : IsZip g1 z TI TO .ellipsis := hz1
  have k1 : ∀ c o, c ≠ z → s.heap.get? c = some o → g1.get? c = some o := s1.extBut
  refine wpAny_bind ?_
  simp only [List.zipIdx_cons, List.zipIdx_nil, List.forIn_cons, List.forIn_nil]
  -- the first
  refine wpAny_bind (wpAny_bind (wpAny_onRaise ?_))
  show wpAny _ _ (Builtin.SmallTypes.nextOf (.ref i1) >>= _) _ _ _
  refine wpAny_bind (wpAny_nextOf_list_item (h1.at fun o e => k1 _ o D.i1z e) (hl1.at fun o e => k1 _ o D.n1.1 e) hx fun g2 it1 s2 => wpAny_pure ?_)
  have k2 : ∀ c o, c ≠ z → c ≠ i1 → s.heap.get? c = some o → g2.get? c = some o := fun c o c1 c2 e => s2.extBut _ _ c2 (k1 c o c1 e)
  have to2 : IsTri g2 TO a b c := k2 _ _ D.TOz D.TOi1 hTO
  refine wpAny_bind (wpAny_seqItems to2 rfl ?_)
  refine wpAny_bind (upd3 to2 fun g3 to3 s3 => ?_)
  replace to3 : IsTri g3 TO x b c := to3
  have k3 : ∀ c o, c ≠ z → c ≠ i1 → c ≠ TO → s.heap.get? c = some o → g3.get? c = some o := fun c o c1 c2 c3 e => s3.extBut _ _ c3 (k2 c o c1 c2 e)
  refine wpAny_bind (wpAny_letGo (wpAny_pure ?_))
  -- the second
  refine wpAny_bind (wpAny_bind (wpAny_onRaise ?_))
  show wpAny _ _ (Builtin.SmallTypes.nextOf (.ref i2) >>= _) _ _ _
  refine wpAny_bind (wpAny_nextOf_list_item (h2.at fun o e => k3 _ o D.i2z D.i12.symm D.TOi2.symm e) (hl2.at fun o e => k3 _ o D.n2.1 D.n2.2.2.1 D.n2.2.1 e) hy fun g4 it2 s4 => wpAny_pure ?_)
  have k4 : ∀ c o, c ≠ z → c ≠ i1 → c ≠ TO → c ≠ i2 → s.heap.get? c = some o → g4.get? c = some o := fun c o c1 c2 c3 c4 e => s4.extBut _ _ c4 (k3 c o c1 c2 c3 e)
  have to4 : IsTri g4 TO x b c := s4.extBut _ _ D.TOi2 to3
  refine wpAny_bind (wpAny_seqItems to4 rfl ?_)
  refine wpAny_bind (upd3 to4 fun g5 to5 s5 => ?_)
  replace to5 : IsTri g5 TO x y c := to5
  have k5 : ∀ c o, c ≠ z → c ≠ i1 → c ≠ TO → c ≠ i2 → s.heap.get? c = some o → g5.get? c = some o := fun c o c1 c2 c3 c4 e => s5.extBut _ _ c3 (k4 c o c1 c2 c3 c4 e)
  refine wpAny_bind (wpAny_letGo (wpAny_pure ?_))
  -- the third
  refine wpAny_bind (wpAny_bind (wpAny_onRaise ?_))
  show wpAny _ _ (Builtin.SmallTypes.nextOf (.ref i3) >>= _) _ _ _
  refine wpAny_bind (wpAny_nextOf_list_item (h3.at fun o e => k5 _ o D.i3z D.i13.symm D.TOi3.symm D.i23.symm e) (hl3.at fun o e => k5 _ o D.n3.1 D.n3.2.2.1 D.n3.2.1 D.n3.2.2.2.1 e) hu fun g6 it3 s6 => wpAny_pure ?_)
  have k6 : ∀ c o, c ≠ z → c ≠ i1 → c ≠ TO → c ≠ i2 → c ≠ i3 → s.heap.get? c = some o → g6.get? c = some o := fun c o c1 c2 c3 c4 c5 e => s6.extBut _ _ c5 (k5 c o c1 c2 c3 c4 e)
  have to6 : IsTri g6 TO x y c := s6.extBut _ _ D.TOi3 to5
  refine wpAny_bind (wpAny_seqItems to6 rfl ?_)
  refine wpAny_bind (upd3 to6 fun g7 to7 s7 => ?_)
  replace to7 : IsTri g7 TO x y u := to7
  have k7 : ∀ c o, c ≠ z → c ≠ i1 → c ≠ TO → c ≠ i2 → c ≠ i3 → s.heap.get? c = some o → g7.get? c = some o := fun c o c1 c2 c3 c4 c5 e => s7.extBut _ _ c3 (k6 c o c1 c2 c3 c4 c5 e)
  refine wpAny_bind (wpAny_letGo (wpAny_pure (wpAny_pure ?_)))
  refine wpAny_bind (wpAny_seqItems to7 rfl ?_)
  refine wpAny_bind (wpAny_newTuple ?_)
  have hsz : g7.objs.size = s.heap.objs.size := by rw [s7.1, s6.1, s5.1, s4.1, s3.1, s2.1, s1.1]
  have hz7 : IsZip g7 z TI TO .ellipsis := s7.extBut _ _ D.TOz.symm (s6.extBut _ _ D.i3z.symm (s5.extBut _ _ D.TOz.symm (s4.extBut _ _ D.i2z.symm (s3.extBut _ _ D.TOz.symm (s2.extBut _ _ D.i1z.symm hz1)))))
  have it1' : g7.IsListIter i1 l1 (k + 1) := it1.at fun o e => s7.extBut _ _ D.TOi1.symm (s6.extBut _ _ D.i13 (s5.extBut _ _ D.TOi1.symm (s4.extBut _ _ D.i12 (s3.extBut _ _ D.TOi1.symm e))))
  have it2' : g7.IsListIter i2 l2 (k + 1) := it2.at fun o e => s7.extBut _ _ D.TOi2.symm (s6.extBut _ _ D.i23 (s5.extBut _ _ D.TOi2.symm e))
  have it3' : g7.IsListIter i3 l3 (k + 1) := it3.at fun o e => s7.extBut _ _ D.TOi3.symm e
  have hzlt : z < g7.objs.size := Heap.lt_size hz7
  show wpAny _ _ (Builtin.SmallTypes.ownedTupleHandOut (.ref z) (.ref g7.objs.size) >>= _) _ _ _
  refine wpAny_bind ?_
  unfold Builtin.SmallTypes.ownedTupleHandOut
  have hz8 : IsZip (g7.push { cls := .type "tuple", data := .seq #[x, y, u] }) z TI TO .ellipsis := Heap.get?_push_of_some _ hz7
  refine wpAny_bind (wpAny_setField_rec hz8 (by simp) fun g9 hz9 s9 => ?_)
  replace hz9 : IsZip g9 z TI TO (rawInt g7.objs.size) := hz9
  refine wpAny_setField_rec hz9 (by simp) fun g10 hz10 s10 => ?_
  replace hz10 : IsZip g10 z TI TO (rawInt g7.objs.size) := hz10
  have up : ∀ c o, c ≠ z → g7.get? c = some o → g10.get? c = some o := fun c o c1 e => s10.extBut _ _ c1 (s9.extBut _ _ c1 (Heap.get?_push_of_some _ e))
  have hT : IsTri g10 g7.objs.size x y u := s10.extBut _ _ (Nat.ne_of_gt hzlt) (s9.extBut _ _ (Nat.ne_of_gt hzlt) (Heap.get?_push_size _ rfl))
  have hs10 : g10.objs.size = g7.objs.size + 1 := by rw [s10.1, s9.1, Heap.size_push]
  rw [hsz] at hz10 hT hs10
  refine wpAny_pure ⟨_, rfl, ?_⟩
  show Q (.ref g7.objs.size) _
  rw [hsz]
  exact hQ g10 hz10 (up _ _ D.TOz to7) (it1'.at fun o e => up _ o D.i1z e) (it2'.at fun o e => up _ o D.i2z e) (it3'.at fun o e => up _ o D.i3z e) hT hs10 fun c o c1 c2 c3 c4 c5 e => up c o c1 (k7 c o c1 c3 c2 c4 c5 e)
theorem next_end {z TI TO i1 i2 i3 l1 l2 l3 : Addr} {k : Nat} {xs ys us : Array Value} {a b c : Value} {Q : Fin → Shared → Prop} (hh : A.handled = none) (D : Ap z TI TO i1 i2 i3 l1 l2 l3)
    (hz : IsZip s.heap z TI TO .none) (hTI : IsTri s.heap TI (.ref i1) (.ref i2) (.ref i3)) (hTO : IsTri s.heap TO a b c)
    (h1 : s.heap.IsListIter i1 l1 k) (h2 : s.heap.IsListIter i2 l2 k) (h3 : s.heap.IsListIter i3 l3 k) (hl1 : s.heap.IsList l1 xs) (hl2 : s.heap.IsList l2 ys) (hl3 : s.heap.IsList l3 us) (hend : xs[k]? = none ∨ ys[k]? = none ∨ us[k]? = none)
    (hE : ∀ h' e, (∀ c o, c ≠ z → c ≠ TO → c ≠ i1 → c ≠ i2 → c ≠ i3 → s.heap.get? c = some o → h'.get? c = some o) → (∃ o, h'.get? e = some o ∧ o.cls = .type "StopIteration") → E (.ref e) { s with heap := h' }) :
    wpAny (model prog w) A (Builtin.«zip.__next__» ⟨[.ref z], []⟩) Q E s := by
  show wpAny _ _ (field (.ref z) 2 >>= _) _ _ _
  refine wpAny_bind (wpAny_field hz rfl (x := .bool false) rfl ?_)
  show wpAny _ _ (field (.ref z) 3 >>= _) _ _ _
  refine wpAny_bind (wpAny_field hz rfl (x := .ref TI) rfl ?_)
  refine wpAny_bind (wpAny_seqItems hTI rfl ?_)
  show wpAny _ _ (Builtin.SmallTypes.ownedTupleIsFree (.ref z) >>= _) _ _ _
  refine wpAny_bind ?_
  unfold Builtin.SmallTypes.ownedTupleIsFree
  refine wpAny_bind (wpAny_field hz rfl (x := .none) rfl (wpAny_pure ?_))
  simp only [if_true]
  refine wpAny_bind (wpAny_rule ?_)
  refine wpAny_bind (wpAny_field hz rfl (x := .ref TO) rfl ?_)
  refine wpAny_bind (wpAny_setField_rec hz (by simp) fun g1 hz1 s1 => ?_)
  replace hz1 : IsZip g1 z TI TO .ellipsis := hz1
  have k1 : ∀ c o, c ≠ z → s.heap.get? c = some o → g1.get? c = some o := s1.extBut
  refine wpAny_bind ?_
  simp only [List.zipIdx_cons, List.zipIdx_nil, List.forIn_cons, List.forIn_nil]
  refine wpAny_bind (wpAny_bind (wpAny_onRaise ?_))
  show wpAny _ _ (Builtin.SmallTypes.nextOf (.ref i1) >>= _) _ _ _
  cases hx : xs[k]? with
  | none =>
    refine wpAny_bind (wpAny_nextOf_list_end hh (h1.at fun o e => k1 _ o D.i1z e) (hl1.at fun o e => k1 _ o D.n1.1 e) hx fun g2 e s2 he => ?_)
    obtain ⟨oe, hoe, hce⟩ := he
    have hz2 : IsZip g2 z TI TO .ellipsis := s2 _ _ D.i1z.symm hz1
    have hez : e ≠ z := fun q => by subst q; rw [hz2] at hoe; cases hoe; simp at hce
    refine wpAny_setField_rec hz2 (by simp) fun g3 _ s3 => hE g3 e (fun c o c1 _ c3 _ _ q => s3.extBut _ _ c1 (s2 _ _ c3 (k1 c o c1 q))) ⟨oe, s3.extBut _ _ hez hoe, hce⟩
  | some x =>
    refine wpAny_bind (wpAny_nextOf_list_item (h1.at fun o e => k1 _ o D.i1z e) (hl1.at fun o e => k1 _ o D.n1.1 e) hx fun g2 it1 s2 => wpAny_pure ?_)
    have k2 : ∀ c o, c ≠ z → c ≠ i1 → s.heap.get? c = some o → g2.get? c = some o := fun c o c1 c2 e => s2.extBut _ _ c2 (k1 c o c1 e)
    have to2 : IsTri g2 TO a b c := k2 _ _ D.TOz D.TOi1 hTO
    have hz2 : IsZip g2 z TI TO .ellipsis := s2.extBut _ _ D.i1z.symm hz1
    refine wpAny_bind (wpAny_seqItems to2 rfl ?_)
    refine wpAny_bind (upd3 to2 fun g3 to3 s3 => ?_)
    replace to3 : IsTri g3 TO x b c := to3
    have k3 : ∀ c o, c ≠ z → c ≠ i1 → c ≠ TO → s.heap.get? c = some o → g3.get? c = some o := fun c o c1 c2 c3 e => s3.extBut _ _ c3 (k2 c o c1 c2 e)
    have hz3 : IsZip g3 z TI TO .ellipsis := s3.extBut _ _ D.TOz.symm hz2
    refine wpAny_bind (wpAny_letGo (wpAny_pure ?_))
    refine wpAny_bind (wpAny_bind (wpAny_onRaise ?_))
    show wpAny _ _ (Builtin.SmallTypes.nextOf (.ref i2) >>= _) _ _ _
    cases hy : ys[k]? with
    | none =>
      refine wpAny_bind (wpAny_nextOf_list_end hh (h2.at fun o e => k3 _ o D.i2z D.i12.symm D.TOi2.symm e) (hl2.at fun o e => k3 _ o D.n2.1 D.n2.2.2.1 D.n2.2.1 e) hy fun g4 e s4 he => ?_)
      obtain ⟨oe, hoe, hce⟩ := he
      have hz4 : IsZip g4 z TI TO .ellipsis := s4 _ _ D.i2z.symm hz3
      have hez : e ≠ z := fun q => by subst q; rw [hz4] at hoe; cases hoe; simp at hce
      refine wpAny_setField_rec hz4 (by simp) fun g5 _ s5 => hE g5 e (fun c o c1 c2 c3 c4 _ q => s5.extBut _ _ c1 (s4 _ _ c4 (k3 c o c1 c3 c2 q))) ⟨oe, s5.extBut _ _ hez hoe, hce⟩
    | some y =>
      have hu : us[k]? = none := by rcases hend with h | h | h; rw [hx] at h; cases h; rw [hy] at h; cases h; exact h
      refine wpAny_bind (wpAny_nextOf_list_item (h2.at fun o e => k3 _ o D.i2z D.i12.symm D.TOi2.symm e) (hl2.at fun o e => k3 _ o D.n2.1 D.n2.2.2.1 D.n2.2.1 e) hy fun g4 it2 s4 => wpAny_pure ?_)
      have k4 : ∀ c o, c ≠ z → c ≠ i1 → c ≠ TO → c ≠ i2 → s.heap.get? c = some o → g4.get? c = some o := fun c o c1 c2 c3 c4 e => s4.extBut _ _ c4 (k3 c o c1 c2 c3 e)
      have to4 : IsTri g4 TO x b c := s4.extBut _ _ D.TOi2 to3
      have hz4 : IsZip g4 z TI TO .ellipsis := s4.extBut _ _ D.i2z.symm hz3
      refine wpAny_bind (wpAny_seqItems to4 rfl ?_)
      refine wpAny_bind (upd3 to4 fun g5 to5 s5 => ?_)
      have k5 : ∀ c o, c ≠ z → c ≠ i1 → c ≠ TO → c ≠ i2 → s.heap.get? c = some o → g5.get? c = some o := fun c o c1 c2 c3 c4 e => s5.extBut _ _ c3 (k4 c o c1 c2 c3 c4 e)
      have hz5 : IsZip g5 z TI TO .ellipsis := s5.extBut _ _ D.TOz.symm hz4
      refine wpAny_bind (wpAny_letGo (wpAny_pure ?_))
      refine wpAny_bind (wpAny_bind (wpAny_onRaise ?_))
      show wpAny _ _ (Builtin.SmallTypes.nextOf (.ref i3) >>= _) _ _ _
      refine wpAny_bind (wpAny_nextOf_list_end hh (h3.at fun o e => k5 _ o D.i3z D.i13.symm D.TOi3.symm D.i23.symm e) (hl3.at fun o e => k5 _ o D.n3.1 D.n3.2.2.1 D.n3.2.1 D.n3.2.2.2.1 e) hu fun g6 e s6 he => ?_)
      obtain ⟨oe, hoe, hce⟩ := he
      have hz6 : IsZip g6 z TI TO .ellipsis := s6 _ _ D.i3z.symm hz5
      have hez : e ≠ z := fun q => by subst q; rw [hz6] at hoe; cases hoe; simp at hce
      refine wpAny_setField_rec hz6 (by simp) fun g7 _ s7 => hE g7 e (fun c o c1 c2 c3 c4 c5 q => s7.extBut _ _ c1 (s6 _ _ c5 (k5 c o c1 c3 c2 c4 q))) ⟨oe, s7.extBut _ _ hez hoe, hce⟩
theorem pyNext_item {z TI TO i1 i2 i3 l1 l2 l3 : Addr} {k : Nat} {xs ys us : Array Value} {x y u a b c : Value} {Q : Option Value → Shared → Prop} (D : Ap z TI TO i1 i2 i3 l1 l2 l3)
    (hz : IsZip s.heap z TI TO .none) (hTI : IsTri s.heap TI (.ref i1) (.ref i2) (.ref i3)) (hTO : IsTri s.heap TO a b c)
    (h1 : s.heap.IsListIter i1 l1 k) (h2 : s.heap.IsListIter i2 l2 k) (h3 : s.heap.IsListIter i3 l3 k) (hl1 : s.heap.IsList l1 xs) (hl2 : s.heap.IsList l2 ys) (hl3 : s.heap.IsList l3 us) (hx : xs[k]? = some x) (hy : ys[k]? = some y) (hu : us[k]? = some u)
    (hQ : ∀ h', IsZip h' z TI TO (rawInt s.heap.objs.size) → IsTri h' TO x y u → h'.IsListIter i1 l1 (k + 1) → h'.IsListIter i2 l2 (k + 1) → h'.IsListIter i3 l3 (k + 1) → IsTri h' s.heap.objs.size x y u → h'.objs.size = s.heap.objs.size + 1 →
      (∀ c o, c ≠ z → c ≠ TO → c ≠ i1 → c ≠ i2 → c ≠ i3 → s.heap.get? c = some o → h'.get? c = some o) → Q (some (.ref s.heap.objs.size)) { s with heap := h' }) :
    wpAny (model prog w) A (pyNext (.ref z)) Q E s := by
  have hT : s.TypeIs (.ref z) "zip" := ⟨_, hz, rfl⟩
  unfold pyNext
  exact wpAny_bind (wpAny_attempt (wpAny_callSpecial?_slot (name := Str.ofString "__next__") hT F.slot_zip_next
    (wpAny_call_entry F.slot_zip_next hT F.entry_zip_next
      (next_item D hz hTI hTO h1 h2 h3 hl1 hl2 hl3 hx hy hu fun h' a1 a2 a3 a4 a5 a6 a7 a8 => wpAny_pure (hQ h' a1 a2 a3 a4 a5 a6 a7 a8)) (F.args_zip_next_1 _))))
theorem pyNext_end {z TI TO i1 i2 i3 l1 l2 l3 : Addr} {k : Nat} {xs ys us : Array Value} {a b c : Value} {Q : Option Value → Shared → Prop} (hh : A.handled = none) (D : Ap z TI TO i1 i2 i3 l1 l2 l3)
    (hz : IsZip s.heap z TI TO .none) (hTI : IsTri s.heap TI (.ref i1) (.ref i2) (.ref i3)) (hTO : IsTri s.heap TO a b c)
    (h1 : s.heap.IsListIter i1 l1 k) (h2 : s.heap.IsListIter i2 l2 k) (h3 : s.heap.IsListIter i3 l3 k) (hl1 : s.heap.IsList l1 xs) (hl2 : s.heap.IsList l2 ys) (hl3 : s.heap.IsList l3 us) (hend : xs[k]? = none ∨ ys[k]? = none ∨ us[k]? = none)
    (hQ : ∀ h', (∀ c o, c ≠ z → c ≠ TO → c ≠ i1 → c ≠ i2 → c ≠ i3 → s.heap.get? c = some o → h'.get? c = some o) → Q none { s with heap := h' }) : wpAny (model prog w) A (pyNext (.ref z)) Q E s := by
  have hT : s.TypeIs (.ref z) "zip" := ⟨_, hz, rfl⟩
  unfold pyNext
  refine wpAny_bind (wpAny_attempt (wpAny_callSpecial?_slot (name := Str.ofString "__next__") hT F.slot_zip_next
    (wpAny_call_entry F.slot_zip_next hT F.entry_zip_next (next_end hh D hz hTI hTO h1 h2 h3 hl1 hl2 hl3 hend fun h' e hk he => ?_) (F.args_zip_next_1 _))))
  obtain ⟨o, ho, hc⟩ := he
  refine wpAny_bind (wpAny_isInstance (T := "StopIteration") (b := true) ⟨o, ho, hc⟩ isSubtype_stop ?_)
  exact wpAny_pure (hQ _ hk)
end
abbrev q1 (h : Heap) (l1 : Addr) : Heap := h.push { cls := .type "list_iterator", data := .fields #[.ref l1, .int 0 0] }
abbrev q2 (h : Heap) (l1 l2 : Addr) : Heap := (q1 h l1).push { cls := .type "list_iterator", data := .fields #[.ref l2, .int 0 0] }
abbrev q3 (h : Heap) (l1 l2 l3 : Addr) : Heap := (q2 h l1 l2).push { cls := .type "list_iterator", data := .fields #[.ref l3, .int 0 0] }
abbrev q4 (h : Heap) (l1 l2 l3 : Addr) : Heap := (q3 h l1 l2 l3).push { cls := .type "tuple", data := .seq #[.ref h.objs.size, .ref (q1 h l1).objs.size, .ref (q2 h l1 l2).objs.size] }
abbrev q5 (h : Heap) (l1 l2 l3 : Addr) : Heap := (q4 h l1 l2 l3).push { cls := .type "tuple", data := .seq #[.none, .none, .none] }
abbrev q6 (h : Heap) (l1 l2 l3 : Addr) : Heap := (q5 h l1 l2 l3).push { cls := .type "zip", data := .fields #[.none, .bool false, .bool false, .ref (q3 h l1 l2 l3).objs.size, .ref (q4 h l1 l2 l3).objs.size] }
theorem meets_new (l1 l2 l3 : Addr) (xs ys us : Array Value) :
    Meets (Builtin.«zip.__new__» ⟨[.type "zip", .ref l1, .ref l2, .ref l3], []⟩) (fun _ R s => s.heap.IsList l1 xs ∧ s.heap.IsList l2 ys ∧ s.heap.IsList l3 us ∧
      R (.ok (.ret (.ref (q5 s.heap l1 l2 l3).objs.size))) { s with heap := q6 s.heap l1 l2 l3 }) :=
  .of_wp fun prog w A R s h => by
    obtain ⟨hp, g, d, tk, os⟩ := s; obtain ⟨hl1, hl2, hl3, h⟩ := h
    have hsub := sub_zip
    have hL1 : Heap.IsList (Shared.heap ⟨hp, g, d, tk, os⟩) l1 xs := hl1
    have hL2 : Heap.IsList (Shared.heap ⟨hp.push { cls := .type "list_iterator", data := .fields #[.ref l1, .int 0 0] }, g, d, tk, os⟩) l2 ys := Heap.IsList.push hl2 _
    have hL3 : Heap.IsList (Shared.heap ⟨(hp.push { cls := .type "list_iterator", data := .fields #[.ref l1, .int 0 0] }).push { cls := .type "list_iterator", data := .fields #[.ref l2, .int 0 0] }, g, d, tk, os⟩) l3 us := Heap.IsList.push (Heap.IsList.push hl3 _) _
    wp_walk using wpAny_pyIter_list hL1, wpAny_pyIter_list hL2, wpAny_pyIter_list hL3
    exact ⟨_, rfl, h⟩
section
variable {prog : Program} {w : World} {A : Around} {E : Value → Shared → Prop} {s : Shared}
theorem call3 {l1 l2 l3 : Addr} {xs ys us : Array Value} {Q : Value → Shared → Prop} (hl1 : s.heap.IsList l1 xs) (hl2 : s.heap.IsList l2 ys) (hl3 : s.heap.IsList l3 us)
    (h : ∀ h', IsZip h' (s.heap.objs.size + 5) (s.heap.objs.size + 3) (s.heap.objs.size + 4) .none → IsTri h' (s.heap.objs.size + 3) (.ref s.heap.objs.size) (.ref (s.heap.objs.size + 1)) (.ref (s.heap.objs.size + 2)) →
      IsTri h' (s.heap.objs.size + 4) .none .none .none → h'.IsListIter s.heap.objs.size l1 0 → h'.IsListIter (s.heap.objs.size + 1) l2 0 → h'.IsListIter (s.heap.objs.size + 2) l3 0 → h'.objs.size = s.heap.objs.size + 6 →
      (∀ c o, s.heap.get? c = some o → h'.get? c = some o) → Q (.ref (s.heap.objs.size + 5)) { s with heap := h' }) :
    wpAny (model prog w) A (call (.type "zip") [.ref l1, .ref l2, .ref l3]) Q E s := by
  refine callType_new F.called_zip (by decide) (typeCall3 _ _ _) (newCall3 _ _ _) (fun obj => args_init4 obj _ _ _) F.entry_zip_new
    (meets_new l1 l2 l3 xs ys us) ⟨hl1, hl2, hl3, ?_⟩
  have z1 : (q1 s.heap l1).objs.size = s.heap.objs.size + 1 := Heap.size_push ..
  have z2 : (q2 s.heap l1 l2).objs.size = s.heap.objs.size + 2 := by rw [Heap.size_push, z1]
  have z3 : (q3 s.heap l1 l2 l3).objs.size = s.heap.objs.size + 3 := by rw [Heap.size_push, z2]
  have z4 : (q4 s.heap l1 l2 l3).objs.size = s.heap.objs.size + 4 := by rw [Heap.size_push, z3]
  have z5 : (q5 s.heap l1 l2 l3).objs.size = s.heap.objs.size + 5 := by rw [Heap.size_push, z4]
  have z6 : (q6 s.heap l1 l2 l3).objs.size = s.heap.objs.size + 6 := by rw [Heap.size_push, z5]
  have g6 : (q6 s.heap l1 l2 l3).get? (q5 s.heap l1 l2 l3).objs.size = some _ := Heap.get?_push_size _ rfl
  have g5 : (q6 s.heap l1 l2 l3).get? (q4 s.heap l1 l2 l3).objs.size = some _ := Heap.get?_push_of_some _ (Heap.get?_push_size _ rfl)
  have g4 : (q6 s.heap l1 l2 l3).get? (q3 s.heap l1 l2 l3).objs.size = some _ := Heap.get?_push_of_some _ (Heap.get?_push_of_some _ (Heap.get?_push_size _ rfl))
  have g3 : (q6 s.heap l1 l2 l3).get? (q2 s.heap l1 l2).objs.size = some _ := Heap.get?_push_of_some _ (Heap.get?_push_of_some _ (Heap.get?_push_of_some _ (Heap.get?_push_size _ rfl)))
  have g2 : (q6 s.heap l1 l2 l3).get? (q1 s.heap l1).objs.size = some _ := Heap.get?_push_of_some _ (Heap.get?_push_of_some _ (Heap.get?_push_of_some _ (Heap.get?_push_of_some _ (Heap.get?_push_size _ rfl))))
  have g1 : (q6 s.heap l1 l2 l3).get? s.heap.objs.size = some _ := Heap.get?_push_of_some _ (Heap.get?_push_of_some _ (Heap.get?_push_of_some _ (Heap.get?_push_of_some _ (Heap.get?_push_of_some _ (Heap.get?_push_size _ rfl)))))
  show _ ∧ _
  rw [z3, z4, z5] at g6
  rw [z1, z2, z3] at g4
  rw [z4] at g5
  rw [z2] at g3
  rw [z1] at g2
  rw [z5]
  exact ⟨⟨_, g6, rfl⟩, h _ g6 g4 g5 ⟨_, g1, rfl, rfl⟩ ⟨_, g2, rfl, rfl⟩ ⟨_, g3, rfl, rfl⟩ z6 fun c o x =>
    Heap.get?_push_of_some _ (Heap.get?_push_of_some _ (Heap.get?_push_of_some _ (Heap.get?_push_of_some _ (Heap.get?_push_of_some _ (Heap.get?_push_of_some _ x)))))⟩
end
end Z3

set_option Elab.async false
set_option linter.all false
set_option maxRecDepth 100000
set_option maxHeartbeats 4000000
/-! zip of three lists, in the value layer -/
namespace PV
open PySem L2 Z3 PyProof.Rows
theorem ap_new (n a b c : Nat) (ha : a < n) (hb : b < n) (hc : c < n) : Ap (n + 5) (n + 3) (n + 4) n (n + 1) (n + 2) a b c := by
  constructor <;> (first | (show (_ : Nat) ≠ (_ : Nat); omega) | (refine ⟨?_, ?_, ?_, ?_, ?_⟩ <;> (show (_ : Nat) ≠ (_ : Nat); omega)))
/-- the lists at a, b and c as they stand at each turn, the items in new tuples -/
def Itz3 (K : PySem.W.Frag) (a b c : Addr) : It :=
  ⟨fun i H => ∃ (xs ys us : List V) (x y u : V), SqL K H a xs ∧ SqL K H b ys ∧ SqL K H c us ∧ xs[i]? = some x ∧ ys[i]? = some y ∧ us[i]? = some u,
    fun i H v H' => ∃ T x y u, v = .ref T ∧ H T = none ∧ H' = upd H T (.tup [x, y, u]) ∧ (∀ xs, SqL K H a xs → xs[i]? = some x) ∧ (∀ ys, SqL K H b ys → ys[i]? = some y) ∧ ∀ us, SqL K H c us → us[i]? = some u,
    fun i H => ∃ xs ys us : List V, SqL K H a xs ∧ SqL K H b ys ∧ SqL K H c us ∧ (xs.length ≤ i ∨ ys.length ≤ i ∨ us.length ≤ i)⟩
theorem turn_zip3 {P : Program} {w : World} {K : PySem.W.Frag} {elts : List Expr} {kk : Nat} {tpos : Pos} {a b c z TI TO i1 i2 i3 : Addr} (D : Ap z TI TO i1 i2 i3 a b c) :
    Turn P w K (.Tuple elts kk tpos) (Itz3 K a b c) [z, TI, TO, i1, i2, i3] z (fun i h => IsZip h z TI TO .none ∧ IsTri h TI (.ref i1) (.ref i2) (.ref i3) ∧ (∃ x y u, IsTri h TO x y u) ∧ h.IsListIter i1 a i ∧ h.IsListIter i2 b i ∧ h.IsListIter i3 c i) where
  mem := by simp
  obj := fun i h st c hc => by
    obtain ⟨hz, hTI, ⟨x, y, u, hTO⟩, ⟨o1, e1, _, d1⟩, ⟨o2, e2, _, d2⟩, ⟨o3, e3, _, d3⟩⟩ := st
    have e' : c = z ∨ c = TI ∨ c = TO ∨ c = i1 ∨ c = i2 ∨ c = i3 := by simpa using hc
    rcases e' with q | q | q | q | q | q
    · rw [q]; exact ⟨_, hz, fun v q => nomatch q⟩
    · rw [q]; exact ⟨_, hTI, fun v q => nomatch q⟩
    · rw [q]; exact ⟨_, hTO, fun v q => nomatch q⟩
    · rw [q]; exact ⟨o1, e1, fun v q => by rw [d1] at q; cases q⟩
    · rw [q]; exact ⟨o2, e2, fun v q => by rw [d2] at q; cases q⟩
    · rw [q]; exact ⟨o3, e3, fun v q => by rw [d3] at q; cases q⟩
  keep := fun i h h' st k => by
    obtain ⟨hz, hTI, ⟨x, y, u, hTO⟩, h1, h2, h3⟩ := st
    exact ⟨k z (by simp) _ hz, k TI (by simp) _ hTI, ⟨x, y, u, k TO (by simp) _ hTO⟩, h1.at fun o q => k i1 (by simp) o q, h2.at fun o q => k i2 (by simp) o q, h3.at fun o q => k i3 (by simp) o q⟩
  item := by
    intro X hP hw hK hc i pins s σ H E I hf st hg
    subst hP hw hK
    obtain ⟨hz, hTI, ⟨x0, y0, u0, hTO⟩, h1, h2, h3⟩ := st
    obtain ⟨xs, ys, us, x, y, u, hqx, hqy, hqu, hx, hy, hu⟩ := hg
    obtain ⟨its, rv, p, _⟩ := I.list hqx
    obtain ⟨its2, rv2, p2, _⟩ := I.list hqy
    obtain ⟨its3, rv3, p3, _⟩ := I.list hqu
    obtain ⟨v1, hv1, r1⟩ := rv.get hx
    obtain ⟨v2, hv2, r2⟩ := rv2.get hy
    obtain ⟨v3, hv3, r3⟩ := rv3.get hu
    have hzl : z < s.heap.objs.size := Heap.lt_size hz
    refine pyNext_item D hz hTI hTO h1 h2 h3 p.isList p2.isList p3.isList (x := v1) (y := v2) (u := v3) (by simpa using hv1) (by simpa using hv2) (by simpa using hv3) fun h' z' TO' h1' h2' h3' hT hsz hk => ?_
    refine ⟨_, rfl, wpAny_letOwnedTupleGo_zip (s := { s with heap := h' }) z' fun h'' z'' sb => ?_⟩
    have hT2 : h''.get? s.heap.objs.size = some { cls := .type "tuple", data := .seq #[v1, v2, v3] } := (sb.2 _ (Nat.ne_of_gt hzl)).trans hT
    have new : ObjOk X.prog X.w (upd H s.heap.objs.size (.tup [x, y, u])) h'' s.heap.objs.size (.tup [x, y, u]) :=
      ⟨by show 3 ≤ sizeLine; decide, [v1, v2, v3], .cons r1 (.cons r2 (.cons r3 .nil)), ⟨_, hT2, rfl, _, rfl⟩⟩
    have I1 : Inv X pins σ (upd H s.heap.objs.size (.tup [x, y, u])) { s with heap := h'' } :=
      I.turnedNew (t' := s.toks) (ch := [z, TI, TO, i1, i2, i3]) (fun c o hb q => (sb.2 c (fun q' => hb (by simp [q']))).trans (hk c o (fun q' => hb (by simp [q'])) (fun q' => hb (by simp [q'])) (fun q' => hb (by simp [q'])) (fun q' => hb (by simp [q'])) (fun q' => hb (by simp [q'])) q)) hf (Nat.le_refl _) new
    refine ⟨.ref s.heap.objs.size, _, I1, rfl, ⟨_, x, y, u, rfl, I.hok.fresh (Nat.le_refl _), rfl, fun l hl => by rw [I.list_inj hl hqx]; exact hx, fun l hl => by rw [I.list_inj hl hqy]; exact hy, fun l hl => by rw [I.list_inj hl hqu]; exact hu⟩, ⟨z'', ?_, ⟨v1, v2, v3, ?_⟩, ?_, ?_, ?_⟩, fun c hcm => ?_⟩
    · exact (sb.2 _ D.nTI.1).trans (hk _ _ D.nTI.1 D.nTI.2.1 D.nTI.2.2.1 D.nTI.2.2.2.1 D.nTI.2.2.2.2 hTI)
    · exact (sb.2 _ D.TOz).trans TO'
    · exact h1'.at fun o q => (sb.2 _ D.i1z).trans q
    · exact h2'.at fun o q => (sb.2 _ D.i2z).trans q
    · exact h3'.at fun o q => (sb.2 _ D.i3z).trans q
    · have hlt : c < s.heap.objs.size := by
        have e' : c = z ∨ c = TI ∨ c = TO ∨ c = i1 ∨ c = i2 ∨ c = i3 := by simpa using hcm
        rcases e' with q | q | q | q | q | q
        · rw [q]; exact hzl
        · rw [q]; exact Heap.lt_size hTI
        · rw [q]; exact Heap.lt_size hTO
        · rw [q]; obtain ⟨_, e1, _⟩ := h1; exact Heap.lt_size e1
        · rw [q]; obtain ⟨_, e2, _⟩ := h2; exact Heap.lt_size e2
        · rw [q]; obtain ⟨_, e3, _⟩ := h3; exact Heap.lt_size e3
      rw [upd_ne (Nat.ne_of_lt hlt)]
      exact (hf c hcm).1
  done := by
    intro X hP hw hK hc i pins s σ H E I hf st hg
    subst hP hw hK
    obtain ⟨hz, hTI, ⟨x0, y0, u0, hTO⟩, h1, h2, h3⟩ := st
    obtain ⟨xs, ys, us, hqx, hqy, hqu, hend⟩ := hg
    obtain ⟨its, rv, p, _⟩ := I.list hqx
    obtain ⟨its2, rv2, p2, _⟩ := I.list hqy
    obtain ⟨its3, rv3, p3, _⟩ := I.list hqu
    have l1 := rv.length
    have l2 := rv2.length
    have l3 := rv3.length
    have he : its.toArray[i]? = none ∨ its2.toArray[i]? = none ∨ its3.toArray[i]? = none := by
      rcases hend with q | q | q
      · exact .inl (by simp; omega)
      · exact .inr (.inl (by simp; omega))
      · exact .inr (.inr (by simp; omega))
    exact pyNext_end (I.ok.hd hc) D hz hTI hTO h1 h2 h3 p.isList p2.isList p3.isList he fun h' hk => ⟨rfl, I.turnedL (t' := s.toks) (ch := [z, TI, TO, i1, i2, i3]) (fun c o hb q =>
      hk c o (fun q' => hb (by simp [q'])) (fun q' => hb (by simp [q'])) (fun q' => hb (by simp [q'])) (fun q' => hb (by simp [q'])) (fun q' => hb (by simp [q'])) q) hf⟩
  self := fun A i s Q E st h => wpAny_pyIter_zip st.1 h
def iZip3 (K : PySem.W.Frag) (ta : TA) : TI := fun σ H R => ta σ H fun vs H1 => ∃ a b c xs ys us, vs = [.ref a, .ref b, .ref c] ∧ SqL K H1 a xs ∧ SqL K H1 b ys ∧ SqL K H1 c us ∧ R (Itz3 K a b c) H1
theorem pi_zip3 {X : Cx} {e e2 e3 : Expr} {ta : TA} {p pos tpos : Pos} {elts : List Expr} {kk : Nat} (hg : Gl X "zip") (hm : X.mg "zip" = none) (ha : PA X [e, e2, e3] ta)
    (hs : starEach [e, e2, e3] X.env = (false, eval e X.env) :: starEach [e2, e3] X.env := by rfl) (hpl : (backTo pos (starEach [e2, e3] X.env)).any (·.1) = false := by rfl) :
    PI X (.Tuple elts kk tpos) (.Call (.Name "zip" p) [e, e2, e3] [] pos) (iZip3 X.K ta) := by
  refine ⟨fun pins s σ H R I h => ?_⟩
  refine Call_ (ld_blt I hg hm PyProof.Rows.boot_zip (PyProof.Rows.callWith_type1 (thn (ha.run pos pins s σ H _ I h) fun us s1 ⟨vs, H1, I1, r1, q1⟩ => ?_) hs hpl))
  obtain ⟨a, b, c, xs, ys, us, ex, hqx, hqy, hqu, q⟩ := q1
  subst ex
  cases r1 with
  | cons r rr =>
    cases rr with
    | cons r' rr =>
      cases rr with
      | cons r'' rr =>
        cases rr
        cases r
        cases r'
        cases r''
        obtain ⟨its, rv, p1, _⟩ := I1.list hqx
        obtain ⟨its2, rv2, p2, _⟩ := I1.list hqy
        obtain ⟨its3, rv3, p3, _⟩ := I1.list hqu
        have la : a < s1.heap.objs.size := p1.lt
        have lb : b < s1.heap.objs.size := p2.lt
        have lc : c < s1.heap.objs.size := p3.lt
        refine call3 p1.isList p2.isList p3.isList fun h' hz hTI hTO h1 h2 h3 hsz hk => wpAny_pyIter_zip hz ?_
        have I2 : Inv X pins σ H1 { s1 with heap := h' } := I1.kept (t' := s1.toks) hk
        refine ⟨s1.heap.objs.size + 5, [s1.heap.objs.size + 5, s1.heap.objs.size + 3, s1.heap.objs.size + 4, s1.heap.objs.size, s1.heap.objs.size + 1, s1.heap.objs.size + 2], _, _, H1, rfl, I2, turn_zip3 (ap_new s1.heap.objs.size a b c la lb lc), ⟨hz, hTI, ⟨_, _, _, hTO⟩, h1, h2, h3⟩, fun c hcm => ?_, q⟩
        have e' : c = s1.heap.objs.size + 5 ∨ c = s1.heap.objs.size + 3 ∨ c = s1.heap.objs.size + 4 ∨ c = s1.heap.objs.size ∨ c = s1.heap.objs.size + 1 ∨ c = s1.heap.objs.size + 2 := by simpa using hcm
        have hle : s1.heap.objs.size ≤ c := by
          rcases e' with z | z | z | z | z | z
          · rw [z]; exact Nat.le_add_right _ _
          · rw [z]; exact Nat.le_add_right _ _
          · rw [z]; exact Nat.le_add_right _ _
          · rw [z]; exact Nat.le_refl _
          · rw [z]; exact Nat.le_add_right _ _
          · rw [z]; exact Nat.le_add_right _ _
        exact I1.fpOk hle (I1.hok.fresh hle)
def zipL3 : List Va → List Va → List Va → List Va
  | x :: r, y :: t, u :: q => .tup [x, y, u] :: zipL3 r t q
  | _, _, _ => []
theorem zipL3_get : ∀ (l m n : List Va) (i : Nat) (z : Va), (zipL3 l m n)[i]? = some z → ∃ x y u, l[i]? = some x ∧ m[i]? = some y ∧ n[i]? = some u ∧ z = .tup [x, y, u]
  | [], _, _, i, z, h => by simp [zipL3] at h
  | _ :: _, [], _, i, z, h => by simp [zipL3] at h
  | _ :: _, _ :: _, [], i, z, h => by simp [zipL3] at h
  | x :: r, y :: t, u :: q, 0, z, h => by simp [zipL3] at h; exact ⟨x, y, u, rfl, rfl, rfl, h.symm⟩
  | x :: r, y :: t, u :: q, i + 1, z, h => by
    rw [zipL3, List.getElem?_cons_succ] at h
    obtain ⟨x', y', u', h1, h2, h3, h4⟩ := zipL3_get r t q i z h
    exact ⟨x', y', u', by rw [List.getElem?_cons_succ]; exact h1, by rw [List.getElem?_cons_succ]; exact h2, by rw [List.getElem?_cons_succ]; exact h3, h4⟩
theorem zipL3_len : ∀ (l m n : List Va), (zipL3 l m n).length = min l.length (min m.length n.length)
  | [], _, _ => by simp [zipL3]
  | _ :: _, [], _ => by simp [zipL3]
  | _ :: _, _ :: _, [] => by simp [zipL3]
  | x :: r, y :: t, u :: q => by
    rw [zipL3, List.length_cons, List.length_cons, List.length_cons, List.length_cons, zipL3_len r t q]
    omega
def itZp3 (e : SE) : SI := fun s M => match e s M with
  | none => none
  | some (.val (.tup [v, u, y]), M1) => (match lstOf M1 v, lstOf M1 u, lstOf M1 y with
    | some l, some m, some n => some (.it (zipL3 l m n) (fun M => lstOf M v = some l ∧ lstOf M u = some m ∧ lstOf M y = some n), M1)
    | _, _, _ => none)
  | some (.val _, _) => none
  | some (.exc c v, M1) => some (.exc c v, M1)
theorem three_of {G : Sig} {R : Hp} {ρ : List Addr} {x y z : Va} {vs : List V} (r : VRs G R ρ [x, y, z] vs) : ∃ v u t, vs = [v, u, t] ∧ VR G R ρ x v ∧ VR G R ρ y u ∧ VR G R ρ z t := by
  cases r with
  | cons r t =>
    obtain ⟨u, q, rfl, r1, r2⟩ := two_of t
    exact ⟨_, u, q, rfl, r, r1, r2⟩
section
variable {X : Cx} {G : Sig} {E : XK} {ee : SE} {e e2 e3 : Expr} {pos : Pos}
theorem qi_zip3 {p tpos : Pos} {elts : List Expr} {kk : Nat} (hK : X.K = G.K) (hg : Gl X "zip") (hm : X.mg "zip" = none) (ha : PA X [e, e2, e3] (tA G E ee))
    (hs : starEach [e, e2, e3] X.env = (false, eval e X.env) :: starEach [e2, e3] X.env := by rfl) (hpl : (backTo pos (starEach [e2, e3] X.env)).any (·.1) = false := by rfl) :
    PI X (.Tuple elts kk tpos) (.Call (.Name "zip" p) [e, e2, e3] [] pos) (tI G E (itZp3 ee)) :=
  pi_imp (pi_zip3 hg hm ha hs hpl) fun σ H Q ⟨R, ρ, s, M, w, sr, p⟩ => by
    refine ⟨R, ρ, s, M, w, sr, ?_⟩
    unfold itZp3 at p
    rcases q : ee s M with _ | ⟨x | ⟨c, x⟩, M1⟩ <;> rw [q] at p
    · exact p
    · split at p
      · rename_i h; cases h
      · rename_i v u y M2 h
        cases h
        intro R1 ρ1 H1 vs e1 w1 r1
        obtain ⟨xv, yv, zv, rfl, rx, ry, rz⟩ := three_of r1
        split at p
        · rename_i l m n q2 q3 q4
          obtain ⟨ad, vs, rfl, hv, rv, hz⟩ := lst_read w1 rx q2
          obtain ⟨bd, us, rfl, hu, ru, hy⟩ := lst_read w1 ry q3
          obtain ⟨cd, ts, rfl, ht, rt, hx⟩ := lst_read w1 rz q4
          refine ⟨ad, bd, cd, vs, us, ts, rfl, by rw [hK]; exact hv, by rw [hK]; exact hu, by rw [hK]; exact ht, p R1 ρ1 H1 (Itz3 X.K ad bd cd) e1 w1 (by rw [zipL3_len]; omega) fun R2 ρ2 M2 H2 g2 w2 ck => ?_⟩
          obtain ⟨ad', vs', e', hv', rv', _⟩ := lst_read w2 (rx.mono g2) ck.1
          cases e'
          obtain ⟨bd', us', e'', hu', ru', _⟩ := lst_read w2 (ry.mono g2) ck.2.1
          cases e''
          obtain ⟨cd', ts', e''', ht', rt', _⟩ := lst_read w2 (rz.mono g2) ck.2.2
          cases e'''
          rw [hK]
          refine ⟨fun i z hz => ?_, fun i hi => ⟨vs', us', ts', hv', hu', ht', by rw [← rv'.length, ← ru'.length, ← rt'.length]; rw [zipL3_len] at hi; omega⟩⟩
          obtain ⟨x, y, u, hx, hy, hu2, rfl⟩ := zipL3_get l m n i z hz
          obtain ⟨xu, hxu, rxu⟩ := rv'.get hx
          obtain ⟨yu, hyu, ryu⟩ := ru'.get hy
          obtain ⟨zu, hzu, rzu⟩ := rt'.get hu2
          refine ⟨⟨vs', us', ts', xu, yu, zu, hv', hu', ht', hxu, hyu, hzu⟩, fun v H' ⟨T, x', y', z', e3, hT, h3, h4, h5, h6⟩ => ?_⟩
          subst e3 h3
          have a1 := h4 vs' hv'
          have a2 := h5 us' hu'
          have a3 := h6 ts' ht'
          rw [hxu] at a1
          rw [hyu] at a2
          rw [hzu] at a3
          cases a1
          cases a2
          cases a3
          obtain ⟨ex, wd⟩ := alloc_frz (o := .tup [xu, yu, zu]) w2 hT
          exact ⟨_, ex, wd, .tup upd_same (by show 3 ≤ sizeLine; decide) (.cons (rxu.mono ex.gr) (.cons (ryu.mono ex.gr) (.cons (rzu.mono ex.gr) .nil)))⟩
        · exact p.elim
      · exact p.elim
      · rename_i h; cases h
    · exact p
end
end PV

set_option Elab.async false
set_option linter.all false
set_option maxRecDepth 100000
set_option maxHeartbeats 4000000
namespace PV
open PySem PySem.Spec L2
open PyProof.Rows

/-! ### what raises nothing, beside what does -/
def noX (r : Res) : Res := match r with
  | some (.exc _ _, _) => none
  | r => r
def evNo (e : SE) : SE := fun s M => noX (e s M)
def stNo (e : SS) : SS := fun s M => match e s M with
  | some (.exc _ _, _, _) => none
  | r => r
section
variable {X : Cx} {G : Sig} {E : XK} {a : Expr} {es : List Expr} {st : Stmt} {ea : SE} {sa : SS}
theorem q_no (h : PE X a (tE G E0 ea)) : PE X a (tE G E (evNo ea)) := pe_imp h fun σ H Q ⟨R, ρ, s, M, w, sr, p⟩ => by
  refine ⟨R, ρ, s, M, w, sr, ?_⟩
  unfold evNo noX at p
  rcases q : ea s M with _ | ⟨x | ⟨c, x⟩, M1⟩ <;> rw [q] at p
  · exact p
  · exact p
  · exact p.elim
theorem qa_no (h : PA X es (tA G E0 ea)) : PA X es (tA G E (evNo ea)) := pa_imp h fun σ H Q ⟨R, ρ, s, M, w, sr, p⟩ => by
  refine ⟨R, ρ, s, M, w, sr, ?_⟩
  unfold evNo noX at p
  rcases q : ea s M with _ | ⟨x | ⟨c, x⟩, M1⟩ <;> rw [q] at p
  · exact p
  · cases x <;> first | exact p | exact p.elim
  · exact p.elim
theorem qt_no (h : PT X a (tT G E0 ea)) : PT X a (tT G E (evNo ea)) := pt_imp h fun σ H Q ⟨R, ρ, s, M, w, sr, p⟩ => by
  refine ⟨R, ρ, s, M, w, sr, ?_⟩
  unfold evNo noX at p
  rcases q : ea s M with _ | ⟨x | ⟨c, x⟩, M1⟩ <;> rw [q] at p
  · exact p
  · cases x <;> first | exact p | exact p.elim
  · exact p.elim
theorem qs_no (h : PS X st (tS G E0 sa)) : PS X st (tS G E (stNo sa)) := ps_imp h fun D σ H ⟨R, ρ, s, M, w, sr, p⟩ => by
  refine ⟨R, ρ, s, M, w, sr, ?_⟩
  unfold stNo at p
  rcases q : sa s M with _ | ⟨_ | x | _ | _ | ⟨c, x⟩, s1, M1⟩ <;> rw [q] at p
  · exact p
  · exact p
  · exact p
  · exact p
  · exact p
  · exact p.elim
end
theorem x_no {e : SE} {s : SL} {M M1 : Store} {v : Va} (h : e s M = some (.val v, M1)) : evNo e s M = some (.val v, M1) := by
  unfold evNo
  rw [h]
  rfl
theorem x_stNo {e : SS} {s s1 : SL} {M M1 : Store} (h : e s M = some (.nx, s1, M1)) : stNo e s M = some (.nx, s1, M1) := by
  unfold stNo
  rw [h]
theorem x_stRet {e : SS} {s s1 : SL} {M M1 : Store} {v : Va} (h : e s M = some (.ret v, s1, M1)) : stNo e s M = some (.ret v, s1, M1) := by
  unfold stNo
  rw [h]

/-! ### a def that may raise -/
def spE (G : Sig) (n : Nat) (f : FM) : Sp := fun vs H Q E => vs.length = n ∧ ∃ R ρ M l, Wd G R ρ M H ∧ VRs G R ρ l vs ∧ Post G R ρ H (f l M) Q E
abbrev Tk (X : Cx) (E : XK) : Prop := Takes X (fun cls d _ H => E cls d H)
section
variable {P : Program} {w : World} {K : PySem.W.Frag} {mg : Str → Option Value} {base : Heap} {G : Sig}
theorem ok_fnE {x qual : Str} {st : Stmt} {f : Addr} {fd : FuncData} {N ps : List Str} {k : Nat} {es : SS} (F : Fun K x qual st f fd) (S : FnScope N ps (defScope st))
    (hb : ∀ (cdv : Value) (A : Around) (outer : List Env) (s : Shared) (H : Hp) (E : XK), Room k (A.deeper (envOfC qual (defScope st) s.heap.objs.size f cdv)) → A.guards = some [] →
      PSs (cxOf (L2.CX P w) P w K mg base N qual (defScope st) f cdv A outer s H E) (defBody st) (tS G E es)) : FnG P w K mg base (L2.CX P w) (k + 1) f fd ps (spE G ps.length (runF N.length es)) :=
  fnG_of F S (fun vs H Q E h => h.1) fun cdv A outer s H vs Q E hr hg ⟨hl, R, ρ, M, l, wd, r, p⟩ =>
    ⟨_, hb cdv A outer s H E hr hg, R, ρ, startI N.length l, M, wd, sr_start r, post_end p⟩
theorem tk_of {N : List Str} {qual : Str} {scope : Scope} {f : Addr} {cd : Value} {A : Around} {outer : List Env} {s : Shared} {H : Hp} {E : XK} : Tk (cxOf (L2.CX P w) P w K mg base N qual scope f cd A outer s H E) E :=
  takes_of rfl rfl rfl rfl
theorem po_of {N : List Str} {qual : Str} {scope : Scope} {f : Addr} {cd : Value} {A : Around} {outer : List Env} {s : Shared} {H : Hp} {E : XK} :
    PassesOwn (model (cxOf (L2.CX P w) P w K mg base N qual scope f cd A outer s H E).prog (cxOf (L2.CX P w) P w K mg base N qual scope f cd A outer s H E).w) (cxOf (L2.CX P w) P w K mg base N qual scope f cd A outer s H E).A (cxOf (L2.CX P w) P w K mg base N qual scope f cd A outer s H E).env (cxOf (L2.CX P w) P w K mg base N qual scope f cd A outer s H E).xe := passes_of rfl
end
structure CalE (P : Program) (w : World) (K : PySem.W.Frag) (mg : Str → Option Value) (base : Heap) (G : Sig) (x : Str) (lv n : Nat) (fM : FM) : Prop where
  ex : ∃ (f : Addr) (fd : FuncData) (ps : List Str), mg x = some (.ref f) ∧ PySem.W.keepIn K (.ref f) = true ∧ Binds K fd ps [] ∧ FnG P w K mg base (L2.CX P w) lv f fd ps (spE G n fM)
theorem calE_of {P : Program} {w : World} {K : PySem.W.Frag} {mg : Str → Option Value} {base : Heap} {CA : Nat → Addr} {x : Str} {st : Stmt} {f : Addr} {fd : FuncData} {N ps : List Str} {k n N' : Nat} {es : SS} {c : FM} (F : Fun K x x st f fd) (S : FnScope N ps (defScope st)) (m : mg x = some (.ref f))
    (hb : Binds K fd ps []) (hn : ps.length = n) (hN : N.length = N') (hc : c = runF N' es)
    (body : ∀ (cdv : Value) (A : Around) (outer : List Env) (s : Shared) (H : Hp) (E : XK), Room k (A.deeper (envOfC x (defScope st) s.heap.objs.size f cdv)) → A.guards = some [] →
      PSs (cxOf (L2.CX P w) P w K mg base N x (defScope st) f cdv A outer s H E) (defBody st) (tS ⟨K, CA⟩ E es)) : CalE P w K mg base ⟨K, CA⟩ x (k + 1) n c := by
  subst hn hN hc
  exact ⟨f, fd, ps, m, F.kp, hb, ok_fnE F S body⟩
section
variable {X : Cx} {G : Sig} {E : XK} {a : Expr} {es : List Expr} {ea : SE} {pos p' : Pos} {lv k n : Nat} {x : Str} {fM : FM}
theorem q_calE (C : CalE X.prog X.w X.K X.mg X.base G x lv n fM) (tk : Tk X E) (hr : Room k X.A) (hl : lv ≤ k) (hgd : X.A.guards = some []) (hg : Gl X x) (ha : PA X (a :: es) (tA G E ea)) (hdb : (x == ("__debug__" : Str)) = false := by decide)
    (he : starEach (a :: es) X.env = (false, eval a X.env) :: starEach es X.env := by rfl) (hpl : (backTo pos (starEach es X.env)).any (·.1) = false := by rfl) :
    PE X (.Call (.Name x p') (a :: es) [] pos) (tE G E (evL (kFn n fM) ea)) := by
  obtain ⟨f, fd, ps, hm, hk, hb, F⟩ := C.ex
  refine pe_imp (pe_callG F (hr.mono hl) hgd hg hm hk hb .nil (passes_call tk fun _ _ _ _ h => h) ha hdb he hpl) fun σ H Q ⟨R, ρ, s, M, w, sr, p⟩ => stepA w sr p fun R1 ρ1 M1 H1 l vs e1 w1 sr1 r1 p1 => ?_
  unfold kFn at p1
  by_cases hl : l.length = n
  · rw [if_pos hl] at p1
    exact ⟨by rw [List.append_nil, ← r1.length]; exact hl, R1, ρ1, M1, l, w1, by rw [List.append_nil]; exact r1, p1⟩
  · rw [if_neg hl] at p1; exact False.elim p1
end

/-! ### raise C(e), C's own __init__ storing the value -/
def spInit (K : PySem.W.Frag) : Sp := fun vs H Q E => ∃ (a C : Addr) (v : V), vs = [.ref a, v] ∧ OexC K C ∧ PySem.W.findIn K (.ref C) "value" = some none ∧ H a = some (exo a C none) ∧ ∀ dx, H dx = none → dx ≠ a → Q .non (upd (upd H dx (exd dx [("value", v)])) a (exo a C (some dx)))
theorem ok_init {P : Program} {w : World} {K : PySem.W.Frag} {mg : Str → Option Value} {base : Heap} {x qual : Str} {st : Stmt} {f : Addr} {fd : FuncData} {k : Nat} {p1 p2 p3 p4 : Pos} (F : Fun K x qual st f fd) (S : FnScope ["self", "value"] ["self", "value"] (defScope st))
    (hb : defBody st = [.Assign [.Attribute (.Name "self" p1) "value" p2] (.Name "value" p3) p4])
    (h0 : Vis (defScope st) "self") (h1 : Vis (defScope st) "value") : FnOk P w K mg base CX0 (k + 1) f fd ["self", "value"] (spInit K) := by
  refine F.ok S (fun vs H Q E ⟨a, C, v, e, _⟩ => by rw [e]; rfl) fun cdv A outer s H vs Q E hr ⟨a, C, v, e, T, no, ea, h⟩ => ⟨tOst K "value" (tVar 0) (tVar 1), ?_, ?_⟩
  · rw [hb]
    exact pss_one (ps_ost (pe_var (i := 0) rfl h0) (pe_var (i := 1) rfl h1))
  · subst e
    exact ⟨v, rfl, .ref a, rfl, a, C, rfl, T, no, .inl ⟨ea, h⟩⟩
/-- an error class: how it is made, and what is read of it -/
structure ExB (P : Program) (w : World) (K : PySem.W.Frag) (mg : Str → Option Value) (base : Heap) (G : Sig) (x : Str) (c lv : Nat) : Prop where
  oex : OexC K (G.CA c)
  hm : mg x = some (.ref (G.CA c))
  no : PySem.W.findIn K (.ref (G.CA c)) "value" = some none
  xf : XfC K (G.CA c)
  ini : ∃ (f : Addr) (fd : FuncData) (ps : List Str), PySem.W.findIn K (.ref (G.CA c)) "__init__" = some (some (.ref f)) ∧ PySem.W.typeIn K (.ref f) = some (.type "function") ∧ Binds K fd ps [] ∧ FnOk P w K mg base CX0 lv f fd ps (spInit K)
def sRaise (c : Nat) (e : SE) : SS := fun s M => match e s M with
  | none => none
  | some (.val v, M1) => some (.exc c v, s, M1)
  | some (.exc c' v, M1) => some (.exc c' v, s, M1)
section
variable {X : Cx} {G : Sig} {E : XK} {a : Expr} {ea : SE} {pos pos' p' : Pos} {lv k c : Nat} {x : Str}
theorem qs_raise (B : ExB X.prog X.w X.K X.mg X.base G x c lv) (hc : X.calm = true) (tk : Tk X E) (hr : Room k X.A) (hl : lv + 1 ≤ k) (hg : Gl X x) (ha : PE X a (tE G E ea)) (hdb : (x == ("__debug__" : Str)) = false := by decide)
    (he : starEach [a] X.env = (false, eval a X.env) :: starEach [] X.env := by rfl) (hpl : (backTo pos (starEach [] X.env)).any (·.1) = false := by rfl) :
    PS X (.Raise (some (.Call (.Name x p') [a] [] pos)) none pos') (tS G E (sRaise c ea)) := by
  obtain ⟨f, fd, ps, iC, tI, hb, F⟩ := B.ini
  refine ps_imp (ps_raise hc tk (pmk_oex B.oex iC tI F (hr.mono hl) hb .nil pass0 hg B.hm (pa_cons ha pa_nil he) hdb he hpl)) fun D σ H ⟨R, ρ, s, M, w, sr, p⟩ => ?_
  show tE G E ea σ H fun x1 H1 => tNil σ H1 fun xs H2 => _
  refine ⟨R, ρ, s, M, w, sr, ?_⟩
  unfold sRaise at p
  rcases q : ea s M with _ | ⟨y | ⟨c', y⟩, M1⟩ <;> rw [q] at p
  · exact p
  · intro R1 ρ1 H1 v e1 w1 r1
    refine ⟨by show 1 ≤ 1000; decide, fun a0 ha0 => ⟨a0, G.CA c, v, rfl, B.oex, B.no, upd_same, fun dx hdx hne => ⟨rfl, dx, [("value", v)], upd_same, by rw [upd_ne hne, upd_same], by rw [upd_ne hne] at hdx; exact hdx, ?_⟩⟩⟩
    have hdx1 : H1 dx = none := by rw [upd_ne hne] at hdx; exact hdx
    have eq : upd (L2.del (upd (upd (upd H1 a0 (exo a0 (G.CA c) none)) dx (exd dx [("value", v)])) a0 (exo a0 (G.CA c) (some dx))) a0) dx (HO.xd [("value", v)]) = upd H1 dx (.xd [("value", v)]) := by
      funext b
      by_cases hb1 : b = dx
      · rw [hb1, upd_same, upd_same]
      · rw [upd_ne hb1, upd_ne hb1]
        by_cases hb2 : b = a0
        · rw [hb2, L2.del_same, ha0]
        · rw [L2.del_ne hb2, upd_ne hb2, upd_ne hb1, upd_ne hb2]
    show E (.ref (G.CA c)) (some dx) _
    rw [eq]
    obtain ⟨e2, w2⟩ := alloc_frz (o := .xd [("value", v)]) w1 hdx1
    exact p _ _ _ dx v (e1.trans e2) w2 upd_same (r1.mono e2.gr)
  · exact p
end

/-! ### try: body, several clauses 'except x as n' -/
def wMA (K : PySem.W.Frag) (D : Ends) : List (Value × Nat × (Addr → Value → Option Addr → TS)) → WX
  | [] => fun _ _ _ _ => False
  | (c, i, ts) :: r => fun cls d σ H => ∃ b, PySem.W.exmOne K cls c = some b ∧ (b = true → ∀ a, H a = none → ts a cls d { nx := fun σ' H' => D.nx (σ'.set i none) H', rt := D.rt, bk := fun σ' H' => D.bk (σ'.set i none) H', ct := fun σ' H' => D.ct (σ'.set i none) H' } (σ.set i (some (.ref a))) H) ∧
      (b = false → wMA K D r cls d σ H)
inductive HdA (X : Cx) : List ExceptHandler → List (Value × Nat × (Addr → Value → Option Addr → TS)) → Prop
  | nil : HdA X [] []
  | cons {x n : Str} {c : Value} {i : Nat} {ts : Addr → Value → Option Addr → TS} {b₀ : Stmt} {suite : List Stmt} {np pos' : Pos} {hds : List ExceptHandler} {l : List (Value × Nat × (Addr → Value → Option Addr → TS))} (hc : Names X x c)
      (hi : X.N[i]? = some n) (hln : X.env.kindOf n = some .local)
      (hsu : ∀ (a : Addr) (oe : Obj) (cls : Value) (d : Option Addr) (pn : List (Addr × Obj)), Zc cls d oe → (∃ vs, oe.data = .fields vs) → PSs (X.suite a ((a, oe) :: pn)) (b₀ :: suite) (ts a cls d)) (r : HdA X hds l) :
      HdA X (.ExceptHandler (some (.Name x np)) (some n) (b₀ :: suite) pos' :: hds) ((c, i, ts) :: l)
section
variable {X : Cx} {body : List Stmt} {h₀ : ExceptHandler} {hds : List ExceptHandler} {l : List (Value × Nat × (Addr → Value → Option Addr → TS))} {pos : Pos} {tb : WX → TS}
theorem ps_try_ma (hs : X.stack = X.env :: X.outer) (hf : X.env.frame = some X.env.locals) (hN : X.N.Nodup)
    (hb : ∀ (W : WX) (pn : List (Addr × Obj)) (xe : Value → Shared → Prop), Takes (X.tr pn xe) W → PassesOwn (model X.prog X.w) X.A X.env xe → PSs (X.tr pn xe) body (tb W))
    (hh : HdA X (h₀ :: hds) l) : PS X (.Try body (h₀ :: hds) [] [] pos) (fun D σ H => tb (wMA X.K D l) D σ H) := by
  refine ⟨fun pins s σ H D I h => ?_⟩
  have ok := I.ok
  have hfr : X.A.frames = some (X.env :: X.outer) := by rw [ok.frames, hs]
  refine wpAny_Try_except ?_
  refine wpAny_mono ((hb (wMA X.K D l) (X.pn ++ pins) (fun e s₁ => wpAny (model X.prog X.w) X.A (noteFrame e X.env) (fun _ s₂ => wpAny (model X.prog X.w) X.A (setFlight e none) (fun _ s₃ =>
    wpAny (model X.prog X.w) X.A (handleBy e X.env (h₀ :: hds)) (SP X pins D) X.xe s₃) X.xe s₂) X.xe s₁) (fun u s' xx => ?_) PassesOwn.looking).run [] s σ H D (I.toTry _) h) (fun f s1 hsp => ?_) (fun e s1 he => he)
  · obtain ⟨a, B, sI, pins', σ', H', cls, d, rfl, J', nb, up, sky, na, os, ag, w⟩ := xx
    have J : Inv X pins σ' H' sI := J'.ofTry ok
    have sky' : Sky B (X.env :: X.outer) a (Zc cls d) X.env.locals s'.heap := by rw [← hs]; exact sky
    show wpAny (model X.prog X.w) X.A (noteFrame (.ref a) X.env) _ _ _
    refine Sky.land Zc.steady hfr hf sky' fun h3 fl3 up3 => ?_
    have J3 : Inv X pins σ' H' { s' with heap := h3 } := J.landed nb fl3.1 (up.trans up3) os ag
    obtain ⟨oe3, vs3, he3, hz3, hd3⟩ := fl3.there
    have notFr : ∀ {h : Heap} {o : Obj} {vs : Array Value}, h.FunFrames B (X.env :: X.outer) → h.get? a = some o → o.data = .fields vs → a ∉ frs (X.env :: X.outer) := fun {h o vs} ff e dd hm => by
      obtain ⟨_, o', e', hnf⟩ := ff.mem hm
      rw [e] at e'; cases e'
      exact hnf _ dd
    have nfr := notFr fl3.2.2.1 he3 hd3
    have nL : a ≠ X.env.locals := fun z => nfr (List.mem_filterMap.mpr ⟨X.env, List.mem_cons_self, by rw [hf, z]⟩)
    have nF : a ∉ X.fs := fun hm => by
      obtain ⟨e, he, q⟩ := List.mem_filterMap.mp hm
      exact nfr (List.mem_filterMap.mpr ⟨e, List.mem_cons_of_mem _ he, q⟩)
    have S3 := J3.suite he3 hd3 na nL nF
    have go : ∀ {hds' : List ExceptHandler} {l' : List (Value × Nat × (Addr → Value → Option Addr → TS))}, HdA X hds' l' → wMA X.K D l' cls d σ' H' →
        wpAny (model X.prog X.w) X.A (handleBy (.ref a) X.env hds') (SP X pins D) X.xe { s' with heap := h3 } := by
      intro hds' l' hk
      induction hk with
      | nil => exact fun w => w.elim
      | @cons x n c i ts b₀ suite np pos' hds2 l2 hc hi hln hsu r ih =>
        intro w
        obtain ⟨b, hb1, hyes, hno⟩ := w
        have hloc : Loc X.env.scope n := .inl hln
        refine wpAny_handleBy_cons (codeAny_handlers_test ?_) (by intro q; cases q)
        have LT : PySem.W.Looks (model X.prog X.w) h3 (typeOf (.ref a)) cls := fun A Q E s k q => wpAny_typeOf_ref (k _ _ he3) (by rw [hz3.1]; exact q)
        have LM := PySem.W.exm_one (M := model X.prog X.w) (J3.kIn) LT hb1
        have test : ∀ {Q : Value → Shared → Prop} {E : Value → Shared → Prop}, Q c { s' with heap := h3 } → wpAny (model X.prog X.w) (X.A.mark (some (.ref a))) (eval (.Name x np) X.env) Q E { s' with heap := h3 } := fun {Q E} q => by
          obtain ⟨hg, hdbg, hm | ⟨hm, hv, hnn⟩⟩ := hc
          · exact ld_glob (X := X.suite a ((a, oe3) :: (X.pn ++ pins))) S3 hg hm q hdbg
          · exact ld_blt (X := X.suite a ((a, oe3) :: (X.pn ++ pins))) S3 hg hm hv q hnn hdbg
        refine test (LM.here ?_)
        cases b with
        | true =>
          refine codeAny_handlers_suite_as ?_
          refine HandSPX.lands_againZ fl3 fun h4 fl4 up4 => ?_
          have J4 : Inv X pins σ' H' { s' with heap := h4 } := J.landed nb fl4.1 ((up.trans up3).trans up4) os ag
          obtain ⟨oe4, vs4, he4, hz4, hd4⟩ := fl4.there
          have S4 := J4.suite he4 hd4 na nL nF
          refine store_ok (X := X.suite a ((a, oe4) :: (X.pn ++ pins))) (v := .ref a) S4 hN hi hloc rfl (fun s5 S5 => ?_) (.inr hln)
          refine wpAny_mono ((hsu a oe4 cls d (X.pn ++ pins) hz4 ⟨_, hd4⟩).run [] s5 _ H' _ S5 (hyes rfl a na)) (fun f s6 hsp => ?_) (fun _ _ z => False.elim z)
          have end_ : ∀ {σ6 : L2.St} {H6 : Hp} {Q : Shared → Prop}, Inv (X.suite a ((a, oe4) :: (X.pn ++ pins))) [] σ6 H6 s6 → (∀ s7, Inv X pins (σ6.set i none) H6 s7 → Q s7) →
              wpAny (model X.prog X.w) X.A (do bindName X.env n .none; unbindBehindTheSuite X.env n pos') (fun _ s7 => Q s7) X.xe s6 := fun {σ6 H6 Q} S6 hq => gone_ok (S6.unsuite ok) hN hi hln hq
          cases f with
          | next =>
            obtain ⟨σ6, H6, S6, q6⟩ := hsp
            exact end_ S6 fun s7 J7 => ⟨_, _, J7, q6⟩
          | brk =>
            obtain ⟨σ6, H6, S6, q6⟩ := hsp
            exact end_ S6 fun s7 J7 => ⟨_, _, J7, q6⟩
          | cont =>
            obtain ⟨σ6, H6, S6, q6⟩ := hsp
            exact end_ S6 fun s7 J7 => ⟨_, _, J7, q6⟩
          | ret u =>
            obtain ⟨v6, σ6, H6, S6, r6, q6⟩ := hsp
            exact end_ S6 fun s7 J7 => ⟨_, _, _, J7, r6, q6⟩
        | false =>
          show wpAny _ X.A (handleBy (.ref a) X.env hds2) _ _ _
          exact ih (hno rfl)
    exact go hh w
  · cases f with
    | next =>
      obtain ⟨σ', H', J', q⟩ := hsp
      exact wpAny_execs_nil ⟨σ', H', J'.ofTry ok, q⟩
    | brk =>
      obtain ⟨σ', H', J', q⟩ := hsp
      exact ⟨σ', H', J'.ofTry ok, q⟩
    | cont =>
      obtain ⟨σ', H', J', q⟩ := hsp
      exact ⟨σ', H', J'.ofTry ok, q⟩
    | ret u =>
      obtain ⟨v, σ', H', J', r, q⟩ := hsp
      exact ⟨v, σ', H', J'.ofTry ok, r, q⟩
end
theorem takes_len {X : Cx} {W W' : WX} (t : Takes X W) (h : ∀ c d σ H, σ.length = X.N.length → W' c d σ H → W c d σ H) : Takes X W' := fun u s' ⟨a, B, sI, pins, σ, H, cls, d, e, I, nb, up, sky, na, os, ag, w⟩ =>
  t u s' ⟨a, B, sI, pins, σ, H, cls, d, e, I, nb, up, sky, na, os, ag, h _ _ _ _ I.len w⟩

/-! ### a try by value: what its clauses do hangs on the error's value alone -/
abbrev Cls1 := Nat × Nat × (Va → SS)
def sHd (sub : Nat → Nat → Bool) (c : Nat) (x : Va) : List Cls1 → SS
  | [] => fun _ _ => none
  | (c', i, f) :: r => fun s M => if c = c' then (match f x (List.replicate s.length none) M with
      | some (.nx, s2, M2) => some (.nx, s2.set i none, M2)
      | some (.ret v, s2, M2) => some (.ret v, s2, M2)
      | _ => none) else if sub c c' = true then none else sHd sub c x r s M
def sTry (es : SS) (rs : List Nat) (sub : Nat → Nat → Bool) (cl : List Cls1) : SS := fun s M => match es s M with
  | some (.exc c x, _, M1) => if c ∈ rs then sHd sub c x cl s M1 else none
  | r => r
/-- what is known of the caught error a, its value x -/
def tX (G : Sig) (a d : Addr) (i : Nat) (f : Va → SS) : TS := fun D σ H => ∃ R ρ s M x v, Wd G R ρ M H ∧ SR G R ρ s σ ∧ σ[i]? = some (some (.ref a)) ∧ H d = some (.xd [("value", v)]) ∧ VR G R ρ x v ∧ PostS G R ρ H (f x s M) D E0
inductive ClA (X : Cx) (G : Sig) : List ExceptHandler → List Cls1 → Prop
  | nil : ClA X G [] []
  | cons {x n : Str} {c i : Nat} {f : Va → SS} {b₀ : Stmt} {suite : List Stmt} {np pos' : Pos} {hds : List ExceptHandler} {l : List Cls1} (hc : Names X x (.ref (G.CA c))) (hi : X.N[i]? = some n) (hln : X.env.kindOf n = some .local)
      (hsu : ∀ (a d : Addr) (oe : Obj) (pn : List (Addr × Obj)), Zc (.ref (G.CA c)) (some d) oe → (∃ vs, oe.data = .fields vs) → PSs (X.suite a ((a, oe) :: pn)) (b₀ :: suite) (tX G a d i f)) (r : ClA X G hds l) :
      ClA X G (.ExceptHandler (some (.Name x np)) (some n) (b₀ :: suite) pos' :: hds) ((c, i, f) :: l)
theorem ClA.ix {X : Cx} {G : Sig} : ∀ {hds : List ExceptHandler} {l : List Cls1}, ClA X G hds l → ∀ q ∈ l, q.2.1 < X.N.length
  | _, _, .nil, q, h => nomatch h
  | _, _, .cons hc hi hln hsu r, q, h => by
    rcases List.mem_cons.mp h with h | h
    · rw [h]
      exact (List.getElem?_eq_some_iff.mp hi).1
    · exact ClA.ix r q h
def clW (G : Sig) : List Cls1 → List (Value × Nat × (Addr → Value → Option Addr → TS)) := List.map fun q => (.ref (G.CA q.1), q.2.1, fun a cls d D σ H => cls = .ref (G.CA q.1) ∧ ∃ dd, d = some dd ∧ tX G a dd q.2.1 q.2.2 D σ H)
theorem hdA_of {X : Cx} {G : Sig} : ∀ {hds : List ExceptHandler} {l : List Cls1}, ClA X G hds l → HdA X hds (clW G l)
  | _, _, .nil => .nil
  | _, _, .cons hc hi hln hsu r => .cons hc hi hln (fun a oe cls d pn hz hf => ⟨fun pins s σ H D I ⟨hcls, dd, hd, h⟩ => by
      subst hcls
      subst hd
      exact (hsu a dd oe pn hz hf).run pins s σ H D I h⟩) (hdA_of r)
section
variable {X : Cx} {G : Sig} {body : List Stmt} {h₀ : ExceptHandler} {hds : List ExceptHandler} {cl : List Cls1} {pos : Pos} {es : SS}
theorem qs_try {rs : List Nat} {sub : Nat → Nat → Bool} (hs : X.stack = X.env :: X.outer) (hf : X.env.frame = some X.env.locals) (hN : X.N.Nodup)
    (hb : ∀ (E : XK) (pn : List (Addr × Obj)) (xe : Value → Shared → Prop), Tk (X.tr pn xe) E → PassesOwn (model X.prog X.w) X.A X.env xe → PSs (X.tr pn xe) body (tS G E es))
    (hh : ClA X G (h₀ :: hds) cl) (xm : ∀ c ∈ rs, ∀ q ∈ cl, PySem.W.exmOne X.K (.ref (G.CA c)) (.ref (G.CA q.1)) = some (decide (c = q.1) || sub c q.1)) :
    PS X (.Try body (h₀ :: hds) [] [] pos) (tS G E0 (sTry es rs sub cl)) := by
  have base := ps_try_ma (pos := pos) (tb := fun W => tS G (fun cls d H => ∀ σ : L2.St, σ.length = X.N.length → W cls d σ H) es) hs hf hN
    (fun W pn xe tk po => hb _ pn xe (takes_len tk fun c d σ H hl h => h σ hl) po) (hdA_of hh)
  refine ⟨fun pins s0 σ H D I ⟨R, ρ, s, M, w, sr, p⟩ => base.run pins s0 σ H D I ⟨R, ρ, s, M, w, sr, ?_⟩⟩
  have hsl : s.length = X.N.length := sr.len.trans I.len
  have hix := ClA.ix hh
  unfold sTry at p
  rcases q : es s M with _ | ⟨_ | y | _ | _ | ⟨c, y⟩, s1, M1⟩ <;> rw [q] at p
  · exact p
  · exact p
  · exact p
  · exact p
  · exact p
  · dsimp only at p
    by_cases hc : c ∈ rs
    · rw [if_pos hc] at p
      intro R1 ρ1 H1 d v e1 w1 hd r1 σ2 hl2
      have p1 : PostS G R1 ρ1 H1 (sHd sub c y cl s M1) D E0 := PostS.ext e1 p
      have key : ∀ (l : List Cls1), (∀ q ∈ l, q ∈ cl) → PostS G R1 ρ1 H1 (sHd sub c y l s M1) D E0 → wMA X.K D (clW G l) (.ref (G.CA c)) (some d) σ2 H1 := by
        intro l
        induction l with
        | nil => exact fun _ h => h.elim
        | cons k l ih =>
          intro hm h
          obtain ⟨c', i, f⟩ := k
          unfold sHd at h
          have x1 := xm c hc (c', i, f) (hm _ (by simp))
          by_cases hcc : c = c'
          · subst hcc
            rw [if_pos rfl] at h
            rw [decide_eq_true rfl, Bool.true_or] at x1
            refine ⟨true, x1, fun _ a ha => ⟨rfl, d, rfl, ?_⟩, fun z => by cases z⟩
            by_cases hil : i < σ2.length
            · refine ⟨R1, ρ1, List.replicate s.length none, M1, y, v, w1, ⟨by rw [List.length_replicate, List.length_set, hsl, hl2], fun j z e => ?_⟩, List.getElem?_set_self hil, hd, r1, ?_⟩
              · rw [List.getElem?_replicate] at e
                split at e <;> cases e
              · show PostS G R1 ρ1 H1 (f y (List.replicate s.length none) M1) { nx := fun σ' H' => D.nx (List.set σ' i none) H', rt := D.rt, bk := fun σ' H' => D.bk (List.set σ' i none) H', ct := fun σ' H' => D.ct (List.set σ' i none) H' } E0
                rcases q2 : f y (List.replicate s.length none) M1 with _ | ⟨_ | z | _ | _ | ⟨c2, z⟩, s2, M2⟩ <;> rw [q2] at h
                · exact h
                · exact fun R2 ρ2 H2 σ3 e3 w3 sr3 => h R2 ρ2 H2 _ e3 w3 (sr3.unset i none)
                · exact h
                · exact h.elim
                · exact h.elim
                · exact h.elim
            · exact absurd (hl2 ▸ hix (c, i, f) (hm _ (by simp))) hil
          · rw [if_neg hcc] at h
            by_cases hsb : sub c c' = true
            · rw [if_pos hsb] at h
              exact h.elim
            · rw [if_neg hsb] at h
              have hsb' : sub c c' = false := by simpa using hsb
              dsimp only at x1
              rw [decide_eq_false hcc, hsb'] at x1
              exact ⟨false, x1, fun z => (by cases z), fun _ => ih (fun q hq => hm q (by simp [hq])) h⟩
      exact key cl (fun _ h => h) p1
    · rw [if_neg hc] at p
      exact p.elim
end

/-! ### the suites -/
def evXv (x : Va) : SE := fun _ M => some (.val x, M)
def subOf (l : List (Nat × Nat)) (a b : Nat) : Bool := l.any fun p => p.1 == a && p.2 == b
section
variable {X : Cx} {G : Sig} {a d : Addr} {oe : Obj} {pn : List (Addr × Obj)} {c i j jk k : Nat} {y n z : Str} {py p1 p2 p3 p4 p5 : Pos} {sts : List Stmt}
theorem psu_never : PSs X sts (tX G a d i (fun _ _ _ => none)) := ⟨fun pins s σ H D I ⟨_, _, _, _, _, _, _, _, _, _, _, h⟩ => h.elim⟩
theorem psu_pair (T : XfC X.K (G.CA c)) (hno : PySem.W.findIn X.K (.ref (G.CA c)) "value" = some none) (hz : Zc (.ref (G.CA c)) (some d) oe) (hf : ∃ vs, oe.data = .fields vs)
    (hN : X.N.Nodup) (hj : X.N[j]? = some y) (hy : Loc X.env.scope y) (hi : X.N[i]? = some n) (hv : Vis X.env.scope n) (hd : (n == ("__debug__" : Str)) = false := by decide) (hcd : (n == ("__classdict__" : Str)) = false := by decide)
    (hs : swapsWith (.Tuple [.Constant (.str z) jk p1, .Attribute (.Name n p3) "value" p2] k p4) (some (.Name y py)) p5.line X.env = pure false := by rfl)
    (hfn : X.fn y = true ∨ X.env.scope.names.lookup y = some .local := by first | exact .inl rfl | exact .inr rfl | assumption) :
    PSs (X.suite a ((a, oe) :: pn)) [.Assign [.Name y py] (.Tuple [.Constant (.str z) jk p1, .Attribute (.Name n p3) "value" p2] k p4) p5] (tX G a d i (fun x => sSet j (evL kTup (evCons (evC (.str z)) (evCons (evXv x) evNil))))) := by
  refine pss_imp (pss_one (ps_set (X := X.suite a ((a, oe) :: pn)) hN hj hy (pe_tup (pa_cons pe_str (pa_cons (pe_xf T hno hz hf (pe_var (X := X.suite a ((a, oe) :: pn)) hi hv hd hcd)) pa_nil))) hs hfn)) fun D σ H ⟨R, ρ, s, M, x, v, w, sr, hia, hx, rv, p⟩ => ?_
  refine ⟨.ref a, hia, rfl, rfl, d, [("value", v)], v, rfl, hx, rfl, ?_⟩
  refine ⟨by show 2 ≤ sizeLine; decide, fun q hq => ?_⟩
  obtain ⟨e, w'⟩ := alloc_frz (o := .tup [.str z, v]) w hq
  have p' : Nxt G R ρ H (s.set j (some (.tup [.str z, x]))) M D.nx := p
  exact p' _ _ _ _ e w' ((sr.mono e.gr).set j (.tup upd_same (by show 2 ≤ sizeLine; decide) (.cons (.str _) (.cons (rv.mono e.gr) .nil))))
theorem psu_val (T : XfC X.K (G.CA c)) (hno : PySem.W.findIn X.K (.ref (G.CA c)) "value" = some none) (hz : Zc (.ref (G.CA c)) (some d) oe) (hf : ∃ vs, oe.data = .fields vs)
    (hN : X.N.Nodup) (hj : X.N[j]? = some y) (hy : Loc X.env.scope y) (hi : X.N[i]? = some n) (hv : Vis X.env.scope n) (hd : (n == ("__debug__" : Str)) = false := by decide) (hcd : (n == ("__classdict__" : Str)) = false := by decide)
    (hs : swapsWith (.Attribute (.Name n p3) "value" p2) (some (.Name y py)) p5.line X.env = pure false := by rfl)
    (hfn : X.fn y = true ∨ X.env.scope.names.lookup y = some .local := by first | exact .inl rfl | exact .inr rfl | assumption) :
    PSs (X.suite a ((a, oe) :: pn)) [.Assign [.Name y py] (.Attribute (.Name n p3) "value" p2) p5] (tX G a d i (fun x => sSet j (evXv x))) := by
  refine pss_imp (pss_one (ps_set (X := X.suite a ((a, oe) :: pn)) hN hj hy (pe_xf T hno hz hf (pe_var (X := X.suite a ((a, oe) :: pn)) hi hv hd hcd)) hs hfn)) fun D σ H ⟨R, ρ, s, M, x, v, w, sr, hia, hx, rv, p⟩ => ?_
  refine ⟨.ref a, hia, rfl, rfl, d, [("value", v)], v, rfl, hx, rfl, ?_⟩
  have p' : Nxt G R ρ H (s.set j (some x)) M D.nx := p
  exact p' _ _ _ _ Ext.refl w (sr.set j rv)
end
/-! ### what the written part says -/
theorem names_of {X : Cx} {x : Str} {c : Value} (hg : Gl X x) (hm : X.mg x = some c) (hd : (x == ("__debug__" : Str)) = false := by decide) : Names X x c := ⟨hg, hd, .inl hm⟩
end PV

set_option Elab.async false
set_option linter.all false
set_option maxRecDepth 100000
set_option maxHeartbeats 1000000
namespace PV
open PySem PySem.Spec PyProof.Rows L2
/-! ### min of a list of texts -/
def minS (z : Str) (zs : List Str) : Str := zs.foldl (fun m y => if leS m y = true then m else y) z
theorem minS_mem : ∀ (zs : List Str) (z : Str), minS z zs ∈ z :: zs
  | [], z => by simp [minS]
  | y :: zs, z => by
    have h := minS_mem zs (if leS z y = true then z else y)
    show minS (if leS z y = true then z else y) zs ∈ _
    rcases List.mem_cons.mp h with e | h
    · rw [e]
      by_cases q : leS z y = true
      · rw [if_pos q]; simp
      · rw [if_neg q]; simp
    · simp [h]
theorem leS_refl (a : Str) : leS a a = true := by
  have := leS_total a a
  simpa using this
theorem minS_le : ∀ (zs : List Str) (z : Str) (y : Str), y ∈ z :: zs → leS (minS z zs) y = true
  | [], z, y, h => by
    rw [List.mem_singleton.mp h]
    exact leS_refl _
  | x :: zs, z, y, h => by
    have h1 := minS_le zs (if leS z x = true then z else x)
    have h0 := h1 _ (List.mem_cons_self)
    show leS (minS (if leS z x = true then z else x) zs) y = true
    rcases List.mem_cons.mp h with e | h
    · subst e
      by_cases q : leS y x = true
      · rw [if_pos q] at h0 ⊢; exact h0
      · rw [if_neg q] at h0 ⊢
        have := leS_total y x
        have q' : leS x y = true := by
          cases hh : leS y x
          · rw [hh] at this; simpa using this
          · exact absurd hh q
        exact leS_trans _ _ _ h0 q'
    · rcases List.mem_cons.mp h with e | h
      · subst e
        by_cases q : leS z y = true
        · rw [if_pos q] at h0 ⊢; exact leS_trans _ _ _ h0 q
        · rw [if_neg q] at h0 ⊢; exact h0
      · exact h1 y (by simp [h])
theorem argBest_min (x : Nat → Str) : ∀ n : Nat, argBest (fun i j => decide ((x i).cps.toList < (x j).cps.toList)) n ≤ n ∧ ∀ j, j ≤ n → leS (x (argBest (fun i j => decide ((x i).cps.toList < (x j).cps.toList)) n)) (x j) = true
  | 0 => ⟨Nat.le_refl _, fun j hj => by
    have : j = 0 := by omega
    subst this
    exact leS_refl _⟩
  | n + 1 => by
    obtain ⟨h1, h2⟩ := argBest_min x n
    unfold argBest
    by_cases q : (x (n + 1)).cps.toList < (x (argBest (fun i j => decide ((x i).cps.toList < (x j).cps.toList)) n)).cps.toList
    · rw [if_pos (decide_eq_true q)]
      have hle : leS (x (n + 1)) (x (argBest (fun i j => decide ((x i).cps.toList < (x j).cps.toList)) n)) = true := by
        unfold leS
        exact decide_eq_true (List.le_of_lt q)
      refine ⟨Nat.le_refl _, fun j hj => ?_⟩
      by_cases e : j = n + 1
      · rw [e]; exact leS_refl _
      · exact leS_trans _ _ _ hle (h2 j (by omega))
    · rw [if_neg (by simpa using q)]
      refine ⟨by omega, fun j hj => ?_⟩
      by_cases e : j = n + 1
      · rw [e]
        unfold leS
        exact decide_eq_true (List.not_lt.mp q)
      · exact h2 j (by omega)
section
variable {prog : Program} {w : World} {A : Around} {E : Value → Shared → Prop} {s : Shared} {l : Addr} {its : Array Value} {xs : List Str}
theorem cmpOf_strs (h : StrsAre its.toList xs) : CmpOf prog w A .Lt (fun i v => its[i]? = some v) (fun i j => decide ((xs.getD i Str.empty).cps.toList < (xs.getD j Str.empty).cps.toList)) := fun i j vi vj s Q E hi hj hQ => by
  obtain ⟨t, rfl⟩ := SS.strs_at h i vi (by rw [Array.getElem?_toList]; exact hi)
  obtain ⟨u, rfl⟩ := SS.strs_at h j vj (by rw [Array.getElem?_toList]; exact hj)
  exact lt_str hQ
theorem minS_raw {Q : Value → Shared → Prop} (hh : A.handled = none) (hl : s.heap.IsList l its) (hi : StrsAre its.toList xs) (hne : 0 < xs.length)
    (h : ∀ h' tk m t', (∀ b o, s.heap.get? b = some o → h'.get? b = some o) → m ∈ xs → (∀ y, y ∈ xs → leS m y = true) → Q (.str m t') { s with heap := h', toks := tk }) :
    wpAny (model prog w) A (call (.builtin "min") [.ref l]) Q E s := by
  have hsz : its.size = xs.length := by rw [← Array.length_toList]; exact StrsAre.len_eq hi
  refine call_min_walk (iter_anyList hl fun s₂ e st hfp hlI => ?_)
  subst e
  refine ⟨_, _, _, _, _, _, _, rfl, Walks.list (A := A.in1) hh _ l hlI its, st, hfp, by rw [hsz]; exact hne, cmpOf_strs hi, fun v h' tk hP hk => ?_⟩
  obtain ⟨h1, h2⟩ := argBest_min (fun i => xs.getD i Str.empty) (its.size - 1)
  obtain ⟨t, rfl⟩ := SS.strs_at hi _ v (by rw [Array.getElem?_toList]; exact hP)
  refine h h' tk _ t (PySem.old_kept hk) ?_ fun y hy => ?_
  · have hlt : argBest (fun i j => decide ((xs.getD i Str.empty).cps.toList < (xs.getD j Str.empty).cps.toList)) (its.size - 1) < xs.length := by
      have : argBest (fun i j => decide ((xs.getD i Str.empty).cps.toList < (xs.getD j Str.empty).cps.toList)) (its.size - 1) ≤ its.size - 1 := h1
      omega
    rw [List.getD_eq_getElem?_getD, List.getElem?_eq_getElem hlt]
    exact List.getElem_mem hlt
  · obtain ⟨j, hj, e⟩ := List.mem_iff_getElem.mp hy
    have := h2 j (by omega)
    rw [show xs.getD j Str.empty = y by
      rw [List.getD_eq_getElem?_getD, List.getElem?_eq_getElem hj, ← e]
      rfl] at this
    exact this
end
section
variable {X : Cx} {G : Sig}
def rMinS (K : PySem.W.Frag) : List V → Hp → VK → Prop := fun vs H Q => ∃ (a : Addr) (xs : List Str), vs = [V.ref a] ∧ SqL K H a (xs.map V.str) ∧ 0 < xs.length ∧ ∀ m, m ∈ xs → (∀ y, y ∈ xs → leS m y = true) → Q (.str m) H
theorem cr_minS (hc : X.calm = true) : CallR X (.builtin "min") (rMinS X.K) := by
  intro pins s σ H vs us Q I r h
  obtain ⟨a, xs, rfl, hs, hne, q⟩ := h
  obtain ⟨its, rv, hl, _⟩ := I.list hs
  rw [Vals.ref1 r]
  exact minS_raw (I.ok.hd hc) hl.isList rv.strs hne fun h' tk m t' hk h1 h2 => ⟨.str _, H, I.kept hk, ⟨_, rfl⟩, q m h1 h2⟩
def gMin2 (M : Store) (l : List Va) : Option Va := match gMin M l with
  | some r => some r
  | none => match l with
    | [x] => (match (lstOf M x).bind strsOf with
      | some (z :: zs) => some (.str (minS z zs))
      | _ => none)
    | _ => none
theorem s_min2 (hK : X.K = G.K) : OpL G (fun xs H Q => ((∃ i j, xs = [.int i, .int j] ∧ Q (.int (if j < i then j else i)) H) ∨ rMin X.K xs H Q) ∨ rMinS X.K xs H Q) (kPure gMin2) := pure_of fun R ρ M H xs l res Q w rv h g => by
  unfold gMin2 at h
  split at h
  · rename_i r hr
    cases h
    left
    unfold gMin at hr
    split at hr
    · obtain ⟨v, u, rfl, r, q⟩ := two_of rv
      cases r; cases q; cases hr
      exact .inl ⟨_, _, rfl, gives_now w (.int _) g⟩
    · obtain ⟨v, rfl, r⟩ := one_of rv
      split at hr
      · rename_i l hl
        split at hr
        · rename_i n ns hn
          cases hr
          obtain ⟨a, rfl, sq⟩ := lst_ints w r hl hn
          refine .inr ⟨a, n :: ns, rfl, by rw [hK]; exact sq, by simp, fun m h1 h2 => ?_⟩
          have e : m = minL n ns := Int.le_antisymm (h2 _ (minL_mem ns n)) (minL_le ns n m h1)
          rw [e]
          exact gives_now w (.int _) g
        · cases hr
      · cases hr
    · cases hr
  · split at h
    · rename_i x _
      obtain ⟨v, rfl, r⟩ := one_of rv
      split at h
      · rename_i z zs hz
        cases h
        right
        cases hq : lstOf M x with
        | none => rw [hq] at hz; cases hz
        | some l' =>
          rw [hq] at hz
          obtain ⟨a, vs, rfl, sq, rv', _⟩ := lst_read w r hq
          rw [strs_of rv' hz] at sq
          refine ⟨a, z :: zs, rfl, by rw [hK]; exact sq, by simp, fun m h1 h2 => ?_⟩
          have e : m = minS z zs := leS_antisymm _ _ (h2 _ (minS_mem zs z)) (minS_le zs z m h1)
          rw [e]
          exact gives_now w (.str _) g
      · cases h
    · cases h
end
end PV

set_option Elab.async false
set_option linter.all false
set_option maxRecDepth 100000
set_option maxHeartbeats 4000000
namespace PV
open PySem PySem.Spec L2
open PyProof.Rows
/-! ### making and methods that may raise -/
section
variable {P : Program} {w : World} {K : PySem.W.Frag} {mg : Str → Option Value} {base : Heap} {CA : Nat → Addr} {x qual : Str} {st : Stmt} {f p : Addr} {fd : FuncData} {N ps : List Str} {k n N' c : Nat} {es : SS} {fM : FM}
theorem fnG_byE (F : Fun K x qual st f fd) (S : FnScope N ps (defScope st)) (hn : ps.length = n) (hN : N.length = N') (hc : fM = runF N' es)
    (body : ∀ (cdv : Value) (A : Around) (outer : List Env) (s : Shared) (H : Hp) (E : XK), Room k (A.deeper (envOfC qual (defScope st) s.heap.objs.size f cdv)) → A.guards = some [] →
      PSs (cxOf (L2.CX P w) P w K mg base N qual (defScope st) f cdv A outer s H E) (defBody st) (tS ⟨K, CA⟩ E es)) : FnG P w K mg base (L2.CX P w) (k + 1) f fd ps (spE ⟨K, CA⟩ n fM) := by
  subst hn hN hc
  exact ok_fnE F S body
end
structure MkE (P : Program) (w : World) (K : PySem.W.Frag) (mg : Str → Option Value) (base : Heap) (G : Sig) (x : Str) (c : Nat) (lv n : Nat) (fM : FM) : Prop where
  ex : ∃ (f : Addr) (fd : FuncData) (ps : List Str), mg x = some (.ref (G.CA c)) ∧ Mk K (G.CA c) f ∧ Binds K fd ps [] ∧ FnG P w K mg base (L2.CX P w) lv f fd ps (spE G (n + 1) fM)
structure MeE (P : Program) (w : World) (K : PySem.W.Frag) (mg : Str → Option Value) (base : Heap) (G : Sig) (c : Nat) (x : Str) (lv n : Nat) (fM : FM) : Prop where
  ex : ∃ (f : Addr) (fd : FuncData) (ps : List Str), Cls K (G.CA c) ∧ Meth K (G.CA c) x f ∧ Binds K fd ps [] ∧ FnG P w K mg base (L2.CX P w) lv f fd ps (spE G (n + 1) fM)
section
variable {P : Program} {w : World} {K : PySem.W.Frag} {mg : Str → Option Value} {base : Heap} {CA : Nat → Addr} {f p : Addr} {fd : FuncData} {ps : List Str} {k n c : Nat} {fM : FM}
theorem mk_ofE {y : Str} (hm : mg y = some (.ref (CA c))) (M : Mk K (CA c) f) (hb : Binds K fd ps []) (F : FnG P w K mg base (L2.CX P w) k f fd ps (spE ⟨K, CA⟩ (n + 1) fM)) : MkE P w K mg base ⟨K, CA⟩ y c k n fM := ⟨f, fd, ps, hm, M, hb, F⟩
theorem me_ofE {y : Str} (C : Cls K (CA c)) (hp : Meth K (CA c) y f) (hb : Binds K fd ps []) (F : FnG P w K mg base (L2.CX P w) k f fd ps (spE ⟨K, CA⟩ (n + 1) fM)) : MeE P w K mg base ⟨K, CA⟩ c y k n fM := ⟨f, fd, ps, C, hp, hb, F⟩
end
section
variable {X : Cx} {G : Sig} {E : XK} {a o e : Expr} {es : List Expr} {ea eo : SE} {pos p' apos : Pos} {c n k lv : Nat} {f C : Addr} {x m : Str} {fM : FM}
theorem make_simE {R : Hp} {ρ : List Addr} {M : Store} {H : Hp} {l : List Va} {vs : List V} {Q : VK} (w : Wd G R ρ M H) (r : VRs G R ρ l vs) (q : Post G R ρ H (kMake c n fM l M) Q E) (hC : G.CA c = C) :
    ∀ x dx, H x = none → H dx = none → dx ≠ x → spE G (n + 1) fM (.ref x :: (vs ++ [])) (upd (upd H dx (.own x)) x (.ins C dx [])) (fun v H2 => v = .non ∧ Q (.ref x) H2) E := by
  intro x dx hx hdx ne
  unfold kMake at q
  by_cases hl : l.length = n
  · rw [if_pos hl] at q
    have e0 : Ext R ρ H R ρ (upd H dx (.own x)) := Ext.heapNew hdx
    have w0 : Wd G R ρ M (upd H dx (.own x)) := w.heap fun b o h => by rw [upd_ne (ne_of_none h hdx)]; exact h
    have hx' : (upd H dx (.own x)) x = none := by rw [upd_ne ne.symm]; exact hx
    obtain ⟨e1, w1, g1⟩ := alloc_cel (o := .ins C dx []) (x := .ins c []) w0 hx' ⟨dx, [], by rw [hC, upd_same], .nil⟩
    refine ⟨by rw [List.append_nil, List.length_cons, ← r.length, hl], R, _, _, .cel M.nx :: l, w1, .cons (.cel g1) (by rw [List.append_nil]; exact r.mono e1.gr), ?_⟩
    rcases z : fM (.cel M.nx :: l) (M.new (.ins c [])) with _ | ⟨y | ⟨k, y⟩, M2⟩ <;> rw [z] at q
    · exact q
    · cases y <;> first | exact q.elim | skip
      intro R' ρ' H' v e w' rv
      cases rv
      exact ⟨rfl, q R' ρ' H' (.ref x) ((e0.trans e1).trans e) w' (.cel (e.get g1))⟩
    · intro R' ρ' H' d v e w' h rv
      exact q R' ρ' H' d v ((e0.trans e1).trans e) w' h rv
  · rw [if_neg hl] at q; exact q.elim
theorem q_makeE (B : MkE X.prog X.w X.K X.mg X.base G x c lv n fM) (tk : Tk X E) (hr : Room k X.A) (hl : lv + 1 ≤ k) (hgd : X.A.guards = some []) (hg : Gl X x) (ha : PA X (e :: es) (tA G E ea)) (hdb : (x == ("__debug__" : Str)) = false := by decide)
    (he : starEach (e :: es) X.env = (false, eval e X.env) :: starEach es X.env := by rfl) (hpl : (backTo pos (starEach es X.env)).any (·.1) = false := by rfl) :
    PE X (.Call (.Name x p') (e :: es) [] pos) (tE G E (evL (kMake c n fM) ea)) := by
  obtain ⟨f, fd, ps, hm, hk, hb, F⟩ := B.ex
  exact pe_imp (pe_makeG hk F (hr.mono hl) hgd hg hm hb .nil (passes_call tk fun _ _ _ _ h => h) ha hdb he hpl) fun σ H Q ⟨R, ρ, s, M, w, sr, p⟩ => stepA w sr p fun R1 ρ1 M1 H1 l vs e1 w1 sr1 r1 p1 => make_simE w1 r1 p1 rfl
theorem q_methE {pl : Sem Bool} (B : MeE X.prog X.w X.K X.mg X.base G c m lv n fM) (tk : Tk X E) (hr : Room k X.A) (hl : lv ≤ k) (hgd : X.A.guards = some []) (ho : PE X o (tE G E eo)) (ha : PA X (e :: es) (tA G E ea))
    (hst : starEach (e :: es) X.env = (false, eval e X.env) :: starEach es X.env := by rfl) (hpl : (backTo pos (starEach es X.env)).any (·.1) = false := by rfl)
    (ht : eval (.Call (.Attribute o m apos) (e :: es) [] pos) X.env = (do
      let ov ← eval o X.env
      standAt apos.atName
      let (f, first) ← holding [ov] (getMethod ov m pl)
      callWith pos f first (backTo pos (starEach (e :: es) X.env)) (backToKw pos (keywordEach [] X.env))) := by rfl) :
    PE X (.Call (.Attribute o m apos) (e :: es) [] pos) (tE G E (evMeth c m n fM eo ea)) := by
  obtain ⟨f, fd, ps, hc, hm, hb, F⟩ := B.ex
  refine ⟨fun pins s σ H Q I h => ?_⟩
  have h' : tE G E eo σ H fun x H1 => ∃ b dx fs, x = .ref b ∧ H1 b = some (.ins (G.CA c) dx fs) ∧ fs.lookup m = none ∧ tA G E ea σ H1 fun vs H2 => spE G (n + 1) fM (x :: vs) H2 Q E := by
    obtain ⟨R, ρ, s', M, w, sr, p⟩ := h
    refine stepE w sr p fun R1 ρ1 M1 H1 va v e1 w1 sr1 r1 p1 => ?_
    split at p1
    · rename_i hob
      obtain ⟨b, dx, fs, rfl, hb', hn⟩ := meth_obj w1 r1 hob
      refine ⟨b, dx, fs, rfl, hb', hn, stepA w1 sr1 p1 fun R2 ρ2 M2 H2 l vs e2 w2 sr2 r2 p2 => ?_⟩
      by_cases hl : l.length = n
      · rw [if_pos hl] at p2
        exact ⟨by rw [List.length_cons, ← r2.length, hl], R2, ρ2, M2, va :: l, w2, .cons (r1.mono e2.gr) r2, p2⟩
      · rw [if_neg hl] at p2; exact p2.elim
    · exact p1.elim
  refine PySem.W.methodCall_KW (pl := pl) (thn (ho.run pins s σ H _ I h') fun u s1 ⟨x, H1, I1, rx, b, dx, fs, ex, ea, l, q⟩ => ?_) ht
  subst ex
  obtain rfl : u = Value.ref b := rx
  refine getmeth_ok I1 ea hc hm l ?_
  refine PySem.W.callWith_K (first := [.ref b]) (h₀ := X.base) I.ok.mod.kin hm.kp (thn (ha.run pos pins s1 σ H1 _ I1 q) fun us s2 ⟨vs, H2, I2, r, q2⟩ => ⟨I2.kIn, ?_⟩) hst hpl
  exact run_fnG (us := .ref b :: us) (vs := .ref b :: vs) F (hr.mono hl) hgd hb .nil (passes_call tk fun _ _ _ _ h => h) I2 (.cons rfl r) (by rw [List.append_nil]; exact q2)
/-- a def that raises nothing, its arguments may -/
def fnNo (fM : FM) : FM := fun l M => noX (fM l M)
theorem q_calM (B : Cal X.prog X.w X.K X.mg X.base G x lv n fM) (hr : Room k X.A) (hl : lv ≤ k) (hgd : X.A.guards = some []) (hg : Gl X x) (ha : PA X (e :: es) (tA G E ea)) (hdb : (x == ("__debug__" : Str)) = false := by decide)
    (he : starEach (e :: es) X.env = (false, eval e X.env) :: starEach es X.env := by rfl) (hpl : (backTo pos (starEach es X.env)).any (·.1) = false := by rfl) :
    PE X (.Call (.Name x p') (e :: es) [] pos) (tE G E (evL (kFn n (fnNo fM)) ea)) := by
  obtain ⟨f, fd, ps, hm, hk, hb, F⟩ := B.ex
  refine pe_imp (pe_callG F (hr.mono hl) hgd hg hm hk hb .nil (show Passes CX0 X E from fun _ _ _ _ _ _ _ h => h.elim) ha hdb he hpl) fun σ H Q ⟨R, ρ, s, M, w, sr, p⟩ => stepA w sr p fun R1 ρ1 M1 H1 l vs e1 w1 sr1 r1 p1 => ?_
  unfold kFn at p1
  by_cases hl : l.length = n
  · rw [if_pos hl] at p1
    refine ⟨by rw [List.append_nil, ← r1.length]; exact hl, R1, ρ1, M1, l, w1, by rw [List.append_nil]; exact r1, ?_⟩
    unfold fnNo noX at p1
    rcases q : fM l M1 with _ | ⟨y | ⟨c, y⟩, M2⟩ <;> rw [q] at p1
    · exact p1
    · exact p1
    · exact p1.elim
  · rw [if_neg hl] at p1; exact False.elim p1
theorem x_fnNo {fM : FM} {l : List Va} {M M1 : Store} {v : Va} (h : fM l M = some (.val v, M1)) : fnNo fM l M = some (.val v, M1) := by
  unfold fnNo
  rw [h]
  rfl
end
end PV

set_option Elab.async false
set_option linter.all false
set_option maxRecDepth 100000
set_option maxHeartbeats 4000000
/-! an exception out of the element of a list comprehension -/
namespace PV
open PySem PySem.Spec L2
open PyProof.Rows

theorem ns_ne {h : Heap} {C e : Addr} {m : Str → Option Value} {oe : Obj} {vs : Array Value} (hn : h.Ns C m) (he : h.get? e = some oe) (hd : oe.data = .fields vs) : e ≠ C := fun q => by
  obtain ⟨o, es, ep, ho, hdd, _⟩ := hn
  rw [q, ho] at he
  cases he
  rw [hdd] at hd
  cases hd
section
variable {M : Model} {A : Around} {E : Value → Shared → Prop} {s' : Shared} {base : Heap} {env cenv : Env} {outer l : List Env} {e L : Addr} {Z : Obj → Prop} {m : Str → Option Value}
/-- the block's names are let go, the exception is held by the def's frame -/
theorem failsZ (hf : cenv.frame = some L) (hbC : base.get? cenv.locals = none) (hn : s'.heap.Ns cenv.locals m) (hh : HandSPX.HeldZ base l e Z L s'.heap)
    (hQ : ∀ h', HandSPX.HeldZ base l e Z L h' → (∀ b o, s'.heap.get? b = some o → b ≠ cenv.locals → (∀ vs, o.data ≠ .fields vs) → ∃ sl, h'.get? b = some { o with slots := sl }) → E (.ref e) { s' with heap := h' }) :
    CompFails M A E cenv (.ref e) s' := by
  refine ⟨m, hn, fun h2 m2 hn2 hs2 => ?_⟩
  obtain ⟨b1, b0, f1, oe, vs, T, oT, ts, he, hz, hd, h1, hnT, hTe, hT, hdT, h3⟩ := hh
  have b2 : base.StaysIn h2 := fun b o hb => (hs2.2 b fun q => by rw [q, hbC] at hb; cases hb).trans (b1 b o hb)
  have f2 : h2.FunFrames base l := Heap.FunFrames.sameBut hs2 hn2 f1
  have he2 := (hs2.2 e (ns_ne hn he hd)).trans he
  have hT2 := (hs2.2 T (ns_ne hn hT hdT)).trans hT
  have hh2 : HandSPX.HeldZ base l e Z L h2 := ⟨b2, b0, f2, oe, vs, T, oT, ts, he2, hz, hd, h1, hnT, hTe, hT2, hdT, h3⟩
  unfold PySem.passOn
  refine wpAny_bind (wpAny_field he2 hd h1 ?_)
  rw [if_neg (show ¬ ((Value.ref T == Value.none) = true) from by simp)]
  rw [hf]
  refine wpAny_bind (HandSPX.setFlight_onZ (s := { s' with heap := h2 }) hh2 fun h4 hh4 up => ?_)
  exact wpAny_throw (hQ h4 hh4 fun b o hb hbL hnf => up b o ((hs2.2 b hbL).trans hb) hnf)
/-- out of a call in the element -/
theorem notedZ (hZ : HandSPX.Steady Z) (hfr : A.frames = some (env :: outer)) (hcf : cenv.frame = env.frame) (hf : env.frame = some L) (hbC : base.get? cenv.locals = none) (hn : s'.heap.Ns cenv.locals m) (hfl : HandSPX.FlyingZ base (env :: outer) e Z s'.heap)
    (hQ : ∀ h', HandSPX.HeldZ base (env :: outer) e Z L h' → (∀ b o, s'.heap.get? b = some o → b ≠ cenv.locals → (∀ vs, o.data ≠ .fields vs) → ∃ sl, h'.get? b = some { o with slots := sl }) → E (.ref e) { s' with heap := h' }) :
    notedBy M A cenv (CompFails M A E cenv) (.ref e) s' := by
  show wpAny M A (noteFrame (.ref e) cenv) _ _ s'
  rw [noteFrame_env _ hcf]
  refine HandSPX.looks_onZ hZ hfr hf hfl fun h1 hH hk => ?_
  refine failsZ (s' := { s' with heap := h1 }) (hcf.trans hf) hbC (hn.upToSlots hk) hH fun h2 hH2 hk2 => hQ h2 hH2 fun b o hb hbC' hnf => ?_
  obtain ⟨sl, e1⟩ := hk b o hb hnf
  obtain ⟨sl2, e2⟩ := hk2 b _ e1 hbC' hnf
  exact ⟨sl2, e2⟩
end

section
variable {X : Cx} {pins : List (Addr × Obj)} {σ : L2.St} {H : Hp} {s s' : Shared} {E : XK}
/-- a call's exception, in the air above a state of ours -/
theorem air_of (I : Inv X pins σ H s) {u : Value} (c : L2.CX X.prog X.w X.stack H s E u s') :
    ∃ (a : Addr) (B : Heap) (sI : Shared) (H' : Hp) (cls : Value) (d : Option Addr), u = .ref a ∧ Inv X pins σ H' sI ∧ (∀ b o, sI.heap.get? b = some o → b ∉ frs X.stack → B.get? b = some o) ∧ sI.heap.UpToSlots s'.heap ∧
      HandSPX.FlyingZ B X.stack a (Zc cls d) s'.heap ∧ H' a = none ∧ s'.os = sI.os ∧ AllBare s'.gens ∧ E cls d H' := by
  obtain ⟨a, B, H', cls, d, rfl, fl, hok, ub, na, os, ag, hE⟩ := c
  have st : B.StaysIn s'.heap := fl.1
  obtain ⟨G, g1, g2⟩ := restrict s'.heap fun b => (B.get? b).isSome || decide (b ∈ frs X.stack)
  have inB : ∀ b o, B.get? b = some o → G.get? b = some o := fun b o e => (g1 b (by simp [e])).trans (st b o e)
  have inF : ∀ b, b ∈ frs X.stack → G.get? b = s'.heap.get? b := fun b hb => g1 b (by simp [hb])
  have out : ∀ b o, G.get? b = some o → s'.heap.get? b = some o ∧ ((B.get? b).isSome = true ∨ b ∈ frs X.stack) := fun b o e => by
    cases q : ((B.get? b).isSome || decide (b ∈ frs X.stack)) with
    | false => rw [g2 b q] at e; cases e
    | true => exact ⟨(g1 b q).symm.trans e, by simpa [Bool.or_eq_true] using q⟩
  have I' : Inv X pins σ H' { s with heap := G, gens := s'.gens, drawn := s'.drawn, toks := s'.toks } := by
    refine I.call (ch := []) ⟨fun b o e n hb _ => inB b o (ub.keep b o e n hb), fun b o e n hb _ => ?_, fun b o e n _ => ub.free b o e n, fun b o e _ => ?_, ub.tups, ub.frzs, ub.tbls⟩ (hok.kept inB) ag (fun _ z => nomatch z)
    · obtain ⟨sl, q⟩ := ub.slot b o e hb
      exact ⟨sl, (inF b hb).trans q⟩
    · by_cases hb : b ∈ frs X.stack
      · obtain ⟨sl, q⟩ := ub.slot b o e hb
        exact ⟨_, (inF b hb).trans q⟩
      · obtain ⟨o', q⟩ := ub.there b o e hb
        exact ⟨o', inB b o' q⟩
  refine ⟨a, B, _, H', cls, d, rfl, I', fun b o e hb => ?_, Heap.UpToSlots.of_keeps fun b o e => (out b o e).1, fl, na, os, ag, hE⟩
  obtain ⟨e1, h⟩ := out b o e
  rcases h with h | h
  · obtain ⟨o', q⟩ := Option.isSome_iff_exists.mp h
    have z := st b o' q
    rw [e1] at z; cases z
    exact q
  · exact absurd h hb
end
/-- a block whose element may raise what E says -/
abbrev blkE (X : Cx) (E : XK) (s : Shared) (H : Hp) (scope : Scope) (cenv : Env) (fp : List Addr) : Cx :=
  (X.blk s H scope cenv fp).wish fun e s' => ∃ (pins : List (Addr × Obj)) (σ : L2.St) (H' : Hp) (s0 : Shared), Inv (X.blk s H scope cenv fp) pins σ H' s0 ∧ L2.CX X.prog X.w X.stack H' s0 E e s'
theorem passes_blk {X : Cx} {E : XK} {s : Shared} {H : Hp} {scope : Scope} {cenv : Env} {fp : List Addr} : Passes (L2.CX X.prog X.w) (blkE X E s H scope cenv fp) E := fun pins σ H' s0 e s' I c => ⟨pins, σ, H', s0, I.unwish, c⟩
/-- out of the block, into the def -/
theorem blk_out {X : Cx} {E : XK} {pins pins' : List (Addr × Obj)} {σ0 σ : L2.St} {H3 H : Hp} {s3 s0 s' : Shared} {fp : List Addr} {scope : Scope} {ce : Env} {e : Value} (tk : Tk X E) (hs : X.stack = X.env :: X.outer) (hf : X.env.frame = some X.env.locals)
    (I3 : Inv X pins σ0 H3 s3) (f3 : ∀ b ∈ fp, FpOk X pins H3 b ∧ b < s3.heap.objs.size) (cL : ce.locals = s3.heap.objs.size) (cF : ce.frame = X.env.frame)
    (I : Inv (X.blk s3 H3 scope ce fp) pins' σ H s0) (c : L2.CX X.prog X.w X.stack H s0 E e s') : notedBy (model X.prog X.w) X.A ce (CompFails (model X.prog X.w) X.A X.xe ce) e s' := by
  obtain ⟨a, B, sI, H', cls, d, rfl, Ib, nb, up, fl, na, os, ag, hE⟩ := air_of I c
  have nb : ∀ b o, sI.heap.get? b = some o → b ∉ frs X.stack → B.get? b = some o := nb
  have fl : HandSPX.FlyingZ B X.stack a (Zc cls d) s'.heap := fl
  have nC : H' s3.heap.objs.size = none := by
    have z : H' ce.locals = none := Ib.free
    rw [cL] at z
    exact z
  have IX : Inv X pins σ0 H' sI := I3.call' (ch := fp) Ib.os Ib.base Ib.hok Ib.bare fun b hb => ⟨(f3 b hb).1.2.2.2.1, (f3 b hb).1.2.1, (f3 b hb).1.2.2.2.2.1, (f3 b hb).1.2.2.2.2.2⟩
  obtain ⟨m, hn, _⟩ := Ib.loc
  have hn : sI.heap.Ns ce.locals m := hn
  have hn' : s'.heap.Ns ce.locals m := hn.upToSlots up
  have hfr : X.A.frames = some (X.env :: X.outer) := by rw [I3.ok.frames, hs]
  let B' := PySem.W.hideAll B [ce.locals]
  have sub : ∀ b o, B'.get? b = some o → B.get? b = some o := fun b o e => PySem.W.of_hideAll _ e
  have fl' : HandSPX.FlyingZ B' (X.env :: X.outer) a (Zc cls d) s'.heap := by
    rw [hs] at fl
    obtain ⟨k1, k2, k3, oe, vs, T, oT, ts, he, hz, hd, h1, hnT, hr⟩ := fl
    have no : ∀ b, B.get? b = none → B'.get? b = none := fun b hb => by
      cases q : B'.get? b with
      | none => rfl
      | some o => rw [sub b o q] at hb; cases hb
    exact ⟨fun b o e => k1 b o (sub b o e), no a k2, funFrames_none k3 fun b hb => no b (k3.mem hb).1, oe, vs, T, oT, ts, he, hz, hd, h1, no T hnT, hr⟩
  refine notedZ (base := B') Zc.steady hfr cF hf (PySem.W.hideAll_none _ (by simp)) hn' fl' fun h2 hh2 k2 => ?_
  refine tk (.ref a) _ ⟨a, B', { sI with heap := PySem.W.hideAll sI.heap [ce.locals], toks := sI.toks }, pins, σ0, H', cls, d, rfl, ?_, fun b o e hb => ?_, fun b o e hnf => ?_, ?_, na, os, ag, hE⟩
  · obtain ⟨f0, f1, f2, f4, f5, f6⟩ := I3.fpOk (H' := H') (Nat.le_refl _) nC
    exact IX.turned (t' := sI.toks) (fun b o hb e => PySem.W.hideAll_get _ e (by rw [cL]; simpa using hb)) f0 f1 f4 f5 f6
  · have ne : b ≠ ce.locals := fun z => by
      have := PySem.W.hideAll_none (h := sI.heap) [ce.locals] (b := b) (by simp [z])
      rw [this] at e; cases e
    exact PySem.W.hideAll_get _ (nb b o (PySem.W.of_hideAll _ e) hb) (by simpa using ne)
  · have ne : b ≠ ce.locals := fun z => by
      have := PySem.W.hideAll_none (h := sI.heap) [ce.locals] (b := b) (by simp [z])
      rw [this] at e; cases e
    obtain ⟨sl, e1⟩ := up b o (PySem.W.of_hideAll _ e) hnf
    obtain ⟨sl2, e2⟩ := k2 b _ e1 ne hnf
    exact ⟨sl2, e2⟩
  · rw [hs]
    exact .inr (.inr hh2)
end PV

set_option Elab.async false
set_option linter.all false
set_option maxRecDepth 100000
set_option maxHeartbeats 4000000
/-! a list comprehension whose element may raise (HandS.Comp's rule with the raise let out of the block) -/
namespace PV
open PySem PySem.Spec L2
open PyProof.Rows

section
variable {X : Cx}
theorem lcE_core {E : XK} {pins : List (Addr × Obj)} {s : Shared} {σ : L2.St} {H : Hp} {Q : VK} {elt tg iter : Expr} {ifs : List Expr} {scope : Scope} {own : List (Str × Nat)} {pos pos' : Pos} {wi : TI} {g : TG} {tt : TT} {te : TE} {use : Option (Value → Sem Unit)} {Qf : Value → Shared → Prop}
    (tk : Tk X E) (hst : X.stack = X.env :: X.outer) (hf : X.env.frame = some X.env.locals)
    (hc : X.calm = true) (hN : X.N.Nodup) (I : Inv X pins σ H s) (hi : PI X tg iter wi) (ok : BlkOk X.N X.env.scope scope own)
    (hg : ∀ (s : Shared) (H : Hp) (C : Addr) (cl : List (Str × Addr)) (fp : List Addr), PG (X.blk s H scope (compEnvC scope cl C X.env) fp) tg g) (ht : ∀ (s : Shared) (H : Hp) (C : Addr) (cl : List (Str × Addr)) (fp : List Addr), PTs (X.blk s H scope (compEnvC scope cl C X.env) fp) ifs tt)
    (he : ∀ (s : Shared) (H : Hp) (C : Addr) (cl : List (Str × Addr)) (fp : List Addr), PE (blkE X E s H scope (compEnvC scope cl C X.env) fp) elt te) (hs : ∀ x, foldedSetIterable iter X.env x = pure x)
    (h : tLc wi g tt te (own.map (·.2)) σ H Q)
    (hRR : ∀ D (ce : Env) s' m H', Inv X pins σ H' s' → Q (.ref D) H' → s'.heap.Ns ce.locals m → FpOk X pins H' ce.locals → compEnds (model X.prog X.w) X.A X.xe use Qf (.ref D) ce (.ok .next) s') :
    wpAny (model X.prog X.w) X.A (comprehension (.ListComp elt [⟨tg, iter, ifs, 0⟩] scope pos) scope X.env pos' (newList []) false (eval iter X.env) use) Qf X.xe s := by
  have hfree : ∀ y ∈ scope.names, y.2 = .free → ∃ c, X.env.cells.lookup y.1 = some c := fun y hy e => by
    rcases ok.free y hy e with k | k
    · exact I.ok.has _ (.inl k)
    · exact I.ok.has _ (.inr k)
  refine comprehension_at (use := use) rfl hs (closure_ok hfree) ok.kind (fun y hy e => by rw [ok.uniq y hy, e])
    (thn (hi.run pins s σ H _ I h) fun xv s1 hx => thn hx fun itv s2 h2 => ?_)
  obtain ⟨it, fp, tn, J, H2, e, I2, T, st2, f2, q⟩ := h2
  subst e
  refine wpAny_newObj_type (newEnv_comp ?_) (by show 0 ≤ sizeLine; decide)
  generalize hD : s2.heap.objs.size = D
  have hDn : H2 D = none := I2.hok.fresh (Nat.le_of_eq hD)
  obtain ⟨W, ⟨m0, w0⟩, turn⟩ := q D hDn
  generalize hs3 : ({ s2 with heap := s2.heap.push { cls := .type "list", data := .seq ([] : List Value).toArray } } : Shared) = s3
  have I3 : Inv X pins σ (upd H2 D (.lst [])) s3 := by
    rw [← hs3]
    refine I2.laid (t' := s2.toks) (fun b o e => Heap.get?_push_of_some _ e) (Nat.le_of_eq hD) ⟨Nat.zero_le _, [], 0, .nil, ?_⟩
    rw [← hD]
    exact Heap.get?_push_size _ rfl
  have h3 : s3.heap = s2.heap.push { cls := .type "list", data := .seq ([] : List Value).toArray } := by rw [← hs3]
  have f3 : ∀ b ∈ fp, FpOk X pins (upd H2 D (.lst [])) b ∧ b < s3.heap.objs.size := fun b hb => by
    have hlt : b < s2.heap.objs.size := by
      obtain ⟨o, e, _⟩ := T.obj _ _ st2 b hb
      exact Heap.lt_size e
    refine ⟨⟨?_, (f2 b hb).2⟩, by rw [h3, Heap.size_push]; exact Nat.lt_succ_of_lt hlt⟩
    rw [upd_ne (by rw [← hD]; exact Nat.ne_of_lt hlt)]
    exact (f2 b hb).1
  have st3 : tn 0 s3.heap := T.keep _ _ _ st2 fun b _ o e => by rw [h3]; exact Heap.get?_push_of_some _ e
  have I4 := block_start I3 ok hN f3
  have pg := hg s3 (upd H2 D (.lst [])) s3.heap.objs.size (cellsFrom (s3.heap.objs.size + 1) scope.names (cloFrom X.env.cells scope.names [])) fp
  have pt := ht s3 (upd H2 D (.lst [])) s3.heap.objs.size (cellsFrom (s3.heap.objs.size + 1) scope.names (cloFrom X.env.cells scope.names [])) fp
  have pe := he s3 (upd H2 D (.lst [])) s3.heap.objs.size (cellsFrom (s3.heap.objs.size + 1) scope.names (cloFrom X.env.cells scope.names [])) fp
  show codeAny _ _ (.compStart (.ListComp elt [⟨tg, iter, ifs, 0⟩] scope pos) 0 (.ref it) (.ref D) (compEnvC scope (cellsFrom (s3.heap.objs.size + 1) scope.names (cloFrom X.env.cells scope.names [])) s3.heap.objs.size X.env)) (compEnds (model X.prog X.w) X.A X.xe use Qf (.ref D) (compEnvC scope (cellsFrom (s3.heap.objs.size + 1) scope.names (cloFrom X.env.cells scope.names [])) s3.heap.objs.size X.env)) { s3 with heap := pushCells (s3.heap.push { cls := .type "dict", data := .dict #[] }) scope.names }
  have nfp : ∀ b ∈ fp, (upd H2 D (.lst [])) b = none := fun b hb => (f3 b hb).1.1
  have cF : (compEnvC scope (cellsFrom (s3.heap.objs.size + 1) scope.names (cloFrom X.env.cells scope.names [])) s3.heap.objs.size X.env).frame = X.env.frame := rfl
  generalize hce : compEnvC scope (cellsFrom (s3.heap.objs.size + 1) scope.names (cloFrom X.env.cells scope.names [])) s3.heap.objs.size X.env = ce at I4 pg pt pe cF ⊢
  have cL : ce.locals = s3.heap.objs.size := by subst hce; rfl
  generalize hH3 : upd H2 D (.lst []) = H3 at I3 I4 pg pt pe w0 nfp f3
  generalize hs4 : ({ s3 with heap := pushCells (s3.heap.push { cls := .type "dict", data := .dict #[] }) scope.names } : Shared) = s4 at I4 ⊢
  have st4 : tn 0 s4.heap := T.keep _ _ _ st3 fun b _ o e => by rw [← hs4]; exact pushCells_keeps _ _ _ _ (Heap.get?_push_of_some _ e)
  have stat : ∀ {σ' : L2.St} {H' : Hp} {s' : Shared}, Inv (X.blk s3 H3 scope ce fp) [] σ' H' s' → (∀ b ∈ fp, H' b = none) → ∀ b ∈ fp, FpOk (X.blk s3 H3 scope ce fp) [] H' b := fun {σ' H' s'} I' hn b hb =>
    ⟨hn b hb, (I'.ok.exf b hb).1, I'.ok.exfs b hb, .inl hb, fun x c e => (I'.ok.exf b hb).2 x c e, fun p hp => absurd (show p ∈ ([] : List (Addr × Obj)) ++ [] from hp) (by simp)⟩
  have RE : ∀ e s', CompFails (model X.prog X.w) X.A X.xe ce e s' → compEnds (model X.prog X.w) X.A X.xe use Qf (.ref D) ce (.error e) s' := fun e s' z => by
    cases use <;> exact z
  have loop : codeAny (model X.prog X.w) X.A (.compLoop (.ListComp elt [⟨tg, iter, ifs, 0⟩] scope pos) 0 (.ref it) (.ref D) ce) (compEnds (model X.prog X.w) X.A X.xe use Qf (.ref D) ce) s4 := by
    refine compLoop_any (fun n s' => ∃ i H', Inv (X.blk s3 H3 scope ce fp) [] (wipe σ (own.map (·.2))) H' s' ∧ tn i s'.heap ∧ (∀ b ∈ fp, H' b = none) ∧ W i n H') ?_ m0 ⟨0, H3, I4, st4, nfp, w0⟩
    rintro n s5 ⟨i, H5, I5, st5, n5, w5⟩
    rcases turn i n H5 w5 with ⟨stop, qq⟩ | ⟨go, Nx, hNx, step⟩
    · have td := T.done (X.blk s3 H3 scope ce fp) rfl rfl rfl hc i [] s5 _ H5 (fun _ _ => False) I5 (stat I5 n5) st5 stop
      refine thnF td fun r s6 ⟨hr, I6⟩ => ?_
      subst hr
      have I7 : Inv X pins σ H5 s6 := I3.call' (ch := fp) I6.os I6.base I6.hok I6.bare fun b hb => ⟨(f3 b hb).1.2.2.2.1, (f3 b hb).1.2.1, (f3 b hb).1.2.2.2.2.1, (f3 b hb).1.2.2.2.2.2⟩
      have nC : H5 s3.heap.objs.size = none := by
        have z : H5 ce.locals = none := I6.free
        rw [cL] at z
        exact z
      obtain ⟨m, hn, _⟩ := I6.loc
      have hn : s6.heap.Ns ce.locals m := hn
      exact hRR D ce s6 m H5 I7 qq hn (by rw [cL]; exact I3.fpOk (Nat.le_refl _) nC)
    · have ti := T.item (X.blk s3 H3 scope ce fp) rfl rfl rfl hc i [] s5 _ H5 (fun _ _ => False) I5 (stat I5 n5) st5 go
      refine thnF ti fun r s6 ⟨u, hr, h6⟩ => ?_
      subst hr
      refine thnF h6 fun _ s7 ⟨x, H7, I7, r7, y7, st7, n7⟩ => ?_
      have I7' := I7.pinned (stat I7 n7) (T.obj _ _ st7)
      refine thnF (pg.run _ s7 _ H7 x u _ I7' r7 (step x H7 y7)) fun _ s8 ⟨σ8, H8, I8, hw8, q8⟩ => ?_
      refine thnF (pt.run _ s8 σ8 H8 _ I8 q8) fun b s9 ⟨H9, I9, q9⟩ => ?_
      have fin : ∀ {s' : Shared} {H' : Hp}, Inv (X.blk s3 H3 scope ce fp) ([] ++ pinsAt fp s7.heap) σ8 H' s' → Nx H' → ∃ m, m < n ∧ ∃ i H', Inv (X.blk s3 H3 scope ce fp) [] (wipe σ (own.map (·.2))) H' s' ∧ tn i s'.heap ∧ (∀ b ∈ fp, H' b = none) ∧ W i m H' := fun {s' H'} I' nx => by
        obtain ⟨m', hm, w'⟩ := hNx H' nx
        have pin' : ∀ b ∈ fp, ∀ o, s7.heap.get? b = some o → s'.heap.get? b = some o ∧ H' b = none := fun b hb o e =>
          let z := I'.pin (b, o) (List.mem_append_right _ (List.mem_append_right _ (mem_pinsAt hb e)))
          ⟨z.1, z.2.1⟩
        have hl : (wipe σ (own.map (·.2))).length = σ8.length := by rw [← hw8, wipe_length]
        refine ⟨m', hm, i + 1, H', (I'.unpinned (pins := [])).weak hl (fun j v e => ?_), T.keep _ _ _ st7 fun b hb o e => (pin' b hb o e).1, fun b hb => ?_, w'⟩
        · rw [← hw8] at e
          exact (wipe_some e).1
        · obtain ⟨o, e, _⟩ := T.obj _ _ st7 b hb
          exact (pin' b hb o e).2
      cases b with
      | false =>
        simp only [Bool.false_eq_true, if_false] at q9 ⊢
        exact fin I9 q9
      | true =>
        simp only [if_true] at q9 ⊢
        have run := pe.run _ s9 σ8 H9 _ (I9.wish _) q9
        refine wpAny_mono run (fun z s10 ⟨yv, H10, I10, r10, acc, hD10, hz10, nx⟩ => ?_) fun e s' ⟨pins', σ', H', s0, Ie, ce'⟩ => ?_
        · exact app_ok (X := X.blk s3 H3 scope ce fp) I10.unwish hD10 hz10 r10 fun s11 I11 => fin I11 nx
        · exact wpAny_mono (blk_out tk hst hf I3 f3 cL cF Ie ce') (fun _ s'' z => RE e s'' z) fun _ _ z => RE _ _ z
  exact codeAny_compStart_list loop (T.self X.A 0 _ _ _ st4 loop)
theorem pe_lcE {E : XK} {elt tg iter : Expr} {ifs : List Expr} {scope : Scope} {own : List (Str × Nat)} {pos : Pos} {wi : TI} {g : TG} {tt : TT} {te : TE} (tk : Tk X E) (hst : X.stack = X.env :: X.outer) (hf : X.env.frame = some X.env.locals) (hc : X.calm = true) (hN : X.N.Nodup) (hi : PI X tg iter wi) (ok : BlkOk X.N X.env.scope scope own)
    (hg : ∀ (s : Shared) (H : Hp) (C : Addr) (cl : List (Str × Addr)) (fp : List Addr), PG (X.blk s H scope (compEnvC scope cl C X.env) fp) tg g) (ht : ∀ (s : Shared) (H : Hp) (C : Addr) (cl : List (Str × Addr)) (fp : List Addr), PTs (X.blk s H scope (compEnvC scope cl C X.env) fp) ifs tt)
    (he : ∀ (s : Shared) (H : Hp) (C : Addr) (cl : List (Str × Addr)) (fp : List Addr), PE (blkE X E s H scope (compEnvC scope cl C X.env) fp) elt te) (hs : ∀ x, foldedSetIterable iter X.env x = pure x := by intro _; rfl) :
    PE X (.ListComp elt [⟨tg, iter, ifs, 0⟩] scope pos) (tLc wi g tt te (own.map (·.2))) := by
  refine ⟨fun pins s σ H Q I h => ?_⟩
  rw [eval_ListComp]
  refine lcE_core tk hst hf hc hN I hi ok hg ht he hs h fun D ce s' m H' I' q hn f => ⟨m, hn, fun h'' sb => ?_⟩
  obtain ⟨f0, f1, f2, f3, f4, f5⟩ := f
  exact ⟨.ref D, H', I'.turned (t' := s'.toks) (fun b o hb e => (sb.2 b hb).trans e) f0 f1 f3 f4 f5, rfl, q⟩
theorem ps_setLcE {E : XK} {i : Nat} {y : Str} {py : Pos} {elt tg iter : Expr} {ifs : List Expr} {scope : Scope} {own : List (Str × Nat)} {pos spos : Pos} {wi : TI} {g : TG} {tt : TT} {te : TE} (tk : Tk X E) (hst : X.stack = X.env :: X.outer) (hf : X.env.frame = some X.env.locals) (hc : X.calm = true) (hN : X.N.Nodup) (hy : X.N[i]? = some y) (hyl : X.env.scope.names.lookup y = some .local)
    (hsw : swapsWith (.ListComp elt [⟨tg, iter, ifs, 0⟩] scope pos) (some (.Name y py)) spos.line X.env = pure true) (hi : PI X tg iter wi) (ok : BlkOk X.N X.env.scope scope own)
    (hg : ∀ (s : Shared) (H : Hp) (C : Addr) (cl : List (Str × Addr)) (fp : List Addr), PG (X.blk s H scope (compEnvC scope cl C X.env) fp) tg g) (ht : ∀ (s : Shared) (H : Hp) (C : Addr) (cl : List (Str × Addr)) (fp : List Addr), PTs (X.blk s H scope (compEnvC scope cl C X.env) fp) ifs tt)
    (he : ∀ (s : Shared) (H : Hp) (C : Addr) (cl : List (Str × Addr)) (fp : List Addr), PE (blkE X E s H scope (compEnvC scope cl C X.env) fp) elt te) (hs : ∀ x, foldedSetIterable iter X.env x = pure x := by intro _; rfl) :
    PS X (.Assign [.Name y py] (.ListComp elt [⟨tg, iter, ifs, 0⟩] scope pos) spos) (tAsg (tLc wi g tt te (own.map (·.2))) (gName i)) := by
  refine ⟨fun pins s σ H D I h => ?_⟩
  rw [exec_Assign_Name_used _ _ _ _ hsw]
  refine wpAny_bind (wpAny_standAt (wpAny_bind ?_))
  show wpAny _ X.A (do let _ ← comprehension (.ListComp elt [⟨tg, iter, ifs, 0⟩] scope pos) scope X.env (firstIterPos [⟨tg, iter, ifs, 0⟩] pos) (newList []) false (eval iter X.env) (some (assign (.Name y py) X.env))) _ _ s
  have h : tLc wi g tt te (own.map (·.2)) σ H (fun x H1 => gName i x σ H1 D.nx) := h
  refine wpAny_bind (thn (lcE_core (Qf := fun _ s' => SP X pins D .next s') tk hst hf hc hN I hi ok hg ht he hs h fun L ce s' m H' I' q hn f => ?_) fun _ s' hq => wpAny_pure (wpAny_pure hq))
  show wpAny _ _ (assign (.Name y py) X.env (.ref L)) _ _ _
  refine wpAny_assign_Name (store_ok2 (v := V.ref L) I' hN hy (.inl hyl) rfl (fun s2 I2 ⟨a, sb, ha⟩ => ?_) (.inr hyl))
  obtain ⟨f0, f1, f2, f3, f4, f5⟩ := f
  have haC : ce.locals ≠ a := by
    rcases ha with z | z
    · rw [z]; exact f1
    · exact fun e => f4 y a z e.symm
  refine ⟨m, hn.sameBut sb haC, fun h3 sb3 => ?_⟩
  exact ⟨_, H', I2.turned (t' := s2.toks) (fun b o hb e => (sb3.2 b hb).trans e) f0 f1 f3 f4 f5, q⟩
end
end PV

set_option Elab.async false
set_option linter.all false
set_option maxRecDepth 100000
set_option maxHeartbeats 4000000
/-! the same, as a function of values -/
namespace PV
open PySem PySem.Spec L2
open PyProof.Rows

abbrev LX := List Va ⊕ (Nat × Va)
noncomputable section
open Classical
def compLX (chk : Store → Prop) (tg : Tgt) (te : SE) (sw : SL) : List Va → Store → Option (LX × Store)
  | [], M => if chk M then some (.inl [], M) else none
  | x :: xs, M => if chk M then (match tg x sw M with
    | none => none
    | some s1 => match te s1 M with
      | some (.val y, M2) => (match compLX chk tg te sw xs M2 with
        | some (.inl ys, M3) => some (.inl (y :: ys), M3)
        | some (.inr z, M3) => some (.inr z, M3)
        | none => none)
      | some (.exc c v, M2) => some (.inr (c, v), M2)
      | none => none) else none
def evLcX (src : SI) (tg : Tgt) (te : SE) (vs : List Nat) : SE := fun s M => match src s M with
  | none => none
  | some (.it l chk, M1) => (match compLX chk tg te (wipeI s vs) l M1 with
    | some (.inl ys, M2) => some (.val (.lst ys), M2)
    | some (.inr (c, v), M2) => some (.exc c v, M2)
    | none => none)
  | some (.exc c v, M1) => some (.exc c v, M1)
end
def glueX (acc : List Va) : LX → LX
  | .inl r => .inl (acc ++ r)
  | .inr z => .inr z
section
variable {G : Sig} {E : XK}
theorem lc_walkX {t : Tgt} {te : SE} {vs ix : List Nat} {g : TG} (sm : TgSim G g t ix) (hix : ∀ i ∈ ix, i ∈ vs) {σ : L2.St} {R1 : Hp} {ρ1 : List Addr} {M1 M2 : Store} {H1 : Hp} {s : SL} {J : It} {l : List Va} {out : LX} {chk : Store → Prop} {Q : VK} {D : Addr}
    (w1 : Wd G R1 ρ1 M1 H1) (sr : SR G R1 ρ1 s σ) (hz : l.length ≤ sizeLine) (js : ItSim G R1 ρ1 J l chk) (hcomp : compLX chk t te (wipeI s vs) l M1 = some (out, M2)) (hD : H1 D = none)
    (fin : ∀ ys, out = .inl ys → ∀ R' ρ' H' acc, Ext R1 ρ1 H1 R' ρ' H' → Wd G R' ρ' M2 H' → H' D = some (.lst acc) → R' D = none → D ∉ ρ' → VRs G R' ρ' ys acc → ys.length ≤ sizeLine → Q (.ref D) H')
    (bad : ∀ c v, out = .inr (c, v) → PostX G R1 ρ1 H1 M2 E c v) :
    ∃ W : Nat → Nat → Hp → Prop, (∃ m, W 0 m (upd H1 D (.lst []))) ∧ ∀ i m H, W i m H →
      (J.stop i H ∧ Q (.ref D) H) ∨ (J.go i H ∧ ∃ Nx : Hp → Prop, (∀ H', Nx H' → ∃ m', m' < m ∧ W (i + 1) m' H') ∧ ∀ x H', J.yld i H x H' → g x (wipe σ vs) H' fun σ2 H2 => wipe σ2 vs = wipe σ vs ∧ tT G E evYes σ2 H2 fun b H3 =>
        if b = true then tE G E te σ2 H3 fun y H4 => ∃ acc, H4 D = some (.lst acc) ∧ acc.length < sizeLine ∧ Nx (upd H4 D (.lst (acc ++ [y]))) else Nx H3) := by
  have rD : R1 D = none := w1.nonR hD
  refine ⟨fun i m Hc => ∃ R' ρ' M' acc accI o, m = l.length - i ∧ i ≤ l.length ∧ Ext R1 ρ1 H1 R' ρ' Hc ∧ Wd G R' ρ' M' Hc ∧ Hc D = some (.lst acc) ∧ VRs G R' ρ' accI acc ∧ R' D = none ∧ (D ∉ ρ') ∧
    compLX chk t te (wipeI s vs) (l.drop i) M' = some (o, M2) ∧ glueX accI o = out ∧ accI.length ≤ i, ?_, ?_⟩
  · refine ⟨l.length, R1, ρ1, M1, [], [], out, rfl, Nat.zero_le _, Ext.heapNew hD, ?_, upd_same, .nil, rD, ?_, hcomp, by cases out <;> rfl, Nat.zero_le _⟩
    · exact w1.heap fun a o h => by rw [upd_ne (ne_of_none h hD)]; exact h
    · exact fun hm => w1.al D hm hD
  · rintro i m Hc ⟨R', ρ', M', acc, accI, o, rfl, hi, e', w', hDc, ra, rDn, nDr, hc, hy, hal⟩
    by_cases hlt : i < l.length
    · have ed : l.drop i = l[i] :: l.drop (i + 1) := List.drop_eq_getElem_cons hlt
      rw [ed] at hc
      unfold compLX at hc
      by_cases ck : chk M'
      · rw [if_pos ck] at hc
        obtain ⟨go, _⟩ := js R' ρ' M' Hc e'.gr w' ck
        obtain ⟨go, yld⟩ := go i l[i] (by simp [hlt])
        refine .inr ⟨go, fun H2 => ∃ R2 ρ2 M3 acc accI o, Ext R1 ρ1 H1 R2 ρ2 H2 ∧ Wd G R2 ρ2 M3 H2 ∧ H2 D = some (.lst acc) ∧ VRs G R2 ρ2 accI acc ∧ R2 D = none ∧ (D ∉ ρ2) ∧
          compLX chk t te (wipeI s vs) (l.drop (i + 1)) M3 = some (o, M2) ∧ glueX accI o = out ∧ accI.length ≤ i + 1, fun H2 ⟨R2, ρ2, M3, acc, accI, o, q⟩ => ⟨l.length - (i + 1), by omega, R2, ρ2, M3, acc, accI, o, rfl, hlt, q⟩, fun x H2 hyl => ?_⟩
        obtain ⟨R2, e2, w2, r2⟩ := yld x H2 hyl
        obtain ⟨rD2, nD2, hD2⟩ := e2.apart hDc rDn nDr
        cases q3 : t l[i] (wipeI s vs) M' with
        | none => rw [q3] at hc; cases hc
        | some s3 =>
          rw [q3] at hc
          have srw : SR G R2 ρ' (wipeI s vs) (wipe σ vs) := (SR.wipe (sr.mono (e'.gr.trans e2.gr)) vs)
          refine sm R2 ρ' M' H2 (wipeI s vs) s3 (wipe σ vs) l[i] x _ w2 srw r2 q3 fun σ3 sr3 hl3 hk3 => ⟨?_, ?_⟩
          · have z1 : wipe σ3 vs = wipe (wipe σ vs) vs := wipe_same hl3 fun j hj => hk3 j fun z => hj (hix j z)
            rw [z1]
            exact wipe_same (wipe_length σ vs) fun j hj => wipe_get σ j vs hj
          · dsimp only at hc
            refine ⟨R2, ρ', s3, M', w2, sr3, ?_⟩
            intro R5 ρ5 H5 e5 w5
            obtain ⟨rD5, nD5, hD5⟩ := e5.apart hD2 rD2 nD2
            refine iteT ?_
            refine ⟨R5, ρ5, s3, M', w5, sr3.mono e5.gr, ?_⟩
            rcases q6 : te s3 M' with _ | ⟨y | ⟨c, y⟩, M6⟩ <;> rw [q6] at hc
            · cases hc
            · intro R7 ρ7 H7 v e7 w7 r7
              obtain ⟨rD7, nD7, hD7⟩ := e7.apart hD5 rD5 nD5
              dsimp only at hc
              have eall := ((e'.trans e2).trans e5).trans e7
              have step : ∀ o2, compLX chk t te (wipeI s vs) (l.drop (i + 1)) M6 = some (o2, M2) → glueX (accI ++ [y]) o2 = out → ∃ acc, H7 D = some (.lst acc) ∧ acc.length < sizeLine ∧ ∃ R2 ρ2 M3 acc_1 accI o, Ext R1 ρ1 H1 R2 ρ2 (upd H7 D (.lst (acc ++ [v]))) ∧ Wd G R2 ρ2 M3 (upd H7 D (.lst (acc ++ [v]))) ∧ (upd H7 D (.lst (acc ++ [v]))) D = some (.lst acc_1) ∧ VRs G R2 ρ2 accI acc_1 ∧ R2 D = none ∧ (D ∉ ρ2) ∧
                  compLX chk t te (wipeI s vs) (l.drop (i + 1)) M3 = some (o, M2) ∧ glueX accI o = out ∧ accI.length ≤ i + 1 := fun o2 q8 hg => by
                refine ⟨acc, hD7, ?_, R7, ρ7, M6, acc ++ [v], accI ++ [y], o2, eall.mut hD, w7.other rD7 nD7, upd_same, VRs.append (ra.mono ((e2.trans e5).trans e7).gr) (.cons r7 .nil), rD7, nD7, q8, hg, by simp; omega⟩
                rw [← ra.length]
                omega
              rcases q8 : compLX chk t te (wipeI s vs) (l.drop (i + 1)) M6 with _ | ⟨ys8 | z8, M8⟩ <;> rw [q8] at hc
              · cases hc
              · cases hc
                exact step (.inl ys8) q8 (by rw [← hy]; simp [glueX])
              · cases hc
                exact step (.inr z8) q8 (by rw [← hy]; rfl)
            · dsimp only at hc
              cases hc
              have hb := bad c y (by rw [← hy]; rfl)
              exact PostX.ext ((e'.trans e2).trans e5) hb
      · rw [if_neg ck] at hc; cases hc
    · have e0 : i = l.length := by omega
      subst e0
      rw [List.drop_length] at hc
      unfold compLX at hc
      by_cases ck : chk M'
      · rw [if_pos ck] at hc
        cases hc
        obtain ⟨_, stop⟩ := js R' ρ' _ Hc e'.gr w' ck
        have hy2 : out = .inl accI := by rw [← hy]; simp [glueX]
        exact .inl ⟨stop _ (Nat.le_refl _), fin accI hy2 R' ρ' Hc acc e' w' hDc rDn nDr ra (by omega)⟩
      · rw [if_neg ck] at hc; cases hc
end
section
variable {X : Cx} {G : Sig} {E E2 : XK} {a b c tg elt iter : Expr} {es ifs : List Expr} {pos : Pos}
variable {src : SI} {t : Tgt} {te : SE} {ix : List Nat} {g : TG} {scope : Scope} {own : List (Str × Nat)}
theorem lc_frzX {σ : L2.St} {H : Hp} {Q : VK} (sm : TgSim G g t ix) (hix : ∀ i ∈ ix, i ∈ own.map (·.2)) (h : tE G E (evLcX src t te (own.map (·.2))) σ H Q) : tLc (tI G E src) g (tT G E evYes) (tE G E te) (own.map (·.2)) σ H Q := by
  obtain ⟨R, ρ, s, M, w, sr, p⟩ := h
  refine ⟨R, ρ, s, M, w, sr, ?_⟩
  unfold evLcX at p
  rcases q : src s M with _ | ⟨⟨l, chk⟩ | ⟨c, x⟩, M1⟩ <;> rw [q] at p
  · exact p
  · intro R1 ρ1 H1 J e1 w1 hz js D hD
    dsimp only at p
    rcases q2 : compLX chk t te (wipeI s (own.map (·.2))) l M1 with _ | ⟨out, M2⟩ <;> rw [q2] at p
    · exact False.elim p
    · refine lc_walkX sm hix w1 (sr.mono e1.gr) hz js q2 hD (fun ys ey R' ρ' H' acc e' w' hDc rDn nDr ra hzy => ?_) (fun c v ev => ?_)
      · subst ey
        exact p (upd R' D (.lst acc)) ρ' H' (.ref D) (e1.trans (e'.take hD rDn)) (w'.take hDc rDn nDr) (.lst upd_same hzy (ra.mono ⟨fun a o q => by rw [upd_ne (fun z => by subst z; rw [rDn] at q; cases q)]; exact q, fun _ _ q => q⟩))
      · subst ev
        exact PostX.ext e1 p
  · exact p
theorem q_lcX (tk : Tk X E) (hst : X.stack = X.env :: X.outer) (hf : X.env.frame = some X.env.locals) (hc : X.calm = true) (hN : X.N.Nodup) (hi : PI X tg iter (tI G E src)) (ok : BlkOk X.N X.env.scope scope own)
    (hg : ∀ (s : Shared) (H : Hp) (C : Addr) (cl : List (Str × Addr)) (fp : List Addr), QG (X.blk s H scope (compEnvC scope cl C X.env) fp) G tg g t ix)
    (he : ∀ (s : Shared) (H : Hp) (C : Addr) (cl : List (Str × Addr)) (fp : List Addr), PE (blkE X E s H scope (compEnvC scope cl C X.env) fp) elt (tE G E te))
    (hix : ∀ i ∈ ix, i ∈ own.map (·.2) := by decide) (hs : ∀ x, foldedSetIterable iter X.env x = pure x := by intro _; rfl) :
    PE X (.ListComp elt [⟨tg, iter, [], 0⟩] scope pos) (tE G E (evLcX src t te (own.map (·.2)))) :=
  ⟨fun pins s σ H Q I h => (pe_lcE tk hst hf hc hN hi ok (fun s H C cl fp => (hg s H C cl fp).pg) (fun _ _ _ _ _ => qts_nil) he hs).run pins s σ H Q I (lc_frzX (hg s H 0 [] []).sim hix h)⟩
theorem qs_setLcX {i : Nat} {y : Str} {py spos : Pos} (tk : Tk X E) (hst : X.stack = X.env :: X.outer) (hf : X.env.frame = some X.env.locals) (hc : X.calm = true) (hN : X.N.Nodup) (hy : X.N[i]? = some y) (hyl : X.env.scope.names.lookup y = some .local)
    (hsw : swapsWith (.ListComp elt [⟨tg, iter, [], 0⟩] scope pos) (some (.Name y py)) spos.line X.env = pure true) (hi : PI X tg iter (tI G E src)) (ok : BlkOk X.N X.env.scope scope own)
    (hg : ∀ (s : Shared) (H : Hp) (C : Addr) (cl : List (Str × Addr)) (fp : List Addr), QG (X.blk s H scope (compEnvC scope cl C X.env) fp) G tg g t ix)
    (he : ∀ (s : Shared) (H : Hp) (C : Addr) (cl : List (Str × Addr)) (fp : List Addr), PE (blkE X E s H scope (compEnvC scope cl C X.env) fp) elt (tE G E te))
    (hix : ∀ i ∈ ix, i ∈ own.map (·.2) := by decide) (hs : ∀ x, foldedSetIterable iter X.env x = pure x := by intro _; rfl) :
    PS X (.Assign [.Name y py] (.ListComp elt [⟨tg, iter, [], 0⟩] scope pos) spos) (tS G E (sSet i (evLcX src t te (own.map (·.2))))) :=
  ⟨fun pins s0 σ H D I ⟨R, ρ, s, M, w, sr, p⟩ => (ps_setLcE tk hst hf hc hN hy hyl hsw hi ok (fun s H C cl fp => (hg s H C cl fp).pg) (fun _ _ _ _ _ => qts_nil) he hs).run pins s0 σ H D I (lc_frzX (hg s0 H 0 [] []).sim hix
    (stepS (Q' := fun x H1 => gName i x σ H1 D.nx) w sr p fun R1 ρ1 M1 H1 va v e1 w1 sr1 r1 p1 => nxt_now w1 (sr1.set i r1) p1))⟩
/-- a call that may raise, in the element -/
theorem q_calP {es : List Expr} {ea : SE} {p' : Pos} {lv k n : Nat} {x : Str} {fM : FM} (C : CalE X.prog X.w X.K X.mg X.base G x lv n fM) (hp : Passes (L2.CX X.prog X.w) X E) (hr : Room k X.A) (hl : lv ≤ k) (hgd : X.A.guards = some []) (hg : Gl X x) (ha : PA X (a :: es) (tA G E ea)) (hdb : (x == ("__debug__" : Str)) = false := by decide)
    (he : starEach (a :: es) X.env = (false, eval a X.env) :: starEach es X.env := by rfl) (hpl : (backTo pos (starEach es X.env)).any (·.1) = false := by rfl) :
    PE X (.Call (.Name x p') (a :: es) [] pos) (tE G E (evL (kFn n fM) ea)) := by
  obtain ⟨f, fd, ps, hm, hk, hb, F⟩ := C.ex
  refine pe_imp (pe_callG F (hr.mono hl) hgd hg hm hk hb .nil hp ha hdb he hpl) fun σ H Q ⟨R, ρ, s, M, w, sr, p⟩ => stepA w sr p fun R1 ρ1 M1 H1 l vs e1 w1 sr1 r1 p1 => ?_
  unfold kFn at p1
  by_cases hl : l.length = n
  · rw [if_pos hl] at p1
    exact ⟨by rw [List.append_nil, ← r1.length]; exact hl, R1, ρ1, M1, l, w1, by rw [List.append_nil]; exact r1, p1⟩
  · rw [if_neg hl] at p1; exact False.elim p1
end
end PV

set_option Elab.async false
set_option linter.all false
set_option maxRecDepth 100000
set_option maxHeartbeats 4000000
namespace PV
open PySem PySem.Spec L2
open PyProof.Rows
/-! ### xs.insert(i, y), i not below 0 -/
def cInsert : Cell → List Va → Option (Cell × Va)
  | .lst l, [.int i, y] => if l.length < sizeLine ∧ 0 ≤ i ∧ i < 2 ^ 63 then some (.lst (l.take i.toNat ++ [y] ++ l.drop i.toNat), .non) else none
  | _, _ => none
section
variable {G : Sig}
theorem s_insert : OpM G "list" (fun x vs H Q => ∃ (l : Addr) (xs : List V) (i : Int) (y : V), x = .ref l ∧ vs = [.int i, y] ∧ H l = some (.lst xs) ∧ xs.length < sizeLine ∧ 0 ≤ i ∧ i < 2 ^ 63 ∧
    Q .non (upd H l (.lst (xs.take i.toNat ++ [y] ++ xs.drop i.toNat)))) (kMut cInsert) := mut_of (fun c l c' y h => by unfold cInsert at h; split at h; exact ⟨_, rfl⟩; cases h) fun R ρ M H a vs l0 l xs l' y Q w ha r0 z rv h k => by
  unfold cInsert at h
  split at h
  · rename_i l1 i y1 e1
    cases e1
    obtain ⟨u, v, rfl, ri, ry⟩ := two_of rv
    cases ri
    split at h
    · rename_i hz
      cases h
      exact ⟨a, vs, i, v, rfl, rfl, ha, by rw [← r0.length]; exact hz.1, hz.2.1, hz.2.2, k _ .non .non fun H' hH => ⟨_, hH, by simp only [List.length_append, List.length_take, List.length_drop, List.length_cons, List.length_nil]; omega, VRs.append (VRs.append (VRs.take i.toNat r0) (.cons ry .nil)) (VRs.drop i.toNat r0)⟩⟩
    · cases h
  · cases h
end
end PV

set_option Elab.async false
set_option linter.all false
set_option maxRecDepth 100000
set_option maxHeartbeats 4000000
/-! list(d.values()); any of ints -/
namespace PV
open PySem PySem.Spec L2
open PyProof.Rows
def rValsL : V → Hp → VK → Prop := fun x H Q => ∃ (d : Addr) (kvs : List (Key × V)), x = .ref d ∧ H d = some (.dK kvs) ∧ ∀ l, H l = none → Q (.ref l) (upd H l (.lst (kvs.map (·.2))))
def tListVals (te : TE) : TE := fun σ H Q => te σ H fun x H1 => rValsL x H1 Q
section
variable {X : Cx} {e : Expr} {te : TE} {p apos cpos pos : Pos}
theorem paired_vals {kvs : List (Key × V)} {vs : List (Key × Value)} (kv : KV kvs vs) : ∀ {its : List Value}, its.length = vs.length → (∀ (j : Nat) (v : Value), its[j]? = some v → ∃ q : Key × Value, vs[j]? = some q ∧ v = q.2) → Vals (kvs.map (·.2)) its := by
  induction kv with
  | nil =>
    intro its h _
    cases its with
    | nil => exact .nil
    | cons a b => cases h
  | cons r t ih =>
    intro its h g
    cases its with
    | nil => cases h
    | cons a b =>
      obtain ⟨q, e1, e2⟩ := g 0 a (by simp)
      cases e1
      refine .cons ?_ (ih (Nat.succ.inj h) fun j v hj => g (j + 1) v (by simpa using hj))
      rw [e2]
      exact r.2
theorem pe_listVals (hc : X.calm = true) (he : PE X e te) (hg : Gl X "list") (hm : X.mg "list" = none) (hv : bootBuiltins "list" = some (.type "list")) (hbase : attributeBase e "values" X.env (eval e X.env) = eval e X.env := by rfl) (hline : (apos.endLine == cpos.line) = true := by rfl)
    (hs : starEach [.Call (.Attribute e "values" apos) [] [] cpos] X.env = (false, eval (.Call (.Attribute e "values" apos) [] [] cpos) X.env) :: starEach [] X.env := by rfl) :
    PE X (.Call (.Name "list" p) [.Call (.Attribute e "values" apos) [] [] cpos] [] pos) (tListVals te) := by
  refine ⟨fun pins s σ H Q I hq => ?_⟩
  refine wpAny_Call_Name_kw (ld_blt I hg hm hv ?_)
  refine PyProof.Rows.callWith_type1 ?_ hs rfl
  rw [hs]
  show wpAny _ _ (spliced ((false, eval (.Call (.Attribute e "values" apos) [] [] cpos) X.env) :: backTo pos (starEach [] X.env))) _ _ s
  refine Calls.spliced_cons ?_
  refine wpAny_Call_method (T := "dict") (id := "dict.values") hbase rfl hline F.plainAttrs_dict F.slot_dict_values F.type_dict_values (thn (he.run pins s σ H _ I hq) fun u s1 ⟨x, H1, I1, rx, d, kvs, ex, hd, q⟩ => ?_)
  subst ex
  obtain rfl : u = Value.ref d := rx
  obtain ⟨hz, hs0, vs, kv, hdo⟩ := I1.hok d _ hd
  obtain ⟨ep, hat⟩ := hdo.dictAt
  have lk : kvs.length = vs.length := Paired.length kv
  have I2 : Inv X pins σ H1 { s1 with heap := s1.heap.push { cls := .type "dict_values", data := .fields #[.ref d] } } := I1.kept (t' := s1.toks) fun b ob q => Heap.get?_push_of_some _ q
  refine ⟨hdo.typeIs, hdo.mapOf.noDict, ?_⟩
  show wpAny _ _ (callWith cpos (.builtin "dict.values") [.ref d] [] []) _ X.xe s1
  refine method_meetsIn F.slot_dict_values F.entry_dict_values rfl (PySem.evalArgs_none ⟨rfl, hdo.typeIs, F.args_dict_values_1 _, _, meets_dict_values (mixKind X.prog X.w) d hs0, ⟨vs, hdo⟩, ?_⟩)
  refine Calls.spliced_nil ?_
  obtain ⟨es, hraw, hsz, hent⟩ := (hat.push { cls := .type "dict_values", data := .fields #[.ref d] }).raw
  refine PySem.W.kdl_call (PySem.KdlSrc.rawValues (prog := X.prog) (w := X.w) (r := s1.heap.objs.size) (d := d) (es := es) (ep := ep)) (I1.ok.hd hc) ⟨⟨_, Heap.get?_push_size _ rfl, rfl, rfl⟩, hraw⟩ (by rw [hsz]; omega) fun h' tk acc' c' hk hS hacc => ?_
  have hits : Vals (kvs.map (·.2)) acc'.toList := paired_vals kv (by rw [Array.length_toList, hacc.1, hsz]) fun j v hj => by
    have hj' : acc'[j]? = some v := by rw [← Array.getElem?_toList]; exact hj
    obtain ⟨hi, ev⟩ := hacc.2 j v hj'
    have hlt : j < vs.length := by rw [← hsz]; exact hi
    have hq := hent j hi vs[j].1 vs[j].2 (by rw [List.getElem?_eq_getElem hlt])
    exact ⟨vs[j], List.getElem?_eq_getElem hlt, by rw [ev, hq.2]⟩
  have fr := I2.hok.fresh (Nat.le_refl _)
  have I3 : Inv X pins σ (upd H1 (s1.heap.push { cls := .type "dict_values", data := .fields #[.ref d] }).objs.size (.lst (kvs.map (·.2)))) { s1 with heap := h', toks := tk } :=
    I2.laid (t' := tk) (fun b o q => hk b o q) (Nat.le_refl _) ⟨by rw [List.length_map]; omega, acc'.toList, c', hits, by rw [Array.toArray_toList]; exact hS⟩
  exact ⟨.ref _, _, I3, rfl, q _ fr⟩
end
/-! ### any of ints -/
theorem truth_ints {prog : Program} {w : World} {A : Around} {ns : List Int} {its : List Value} (e : Vals (ns.map V.int) its) :
    TruthOf prog w A (fun i v => its.toArray[i]? = some v) (fun i => ns.getD i 0 != 0) := fun i v s Q E hv hq => by
  have hv' : its[i]? = some v := by simpa using hv
  have : ∀ {ns : List Int} {its : List Value} {i : Nat}, Vals (ns.map V.int) its → its[i]? = some v → ∃ n t, v = .int n t ∧ ns.getD i 0 = n := by
    intro ns
    induction ns with
    | nil => intro its i h g; cases h; cases g
    | cons n ns ih =>
      intro its i h g
      cases h with
      | cons r t =>
        cases i with
        | zero =>
          cases g
          obtain ⟨tk, ht⟩ := r
          exact ⟨n, tk, ht, rfl⟩
        | succ i => exact ih t g
  obtain ⟨n, t, rfl, hn⟩ := this e hv'
  have hq' : Q (ns.getD i 0 != 0) s := hq
  rw [hn] at hq'
  exact P.truthy_int hq'
theorem anyI_range : ∀ ns : List Int, (List.range ns.length).any (fun i => ns.getD i 0 != 0) = ns.any (· != 0)
  | [] => rfl
  | n :: ns => by
    rw [List.length_cons, List.range_succ_eq_map, List.any_cons, List.any_map, List.any_cons, ← anyI_range ns]
    rfl
def rAnyI (K : PySem.W.Frag) : List V → Hp → VK → Prop := fun vs H Q => ∃ (a : Addr) (ns : List Int), vs = [V.ref a] ∧ SqL K H a (ns.map V.int) ∧ Q (.bl (ns.any (· != 0))) H
theorem cr_anyI {X : Cx} (hc : X.calm = true) : CallR X (.builtin "any") (rAnyI X.K) := by
  intro pins s σ H vs us Q I r h
  obtain ⟨a, ns, rfl, hs, q⟩ := h
  obtain ⟨its, rv, hl, _⟩ := I.list hs
  rw [Vals.ref1 r]
  have hlen : ns.length = its.length := by have := Paired.length rv; rw [List.length_map] at this; exact this
  refine call_any_walk (iter_any hl.isList fun s₂ e2 st hne => ?_)
  subst e2
  refine ⟨_, _, _, _, _, _, _, rfl, Walks.list (A := X.A.in1) (I.ok.hd hc) _ a hne its.toArray, st, truth_ints rv, fun h' tk hk => ?_⟩
  refine ⟨.bl _, H, I.kept fun b o eo => hk b o (fun hmem => ?_) (Heap.get?_push_of_some _ eo), ?_, q⟩
  · rcases List.mem_cons.mp hmem with e1 | hmem
    · exact absurd (e1 ▸ Heap.lt_size eo) (Nat.lt_irrefl _)
    · cases hmem
  · show Value.bool _ = Value.bool _
    rw [← anyI_range, List.size_toArray, hlen]
/-! ### by values -/
def evVals (ee : SE) : SE := fun s M => bindO (ee s M) fun x M1 => match dicOf M1 x with
  | some l => some (.val (.lst (l.map (·.2))), M1)
  | none => none
def gAnyI (M : Store) : List Va → Option Va
  | [x] => match lstOf M x with
    | some l => (intsOf l).map fun ns => .bl (ns.any (· != 0))
    | none => none
  | _ => none
section
variable {G : Sig} {R : Hp} {ρ : List Addr}
theorem VRk.vals : ∀ {l : List (Key × Va)} {vs : List (Key × V)}, VRk G R ρ l vs → VRs G R ρ (l.map (·.2)) (vs.map (·.2))
  | _, _, .nil => .nil
  | _, _, .cons r t => .cons r (VRk.vals t)
end
section
variable {X : Cx} {G : Sig} {E : XK} {e : Expr} {ee : SE} {p apos cpos pos : Pos}
theorem q_listVals (hc : X.calm = true) (hg : Gl X "list") (hm : X.mg "list" = none) (hv : bootBuiltins "list" = some (.type "list")) (he : PE X e (tE G E ee)) (hbase : attributeBase e "values" X.env (eval e X.env) = eval e X.env := by rfl) (hline : (apos.endLine == cpos.line) = true := by rfl)
    (hs : starEach [.Call (.Attribute e "values" apos) [] [] cpos] X.env = (false, eval (.Call (.Attribute e "values" apos) [] [] cpos) X.env) :: starEach [] X.env := by rfl) :
    PE X (.Call (.Name "list" p) [.Call (.Attribute e "values" apos) [] [] cpos] [] pos) (tE G E (evVals ee)) :=
  pe_imp (pe_listVals hc he hg hm hv hbase hline hs) fun σ H Q ⟨R, ρ, s, M, w, sr, p⟩ => stepE w sr p fun R1 ρ1 M1 H1 va v e1 w1 sr1 r1 p1 => by
    cases h : dicOf M1 va with
    | none => rw [h] at p1; exact p1.elim
    | some l =>
      rw [h] at p1
      obtain ⟨a, vs, rfl, hd, rk, z⟩ := dic_read w1 r1 h
      exact ⟨a, vs, rfl, hd, fun q hq => gives_lst w1 (VRk.vals rk) (by rw [List.length_map]; exact z) p1 hq⟩
theorem s_anyI (hK : X.K = G.K) : OpL G (rAnyI X.K) (kPure gAnyI) := pure_of fun R ρ M H xs l res Q w rv h g => by
  unfold gAnyI at h
  split at h
  · obtain ⟨v, rfl, r⟩ := one_of rv
    split at h
    · rename_i l hl
      cases q : intsOf l with
      | none => rw [q] at h; cases h
      | some ns =>
        rw [q] at h
        cases h
        obtain ⟨a, vs, rfl, sq, rv', _⟩ := lst_read w r hl
        rw [ints_of rv' q] at sq
        exact ⟨a, ns, rfl, by rw [hK]; exact sq, gives_now w (.bl _) g⟩
    · cases h
  · cases h
end
end PV

set_option Elab.async false
set_option linter.all false
set_option maxRecDepth 100000
set_option maxHeartbeats 4000000
/-! upper, lstrip of signs, a text times an int, a short text turned about -/
namespace PV
open PySem PySem.Spec L2
open PyProof.Rows
def gUpper (_ : Store) : Va → List Va → Option Va
  | .str a, [] => if a.length ≤ 5592405 then some (.str (Txt.upper a)) else none
  | _, _ => none
def gLstrip (_ : Store) : Va → List Va → Option Va
  | .str a, [.str b] => if a.length ≤ sizeLine then some (.str (Txt.lstripChars a b)) else none
  | _, _ => none
section
variable {X : Cx} {G : Sig}
theorem s_upper : OpM G "str" (fun x xs H Q => ∃ a, x = .str a ∧ xs = [] ∧ a.length ≤ 5592405 ∧ Q (.str (Txt.upper a)) H) (kVal gUpper) := val_of fun R ρ M H x xs o l res Q w ro rv h g => by
  unfold gUpper at h
  split at h
  · cases ro; cases rv
    split at h
    · rename_i hz; cases h; exact ⟨_, rfl, rfl, hz, gives_now w (.str _) g⟩
    · cases h
  · cases h
theorem s_lstrip : OpM G "str" (fun x xs H Q => ∃ a b, x = .str a ∧ xs = [.str b] ∧ a.length ≤ sizeLine ∧ Q (.str (Txt.lstripChars a b)) H) (kVal gLstrip) := val_of fun R ρ M H x xs o l res Q w ro rv h g => by
  unfold gLstrip at h
  split at h
  · cases ro
    obtain ⟨v, rfl, r⟩ := one_of rv
    cases r
    split at h
    · rename_i hz; cases h; exact ⟨_, _, rfl, rfl, hz, gives_now w (.str _) g⟩
    · cases h
  · cases h
/-! split into a list that will change -/
def kSplitC (o : Va) (l : List Va) (M : Store) : Res := match o, l with
  | .str a, [.str b] => if (b.length == 0) = false ∧ a.length + 2 ≤ sizeLine ∧ (Txt.split a b).length ≤ sizeLine then some (.val (.cel M.nx), M.new (.lst ((Txt.split a b).map Va.str))) else none
  | _, _ => none
theorem s_splitC : OpM G "str" (fun x xs H Q => ∃ a b, x = .str a ∧ xs = [.str b] ∧ (b.length == 0) = false ∧ a.length + 2 ≤ sizeLine ∧ rNewStrs (Txt.split a b) H Q) kSplitC := fun R ρ M H x xs o l Q E w ro rv p => by
  unfold kSplitC at p
  split at p
  · cases ro
    rename_i a b
    obtain ⟨v, rfl, r⟩ := one_of rv
    cases r
    split at p
    · rename_i hz
      exact ⟨a, b, rfl, rfl, hz.1, hz.2.1, fun q hq => gives_new w (VRs.strs _) (by rw [List.length_map]; exact hz.2.2) p hq⟩
    · exact False.elim p
  · exact False.elim p
/-! a text times an int -/
def repS (a : Str) (k : Int) : Str := if a.length = 0 then a else ⟨(List.replicate k.toNat a.cps).foldl (· ++ ·) #[]⟩
def rRepS : R2 := fun x y H Q => ∃ a k, x = .str a ∧ y = .int k ∧ 2 ≤ k ∧ k ≤ 1000 ∧ a.length ≤ 1000 ∧ Q (.str (repS a k)) H
theorem op_repS : OpR X (binaryOp .Mult) rRepS := by
  intro pins s σ H x y v u Q I rx ry h
  obtain ⟨a, k, rfl, rfl, h1, h2, h3, q⟩ := h
  obtain ⟨t, rfl⟩ := rx
  obtain ⟨t', rfl⟩ := ry
  have hm : a.length * k.toNat ≤ 1000 * 1000 := Nat.mul_le_mul h3 (by omega)
  refine PySem.P.mul_str ?_ (fun _ _ => ?_) (fun _ _ => short24 (by omega)) ?_
  · rw [decide_eq_false (by omega), decide_eq_false (by omega)]; rfl
  · have : (1000 : Int) ≤ (2 ^ 63 - 1) / k := Int.le_ediv_of_mul_le (by omega) (by omega)
    omega
  · rw [if_neg (by omega)]
    unfold repS at q
    by_cases h0 : a.length = 0
    · rw [if_pos h0] at q
      rw [if_pos (by rw [h0]; simp)]
      exact ⟨.str a, H, I, ⟨_, rfl⟩, q⟩
    · rw [if_neg h0] at q
      rw [if_neg (by
        have e1 : (k == 1) = false := by rw [beq_eq_false_iff_ne]; omega
        have e2 : (a.length == 0) = false := by rw [beq_eq_false_iff_ne]; exact h0
        rw [e1, e2]; decide)]
      exact ⟨fits_reps (short24 (by omega)), .str _, H, I.tok _, ⟨_, rfl⟩, q⟩
noncomputable def opMul2 (M : Store) (a b : Va) : Option Va := match opMul M a b with
  | some r => some r
  | none => match a, b with
    | .str a, .int k => if 2 ≤ k ∧ k ≤ 1000 ∧ a.length ≤ 1000 then some (.str (repS a k)) else none
    | _, _ => none
theorem s_mul2 : Op2 G (fun x y H Q => (rI IntMulOk (fun i j => .int (i * j)) x y H Q ∨ rRep x y H Q) ∨ rRepS x y H Q) opMul2 := by
  intro R ρ M H x y va vb res Q w ra rb h g
  unfold opMul2 at h
  split at h
  · rename_i r hr
    cases h
    exact .inl (s_mul R ρ M H x y va vb _ Q w ra rb hr g)
  · split at h
    · cases ra; cases rb
      split at h
      · rename_i hz
        cases h
        exact .inr ⟨_, _, rfl, rfl, hz.1, hz.2.1, hz.2.2, gives_now w (.str _) g⟩
      · cases h
    · cases h
theorem q_mul2 {E : XK} {a b : Expr} {ea eb : SE} {pos : Pos} (ha : PE X a (tE G E ea)) (hb : PE X b (tE G E eb)) : PE X (.BinOp a .Mult b pos) (tE G E (ev2 opMul2 ea eb)) := q_op ((op_mulA.or op_rep).or op_repS) s_mul2 ha hb
/-! a short text turned about -/
def revS (a : Str) : Str := ⟨((Builtin.Str.strSliceIndices none none (-1) a.length).filterMap (a.cps[·]?)).toArray⟩
theorem revS_len {a : Str} (h : a.length ≤ 2) : (revS a).length ≤ 2 := by
  show ((Builtin.Str.strSliceIndices none none (-1) a.length).filterMap (a.cps[·]?)).toArray.size ≤ 2
  rw [List.size_toArray]
  refine Nat.le_trans (List.length_filterMap_le _ _) ?_
  have : a.length = 0 ∨ a.length = 1 ∨ a.length = 2 := by omega
  rcases this with e | e | e <;> rw [e] <;> decide
theorem revS_mem {a : Str} {c : Nat} (h : c ∈ (revS a).cps.toList) : c ∈ a.cps.toList := by
  have h : c ∈ (Builtin.Str.strSliceIndices none none (-1) a.length).filterMap (a.cps[·]?) := h
  obtain ⟨i, _, e⟩ := List.mem_filterMap.mp h
  rw [← Array.getElem?_toList] at e
  exact List.mem_of_getElem? e
def tRevS (te : TE) : TE := fun σ H Q => te σ H fun x H1 => ∃ a, x = .str a ∧ a.length ≤ 2 ∧ Q (.str (revS a)) H1
theorem pe_revS {e : Expr} {te : TE} {k : Nat} {p1 p2 p3 pos : Pos} (he : PE X e te) : PE X (.Subscript e (.Slice none none (some (.UnaryOp .USub (.Constant (.int 1) k p1) p2)) p3) pos) (tRevS te) := by
  refine ⟨fun pins s σ H Q I h => ?_⟩
  refine Subscript_ (thn (he.run pins s σ H _ I h) fun v s1 ⟨x, H1, I1, r1, q1⟩ => ?_)
  obtain ⟨a, ex, hz, q⟩ := q1
  subst ex
  obtain ⟨t, rfl⟩ := r1
  have hst : PO X (some (.UnaryOp .USub (.Constant (.int 1) k p1) p2)) (tPart (tUn (rU fun i => .int (-i)) (tC (.int 1)))) := po_some (pe_un un_neg pe_int)
  refine wpAny_Slice (thn (po_none.run pins s1 σ H1 (fun o H2 => o = none ∧ H2 = H1) I1 ⟨rfl, rfl⟩) fun vl s2 ⟨l, H2, I2, pl, el, e2⟩ => ?_)
  subst el e2
  refine thn (po_none.run pins s2 σ H2 (fun o H3 => o = none ∧ H3 = H2) I2 ⟨rfl, rfl⟩) fun vu s3 ⟨u, H3, I3, pu, eu, e3⟩ => ?_
  subst eu e3
  refine thn (hst.run pins s3 σ H3 (fun o H4 => o = some (-1) ∧ H4 = H3) I3 ⟨1, rfl, -1, rfl, rfl, rfl⟩) fun vs s4 ⟨o, H4, I4, ps, eo, e4⟩ => ?_
  subst eo e4
  cases pl
  cases pu
  cases ps with
  | int i tk =>
  have I5 : Inv X pins σ H4 { s4 with heap := s4.heap.push { cls := .type "slice", data := .fields #[.none, .none, .int (-1) tk] } } := I4.kept (t' := s4.toks) fun b ob q => Heap.get?_push_of_some _ q
  show wpAny (model X.prog X.w) X.A (subscriptTail e (.Slice none none (some (.UnaryOp .USub (.Constant (.int 1) k p1) p2)) p3) (.str a t) (.ref s4.heap.objs.size)) (EP X pins σ Q) X.xe { s4 with heap := s4.heap.push { cls := .type "slice", data := .fields #[.none, .none, .int (-1) tk] } }
  refine tail_any (ops := [.str a t, .ref s4.heap.objs.size]) (typeIs_str _ a t) (PySem.F.slot_str_getitem.lookup) ?_ (by with_unfolding_all rfl)
  refine wpAny_getItem_str_slice (l := none) (u := none) (st := some (-1, tk)) ⟨_, Heap.get?_push_size _ rfl, rfl, rfl⟩ rfl ?_
  unfold sliceMade
  rw [if_neg (by simp)]
  exact ⟨Nat.le_trans (revS_len hz) (by decide), .str (revS a), _, I5.tok _, ⟨_, rfl⟩, q⟩
def opRevS (M : Store) (x : Va) : Option Va := match x with
  | .str a => if a.length ≤ 2 then some (.str (revS a)) else none
  | _ => none
theorem q_revS {E : XK} {e : Expr} {ee : SE} {k : Nat} {p1 p2 p3 pos : Pos} (he : PE X e (tE G E ee)) : PE X (.Subscript e (.Slice none none (some (.UnaryOp .USub (.Constant (.int 1) k p1) p2)) p3) pos) (tE G E (ev1 opRevS ee)) :=
  pe_imp (pe_revS he) fun σ H Q ⟨R, ρ, s, M, w, sr, p⟩ => stepE w sr p fun R1 ρ1 M1 H1 va v e1 w1 sr1 r1 p1 => by
    cases r1 <;> first | exact p1.elim | skip
    rename_i a
    unfold opRevS at p1
    dsimp only at p1
    split at p1
    · rename_i q
      split at q
      · rename_i hz
        cases q
        exact ⟨_, rfl, hz, gives_now w1 (.str _) p1⟩
      · cases q
    · exact p1.elim
end
end PV

set_option Elab.async false
set_option linter.all false
set_option maxRecDepth 100000
set_option maxHeartbeats 4000000
/-! try .. except X: without a name, where the body raises nothing -/
namespace PV
open PySem PySem.Spec L2
open PyProof.Rows
def sTryN (es : SS) : SS := fun s M => match es s M with
  | some (.exc _ _, _, _) => none
  | r => r
section
variable {X : Cx} {G : Sig} {body suite : List Stmt} {b₀ : Stmt} {x : Str} {c : Value} {np pos pos' : Pos} {es : SS}
theorem qs_tryN (hs : X.stack = X.env :: X.outer) (hf : X.env.frame = some X.env.locals) (hc : Names X x c)
    (hb : ∀ (E : XK) (pn : List (Addr × Obj)) (xe : Value → Shared → Prop), Tk (X.tr pn xe) E → PassesOwn (model X.prog X.w) X.A X.env xe → PSs (X.tr pn xe) body (tS G E es)) :
    PS X (.Try body [.ExceptHandler (some (.Name x np)) none (b₀ :: suite) pos'] [] [] pos) (tS G E0 (sTryN es)) := by
  have base := ps_try_only (pos := pos) (pos' := pos') (np := np) (b₀ := b₀) (suite := suite) (tb := fun W => tS G (fun cls d H => ∀ σ : L2.St, σ.length = X.N.length → W cls d σ H) es) (ts := fun _ _ _ _ _ _ => False) (Wout := fun _ _ _ _ => False) hs hf hc (fun _ _ ⟨_, _, _, _, _, _, _, _, _, _, _, _, _, _, _, _, w⟩ => w.elim)
    (fun W pn xe tk po => hb _ pn xe (takes_len tk fun c d σ H hl h => h σ hl) po) (fun a oe cls d pn _ _ => ⟨fun pins s σ H D I h => h.elim⟩)
  refine ⟨fun pins s0 σ H D I ⟨R, ρ, s, M, w, sr, p⟩ => base.run pins s0 σ H D I ⟨R, ρ, s, M, w, sr, ?_⟩⟩
  unfold sTryN at p
  rcases q : es s M with _ | ⟨_ | y | _ | _ | ⟨c, y⟩, s1, M1⟩ <;> rw [q] at p
  · exact p
  · exact p
  · exact p
  · exact p
  · exact p
  · exact p.elim
end
end PV

set_option Elab.async false
set_option linter.all false
set_option maxRecDepth 100000
set_option maxHeartbeats 4000000
namespace PV
open PySem L2

/-! ### while -/
def whileN : Nat → SE → SS → SS
  | 0, _, _ => fun _ _ => none
  | n + 1, t, b => fun s M => match t s M with
    | some (.val (.bl true), M1) => (match b s M1 with
      | some (.nx, s2, M2) => whileN n t b s2 M2
      | some (.ct, s2, M2) => whileN n t b s2 M2
      | some (.bk, s2, M2) => some (.nx, s2, M2)
      | r => r)
    | some (.val (.bl false), M1) => some (.nx, s, M1)
    | some (.exc c x, M1) => some (.exc c x, s, M1)
    | _ => none
theorem whileN_mono {t : SE} {b : SS} {r : Fl × SL × Store} : ∀ (n m : Nat) (s : SL) (M : Store), n ≤ m → whileN n t b s M = some r → whileN m t b s M = some r
  | 0, _, _, _, _, h => by cases h
  | n + 1, 0, _, _, h, _ => by omega
  | n + 1, m + 1, s, M, hm, h => by
    unfold whileN at h ⊢
    rcases q : t s M with _ | ⟨x | ⟨c, x⟩, M1⟩ <;> rw [q] at h
    · cases h
    · cases x <;> first | (cases h; done) | skip
      rename_i k
      cases k with
      | false => exact h
      | true =>
        dsimp only at h ⊢
        rcases q2 : b s M1 with _ | ⟨_ | v | _ | _ | ⟨c, v⟩, s2, M2⟩ <;> rw [q2] at h <;> first | exact h | skip
        · exact whileN_mono n m s2 M2 (by omega) h
        · exact whileN_mono n m s2 M2 (by omega) h
    · exact h
noncomputable section
open Classical
def sWhile (t : SE) (b : SS) : SS := fun s M => if h : ∃ n r, whileN n t b s M = some r then some (h.choose_spec.choose) else none
end
theorem while_eq {n : Nat} {t : SE} {b : SS} {s : SL} {M : Store} {r : Fl × SL × Store} (h : whileN n t b s M = some r) : sWhile t b s M = some r := by
  have hx : ∃ n r, whileN n t b s M = some r := ⟨n, r, h⟩
  unfold sWhile
  rw [dif_pos hx]
  have e := hx.choose_spec.choose_spec
  have h1 := whileN_mono n (n + hx.choose) s M (by omega) h
  have h2 := whileN_mono hx.choose (n + hx.choose) s M (by omega) e
  rw [h1] at h2
  exact h2.symm
theorem while_inv {t : SE} {b : SS} {s : SL} {M : Store} {r : Fl × SL × Store} (h : sWhile t b s M = some r) : ∃ n, whileN n t b s M = some r := by
  unfold sWhile at h
  by_cases hx : ∃ n r, whileN n t b s M = some r
  · rw [dif_pos hx] at h
    have e := hx.choose_spec.choose_spec
    cases h
    exact ⟨_, e⟩
  · rw [dif_neg hx] at h; cases h
section
variable {X : Cx} {G : Sig} {E : XK} {c : Expr} {body : List Stmt} {ec : SE} {sb : SS} {pos : Pos}
theorem qs_while (hp : PassesOwn (model X.prog X.w) X.A X.env X.xe) (hc : PT X c (tT G E ec)) (hb : PSs X body (tS G E sb)) : PS X (.While c body [] pos) (tS G E (sWhile ec sb)) :=
  ps_imp (ps_while hp hc hb) fun D σ H ⟨R, ρ, s, M, w, sr, p⟩ => by
    rcases q : sWhile ec sb s M with _ | r
    · rw [q] at p; exact False.elim p
    · obtain ⟨n, hn⟩ := while_inv q
      rw [q, ← hn] at p
      refine ⟨fun m σ' H' => ∃ R' ρ' s' M', Wd G R' ρ' M' H' ∧ SR G R' ρ' s' σ' ∧ PostS G R' ρ' H' (whileN m ec sb s' M') D E, ⟨n, R, ρ, s, M, w, sr, p⟩, ?_⟩
      rintro m σ' H' ⟨R', ρ', s', M', w', sr', p'⟩
      cases m with
      | zero => exact False.elim p'
      | succ m =>
        unfold whileN at p'
        refine ⟨R', ρ', s', M', w', sr', ?_⟩
        rcases q1 : ec s' M' with _ | ⟨x | ⟨c, x⟩, M1⟩ <;> rw [q1] at p'
        · exact p'
        · cases x <;> first | exact p' | skip
          rename_i k
          cases k with
          | false => exact fun R2 ρ2 H2 e2 w2 => iteF (p' R2 ρ2 H2 σ' e2 w2 (sr'.mono e2.gr))
          | true =>
            refine fun R2 ρ2 H2 e2 w2 => iteT ?_
            refine ⟨fun σ3 H3 => ∃ R3 ρ3 s3 M3, Wd G R3 ρ3 M3 H3 ∧ SR G R3 ρ3 s3 σ3 ∧ PostS G R3 ρ3 H3 (whileN m ec sb s3 M3) D E, fun σ3 H3 h => ⟨m, Nat.lt_succ_self m, h⟩, ?_⟩
            refine ⟨R2, ρ2, s', M1, w2, sr'.mono e2.gr, ?_⟩
            dsimp only at p'
            rcases q2 : sb s' M1 with _ | ⟨_ | v | _ | _ | ⟨c, v⟩, s4, M4⟩ <;> rw [q2] at p'
            · exact p'
            · exact fun R5 ρ5 H5 σ5 e5 w5 sr5 => ⟨R5, ρ5, s4, M4, w5, sr5, PostS.ext (e2.trans e5) p'⟩
            · exact Gives.ext e2 p'
            · exact Nxt.ext e2 p'
            · exact fun R5 ρ5 H5 σ5 e5 w5 sr5 => ⟨R5, ρ5, s4, M4, w5, sr5, PostS.ext (e2.trans e5) p'⟩
            · exact PostX.ext e2 p'
        · exact p'
end

/-! ### xs.extend(ys) -/
def kExt (o : Va) (l : List Va) (M : Store) : Res := match o, l with
  | .cel n, [y] => (match M.c n, ownOf M y with
    | some (.lst xs), some zs => if xs.length + zs.length ≤ sizeLine then some (.val .non, M.put n (.lst (xs ++ zs))) else none
    | _, _ => none)
  | _, _ => none
section
variable {X : Cx} {G : Sig}
theorem s_ext : OpM G "list" rExtend kExt := by
  intro R ρ M H x vs o l Q E w ro rv p
  unfold kExt at p
  split at p
  · rename_i n y
    obtain ⟨v, rfl, r⟩ := one_of rv
    split at p
    · rename_i xs zs h1 h2
      split at p
      · rename_i hz
        cases ro with
        | cel e =>
          rename_i a
          obtain ⟨b, eb, rb, us, hu, zu, ru⟩ := w.cel n _ h1
          rw [e] at eb
          cases eb
          obtain ⟨a2, vs2, rfl, hb, rv2, _⟩ := own_read w r h2
          refine ⟨a, a2, us, vs2, rfl, rfl, hu, hb, by rw [← ru.length, ← rv2.length]; exact hz, ?_⟩
          obtain ⟨e2, w2⟩ := write_cel (o := .lst (us ++ vs2)) (y := .lst (xs ++ zs)) w h1 e ⟨us ++ vs2, upd_same, by rw [List.length_append]; exact hz, ru.append rv2⟩
          exact p R ρ _ _ e2 w2 .non
      · exact False.elim p
    · exact False.elim p
  · exact False.elim p
end

/-! ### isinstance(x, T), T built in -/
def tyA (M : Store) : Va → Option String
  | .non => some "NoneType"
  | .bl _ => some "bool"
  | .int _ => some "int"
  | .str _ => some "str"
  | .lst _ => some "list"
  | .tup _ => some "tuple"
  | .dic _ => some "dict"
  | .cel n => (match M.c n with
    | some (.lst _) => some "list"
    | some (.dic _) => some "dict"
    | _ => none)
  | .scr _ => none
def opIsT (T : String) (M : Store) (x : Va) : Option Va := match tyA M x with
  | some t => (kitB t T).map Va.bl
  | none => none
section
variable {X : Cx} {G : Sig} {E : XK}
theorem tyA_of {R : Hp} {ρ : List Addr} {M : Store} {H : Hp} {x : Va} {v : V} {t : String} (w : Wd G R ρ M H) (r : VR G R ρ x v) (h : tyA M x = some t) : TyX X.K H v (.type t) := by
  cases r with
  | non => cases h; exact .base .non
  | bl b => cases h; exact .base (.bl b)
  | int i => cases h; exact .base (.int i)
  | str z => cases h; exact .base (.str z)
  | lst e z q => cases h; exact .base (.lst (w.sub _ _ e))
  | tup e z q => cases h; exact .base (.tup (w.sub _ _ e))
  | dic e z q => cases h; exact .base (.dK (w.sub _ _ e))
  | scr e z => cases h
  | @cel n a e =>
    unfold tyA at h
    dsimp only at h
    cases q : M.c n with
    | none => rw [q] at h; cases h
    | some y =>
      rw [q] at h
      obtain ⟨b, eb, rb, cr⟩ := w.cel n _ q
      rw [e] at eb
      cases eb
      cases y with
      | lst l => cases h; obtain ⟨vs, hb, _⟩ := cr; exact .base (.lst hb)
      | dic l => cases h; obtain ⟨vs, hb, _⟩ := cr; exact .base (.dK hb)
      | ins c l => cases h
theorem q_isT {e : Expr} {ee : SE} {pos p p2 : Pos} {x : Str} {T : String} (hx : Gl X x) (mx : X.mg x = none) (bx : bootBuiltins x = some (.type T)) (hg : Gl X "isinstance") (hm : X.mg "isinstance" = none) (he : PE X e (tE G E ee))
    (hnx : x ≠ "__name__" := by decide) (hdb : (x == ("__debug__" : Str)) = false := by decide)
    (hst : starEach [e, .Name x p2] X.env = (false, eval e X.env) :: starEach [.Name x p2] X.env := by rfl) (hpl : (backTo pos (starEach [.Name x p2] X.env)).any (·.1) = false := by rfl) :
    PE X (.Call (.Name "isinstance" p) [e, .Name x p2] [] pos) (tE G E (ev1 (opIsT T) ee)) :=
  pe_imp (pe_callB (id := "isinstance") call_isi hg hm (by decide +kernel) (pa_cons he (pa_cons (pe_bltn (v := V.ty T) hx mx bx rfl hnx hdb) pa_nil) (hs := hst)) (he := hst) (hpl := hpl)) fun σ H Q ⟨R, ρ, s, M, w, sr, p⟩ => stepE w sr p fun R1 ρ1 M1 H1 va v e1 w1 sr1 r1 p1 => by
    cases h : opIsT T M1 va with
    | none => rw [h] at p1; exact p1.elim
    | some res =>
      rw [h] at p1
      unfold opIsT at h
      split at h
      · rename_i t ht
        cases q : kitB t T with
        | none => rw [q] at h; cases h
        | some b =>
          rw [q] at h
          cases h
          exact ⟨v, V.ty T, .type t, .type T, b, rfl, .ty T, tyA_of w1 r1 ht, kit_ty q, gives_now w1 (.bl b) p1⟩
      · cases h
end

/-! ### sorted(xs), whole numbers -/
def srtI (ns : List Int) : List Int := ns.mergeSort fun a b => decide (a ≤ b)
theorem srtI_eq {ns ms : List Int} (hp : ms.Perm ns) (hs : ms.Pairwise (· ≤ ·)) : ms = srtI ns := by
  refine List.Perm.eq_of_pairwise (le := fun a b : Int => a ≤ b) (fun a b _ _ h1 h2 => Int.le_antisymm h1 h2) hs ?_ (hp.trans (List.mergeSort_perm ns _).symm)
  have := List.pairwise_mergeSort (le := fun a b : Int => decide (a ≤ b)) (fun a b c h1 h2 => by simp at *; omega) (fun a b => by simp; omega) ns
  exact this.imp fun h => by simpa using h
def gSortedI (M : Store) (l : List Va) : Option Va := match gSorted M l with
  | some r => some r
  | none => match l with
    | [x] => (match lstOf M x with
      | some l => (match intsOf l with
        | some ns => if ns.length ≤ sizeLine then some (.lst ((srtI ns).map Va.int)) else none
        | none => none)
      | none => none)
    | _ => none
section
variable {X : Cx} {G : Sig}
theorem s_sortedI (hK : X.K = G.K) : OpL G (fun xs H Q => (rSortedS X.K xs H Q ∨ rSortedD xs H Q) ∨ rSortedI X.K xs H Q) (kPure gSortedI) := pure_of fun R ρ M H xs l res Q w rv h g => by
  unfold gSortedI at h
  cases q : gSorted M l with
  | some r =>
    rw [q] at h
    cases h
    refine .inl (s_sorted hK R ρ M H xs l Q E0 w rv ?_)
    unfold kPure
    rw [q]
    exact g
  | none =>
    rw [q] at h
    dsimp only at h
    split at h
    · rename_i x
      obtain ⟨v, rfl, r⟩ := one_of rv
      split at h
      · rename_i l hl
        split at h
        · rename_i ns hn
          split at h
          · rename_i hz
            cases h
            obtain ⟨a, rfl, sq⟩ := lst_ints w r hl hn
            refine .inr ⟨a, ns, rfl, by rw [hK]; exact sq, fun ms p hp hs hq => ?_⟩
            have e := srtI_eq hp hs
            subst e
            exact gives_lst w (VRs.ints _) (by rw [List.length_map, hp.length_eq]; exact hz) g hq
          · cases h
        · cases h
      · cases h
    · cases h
end
end PV

set_option Elab.async false
set_option linter.all false
set_option maxRecDepth 100000
set_option maxHeartbeats 4000000
namespace PV
open PySem L2
open PyProof.Rows

/-! ### [e for x in xs for y in ys] -/
noncomputable section
open Classical
def compL2 (chk : Store → Prop) (tg : Tgt) (tt : SE) (src1 : SI) (tg1 : Tgt) (tt1 te : SE) (sw : SL) (vs1 : List Nat) : List Va → Store → Option (List Va × Store)
  | [], M => if chk M then some ([], M) else none
  | x :: xs, M => if chk M then (match tg x sw M with
    | none => none
    | some s1 => match tt s1 M with
      | some (.val (.bl true), M1) => (match src1 s1 M1 with
        | some (.it l1 chk1, M2) => (match compL chk1 tg1 tt1 te (wipeI s1 vs1) l1 M2 with
          | some (ys, M3) => (match compL2 chk tg tt src1 tg1 tt1 te sw vs1 xs M3 with
            | some (zs, M4) => some (ys ++ zs, M4)
            | none => none)
          | none => none)
        | _ => none)
      | some (.val (.bl false), M1) => compL2 chk tg tt src1 tg1 tt1 te sw vs1 xs M1
      | _ => none) else none
def evLc2 (src : SI) (tg : Tgt) (tt : SE) (src1 : SI) (tg1 : Tgt) (tt1 te : SE) (vs vs1 : List Nat) : SE := fun s M => match src s M with
  | none => none
  | some (.it l chk, M1) => (match compL2 chk tg tt src1 tg1 tt1 te (wipeI s vs) vs1 l M1 with
    | some (ys, M2) => if ys.length ≤ sizeLine then some (.val (.lst ys), M2) else none
    | none => none)
  | some (.exc c v, M1) => some (.exc c v, M1)
end
section
variable {G : Sig} {E : XK}
theorem lc2_walk {t t1 : Tgt} {tt tt1 te : SE} {src1 : SI} {vs vs1 ix ix1 : List Nat} {g g1 : TG} (sm : TgSim G g t ix) (sm1 : TgSim G g1 t1 ix1) (hix : ∀ i ∈ ix, i ∈ vs) (hix1 : ∀ i ∈ ix1, i ∈ vs1) {σ : L2.St} {R1 : Hp} {ρ1 : List Addr} {M1 M2 : Store} {H1 : Hp} {s : SL} {J : It} {l ys : List Va} {chk : Store → Prop} {Q : VK} {D : Addr}
    (w1 : Wd G R1 ρ1 M1 H1) (sr : SR G R1 ρ1 s σ) (hz : l.length ≤ sizeLine) (hzy : ys.length ≤ sizeLine) (js : ItSim G R1 ρ1 J l chk) (hcomp : compL2 chk t tt src1 t1 tt1 te (wipeI s vs) vs1 l M1 = some (ys, M2)) (hD : H1 D = none)
    (fin : ∀ R' ρ' H' acc, Ext R1 ρ1 H1 R' ρ' H' → Wd G R' ρ' M2 H' → H' D = some (.lst acc) → R' D = none → D ∉ ρ' → VRs G R' ρ' ys acc → Q (.ref D) H') :
    ∃ W : Nat → Nat → Hp → Prop, (∃ m, W 0 m (upd H1 D (.lst []))) ∧ ∀ i m H, W i m H →
      (J.stop i H ∧ Q (.ref D) H) ∨ (J.go i H ∧ ∃ Nx : Hp → Prop, (∀ H', Nx H' → ∃ m', m' < m ∧ W (i + 1) m' H') ∧ ∀ x H', J.yld i H x H' → g x (wipe σ vs) H' fun σ2 H2 => wipe σ2 vs = wipe σ vs ∧ tT G E tt σ2 H2 fun b H3 =>
        if b = true then tI G E src1 σ2 H3 fun J1 H4 => ∃ W1 : Nat → Nat → Hp → Prop, (∃ m, W1 0 m H4) ∧ ∀ j k H, W1 j k H →
          (J1.stop j H ∧ Nx H) ∨ (J1.go j H ∧ ∃ Nx1 : Hp → Prop, (∀ H', Nx1 H' → ∃ k', k' < k ∧ W1 (j + 1) k' H') ∧ ∀ x H', J1.yld j H x H' → g1 x (wipe σ2 vs1) H' fun σ3 H5 => wipe σ3 vs1 = wipe σ2 vs1 ∧ tT G E tt1 σ3 H5 fun b H6 =>
            if b = true then tE G E te σ3 H6 fun y H7 => ∃ acc, H7 D = some (.lst acc) ∧ acc.length < sizeLine ∧ Nx1 (upd H7 D (.lst (acc ++ [y]))) else Nx1 H6)
        else Nx H3) := by
  have rD : R1 D = none := w1.nonR hD
  refine ⟨fun i m Hc => ∃ R' ρ' M' acc accI rest, m = l.length - i ∧ i ≤ l.length ∧ Ext R1 ρ1 H1 R' ρ' Hc ∧ Wd G R' ρ' M' Hc ∧ Hc D = some (.lst acc) ∧ VRs G R' ρ' accI acc ∧ R' D = none ∧ (D ∉ ρ') ∧
    compL2 chk t tt src1 t1 tt1 te (wipeI s vs) vs1 (l.drop i) M' = some (rest, M2) ∧ accI ++ rest = ys, ?_, ?_⟩
  · refine ⟨l.length, R1, ρ1, M1, [], [], ys, rfl, Nat.zero_le _, Ext.heapNew hD, ?_, upd_same, .nil, rD, ?_, hcomp, rfl⟩
    · exact w1.heap fun a o h => by rw [upd_ne (ne_of_none h hD)]; exact h
    · exact fun hm => w1.al D hm hD
  · rintro i m Hc ⟨R', ρ', M', acc, accI, rest, rfl, hi, e', w', hDc, ra, rDn, nDr, hc, hy⟩
    by_cases hlt : i < l.length
    · have ed : l.drop i = l[i] :: l.drop (i + 1) := List.drop_eq_getElem_cons hlt
      rw [ed] at hc
      unfold compL2 at hc
      by_cases ck : chk M'
      · rw [if_pos ck] at hc
        obtain ⟨go, _⟩ := js R' ρ' M' Hc e'.gr w' ck
        obtain ⟨go, yld⟩ := go i l[i] (by simp [hlt])
        refine .inr ⟨go, fun H2 => ∃ R2 ρ2 M3 acc accI rest, Ext R1 ρ1 H1 R2 ρ2 H2 ∧ Wd G R2 ρ2 M3 H2 ∧ H2 D = some (.lst acc) ∧ VRs G R2 ρ2 accI acc ∧ R2 D = none ∧ (D ∉ ρ2) ∧
          compL2 chk t tt src1 t1 tt1 te (wipeI s vs) vs1 (l.drop (i + 1)) M3 = some (rest, M2) ∧ accI ++ rest = ys, fun H2 ⟨R2, ρ2, M3, acc, accI, rest, q⟩ => ⟨l.length - (i + 1), by omega, R2, ρ2, M3, acc, accI, rest, rfl, hlt, q⟩, fun x H2 hyl => ?_⟩
        obtain ⟨R2, e2, w2, r2⟩ := yld x H2 hyl
        obtain ⟨rD2, nD2, hD2⟩ := e2.apart hDc rDn nDr
        cases q3 : t l[i] (wipeI s vs) M' with
        | none => rw [q3] at hc; cases hc
        | some s3 =>
          rw [q3] at hc
          have srw : SR G R2 ρ' (wipeI s vs) (wipe σ vs) := (SR.wipe (sr.mono (e'.gr.trans e2.gr)) vs)
          refine sm R2 ρ' M' H2 (wipeI s vs) s3 (wipe σ vs) l[i] x _ w2 srw r2 q3 fun σ3 sr3 hl3 hk3 => ⟨?_, ?_⟩
          · have z1 : wipe σ3 vs = wipe (wipe σ vs) vs := wipe_same hl3 fun j hj => hk3 j fun z => hj (hix j z)
            rw [z1]
            exact wipe_same (wipe_length σ vs) fun j hj => wipe_get σ j vs hj
          · dsimp only at hc
            rcases q4 : tt s3 M' with _ | ⟨y | ⟨c, y⟩, M4⟩ <;> rw [q4] at hc
            · cases hc
            · cases y <;> first | (cases hc; done) | skip
              rename_i bb
              refine ⟨R2, ρ', s3, M', w2, sr3, ?_⟩
              rw [q4]
              intro R5 ρ5 H5 e5 w5
              obtain ⟨rD5, nD5, hD5⟩ := e5.apart hD2 rD2 nD2
              cases bb with
              | false =>
                refine iteF ?_
                exact ⟨R5, ρ5, M4, acc, accI, rest, (e'.trans e2).trans e5, w5, hD5, ra.mono (e2.trans e5).gr, rD5, nD5, hc, hy⟩
              | true =>
                refine iteT ?_
                dsimp only at hc
                rcases q5 : src1 s3 M4 with _ | ⟨⟨l1, chk1⟩ | ⟨c, x⟩, M5⟩ <;> rw [q5] at hc
                · cases hc
                · dsimp only at hc
                  rcases q6 : compL chk1 t1 tt1 te (wipeI s3 vs1) l1 M5 with _ | ⟨ys1, M6⟩ <;> rw [q6] at hc
                  · cases hc
                  · dsimp only at hc
                    rcases q7 : compL2 chk t tt src1 t1 tt1 te (wipeI s vs) vs1 (l.drop (i + 1)) M6 with _ | ⟨zs, M7⟩ <;> rw [q7] at hc
                    · cases hc
                    · cases hc
                      refine ⟨R5, ρ5, s3, M4, w5, sr3.mono e5.gr, ?_⟩
                      rw [q5]
                      intro Ra ρa Ha J1 ea wa hz1 js1
                      obtain ⟨rDa, nDa, hDa⟩ := ea.apart hD5 rD5 nD5
                      have eA : Ext R1 ρ1 H1 Ra ρa Ha := ((e'.trans e2).trans e5).trans ea
                      refine ⟨fun j k Hd => ∃ R8 ρ8 M8 acc accI rest, k = l1.length - j ∧ j ≤ l1.length ∧ Gr Ra ρa R8 ρ8 ∧ Ext R1 ρ1 H1 R8 ρ8 Hd ∧ Wd G R8 ρ8 M8 Hd ∧ Hd D = some (.lst acc) ∧ VRs G R8 ρ8 accI acc ∧ R8 D = none ∧ (D ∉ ρ8) ∧
                        compL chk1 t1 tt1 te (wipeI s3 vs1) (l1.drop j) M8 = some (rest, M6) ∧ accI ++ (rest ++ zs) = ys, ?_, ?_⟩
                      · exact ⟨l1.length, Ra, ρa, M5, acc, accI, ys1, rfl, Nat.zero_le _, Gr.refl, eA, wa, hDa, ra.mono ((e2.trans e5).trans ea).gr, rDa, nDa, q6, hy⟩
                      · rintro j k Hd ⟨R8, ρ8, M8, acc8, accI8, rest8, rfl, hj, e8, e8a, w8, hD8, ra8, rD8, nD8, hc8, hy8⟩
                        by_cases hlt1 : j < l1.length
                        · have ed1 : l1.drop j = l1[j] :: l1.drop (j + 1) := List.drop_eq_getElem_cons hlt1
                          rw [ed1] at hc8
                          unfold compL at hc8
                          by_cases ck1 : chk1 M8
                          · rw [if_pos ck1] at hc8
                            obtain ⟨go1, _⟩ := js1 R8 ρ8 M8 Hd e8 w8 ck1
                            obtain ⟨go1, yld1⟩ := go1 j l1[j] (by simp [hlt1])
                            refine .inr ⟨go1, fun He => ∃ R9 ρ9 M9 acc accI rest, Gr Ra ρa R9 ρ9 ∧ Ext R1 ρ1 H1 R9 ρ9 He ∧ Wd G R9 ρ9 M9 He ∧ He D = some (.lst acc) ∧ VRs G R9 ρ9 accI acc ∧ R9 D = none ∧ (D ∉ ρ9) ∧
                              compL chk1 t1 tt1 te (wipeI s3 vs1) (l1.drop (j + 1)) M9 = some (rest, M6) ∧ accI ++ (rest ++ zs) = ys, fun He ⟨R9, ρ9, M9, acc, accI, rest, q⟩ => ⟨l1.length - (j + 1), by omega, R9, ρ9, M9, acc, accI, rest, rfl, hlt1, q⟩, fun x1 He hyl1 => ?_⟩
                            obtain ⟨R9, e9, w9, r9⟩ := yld1 x1 He hyl1
                            obtain ⟨rD9, nD9, hD9⟩ := e9.apart hD8 rD8 nD8
                            cases p3 : t1 l1[j] (wipeI s3 vs1) M8 with
                            | none => rw [p3] at hc8; cases hc8
                            | some s4 =>
                              rw [p3] at hc8
                              have srw1 : SR G R9 ρ8 (wipeI s3 vs1) (wipe σ3 vs1) := SR.wipe (sr3.mono (((e5.trans ea).gr.trans e8).trans e9.gr)) vs1
                              refine sm1 R9 ρ8 M8 He (wipeI s3 vs1) s4 (wipe σ3 vs1) l1[j] x1 _ w9 srw1 r9 p3 fun σ4 sr4 hl4 hk4 => ⟨?_, ?_⟩
                              · have z1 : wipe σ4 vs1 = wipe (wipe σ3 vs1) vs1 := wipe_same hl4 fun j hj => hk4 j fun z => hj (hix1 j z)
                                rw [z1]
                                exact wipe_same (wipe_length σ3 vs1) fun j hj => wipe_get σ3 j vs1 hj
                              · dsimp only at hc8
                                rcases p4 : tt1 s4 M8 with _ | ⟨y | ⟨c, y⟩, N4⟩ <;> rw [p4] at hc8
                                · cases hc8
                                · cases y <;> first | (cases hc8; done) | skip
                                  rename_i bb
                                  refine ⟨R9, ρ8, s4, M8, w9, sr4, ?_⟩
                                  rw [p4]
                                  intro Rb ρb Hb eb wb
                                  obtain ⟨rDb, nDb, hDb⟩ := eb.apart hD9 rD9 nD9
                                  cases bb with
                                  | false =>
                                    refine iteF ?_
                                    exact ⟨Rb, ρb, N4, acc8, accI8, rest8, (e8.trans e9.gr).trans eb.gr, (e8a.trans e9).trans eb, wb, hDb, ra8.mono (e9.trans eb).gr, rDb, nDb, hc8, hy8⟩
                                  | true =>
                                    refine iteT ?_
                                    dsimp only at hc8
                                    rcases p6 : te s4 N4 with _ | ⟨y | ⟨c, y⟩, N6⟩ <;> rw [p6] at hc8
                                    · cases hc8
                                    · refine ⟨Rb, ρb, s4, N4, wb, sr4.mono eb.gr, ?_⟩
                                      rw [p6]
                                      intro Rc ρc Hcc v ec wc rc
                                      obtain ⟨rDc, nDc, hDc2⟩ := ec.apart hDb rDb nDb
                                      dsimp only at hc8
                                      rcases p8 : compL chk1 t1 tt1 te (wipeI s3 vs1) (l1.drop (j + 1)) N6 with _ | ⟨ys8, N8⟩ <;> rw [p8] at hc8
                                      · cases hc8
                                      · cases hc8
                                        have eall := ((e8a.trans e9).trans eb).trans ec
                                        refine ⟨acc8, hDc2, ?_, Rc, ρc, N6, acc8 ++ [v], accI8 ++ [y], ys8, ((e8.trans e9.gr).trans eb.gr).trans ec.gr, eall.mut hD, wc.other rDc nDc, upd_same, VRs.append (ra8.mono ((e9.trans eb).trans ec).gr) (.cons rc .nil), rDc, nDc, p8, by rw [← hy8]; simp⟩
                                        · have hl := ra8.length
                                          have : accI8.length < ys.length := by rw [← hy8]; simp
                                          omega
                                    · cases hc8
                                · cases hc8
                          · rw [if_neg ck1] at hc8; cases hc8
                        · have e0 : j = l1.length := by omega
                          subst e0
                          rw [List.drop_length] at hc8
                          unfold compL at hc8
                          by_cases ck1 : chk1 M8
                          · rw [if_pos ck1] at hc8
                            cases hc8
                            obtain ⟨_, stop1⟩ := js1 R8 ρ8 _ Hd e8 w8 ck1
                            exact .inl ⟨stop1 _ (Nat.le_refl _), R8, ρ8, _, acc8, accI8, zs, e8a, w8, hD8, ra8, rD8, nD8, q7, by simpa using hy8⟩
                          · rw [if_neg ck1] at hc8; cases hc8
                · cases hc
            · cases hc
      · rw [if_neg ck] at hc; cases hc
    · have e0 : i = l.length := by omega
      subst e0
      rw [List.drop_length] at hc
      unfold compL2 at hc
      by_cases ck : chk M'
      · rw [if_pos ck] at hc
        cases hc
        obtain ⟨_, stop⟩ := js R' ρ' _ Hc e'.gr w' ck
        rw [List.append_nil] at hy
        subst hy
        exact .inl ⟨stop _ (Nat.le_refl _), fin R' ρ' Hc acc e' w' hDc rDn nDr ra⟩
      · rw [if_neg ck] at hc; cases hc
end
section
variable {X : Cx} {G : Sig} {E E2 : XK} {tg elt iter tg1 iter1 : Expr} {ifs ifs1 : List Expr} {pos : Pos} {src src1 : SI} {t t1 : Tgt} {tt tt1 te : SE} {ix ix1 : List Nat} {g g1 : TG} {scope : Scope} {own : List (Str × Nat)} {vs1 : List Nat}
theorem lc2_frz {σ : L2.St} {H : Hp} {Q : VK} (sm : TgSim G g t ix) (sm1 : TgSim G g1 t1 ix1) (hix : ∀ i ∈ ix, i ∈ own.map (·.2)) (hix1 : ∀ i ∈ ix1, i ∈ vs1) (h : tE G E (evLc2 src t tt src1 t1 tt1 te (own.map (·.2)) vs1) σ H Q) :
    tLc2 (tI G E src) g (tT G E2 tt) (tI G E2 src1) g1 (tT G E2 tt1) (tE G E2 te) (own.map (·.2)) vs1 σ H Q := by
  obtain ⟨R, ρ, s, M, w, sr, p⟩ := h
  refine ⟨R, ρ, s, M, w, sr, ?_⟩
  unfold evLc2 at p
  rcases q : src s M with _ | ⟨⟨l, chk⟩ | ⟨c, x⟩, M1⟩ <;> rw [q] at p
  · exact p
  · intro R1 ρ1 H1 J e1 w1 hz js D hD
    dsimp only at p
    rcases q2 : compL2 chk t tt src1 t1 tt1 te (wipeI s (own.map (·.2))) vs1 l M1 with _ | ⟨ys, M2⟩ <;> rw [q2] at p
    · exact False.elim p
    · dsimp only at p
      split at p
      · rename_i hzy
        refine lc2_walk sm sm1 hix hix1 w1 (sr.mono e1.gr) hz hzy js q2 hD fun R' ρ' H' acc e' w' hDc rDn nDr ra => ?_
        exact p (upd R' D (.lst acc)) ρ' H' (.ref D) (e1.trans (e'.take hD rDn)) (w'.take hDc rDn nDr) (.lst upd_same hzy (ra.mono ⟨fun a o q => by rw [upd_ne (fun z => by subst z; rw [rDn] at q; cases q)]; exact q, fun _ _ q => q⟩))
      · exact False.elim p
  · exact p
theorem q_lc2 (hc : X.calm = true) (hN : X.N.Nodup) (hi : PI X tg iter (tI G E src)) (ok : BlkOk X.N X.env.scope scope own)
    (hg : ∀ (s : Shared) (H : Hp) (C : Addr) (cl : List (Str × Addr)) (fp : List Addr), QG (X.blk s H scope (compEnvC scope cl C X.env) fp) G tg g t ix)
    (ht : ∀ (s : Shared) (H : Hp) (C : Addr) (cl : List (Str × Addr)) (fp : List Addr), PTs (X.blk s H scope (compEnvC scope cl C X.env) fp) ifs (tT G E2 tt))
    (hi1 : ∀ (s : Shared) (H : Hp) (C : Addr) (cl : List (Str × Addr)) (fp : List Addr), PI (X.blk s H scope (compEnvC scope cl C X.env) fp) tg1 iter1 (tI G E2 src1))
    (hg1 : ∀ (s : Shared) (H : Hp) (C : Addr) (cl : List (Str × Addr)) (fp : List Addr), QG (X.blk s H scope (compEnvC scope cl C X.env) fp) G tg1 g1 t1 ix1)
    (ht1 : ∀ (s : Shared) (H : Hp) (C : Addr) (cl : List (Str × Addr)) (fp : List Addr), PTs (X.blk s H scope (compEnvC scope cl C X.env) fp) ifs1 (tT G E2 tt1))
    (he : ∀ (s : Shared) (H : Hp) (C : Addr) (cl : List (Str × Addr)) (fp : List Addr), PE (X.blk s H scope (compEnvC scope cl C X.env) fp) elt (tE G E2 te))
    (hv : ∀ i ∈ vs1, i ∈ own.map (·.2) := by decide) (hix : ∀ i ∈ ix, i ∈ own.map (·.2) := by decide) (hix1 : ∀ i ∈ ix1, i ∈ vs1 := by decide) (hs : ∀ x, foldedSetIterable iter X.env x = pure x := by intro _; rfl) (hs1 : ∀ env x, foldedSetIterable iter1 env x = pure x := by intro _ _; rfl) :
    PE X (.ListComp elt [⟨tg, iter, ifs, 0⟩, ⟨tg1, iter1, ifs1, 0⟩] scope pos) (tE G E (evLc2 src t tt src1 t1 tt1 te (own.map (·.2)) vs1)) :=
  ⟨fun pins s σ H Q I h => (pe_lc2 hc hN hi ok hv (fun s H C cl fp => (hg s H C cl fp).pg) ht hi1 (fun s H C cl fp => (hg1 s H C cl fp).pg) ht1 he hs hs1).run pins s σ H Q I (lc2_frz (hg s H 0 [] []).sim (hg1 s H 0 [] []).sim hix hix1 h)⟩
theorem qs_setLc2 {i : Nat} {y : Str} {py spos : Pos} (hc : X.calm = true) (hN : X.N.Nodup) (hy : X.N[i]? = some y) (hyl : X.env.scope.names.lookup y = some .local)
    (hsw : swapsWith (.ListComp elt [⟨tg, iter, ifs, 0⟩, ⟨tg1, iter1, ifs1, 0⟩] scope pos) (some (.Name y py)) spos.line X.env = pure true) (hi : PI X tg iter (tI G E src)) (ok : BlkOk X.N X.env.scope scope own)
    (hg : ∀ (s : Shared) (H : Hp) (C : Addr) (cl : List (Str × Addr)) (fp : List Addr), QG (X.blk s H scope (compEnvC scope cl C X.env) fp) G tg g t ix)
    (ht : ∀ (s : Shared) (H : Hp) (C : Addr) (cl : List (Str × Addr)) (fp : List Addr), PTs (X.blk s H scope (compEnvC scope cl C X.env) fp) ifs (tT G E2 tt))
    (hi1 : ∀ (s : Shared) (H : Hp) (C : Addr) (cl : List (Str × Addr)) (fp : List Addr), PI (X.blk s H scope (compEnvC scope cl C X.env) fp) tg1 iter1 (tI G E2 src1))
    (hg1 : ∀ (s : Shared) (H : Hp) (C : Addr) (cl : List (Str × Addr)) (fp : List Addr), QG (X.blk s H scope (compEnvC scope cl C X.env) fp) G tg1 g1 t1 ix1)
    (ht1 : ∀ (s : Shared) (H : Hp) (C : Addr) (cl : List (Str × Addr)) (fp : List Addr), PTs (X.blk s H scope (compEnvC scope cl C X.env) fp) ifs1 (tT G E2 tt1))
    (he : ∀ (s : Shared) (H : Hp) (C : Addr) (cl : List (Str × Addr)) (fp : List Addr), PE (X.blk s H scope (compEnvC scope cl C X.env) fp) elt (tE G E2 te))
    (hv : ∀ i ∈ vs1, i ∈ own.map (·.2) := by decide) (hix : ∀ i ∈ ix, i ∈ own.map (·.2) := by decide) (hix1 : ∀ i ∈ ix1, i ∈ vs1 := by decide) (hs : ∀ x, foldedSetIterable iter X.env x = pure x := by intro _; rfl) (hs1 : ∀ env x, foldedSetIterable iter1 env x = pure x := by intro _ _; rfl) :
    PS X (.Assign [.Name y py] (.ListComp elt [⟨tg, iter, ifs, 0⟩, ⟨tg1, iter1, ifs1, 0⟩] scope pos) spos) (tS G E (sSet i (evLc2 src t tt src1 t1 tt1 te (own.map (·.2)) vs1))) :=
  ⟨fun pins s0 σ H D I ⟨R, ρ, s, M, w, sr, p⟩ => (ps_setLc2 hc hN hy hyl hsw hi ok hv (fun s H C cl fp => (hg s H C cl fp).pg) ht hi1 (fun s H C cl fp => (hg1 s H C cl fp).pg) ht1 he hs hs1).run pins s0 σ H D I (lc2_frz (hg s0 H 0 [] []).sim (hg1 s0 H 0 [] []).sim hix hix1
    (stepS (Q' := fun x H1 => gName i x σ H1 D.nx) w sr p fun R1 ρ1 M1 H1 va v e1 w1 sr1 r1 p1 => nxt_now w1 (sr1.set i r1) p1))⟩
end
end PV

set_option Elab.async false
set_option linter.all false
set_option maxRecDepth 100000
set_option maxHeartbeats 4000000
namespace PV
open PySem L2
/-! ### list(d), the keys -/
abbrev rListDA : List V → Hp → VK → Prop := fun xs H Q => ∃ (a : Addr) (kvs : List (Key × V)), xs = [.ref a] ∧ Rd H a (.dK kvs) ∧ ∀ p, H p = none → Q (.ref p) (upd H p (.lst (kvs.map fun kv => kV kv.1)))
section
variable {X : Cx} {G : Sig}
theorem VRk.keyVals {R : Hp} {ρ : List Addr} : ∀ {l : List (Key × Va)} {vs : List (Key × V)}, VRk G R ρ l vs → VRs G R ρ (l.map fun kv => keyVa kv.1) (vs.map fun kv => kV kv.1)
  | _, _, .nil => .nil
  | _, _, .cons (k := k) _ t => .cons (VR.ofKey k) (VRk.keyVals t)
theorem s_listXF (hK : X.K = G.K) : OpL G (fun xs H Q => rListA X.K xs H Q ∨ rListDA xs H Q) (kPure gListX) := pure_of fun R ρ M H xs l res Q w rv h g => by
  unfold gListX at h
  split at h
  · rename_i x
    obtain ⟨v, rfl, r⟩ := one_of rv
    unfold lstOrKeys at h
    cases q : dicOf M x with
    | some l' =>
      rw [q] at h
      cases h
      obtain ⟨a, vs, rfl, ha, rk, z⟩ := dic_read w r q
      exact .inr ⟨a, vs, rfl, .inl ha, fun p hp => gives_lst w rk.keyVals (by rw [List.length_map]; exact z) g hp⟩
    | none =>
      rw [q] at h
      cases q2 : seqOf M x with
      | none => rw [q2] at h; cases h
      | some l =>
        rw [q2] at h
        cases h
        obtain ⟨a, vs, rfl, sq, rv', z⟩ := seq_read w r q2
        exact .inl ⟨a, vs, rfl, by rw [hK]; exact sq, fun p hp => gives_lst w rv' z g hp⟩
  · cases h
end
end PV

set_option linter.all false
set_option maxRecDepth 100000
set_option maxHeartbeats 4000000
namespace PV
open PySem L2
section
variable {P : Program} {w : World} {X : Cx} {G : Sig} {E : XK}
variable {a : Expr} {ea : SE}
/-- a list in a local cell becomes a datum, before what follows -/
def evGho (k : Nat) (ev : SE) : SE := fun s M => match s[k]? with
  | some (some (.cel n)) => (match M.c n with
    | some (.lst l) => ev (s.set k (some (.lst l))) (M.del n)
    | _ => none)
  | _ => none
theorem Post.ext_ {R R' : Hp} {ρ ρ' : List Addr} {H H' : Hp} {r : Res} {Q : VK} (e : Ext R ρ H R' ρ' H') (p : Post G R ρ H r Q E) : Post G R' ρ' H' r Q E := by
  rcases r with _ | ⟨x | ⟨c, x⟩, M1⟩
  · exact p
  · exact fun R2 ρ2 H2 v e2 w h => p R2 ρ2 H2 v (e.trans e2) w h
  · exact PostX.ext e p
theorem q_gho {k : Nat} (h : PE X a (tE G E ea)) : PE X a (tE G E (evGho k ea)) :=
  pe_imp h fun σ H Q ⟨R, ρ, s, M, w, sr, p⟩ => by
    unfold evGho at p
    rcases q : s[k]? with _ | _ | v <;> rw [q] at p
    · exact False.elim p
    · exact False.elim p
    · cases v <;> first | exact False.elim p | skip
      rename_i n
      dsimp only at p
      cases q2 : M.c n with
      | none => rw [q2] at p; exact False.elim p
      | some y =>
        rw [q2] at p
        cases y with
        | ins c l => exact False.elim p
        | dic l => exact False.elim p
        | lst l =>
          obtain ⟨u, h1, h2⟩ := sr.at_ k _ q
          obtain ⟨b, eb, rb, vs, hb, z, rv⟩ := w.cel n _ q2
          cases h2 with
          | cel e' =>
            rw [e'] at eb
            cases eb
            obtain ⟨e2, w2⟩ := freeze_cel w q2 e' hb
            have s2 := (sr.mono e2.gr).set k (.lst upd_same z (rv.mono e2.gr))
            have e3 : σ.set k (some (.ref b)) = σ := by
              apply List.ext_getElem?
              intro i
              rw [List.getElem?_set]
              split
              · rename_i hi
                cases hi
                split
                · exact h1.symm
                · rename_i hl
                  rw [List.getElem?_eq_none (by omega)]
              · rfl
            rw [e3] at s2
            exact ⟨_, _, _, _, w2, s2, Post.ext_ e2 p⟩
end
end PV

set_option Elab.async false
set_option linter.all false
set_option maxRecDepth 100000
set_option maxHeartbeats 4000000
namespace Lw
open PySem L2 PV
noncomputable section
def m__law_source : SS :=
    (sSeq (sSet 1 (evL kNew evNil))
    (sSeq (sSet 2 (evL kNew evNil))
    (sSeq (sFor (itA (evSl (evVar 0) (evC .non) (evB (evC (.int 63))))) (tgName 3) (sIf (ev2 opGe (evL (kPure gAbs) (evCons (evVar 3) evNil)) (ev2 opPow (evC (.int 10)) (evC (.int 18)))) (sDrop (evM2 isLstA (kMut cAppend) (evVar 1) (evCons (evL (kPure gAbs) (evCons (evVar 3) evNil)) evNil))) (sDrop (evM2 isLstA (kMut cAppend) (evVar 2) (evCons (evVar 3) evNil)))))
    (sRet (evGho 2 (evL kNew (evCons (evVar 1) (evCons (evVar 2) (evCons (evC (.int 0)) (evCons (ev2 opAdd (evL (kPure gLen) (evCons (evVar 2) evNil)) (evC (.int 17))) (evCons (evC (.int 0)) evNil)))))))))))
def c__law_source : FM := runF 4 m__law_source
def m__law_draw : SS :=
    (sSeq (sIf (evAnd (ev2 opEq (ev2 opIx (evVar 0) (evC (.int 2))) (evC (.int 0))) (ev2 opGt (evL (kPure gLen) (evCons (ev2 opIx (evVar 0) (evC (.int 0))) evNil)) (evC (.int 0)))) (sSub (evM2 isLstA (kMut cPopAt) (ev2 opIx (evVar 0) (evC (.int 0))) (evCons (evC (.int 0)) evNil)) (evVar 0) (evC (.int 2)) cSetAt) sNx)
    (sSeq (sIf (ev2 opGt (ev2 opIx (evVar 0) (evC (.int 2))) (evC (.int 0))) (sSeq (sSet 4 (ev2 opMod (evL (kPure gInt) (evCons (ev2 opIx (evVar 0) (evC (.int 2))) evNil)) (evVar 1)))
    (sSeq (sSub (ev2 opDiv (evL (kPure gInt) (evCons (ev2 opIx (evVar 0) (evC (.int 2))) evNil)) (evVar 1)) (evVar 0) (evC (.int 2)) cSetAt)
    (sRet (evVar 4)))) sNx)
    (sSeq (sSub (ev2 opAdd (ev2 opIx (evVar 0) (evC (.int 4))) (evC (.int 1))) (evVar 0) (evC (.int 4)) cSetAt)
    (sSeq (sSet 2 (ev2 opAdd (ev2 opMul (ev2 opIx (evVar 0) (evC (.int 4))) (evC (.int 11))) (evC (.int 5))))
    (sSeq (sIf (ev2 opGt (evL (kPure gLen) (evCons (ev2 opIx (evVar 0) (evC (.int 1))) evNil)) (evC (.int 0))) (sSet 2 (ev2 opAdd (evVar 2) (ev2 opMul (ev2 opIx (ev2 opIx (evVar 0) (evC (.int 1))) (ev2 opMod (evL (kPure gInt) (evCons (ev2 opIx (evVar 0) (evC (.int 4))) evNil)) (evL (kPure gLen) (evCons (ev2 opIx (evVar 0) (evC (.int 1))) evNil)))) (evC (.int 1000003))))) sNx)
    (sSeq (sSet 3 (ev2 opAdd (ev2 opAdd (ev2 opMul (ev2 opMul (ev2 opIx (evVar 0) (evC (.int 3))) (ev2 opIx (evVar 0) (evC (.int 3)))) (evC (.int 3))) (ev2 opMul (evVar 2) (evC (.int 2862933555777941757)))) (evC (.int 7046029254386353131))))
    (sSeq (sSub (ev2 opMod (evL (kPure gInt) (evCons (evVar 3) evNil)) (evC (.int 2305843009213693951))) (evVar 0) (evC (.int 3)) cSetAt)
    (sRet (ev2 opMod (evL (kPure gInt) (evCons (ev2 opDiv (ev2 opIx (evVar 0) (evC (.int 3))) (evC (.int 65537))) evNil)) (evVar 1))))))))))
def c__law_draw : FM := runF 5 m__law_draw
def m__law_name : SS :=
    (sSeq (sSet 2 (evC (.str "abcdefghijklmnopqrstuvwxyz")))
    (sSeq (sSet 3 (evM2 isStrA (kVal gJoin) (evC (.str "")) (evCons (evLc (itR1 (evCons (ev2 opAdd (evC (.int 1)) (evL (kFn 2 c__law_draw) (evCons (evVar 0) (evCons (evC (.int 3)) evNil)))) evNil)) (tgName 5) evYes (ev2 opIx (evVar 2) (evL (kFn 2 c__law_draw) (evCons (evVar 0) (evCons (evC (.int 26)) evNil)))) [5]) evNil)))
    (sSeq (sIf (ev2 opEq (evL (kFn 2 c__law_draw) (evCons (evVar 0) (evCons (evC (.int 4)) evNil))) (evC (.int 0))) (sSet 3 (ev2 opAdd (evVar 3) (evM2 isStrA (kVal gJoin) (evC (.str "")) (evCons (evLc (itR1 (evCons (evC (.int 5)) evNil)) (tgName 5) evYes (ev2 opIx (evVar 2) (evL (kFn 2 c__law_draw) (evCons (evVar 0) (evCons (evC (.int 26)) evNil)))) [5]) evNil)))) sNx)
    (sSeq (sIf (evAnd (ev2 opGt (evL (kPure gLen) (evCons (evVar 1) evNil)) (evC (.int 0))) (evAnd (ev2 opLt (evL (kPure gLen) (evCons (ev2 opIx (evVar 1) (ev1 opNeg (evC (.int 1)))) evNil)) (evC (.int 8))) (ev2 opEq (evL (kFn 2 c__law_draw) (evCons (evVar 0) (evCons (evC (.int 3)) evNil))) (evC (.int 0))))) (sSeq (sSet 4 (evL (kFn 2 c__law_draw) (evCons (evVar 0) (evCons (ev2 opAdd (evL (kPure gLen) (evCons (ev2 opIx (evVar 1) (ev1 opNeg (evC (.int 1)))) evNil)) (evC (.int 1))) evNil))))
    (sSet 3 (ev2 opAdd (ev2 opAdd (evSl (ev2 opIx (evVar 1) (ev1 opNeg (evC (.int 1)))) (evC .non) (evB (evVar 4))) (ev2 opIx (evVar 2) (evL (kFn 2 c__law_draw) (evCons (evVar 0) (evCons (evC (.int 26)) evNil))))) (evSl (ev2 opIx (evVar 1) (ev1 opNeg (evC (.int 1)))) (evB (evVar 4)) (evC .non))))) sNx)
    (sSeq (sIf (ev2 opInD (evVar 3) (evVar 1)) (sSet 3 (ev2 opIx (evLc (itA (evVar 2)) (tgName 6) (ev2 opNotInD (evVar 6) (evVar 1)) (evVar 6) [6]) (evC (.int 0)))) sNx)
    (sRet (evVar 3)))))))
def c__law_name : FM := runF 7 m__law_name
def m__law_names : SS :=
    (sSeq (sSet 2 (evL kNew evNil))
    (sSeq (sFor (itR1 (evCons (evVar 1) evNil)) (tgName 3) (sDrop (evM2 isLstA (kMut cAppend) (evVar 2) (evCons (evL (kFn 2 c__law_name) (evCons (evVar 0) (evCons (evVar 2) evNil))) evNil))))
    (sRet (evFrz (evVar 2)))))
def c__law_names : FM := runF 4 m__law_names
def m__law_counts : SS :=
    (sSeq (sSet 3 evDNew)
    (sSeq (sFor (itA (evVar 1)) (tgName 4) (sSeq (sSet 5 (ev2 opSub (evL (kFn 2 c__law_draw) (evCons (evVar 0) (evCons (ev2 opAdd (ev2 opMul (evC (.int 2)) (evVar 2)) (evC (.int 3))) evNil))) (evVar 2)))
    (sSeq (sIf (ev2 opGt (evVar 5) (evVar 2)) (sSet 5 (evC (.int 0))) sNx)
    (sIf (evOr (ev2 opNe (evVar 5) (evC (.int 0))) (ev2 opEq (evL (kFn 2 c__law_draw) (evCons (evVar 0) (evCons (evC (.int 4)) evNil))) (evC (.int 0)))) (sSub (evVar 5) (evVar 3) (evVar 4) cSetK) sNx))))
    (sRet (evFrz (evVar 3)))))
def c__law_counts : FM := runF 6 m__law_counts
def m__law_steps : SS :=
    (sSeq (sSet 4 (evL kNew evNil))
    (sSeq (sFor (itR1 (evCons (evL (kPure gMin) (evCons (ev2 opIx (evVar 3) (evC (.int 2))) (evCons (ev2 opAdd (evVar 2) (evL (kFn 2 c__law_draw) (evCons (evVar 0) (evCons (ev2 opIx (evVar 3) (evC (.int 3))) evNil)))) evNil))) evNil)) (tgName 5) (sSeq (sSet 6 (ev2 opIx (evVar 1) (evL (kFn 2 c__law_draw) (evCons (evVar 0) (evCons (evL (kPure gLen) (evCons (evVar 1) evNil)) evNil)))))
    (sSeq (sSet 7 (evL (kFn 2 c__law_draw) (evCons (evVar 0) (evCons (evVar 2) evNil))))
    (sSeq (sSet 8 (evL (kFn 2 c__law_draw) (evCons (evVar 0) (evCons (evVar 2) evNil))))
    (sSeq (sIf (evAnd (ev2 opLt (ev2 opAdd (evVar 5) (evC (.int 1))) (evVar 2)) (ev2 opGt (evL (kFn 2 c__law_draw) (evCons (evVar 0) (evCons (evC (.int 3)) evNil))) (evC (.int 0)))) (sSeq (sSet 7 (evVar 5))
    (sSet 8 (ev2 opAdd (evVar 5) (evC (.int 1))))) sNx)
    (sIf (ev2 opEq (evL (kPure gLen) (evCons (evLc (itA (evVar 4)) (tgName 9) (evAnd (ev2 opEq (ev2 opIx (evVar 9) (evC (.int 0))) (evVar 6)) (ev2 opEq (ev2 opIx (evVar 9) (evC (.int 1))) (evVar 7))) (evVar 9) [9]) evNil)) (evC (.int 0))) (sDrop (evM2 isLstA (kMut cAppend) (evVar 4) (evCons (evL kTup (evCons (evVar 6) (evCons (evVar 7) (evCons (evVar 8) evNil)))) evNil))) sNx))))))
    (sRet (evFrz (evVar 4)))))
def c__law_steps : FM := runF 10 m__law_steps
def m__law_free : SS :=
    (sSeq (sSet 2 (evL kLst (evCons (evL kTup (evCons (evC (.int 4)) (evCons (evC (.int 3)) (evCons (evC (.int 3)) (evCons (evC (.int 2)) (evCons (evC (.int 3)) evNil)))))) (evCons (evL kTup (evCons (evC (.int 3)) (evCons (evC (.int 4)) (evCons (evC (.int 4)) (evCons (evC (.int 2)) (evCons (evC (.int 3)) evNil)))))) (evCons (evL kTup (evCons (evC (.int 2)) (evCons (evC (.int 7)) (evCons (evC (.int 6)) (evCons (evC (.int 2)) (evCons (evC (.int 3)) evNil)))))) (evCons (evL kTup (evCons (evC (.int 1)) (evCons (evC (.int 14)) (evCons (evC (.int 12)) (evCons (evC (.int 2)) (evCons (evC (.int 3)) evNil)))))) (evCons (evL kTup (evCons (evC (.int 1)) (evCons (evC (.int 4)) (evCons (evC (.int 12)) (evCons (evC (.int 12)) (evCons (evC (.int 12)) evNil)))))) (evCons (evL kTup (evCons (evC (.int 2)) (evCons (evC (.int 4)) (evCons (evC (.int 6)) (evCons (evC (.int 6)) (evCons (evC (.int 6)) evNil)))))) evNil))))))))
    (sSeq (sSet 3 (ev2 opIx (evVar 2) (evL (kFn 2 c__law_draw) (evCons (evVar 0) (evCons (evC (.int 6)) evNil)))))
    (sSeq (sSet 4 (evL (kFn 2 c__law_names) (evCons (evVar 0) (evCons (ev2 opAdd (evC (.int 1)) (evL (kFn 2 c__law_draw) (evCons (evVar 0) (evCons (evC (.int 6)) evNil)))) evNil))))
    (sSeq (sSet 5 (evL (kFn 2 c__law_names) (evCons (evVar 0) (evCons (ev2 opAdd (evC (.int 1)) (evL (kFn 2 c__law_draw) (evCons (evVar 0) (evCons (ev2 opIx (evVar 3) (evC (.int 4))) evNil)))) evNil))))
    (sSeq (sSet 6 (ev2 opIx (evL kLst (evCons (evC (.int 1)) (evCons (evC (.int 3)) (evCons (evC (.int 100)) evNil)))) (evL (kFn 2 c__law_draw) (evCons (evVar 0) (evCons (evC (.int 3)) evNil)))))
    (sSeq (sSet 7 (evL kNew evNil))
    (sSeq (sFor (itA (evL (kFn 2 c__law_names) (evCons (evVar 0) (evCons (ev2 opAdd (evC (.int 1)) (evL (kFn 2 c__law_draw) (evCons (evVar 0) (evCons (ev2 opIx (evVar 3) (evC (.int 0))) evNil)))) evNil)))) (tgName 8) (sSeq (sSet 10 (ev2 opAdd (evC (.int 1)) (evL (kFn 2 c__law_draw) (evCons (evVar 0) (evCons (ev2 opIx (evVar 3) (evC (.int 1))) evNil)))))
    (sSeq (sSet 11 (ev2 opAdd (evL kLst (evCons evDNewF evNil)) (evLc (itR1 (evCons (ev2 opSub (evVar 10) (evC (.int 1))) evNil)) (tgName 12) evYes (evL (kFn 3 c__law_counts) (evCons (evVar 0) (evCons (evVar 4) (evCons (evVar 6) evNil)))) [12])))
    (sDrop (evM2 isLstA (kMut cAppend) (evVar 7) (evCons (evL kTup (evCons (evVar 8) (evCons (evVar 11) (evCons (evL (kFn 4 c__law_steps) (evCons (evVar 0) (evCons (evVar 5) (evCons (evVar 10) (evCons (evVar 3) evNil))))) evNil)))) evNil))))))
    (sSeq (sSet 9 (evLc (itR1 (evCons (evL (kFn 2 c__law_draw) (evCons (evVar 0) (evCons (ev2 opAdd (evVar 1) (evC (.int 1))) evNil))) evNil)) (tgName 12) evYes (evL (kFn 3 c__law_counts) (evCons (evVar 0) (evCons (evVar 4) (evCons (evVar 6) evNil)))) [12]))
    (sRet (evL kTup (evCons (evVar 4) (evCons (evFrz (evVar 7)) (evCons (evVar 9) evNil)))))))))))))
def c__law_free : FM := runF 13 m__law_free
def m_is_name : SS :=
    (sRet (evAnd (evChain opLe opLe (evC (.int 1)) (evL (kPure gLen) (evCons (evVar 0) evNil)) (evC (.int 8))) (evL (kPure gAll) (evCons (evLc (itA (evVar 0)) (tgName 1) evYes (ev2 opInD (evVar 1) (evC (.str "abcdefghijklmnopqrstuvwxyz"))) [1]) evNil))))
def c_is_name : FM := runF 2 m_is_name
def m_look_at_columns : SS :=
    (sFor (itEn (evCons (evVar 0) evNil)) (tgTup [(tgName 1), (tgName 2)]) (sSeq (sIf (evNot (evTru (evL (kFn 1 c_is_name) (evCons (evVar 2) evNil)))) sNever sNx)
    (sIf (ev2 opInD (evVar 2) (evSl (evVar 0) (evC .non) (evB (evVar 1)))) sNever sNx)))
def c_look_at_columns : FM := runF 3 m_look_at_columns
def m_look_at_steps : SS :=
    (sFor (itEn (evCons (evVar 0) evNil)) (tgTup [(tgName 2), (tgName 3)]) (sSeq (sAsg (evVar 3) (tgTup [(tgName 4), (tgName 5), (tgName 6)]))
    (sSeq (sIf (evNot (evTru (evL (kFn 1 c_is_name) (evCons (evVar 4) evNil)))) sNever sNx)
    (sSeq (sIf (evOr (evNot (evChain opLe opLt (evC (.int 0)) (evVar 5) (evVar 1))) (evNot (evChain opLe opLt (evC (.int 0)) (evVar 6) (evVar 1)))) sNever sNx)
    (sIf (ev2 opInD (evL kTup (evCons (evVar 4) (evCons (evVar 5) evNil))) (evLc (itA (evSl (evVar 0) (evC .non) (evB (evVar 2)))) (tgName 7) evYes (evSl (evVar 7) (evC .non) (evB (evC (.int 2)))) [7])) sNever sNx)))))
def c_look_at_steps : FM := runF 8 m_look_at_steps
def m_factors_of : SS :=
    (sSeq (sFor (itA (evL (kPure gSorted) (evCons (evVar 1) evNil))) (tgName 2) (sIf (ev2 opNotInD (evVar 2) (evVar 0)) sNever sNx))
    (sRet (evLc (itA (evVar 0)) (tgName 2) evYes (evM2 isDicA (kVal gGetD) (evVar 1) (evCons (evVar 2) (evCons (evC (.int 0)) evNil))) [2])))
def c_factors_of : FM := runF 3 m_factors_of
def m_kind_rows_of : SS :=
    (sSeq (sSet 2 (evL kNew evNil))
    (sSeq (sFor (itA (evVar 1)) (tgTup [(tgName 3), (tgName 4), (tgName 5)]) (sSeq (sIf (evNot (evTru (evL (kFn 1 c_is_name) (evCons (evVar 3) evNil)))) sNever sNx)
    (sSeq (sIf (ev2 opInD (evVar 3) (evLc (itA (evVar 2)) (tgName 8) evYes (ev2 opIx (evVar 8) (evC (.int 0))) [8])) sNever sNx)
    (sSeq (sIf (ev2 opEqX (evVar 4) (evL kLst evNil)) sNever sNx)
    (sSeq (sSet 6 (evLc (itA (evVar 4)) (tgName 7) evYes (evL (kFn 2 c_factors_of) (evCons (evVar 0) (evCons (evVar 7) evNil))) [7]))
    (sSeq (sIf (evTru (evL (kPure gAny) (evCons (evLc (itA (ev2 opIx (evVar 6) (evC (.int 0)))) (tgName 9) evYes (ev2 opNeX (evVar 9) (evC (.int 0))) [9]) evNil))) sNever sNx)
    (sSeq (sDrop (evL (kFn 2 c_look_at_steps) (evCons (evVar 5) (evCons (evL (kPure gLen) (evCons (evVar 4) evNil)) evNil))))
    (sDrop (evM2 isLstA (kMut cAppend) (evVar 2) (evCons (evL kTup (evCons (evVar 3) (evCons (evVar 6) (evCons (evL (kPure gList) (evCons (evVar 5) evNil)) evNil)))) evNil))))))))))
    (sRet (evFrz (evVar 2)))))
def c_kind_rows_of : FM := runF 10 m_kind_rows_of
def m_Plan___init__ : SS :=
    (sSeq (sDrop (evL (kFn 1 c_look_at_columns) (evCons (evVar 1) evNil)))
    (sSeq (sFldS (evL (kPure gList) (evCons (evVar 1) evNil)) (evVar 0) (cSetF 0 "column_names"))
    (sSeq (sFldS (evL (kFn 2 c_kind_rows_of) (evCons (evVar 1) (evCons (evVar 2) evNil))) (evVar 0) (cSetF 0 "kind_rows"))
    (sFldS (evLc (itA (evVar 3)) (tgName 4) evYes (evL (kFn 2 c_factors_of) (evCons (evVar 1) (evCons (evVar 4) evNil))) [4]) (evVar 0) (cSetF 0 "check_rows")))))
def c_Plan___init__ : FM := runF 5 m_Plan___init__
def m__law_plan : SS :=
    (sSeq (sSet 1 (evL kList (evCons (ev2 opIx (evVar 0) (evC (.int 0))) evNil)))
    (sSeq (sSet 2 (evLcC (itA (ev2 opIx (evVar 0) (evC (.int 1)))) (tgTup [(tgName 6), (tgName 7), (tgName 8)]) evYes (evL kTup (evCons (evVar 6) (evCons (evLcC (itA (evVar 7)) (tgName 9) evYes (evL kDict (evCons (evVar 9) evNil)) [9]) (evCons (evL kList (evCons (evVar 8) evNil)) evNil)))) [6, 7, 8]))
    (sSeq (sSet 3 (evLcC (itA (ev2 opIx (evVar 0) (evC (.int 2)))) (tgName 5) evYes (evL kDict (evCons (evVar 5) evNil)) [5]))
    (sSeq (sSet 4 (evL (kMake 0 3 c_Plan___init__) (evCons (evVar 1) (evCons (evVar 2) (evCons (evVar 3) evNil)))))
    (sSeq (sDrop (evM2 isLstA (kMut cAppend) (evVar 1) (evCons (evC (.str "late")) evNil)))
    (sSeq (sFor (itA (evVar 2)) (tgTup [(tgName 6), (tgName 7), (tgName 8)]) (sSeq (sFor (itA (evVar 7)) (tgName 9) (sDrop (evClear (evVar 9))))
    (sSeq (sDrop (evM2 isLstA (kMut cAppend) (evVar 7) (evCons evDNew evNil)))
    (sDrop (evM2 isLstA (kMut cAppend) (evVar 8) (evCons (evL kTup (evCons (evC (.str "late")) (evCons (evC (.int 0)) (evCons (evC (.int 0)) evNil)))) evNil))))))
    (sSeq (sDrop (evM2 isLstA (kMut cReverse) (evVar 2) evNil))
    (sSeq (sFor (itA (evVar 3)) (tgName 5) (sDrop (evClear (evVar 5))))
    (sSeq (sDrop (evM2 isLstA (kMut cAppend) (evVar 3) (evCons evDNew evNil)))
    (sRet (evVar 4)))))))))))
def c__law_plan : FM := runF 10 m__law_plan
def m__law_reached : SS :=
    (sSeq (sSet 2 (evL kNew (evCons (evC (.int 0)) evNil)))
    (sSeq (sFor (itR1 (evCons (evL (kPure gLen) (evCons (evVar 0) evNil)) evNil)) (tgName 3) (sFor (itA (evVar 1)) (tgTup [(tgName 4), (tgName 5), (tgName 6)]) (sIf (evAnd (ev2 opInD (evVar 5) (evVar 2)) (ev2 opNotInD (evVar 6) (evVar 2))) (sDrop (evM2 isLstA (kMut cAppend) (evVar 2) (evCons (evVar 6) evNil))) sNx)))
    (sRet (evL (kPure gSortedI) (evCons (evVar 2) evNil)))))
def c__law_reached : FM := runF 7 m__law_reached
def m_Plan_kinds : SS :=
    (sRet (evLc (itA (ev1 (opFld 0 "kind_rows") (evVar 0))) (tgTup [(tgName 1), (tgName 2), (tgName 3)]) evYes (evL kTup (evCons (evVar 1) (evCons (evLc (itA (evVar 2)) (tgName 4) evYes (evL (kPure gList) (evCons (evVar 4) evNil)) [4]) (evCons (evL (kPure gList) (evCons (evVar 3) evNil)) evNil)))) [1, 2, 3]))
def c_Plan_kinds : FM := runF 5 m_Plan_kinds
def m_Plan_checks : SS :=
    (sRet (evLc (itA (ev1 (opFld 0 "check_rows") (evVar 0))) (tgName 1) evYes (evL (kPure gList) (evCons (evVar 1) evNil)) [1]))
def c_Plan_checks : FM := runF 2 m_Plan_checks
def m_is_barred : SS :=
    (sRet (evL (kPure gAny) (evCons (evLc (itZp3 (evCons (evVar 0) (evCons (evVar 1) (evCons (evVar 2) evNil)))) (tgTup [(tgName 3), (tgName 4), (tgName 5)]) evYes (evAnd (ev2 opLt (evVar 4) (evVar 3)) (evNot (evVar 5))) [3, 4, 5]) evNil)))
def c_is_barred : FM := runF 6 m_is_barred
def m_ways_of : SS :=
    (sSeq (sSet 3 (evDispC [((evC (.int 0)), (evL kLst evNil))]))
    (sSeq (sSet 4 (evL kNew (evCons (evC (.int 0)) evNil)))
    (sSeq (sSet 5 (evC (.int 0)))
    (sSeq (sWhile (ev2 opLt (evVar 5) (evL (kPure gLen) (evCons (evVar 4) evNil))) (sSeq (sSet 6 (ev2 opIx (evVar 4) (evVar 5)))
    (sSeq (sAug 5 (evC (.int 1)))
    (sFor (itA (evVar 0)) (tgTup [(tgName 7), (tgName 8), (tgName 9)]) (sIf (evAnd (ev2 opEq (evVar 8) (evVar 6)) (evAnd (ev2 opNotInX (evVar 9) (evVar 3)) (evNot (evTru (evL (kFn 3 c_is_barred) (evCons (ev2 opIx (evVar 1) (evVar 8)) (evCons (ev2 opIx (evVar 1) (evVar 9)) (evCons (evVar 2) evNil)))))))) (sSeq (sSub (ev2 opAdd (ev2 opDGet (evVar 3) (evVar 6)) (evL kLst (evCons (evL kTup (evCons (evVar 7) (evCons (evVar 9) evNil))) evNil))) (evVar 3) (evVar 9) cSetK)
    (sDrop (evM2 isLstA (kMut cAppend) (evVar 4) (evCons (evVar 9) evNil)))) sNx)))))
    (sRet (evFrz (evVar 3)))))))
def c_ways_of : FM := runF 10 m_ways_of
def m_Ground___init__ : SS :=
    (sSeq (sFldS (evVar 1) (evVar 0) (cSetF 1 "tables"))
    (sSeq (sFldS (evVar 2) (evVar 0) (cSetF 1 "gains"))
    (sSeq (sFldS (evVar 3) (evVar 0) (cSetF 1 "risen"))
    (sSeq (sFldS (evVar 4) (evVar 0) (cSetF 1 "base"))
    (sSeq (sFldS (evLc (itEn (evCons (evVar 1) evNil)) (tgTup [(tgName 6), (tgName 7)]) evYes (evL (kFn 3 c_ways_of) (evCons (ev2 opIx (evVar 7) (evC (.int 2))) (evCons (ev2 opIx (evVar 2) (evVar 6)) (evCons (evVar 3) evNil)))) [6, 7]) (evVar 0) (cSetF 1 "ways"))
    (sFldS (evLc2 (itEn (evCons (ev1 (opFld 1 "ways") (evVar 0)) evNil)) (tgTup [(tgName 6), (tgName 8)]) evYes (itA (evL (kPure gSortedI) (evCons (evL (kPure gListX) (evCons (evVar 8) evNil)) evNil))) (tgName 5) evYes (evL kTup (evCons (evVar 6) (evCons (evVar 5) evNil))) [6, 8, 5] [5]) (evVar 0) (cSetF 1 "places")))))))
def c_Ground___init__ : FM := runF 9 m_Ground___init__
def m_first_table : SS :=
    (sSeq (sSet 3 (evL (kPure gLen) (evCons (evVar 0) evNil)))
    (sSeq (sSet 4 (evL kNew evNil))
    (sSeq (sFor (itEn (evCons (evVar 0) evNil)) (tgTup [(tgName 5), (tgName 6)]) (sSeq (sSet 7 (ev2 opMul (evL kLst (evCons (evC (.int 0)) evNil)) (evVar 3)))
    (sSeq (sSub (evC (.int 1)) (evVar 7) (evVar 5) cSetAt)
    (sDrop (evM2 isLstA (kMut cAppend) (evVar 4) (evCons (ev2 opAdd (ev2 opAdd (evL (kPure gList) (evCons (evVar 6) evNil)) (evVar 7)) (evL kLst (evCons (ev2 opIx (evVar 1) (evVar 5)) evNil))) evNil))))))
    (sSeq (sDrop (evM2 isLstA (kMut cAppend) (evVar 4) (evCons (ev2 opAdd (evL (kPure gList) (evCons (evVar 2) evNil)) (ev2 opMul (evL kLst (evCons (evC (.int 0)) evNil)) (ev2 opAdd (evVar 3) (evC (.int 1))))) evNil)))
    (sRet (evFrz (evVar 4)))))))
def c_first_table : FM := runF 8 m_first_table
def m_entering_column : SS :=
    (sSeq (sFor (itEn (evCons (evVar 0) evNil)) (tgTup [(tgName 1), (tgName 2)]) (sIf (ev2 opLt (evVar 2) (evC (.int 0))) (sRet (evVar 1)) sNx))
    (sRet (evC .non)))
def c_entering_column : FM := runF 3 m_entering_column
def m_leaving_row : SS :=
    (sSeq (sSet 3 (evC .non))
    (sSeq (sFor (itR1 (evCons (evL (kPure gLen) (evCons (evVar 1) evNil)) evNil)) (tgName 4) (sSeq (sSet 5 (ev2 opIx (ev2 opIx (evVar 0) (evVar 4)) (evVar 2)))
    (sSeq (sIf (ev2 opLe (evVar 5) (evC (.int 0))) sCt sNx)
    (sSeq (sIf (ev2 opIsN (evVar 3) (evC .non)) (sSeq (sSet 3 (evVar 4))
    sCt) sNx)
    (sSeq (sSet 6 (ev2 opMul (ev2 opIx (ev2 opIx (evVar 0) (evVar 4)) (ev1 opNeg (evC (.int 1)))) (ev2 opIx (ev2 opIx (evVar 0) (evVar 3)) (evVar 2))))
    (sSeq (sSet 7 (ev2 opMul (ev2 opIx (ev2 opIx (evVar 0) (evVar 3)) (ev1 opNeg (evC (.int 1)))) (evVar 5)))
    (sIf (evOr (ev2 opLt (evVar 6) (evVar 7)) (evAnd (ev2 opEq (evVar 6) (evVar 7)) (ev2 opLt (ev2 opIx (evVar 1) (evVar 4)) (ev2 opIx (evVar 1) (evVar 3))))) (sSet 3 (evVar 4)) sNx)))))))
    (sRet (evVar 3))))
def c_leaving_row : FM := runF 8 m_leaving_row
def m_pivoted : SS :=
    (sSeq (sSet 4 (ev2 opIx (evVar 0) (evVar 2)))
    (sSeq (sSet 5 (ev2 opIx (evVar 4) (evVar 3)))
    (sSeq (sSet 6 (evL kNew evNil))
    (sSeq (sFor (itEn (evCons (evVar 0) evNil)) (tgTup [(tgName 7), (tgName 8)]) (sIf (ev2 opEq (evVar 7) (evVar 2)) (sDrop (evM2 isLstA (kMut cAppend) (evVar 6) (evCons (evL (kPure gList) (evCons (evVar 8) evNil)) evNil))) (sSeq (sSet 9 (ev2 opIx (evVar 8) (evVar 3)))
    (sDrop (evM2 isLstA (kMut cAppend) (evVar 6) (evCons (evLc (itZp (evCons (evVar 8) (evCons (evVar 4) evNil))) (tgTup [(tgName 10), (tgName 11)]) evYes (ev2 opDiv (ev2 opSub (ev2 opMul (evVar 10) (evVar 5)) (ev2 opMul (evVar 9) (evVar 11))) (evVar 1)) [10, 11]) evNil))))))
    (sRet (evFrz (evVar 6)))))))
def c_pivoted : FM := runF 12 m_pivoted
def m_ray_of : SS :=
    (sSeq (sSet 5 (ev2 opMul (evL kLst (evCons (evC (.int 0)) evNil)) (evVar 4)))
    (sSeq (sIf (ev2 opLt (evVar 3) (evVar 4)) (sSub (evVar 2) (evVar 5) (evVar 3) cSetAt) sNx)
    (sSeq (sFor (itEn (evCons (evVar 1) evNil)) (tgTup [(tgName 6), (tgName 7)]) (sIf (ev2 opLt (evVar 7) (evVar 4)) (sSub (ev1 opNeg (ev2 opIx (ev2 opIx (evVar 0) (evVar 6)) (evVar 3))) (evVar 5) (evVar 7) cSetAt) sNx))
    (sRet (evFrz (evVar 5))))))
def c_ray_of : FM := runF 8 m_ray_of
def m_minimize : SS :=
    (sSeq (sSet 3 (evL (kPure gLen) (evCons (evVar 2) evNil)))
    (sSeq (sSet 4 (evL (kPure gLen) (evCons (evVar 0) evNil)))
    (sSeq (sSet 5 (evL (kFn 3 c_first_table) (evCons (evVar 0) (evCons (evVar 1) (evCons (evVar 2) evNil)))))
    (sSeq (sSet 6 (evLcC (itR1 (evCons (evVar 4) evNil)) (tgName 10) evYes (ev2 opAdd (evVar 3) (evVar 10)) [10]))
    (sSeq (sSet 7 (evC (.int 1)))
    (sWhile (evTru (evC (.bl true))) (sSeq (sSet 8 (evL (kFn 1 c_entering_column) (evCons (evSl (ev2 opIx (evVar 5) (evVar 4)) (evC .non) (evB (ev1 opNeg (evC (.int 1))))) evNil)))
    (sSeq (sIf (ev2 opIsN (evVar 8) (evC .non)) (sRet (evL kTup (evCons (evL kTup (evCons (evVar 7) (evCons (evSl (ev2 opIx (evVar 5) (evVar 4)) (evB (evVar 3)) (evB (ev2 opAdd (evVar 3) (evVar 4)))) evNil))) (evCons (evC .non) evNil)))) sNx)
    (sSeq (sSet 9 (evL (kFn 3 c_leaving_row) (evCons (evVar 5) (evCons (evVar 6) (evCons (evVar 8) evNil)))))
    (sSeq (sIf (ev2 opIsN (evVar 9) (evC .non)) (sRet (evL kTup (evCons (evC .non) (evCons (evL (kFn 5 c_ray_of) (evCons (evVar 5) (evCons (evVar 6) (evCons (evVar 7) (evCons (evVar 8) (evCons (evVar 3) evNil)))))) evNil)))) sNx)
    (sSeq (sSet 5 (evL (kFn 4 c_pivoted) (evCons (evVar 5) (evCons (evVar 7) (evCons (evVar 9) (evCons (evVar 8) evNil))))))
    (sSeq (sSet 7 (ev2 opIx (ev2 opIx (evVar 5) (evVar 9)) (evVar 8)))
    (sSub (evVar 8) (evVar 6) (evVar 9) cSetAt)))))))))))))
def c_minimize : FM := runF 11 m_minimize
def m_Ground_settled : SS :=
    (sSeq (sSet 2 (evL (kPure gLen) (evCons (ev1 (opFld 1 "risen") (evVar 0)) evNil)))
    (sSeq (sSet 3 (evLc (itR1 (evCons (evVar 2) evNil)) (tgName 4) evYes (evLc (itA (ev1 (opFld 1 "places") (evVar 0))) (tgTup [(tgName 5), (tgName 6)]) evYes (ev1 opNeg (ev2 opIx (ev2 opIx (ev2 opIx (ev1 (opFld 1 "gains") (evVar 0)) (evVar 5)) (evVar 6)) (evVar 4))) [5, 6]) [4]))
    (sRet (evL (kFn 3 c_minimize) (evCons (evVar 3) (evCons (ev2 opMul (evL kLst (evCons (evC (.int 0)) evNil)) (evVar 2)) (evCons (evVar 1) evNil)))))))
def c_Ground_settled : FM := runF 7 m_Ground_settled
def m_Ground_walkers : SS :=
    (sRet (evLc (itZp (evCons (ev1 (opFld 1 "places") (evVar 0)) (evCons (evVar 1) evNil))) (tgTup [(tgName 2), (tgName 3)]) (ev2 opGt (evVar 3) (evC (.int 0))) (evL kTup (evCons (ev2 opIx (evVar 2) (evC (.int 0))) (evCons (evL (kPure gListX) (evCons (ev2 opDGet (ev2 opIx (ev1 (opFld 1 "ways") (evVar 0)) (ev2 opIx (evVar 2) (evC (.int 0)))) (ev2 opIx (evVar 2) (evC (.int 1)))) evNil)) (evCons (evVar 3) evNil)))) [2, 3]))
def c_Ground_walkers : FM := runF 4 m_Ground_walkers
def m_Ground_fresh_rises : SS :=
    (sSeq (sSet 1 (evL kNew evNil))
    (sSeq (sSet 2 (evL kNew evNil))
    (sSeq (sFor (itR1 (evCons (evL (kPure gLen) (evCons (ev1 (opFld 1 "risen") (evVar 0)) evNil)) evNil)) (tgName 3) (sSeq (sIf (evTru (ev2 opIx (ev1 (opFld 1 "risen") (evVar 0)) (evVar 3))) sCt sNx)
    (sSeq (sSet 4 (ev2 opIx (evMeth 1 "settled" 1 c_Ground_settled (evVar 0) (evCons (evLc (itA (ev1 (opFld 1 "places") (evVar 0))) (tgTup [(tgName 5), (tgName 6)]) evYes (ev1 opNeg (ev2 opIx (ev2 opIx (ev2 opIx (ev1 (opFld 1 "gains") (evVar 0)) (evVar 5)) (evVar 6)) (evVar 3))) [5, 6]) evNil)) (evC (.int 1))))
    (sIf (ev2 opNotN (evVar 4) (evC .non)) (sSeq (sDrop (evM2 isLstA (kMut cAppend) (evVar 1) (evCons (evVar 3) evNil)))
    (sDrop (evM2 isLstA kExt (evVar 2) (evCons (evMeth 1 "walkers" 1 c_Ground_walkers (evVar 0) (evCons (evVar 4) evNil)) evNil)))) sNx))))
    (sRet (evL kTup (evCons (evFrz (evVar 1)) (evCons (evFrz (evVar 2)) evNil)))))))
def c_Ground_fresh_rises : FM := runF 7 m_Ground_fresh_rises
def m_Ground_lowering : SS :=
    (sSeq (sSet 2 (evC (.int 0)))
    (sSeq (sFor (itA (evVar 1)) (tgTup [(tgName 3), (tgName 4), (tgName 5)]) (sSeq (sSet 6 (evC (.int 0)))
    (sFor (itA (evVar 4)) (tgTup [(tgName 7), (tgName 8)]) (sSeq (sSet 9 (evLc (itZp (evCons (ev2 opIx (ev2 opIx (ev1 (opFld 1 "gains") (evVar 0)) (evVar 3)) (evVar 6)) (evCons (ev2 opIx (ev2 opIx (ev1 (opFld 1 "gains") (evVar 0)) (evVar 3)) (evVar 8)) evNil))) (tgTup [(tgName 10), (tgName 11)]) evYes (ev2 opSub (evVar 10) (evVar 11)) [10, 11]))
    (sSeq (sAug 2 (ev2 opMul (evVar 5) (evL (kPure gMax) (evCons (ev2 opAdd (evL kLst (evCons (evC (.int 0)) evNil)) (evVar 9)) evNil))))
    (sSet 6 (evVar 8)))))))
    (sRet (evFrz (evVar 2)))))
def c_Ground_lowering : FM := runF 12 m_Ground_lowering
def m_value_of : SS :=
    (sSeq (sSet 2 (evC (.int 0)))
    (sSeq (sFor (itZp (evCons (evVar 0) (evCons (evVar 1) evNil))) (tgTup [(tgName 3), (tgName 4)]) (sAug 2 (ev2 opMul (evVar 3) (evVar 4))))
    (sRet (evFrz (evVar 2)))))
def c_value_of : FM := runF 5 m_value_of
def m_ground_of : SS :=
    (sSeq (sSet 1 (evProp 0 c_Plan_kinds (evVar 0)))
    (sSeq (sSet 2 (evProp 0 c_Plan_checks (evVar 0)))
    (sSeq (sSet 3 (evLc (itA (evVar 1)) (tgName 10) evYes (evLc (itA (ev2 opIx (evVar 10) (evC (.int 1)))) (tgName 11) evYes (evLc (itA (evVar 2)) (tgName 12) evYes (evL (kFn 2 c_value_of) (evCons (evVar 12) (evCons (evVar 11) evNil))) [12]) [11]) [10]))
    (sSeq (sSet 4 (evL (kMake 1 4 c_Ground___init__) (evCons (evVar 1) (evCons (evVar 3) (evCons (ev2 opMul (evL kLst (evCons (evC (.bl false)) evNil)) (evL (kPure gLen) (evCons (evVar 2) evNil))) (evCons (evL kLst evNil) evNil))))))
    (sSeq (sAsg (evMeth 1 "fresh_rises" 0 c_Ground_fresh_rises (evVar 4) evNil) (tgTup [(tgName 5), (tgName 6)]))
    (sSeq (sWhile (evTru (evVar 5)) (sSeq (sSet 7 (evL (kPure gMax) (evCons (evC (.int 1)) (evCons (evMeth 1 "lowering" 1 c_Ground_lowering (evVar 4) (evCons (evVar 6) evNil)) evNil))))
    (sSeq (sSet 8 (ev2 opAdd (evLc (itA (ev1 (opFld 1 "base") (evVar 4))) (tgTup [(tgName 15), (tgName 16), (tgName 17)]) evYes (evL kTup (evCons (evVar 15) (evCons (evVar 16) (evCons (ev2 opMul (evVar 7) (evVar 17)) evNil)))) [15, 16, 17]) (evVar 6)))
    (sSeq (sSet 9 (evLc (itEn (evCons (ev1 (opFld 1 "risen") (evVar 4)) evNil)) (tgTup [(tgName 13), (tgName 14)]) evYes (evOr (evVar 14) (ev2 opInD (evVar 13) (evVar 5))) [13, 14]))
    (sSeq (sSet 4 (evL (kMake 1 4 c_Ground___init__) (evCons (evVar 1) (evCons (evVar 3) (evCons (evVar 9) (evCons (evVar 8) evNil))))))
    (sAsg (evMeth 1 "fresh_rises" 0 c_Ground_fresh_rises (evVar 4) evNil) (tgTup [(tgName 5), (tgName 6)])))))))
    (sRet (evVar 4))))))))
def c_ground_of : FM := runF 18 m_ground_of
def m_open_states : SS :=
    (sSeq (sSet 1 (evL (kFn 1 c_ground_of) (evCons (evVar 0) evNil)))
    (sRet (evLcC (itA (ev1 (opFld 1 "places") (evVar 1))) (tgTup [(tgName 2), (tgName 3)]) evYes (evL kTup (evCons (ev2 opIx (ev2 opIx (ev1 (opFld 1 "tables") (evVar 1)) (evVar 2)) (evC (.int 0))) (evCons (evVar 3) evNil))) [2, 3])))
def c_open_states : FM := runF 4 m_open_states
def m_open_steps : SS :=
    (sSeq (sSet 1 (evL (kFn 1 c_ground_of) (evCons (evVar 0) evNil)))
    (sSeq (sSet 2 (evL kNew evNil))
    (sSeq (sFor (itEn (evCons (ev1 (opFld 1 "tables") (evVar 1)) evNil)) (tgTup [(tgName 3), (tgTup [(tgName 5), (tgName 6), (tgName 7)])]) (sSeq (sSet 4 (ev2 opIx (ev1 (opFld 1 "gains") (evVar 1)) (evVar 3)))
    (sFor (itA (evVar 7)) (tgTup [(tgName 8), (tgName 9), (tgName 10)]) (sIf (evAnd (ev2 opInX (evVar 9) (ev2 opIx (ev1 (opFld 1 "ways") (evVar 1)) (evVar 3))) (evNot (evTru (evL (kFn 3 c_is_barred) (evCons (ev2 opIx (evVar 4) (evVar 9)) (evCons (ev2 opIx (evVar 4) (evVar 10)) (evCons (ev1 (opFld 1 "risen") (evVar 1)) evNil))))))) (sDrop (evM2 isLstA (kMut cAppend) (evVar 2) (evCons (evL kTup (evCons (evVar 5) (evCons (evVar 8) (evCons (evVar 9) evNil)))) evNil))) sNx))))
    (sRet (evVar 2)))))
def c_open_steps : FM := runF 11 m_open_steps
def m__law_is_int : SS :=
    (sRet (evAnd (ev1 (opIsT "int") (evVar 0)) (evNot (ev1 (opIsT "bool") (evVar 0)))))
def c__law_is_int : FM := runF 1 m__law_is_int
def m_law : SS :=
    (sSeq (sSet 1 (evL (kFn 1 c__law_source) (evCons (evVar 0) evNil)))
    (sSeq (sSet 2 (evL (kFn 2 c__law_free) (evCons (evVar 1) (evCons (evC (.int 0)) evNil))))
    (sSeq (sSet 3 (evL (kFn 1 c__law_plan) (evCons (evVar 2) evNil)))
    (sSeq (sSet 4 (evL kNew evNil))
    (sSeq (sSet 5 (evL kNew evNil))
    (sSeq (sFor (itA (ev2 opIx (evVar 2) (evC (.int 1)))) (tgTup [(tgName 7), (tgName 8), (tgName 9)]) (sSeq (sSet 10 (evL (kFn 2 c__law_reached) (evCons (evVar 8) (evCons (evVar 9) evNil))))
    (sSeq (sDrop (evM2 isLstA kExt (evVar 4) (evCons (evLc (itA (evVar 10)) (tgName 13) evYes (evL kTup (evCons (evVar 7) (evCons (evVar 13) evNil))) [13]) evNil)))
    (sDrop (evM2 isLstA kExt (evVar 5) (evCons (evLc (itA (evVar 9)) (tgName 14) (ev2 opInD (ev2 opIx (evVar 14) (evC (.int 1))) (evVar 10)) (evL kTup (evCons (evVar 7) (evCons (ev2 opIx (evVar 14) (evC (.int 0))) (evCons (ev2 opIx (evVar 14) (evC (.int 1))) evNil)))) [14]) evNil))))))
    (sSeq (sFor (itR1 (evCons (evC (.int 2)) evNil)) (tgName 6) (sSeq (sIf (ev2 opEq (evL (kFn 2 c__law_draw) (evCons (evVar 1) (evCons (evC (.int 2)) evNil))) (evC (.int 0))) (sSeq (sSet 11 (evL (kFn 1 c_open_states) (evCons (evVar 3) evNil)))
    (sSet 12 (evL (kFn 1 c_open_steps) (evCons (evVar 3) evNil)))) (sSeq (sSet 12 (evL (kFn 1 c_open_steps) (evCons (evVar 3) evNil)))
    (sSet 11 (evL (kFn 1 c_open_states) (evCons (evVar 3) evNil)))))
    (sSeq (sIf (evOr (evNot (evTru (ev1 (opIsT "list") (evVar 11)))) (evNot (evTru (ev1 (opIsT "list") (evVar 12))))) (sRet (evC (.bl false))) sNx)
    (sSeq (sIf (evOr (ev2 opNe (evVar 11) (evVar 4)) (ev2 opNe (evVar 12) (evVar 5))) (sRet (evC (.bl false))) sNx)
    (sSeq (sIf (evNot (evTru (evL (kPure gAll) (evCons (evLc (itA (evVar 11)) (tgName 15) evYes (evL (kFn 1 c__law_is_int) (evCons (ev2 opIx (evVar 15) (evC (.int 1))) evNil)) [15]) evNil)))) (sRet (evC (.bl false))) sNx)
    (sSeq (sIf (evNot (evTru (evL (kPure gAll) (evCons (evLc (itA (evVar 12)) (tgName 14) evYes (evL (kFn 1 c__law_is_int) (evCons (ev2 opIx (evVar 14) (evC (.int 2))) evNil)) [14]) evNil)))) (sRet (evC (.bl false))) sNx)
    (sSeq (sDrop (evM2 isLstA (kMut cAppend) (evVar 11) (evCons (evL kTup (evCons (evC (.str "zz")) (evCons (evC (.int 0)) evNil))) evNil)))
    (sDrop (evClear (evVar 12))))))))))
    (sRet (evC (.bl true))))))))))
def c_law : FM := runF 16 m_law
end
end Lw

set_option Elab.async false
set_option linter.all false
set_option maxRecDepth 100000
set_option maxHeartbeats 4000000
namespace PV
open PySem L2

/-! ### what a piece of a program ends with -/
def W (r : Res) (P : Out → Store → Prop) : Prop := ∃ o M', r = some (o, M') ∧ P o M'
def WS (r : RS) (K : Fl → SL → Store → Prop) : Prop := ∃ f s M', r = some (f, s, M') ∧ K f s M'
def WI (r : Option (OutI × Store)) (K : OutI → Store → Prop) : Prop := ∃ o M', r = some (o, M') ∧ K o M'
def WO (r : Option Va) (k : Va → Prop) : Prop := ∃ v, r = some v ∧ k v
def WM (r : Option Store) (k : Store → Prop) : Prop := ∃ v, r = some v ∧ k v
def WCm (r : Option (List Va × Store)) (k : List Va → Store → Prop) : Prop := ∃ ys M', r = some (ys, M') ∧ k ys M'
def WDm (r : Option (List (Key × Va) × Store)) (k : List (Key × Va) → Store → Prop) : Prop := ∃ ys M', r = some (ys, M') ∧ k ys M'
def onV (P : Out → Store → Prop) (k : Va → Store → Prop) (o : Out) (M : Store) : Prop := match o with | .val v => k v M | .exc c x => P (.exc c x) M
def onS (K : Fl → SL → Store → Prop) (s : SL) (k : Va → Store → Prop) (o : Out) (M : Store) : Prop := match o with | .val v => k v M | .exc c x => K (.exc c x) s M
def onI (K : Fl → SL → Store → Prop) (s : SL) (k : List Va → (Store → Prop) → Store → Prop) (o : OutI) (M : Store) : Prop := match o with | .it l chk => k l chk M | .exc c x => K (.exc c x) s M
def onJ (P : Out → Store → Prop) (k : List Va → (Store → Prop) → Store → Prop) (o : OutI) (M : Store) : Prop := match o with | .it l chk => k l chk M | .exc c x => P (.exc c x) M
def seqK (b : SS) (K : Fl → SL → Store → Prop) (f : Fl) (s : SL) (M : Store) : Prop := match f with | .nx => WS (b s M) K | f => K f s M
def endK (P : Out → Store → Prop) (f : Fl) (_ : SL) (M : Store) : Prop := match f with | .nx => P (.val .non) M | .ret v => P (.val v) M | .exc c x => P (.exc c x) M | _ => False
def consK (P : Out → Store → Prop) (v t : Va) (M : Store) : Prop := ∃ l, t = .tup l ∧ P (.val (.tup (v :: l))) M
def argK (k : List Va → Store → Res) (P : Out → Store → Prop) (t : Va) (M : Store) : Prop := ∃ l, t = .tup l ∧ W (k l M) P
def argK2 (k : Va → List Va → Store → Res) (o : Va) (P : Out → Store → Prop) (t : Va) (M : Store) : Prop := ∃ l, t = .tup l ∧ W (k o l M) P
def tyK (b : Bool) (p : Prop) : Prop := b = true ∧ p
def ifK (a b : SS) (s : SL) (K : Fl → SL → Store → Prop) (v : Va) (M : Store) : Prop := ∃ x, v = .bl x ∧ (x = true → WS (a s M) K) ∧ (x = false → WS (b s M) K)
def ifE (a b : SE) (s : SL) (P : Out → Store → Prop) (v : Va) (M : Store) : Prop := ∃ x, v = .bl x ∧ (x = true → W (a s M) P) ∧ (x = false → W (b s M) P)
def andK (b : SE) (s : SL) (P : Out → Store → Prop) (v : Va) (M : Store) : Prop := ∃ x, v = .bl x ∧ (x = true → W (b s M) P) ∧ (x = false → P (.val (.bl false)) M)
def orK (b : SE) (s : SL) (P : Out → Store → Prop) (v : Va) (M : Store) : Prop := ∃ x, v = .bl x ∧ (x = true → P (.val (.bl true)) M) ∧ (x = false → W (b s M) P)
def isV (v : Va) (M : Store) (o : Out) (M' : Store) : Prop := o = .val v ∧ M' = M
def notK (P : Out → Store → Prop) (v : Va) (M : Store) : Prop := ∃ x, v = .bl x ∧ P (.val (.bl (!x))) M
def truK (r : Option Bool) (k : Bool → Prop) : Prop := ∃ b, r = some b ∧ k b
def chK (g' : Store → Va → Va → Option Va) (ec : SE) (s : SL) (P : Out → Store → Prop) (vb r : Va) (M : Store) : Prop := ∃ x, r = .bl x ∧ W (ec s M) fun o M3 => ∃ vc, o = .val vc ∧ M3 = M ∧ ∃ y, g' M vb vc = some (.bl y) ∧ P (.val (.bl (x && y))) M
def slK (x vl vu : Va) (M : Store) (P : Out → Store → Prop) : Prop := ∃ lo hi, boundOf vl = some lo ∧ boundOf vu = some hi ∧ WO (opSl M x lo hi) fun r => P (.val r) M
def bK (P : Out → Store → Prop) (v : Va) (M : Store) : Prop := ∃ i, v = .int i ∧ P (.val (.int i)) M
def mutK (g : Cell → List Va → Option (Cell × Va)) (n : Nat) (l : List Va) (P : Out → Store → Prop) (M : Store) : Prop := ∃ c c' r, M.c n = some c ∧ g c l = some (c', r) ∧ P (.val r) (M.put n c')
def tgK (r : Option SL) (k : SL → Prop) : Prop := ∃ s, r = some s ∧ k s
def augK (r : Option (Va × Store)) (k : Va → Store → Prop) : Prop := ∃ z M, r = some (z, M) ∧ k z M
def frzK (P : Out → Store → Prop) (v : Va) (M : Store) : Prop := W (frzO (some (.val v, M))) P

section
variable {s : SL} {M M1 : Store} {i n : Nat} {v va vb : Va} {ea eb ec : SE} {sa sb : SS} {P Q : Out → Store → Prop} {K K' : Fl → SL → Store → Prop} {r : Res} {o : Out}
theorem W_eq (h : r = some (o, M1)) (p : P o M1) : W r P := ⟨o, M1, h, p⟩
theorem W.mono (h : W r P) (q : ∀ o M, P o M → Q o M) : W r Q := by
  obtain ⟨o, M, e, p⟩ := h
  exact ⟨o, M, e, q o M p⟩
theorem WS_eq {r : RS} {f : Fl} (h : r = some (f, s, M)) (p : K f s M) : WS r K := ⟨f, s, M, h, p⟩
theorem WS.mono {r : RS} (h : WS r K) (q : ∀ f s M, K f s M → K' f s M) : WS r K' := by
  obtain ⟨f, s, M, e, p⟩ := h
  exact ⟨f, s, M, e, q f s M p⟩
theorem WO_eq {r : Option Va} {k : Va → Prop} (h : r = some v) (p : k v) : WO r k := ⟨v, h, p⟩
theorem WM_eq {r : Option Store} {k : Store → Prop} (h : r = some M) (p : k M) : WM r k := ⟨M, h, p⟩
theorem truK_eq {r : Option Bool} {b : Bool} {k : Bool → Prop} (h : r = some b) (p : k b) : truK r k := ⟨b, h, p⟩
theorem tgK_eq {r : Option SL} {k : SL → Prop} (h : r = some s) (p : k s) : tgK r k := ⟨s, h, p⟩
theorem augK_eq {r : Option (Va × Store)} {k : Va → Store → Prop} (h : r = some (v, M)) (p : k v M) : augK r k := ⟨v, M, h, p⟩
theorem WCm_eq {r : Option (List Va × Store)} {l : List Va} {k : List Va → Store → Prop} (h : r = some (l, M)) (p : k l M) : WCm r k := ⟨l, M, h, p⟩
theorem W_bind {r : Res} {k : Va → Store → Res} (h : W r (onV P fun v M => W (k v M) P)) : W (bindO r k) P := by
  obtain ⟨o, M, rfl, p⟩ := h
  cases o with
  | val v => exact p
  | exc c x => exact ⟨_, _, rfl, p⟩
theorem W_c (h : P (.val v) M) : W (evC v s M) P := ⟨_, _, rfl, h⟩
theorem W_var (e : s[i]? = some (some v)) (h : P (.val v) M) : W (evVar i s M) P := ⟨.val v, M, by unfold evVar; rw [e], h⟩
theorem wo_of {x : Option Va} {q : Res} {M : Store} (h : WO x fun r => P (.val r) M) (hq : ∀ r, x = some r → q = some (.val r, M)) : W q P := by
  obtain ⟨v, e, p⟩ := h
  exact ⟨_, _, hq v e, p⟩
theorem W_1 {g : Store → Va → Option Va} (h : W (ea s M) (onV P fun va M1 => WO (g M1 va) fun r => P (.val r) M1)) : W (ev1 g ea s M) P := by
  unfold ev1
  refine W_bind (h.mono ?_)
  rintro (v | ⟨c, x⟩) M1 p
  · exact wo_of p fun r e => by rw [e]
  · exact p
theorem W_2 {g : Store → Va → Va → Option Va} (h : W (ea s M) (onV P fun va M1 => W (eb s M1) (onV P fun vb M2 => WO (g M2 va vb) fun r => P (.val r) M2))) : W (ev2 g ea eb s M) P := by
  unfold ev2
  refine W_bind (h.mono ?_)
  rintro (v | ⟨c, x⟩) M1 p
  · refine W_bind (W.mono p ?_)
    rintro (v | ⟨c, x⟩) M1 p
    · exact wo_of p fun r e => by rw [e]
    · exact p
  · exact p
theorem W_nil (h : P (.val (.tup [])) M) : W (evNil s M) P := ⟨_, _, rfl, h⟩
theorem W_cons (h : W (ea s M) (onV P fun v M1 => W (eb s M1) (onV P (consK P v)))) : W (evCons ea eb s M) P := by
  unfold evCons
  refine W_bind (h.mono ?_)
  rintro (v | ⟨c, x⟩) M1 p
  · refine W_bind (W.mono p ?_)
    rintro (v | ⟨c, x⟩) M1 p
    · obtain ⟨l, rfl, p⟩ := p
      exact ⟨_, _, rfl, p⟩
    · exact p
  · exact p
theorem consK_tup {l : List Va} (h : P (.val (.tup (v :: l))) M) : consK P v (.tup l) M := ⟨l, rfl, h⟩
theorem W_L {k : List Va → Store → Res} (h : W (ea s M) (onV P (argK k P))) : W (evL k ea s M) P := by
  unfold evL
  refine W_bind (h.mono ?_)
  rintro (v | ⟨c, x⟩) M1 p
  · obtain ⟨l, rfl, p⟩ := p
    exact p
  · exact p
theorem argK_tup {k : List Va → Store → Res} {l : List Va} (h : W (k l M) P) : argK k P (.tup l) M := ⟨l, rfl, h⟩
theorem argK2_tup {k : Va → List Va → Store → Res} {l : List Va} (h : W (k v l M) P) : argK2 k v P (.tup l) M := ⟨l, rfl, h⟩
theorem W_M2 {ty : Store → Va → Bool} {k : Va → List Va → Store → Res} (h : W (ea s M) (onV P fun o M1 => tyK (ty M1 o) (W (eb s M1) (onV P (argK2 k o P))))) : W (evM2 ty k ea eb s M) P := by
  unfold evM2
  refine W_bind (h.mono ?_)
  rintro (v | ⟨c, x⟩) M1 p
  · obtain ⟨e, p⟩ := p
    dsimp only [onV]
    rw [if_pos e]
    refine W_bind (W.mono p ?_)
    rintro (v | ⟨c, x⟩) M1 p
    · obtain ⟨l, rfl, p⟩ := p
      exact p
    · exact p
  · exact p
theorem W_pure {g : Store → List Va → Option Va} {l : List Va} (h : WO (g M l) fun r => P (.val r) M) : W (kPure g l M) P := wo_of h fun r e => by unfold kPure; rw [e]
theorem W_val {g : Store → Va → List Va → Option Va} {l : List Va} (h : WO (g M v l) fun r => P (.val r) M) : W (kVal g v l M) P := wo_of h fun r e => by unfold kVal; rw [e]
theorem W_fn {n : Nat} {f : FM} {l : List Va} (hl : l.length = n) (h : W (f l M) P) : W (kFn n f l M) P := by
  unfold kFn
  rw [if_pos hl]
  exact h
theorem W_tup {l : List Va} (hl : l.length ≤ sizeLine) (h : P (.val (.tup l)) M) : W (kTup l M) P := ⟨_, _, if_pos hl, h⟩
theorem W_lst {l : List Va} (hl : l.length ≤ sizeLine) (h : P (.val (.lst l)) M) : W (kLst l M) P := ⟨_, _, if_pos hl, h⟩
theorem W_new {l : List Va} (hl : l.length ≤ sizeLine) (h : P (.val (.cel M.nx)) (M.new (.lst l))) : W (kNew l M) P := ⟨_, _, if_pos hl, h⟩
theorem W_mut {g : Cell → List Va → Option (Cell × Va)} {l : List Va} (h : mutK g n l P M) : W (kMut g (.cel n) l M) P := by
  obtain ⟨c, c', r, e1, e2, p⟩ := h
  refine ⟨.val r, M.put n c', ?_, p⟩
  unfold kMut
  dsimp only
  rw [e1]
  dsimp only
  rw [e2]
theorem mutK_eq {g : Cell → List Va → Option (Cell × Va)} {l : List Va} {c c' : Cell} {r : Va} (e1 : M.c n = some c) (e2 : g c l = some (c', r)) (p : P (.val r) (M.put n c')) : mutK g n l P M := ⟨c, c', r, e1, e2, p⟩
theorem W_if (h : W (ec s M) (onV P (ifE ea eb s P))) : W (evIf ec ea eb s M) P := by
  unfold evIf
  refine W_bind (h.mono ?_)
  rintro (v | ⟨c, x⟩) M1 p
  · obtain ⟨x, rfl, p1, p2⟩ := p
    cases x
    · exact p2 rfl
    · exact p1 rfl
  · exact p
theorem W_and (h : W (ea s M) (onV P (andK eb s P))) : W (evAnd ea eb s M) P := by
  unfold evAnd
  refine W_bind (h.mono ?_)
  rintro (v | ⟨c, x⟩) M1 p
  · obtain ⟨x, rfl, p1, p2⟩ := p
    cases x
    · exact ⟨_, _, rfl, p2 rfl⟩
    · exact p1 rfl
  · exact p
theorem W_or (h : W (ea s M) (onV P (orK eb s P))) : W (evOr ea eb s M) P := by
  unfold evOr
  refine W_bind (h.mono ?_)
  rintro (v | ⟨c, x⟩) M1 p
  · obtain ⟨x, rfl, p1, p2⟩ := p
    cases x
    · exact p2 rfl
    · exact ⟨_, _, rfl, p1 rfl⟩
  · exact p
theorem andK_pure {x y : Bool} (h1 : x = true → W (eb s M) (isV (.bl y) M)) (h2 : P (.val (.bl (x && y))) M) : andK eb s P (.bl x) M := by
  refine ⟨x, rfl, fun hx => ?_, fun hx => ?_⟩
  · refine (h1 hx).mono ?_
    rintro _ _ ⟨rfl, rfl⟩
    rw [hx] at h2
    exact h2
  · rw [hx] at h2
    exact h2
theorem orK_pure {x y : Bool} (h1 : x = false → W (eb s M) (isV (.bl y) M)) (h2 : P (.val (.bl (x || y))) M) : orK eb s P (.bl x) M := by
  refine ⟨x, rfl, fun hx => ?_, fun hx => ?_⟩
  · rw [hx] at h2
    exact h2
  · refine (h1 hx).mono ?_
    rintro _ _ ⟨rfl, rfl⟩
    rw [hx] at h2
    exact h2
theorem ifE_pure {x : Bool} {v1 v2 : Va} (h1 : x = true → W (ea s M) (isV v1 M)) (h2 : x = false → W (eb s M) (isV v2 M)) (h : P (.val (bif x then v1 else v2)) M) : ifE ea eb s P (.bl x) M := by
  refine ⟨x, rfl, fun hx => ?_, fun hx => ?_⟩
  · refine (h1 hx).mono ?_
    rintro _ _ ⟨rfl, rfl⟩
    rw [hx] at h
    exact h
  · refine (h2 hx).mono ?_
    rintro _ _ ⟨rfl, rfl⟩
    rw [hx] at h
    exact h
theorem isV_mk {v : Va} {M : Store} : isV v M (.val v) M := ⟨rfl, rfl⟩
theorem W_not (h : W (ea s M) (onV P (notK P))) : W (evNot ea s M) P := by
  unfold evNot
  refine W_bind (h.mono ?_)
  rintro (v | ⟨c, x⟩) M1 p
  · obtain ⟨x, rfl, p⟩ := p
    exact ⟨_, _, rfl, p⟩
  · exact p
theorem notK_bl {x : Bool} (h : P (.val (.bl (!x))) M) : notK P (.bl x) M := ⟨x, rfl, h⟩
theorem W_yes (h : P (.val (.bl true)) M) : W (evYes s M) P := ⟨_, _, rfl, h⟩
theorem W_tru (h : W (ea s M) (onV P fun v M1 => truK (truO M1 v) fun b => P (.val (.bl b)) M1)) : W (evTru ea s M) P := by
  unfold evTru
  refine W_1 (h.mono ?_)
  rintro (v | ⟨c, x⟩) M1 p
  · obtain ⟨b, e, p⟩ := p
    exact ⟨.bl b, by rw [e]; rfl, p⟩
  · exact p
theorem W_chain {g g' : Store → Va → Va → Option Va} (h : W (ea s M) (onV P fun va M1 => W (eb s M1) (onV P fun vb M2 => WO (g M2 va vb) fun r => chK g' ec s P vb r M2))) : W (evChain g g' ea eb ec s M) P := by
  unfold evChain
  refine W_bind (h.mono ?_)
  rintro (v | ⟨c, x⟩) M1 p
  · refine W_bind (W.mono p ?_)
    rintro (v | ⟨c, x⟩) M1 p
    · obtain ⟨r, e, x, rfl, o, M3, e2, vc, rfl, rfl, y, e3, p⟩ := p
      dsimp only [onV]
      rw [e]
      cases x
      · exact ⟨_, _, rfl, p⟩
      · dsimp only
        rw [e2]
        dsimp only [bindO]
        rw [e3]
        exact ⟨_, _, rfl, p⟩
    · exact p
  · exact p
theorem chK_mk {g' : Store → Va → Va → Option Va} {x y : Bool} {vc : Va} (h : W (ec s M) (isV vc M)) (h2 : g' M vb vc = some (.bl y)) (p : P (.val (.bl (x && y))) M) : chK g' ec s P vb (.bl x) M := by
  refine ⟨x, rfl, h.mono ?_⟩
  rintro _ _ ⟨rfl, rfl⟩
  exact ⟨vc, rfl, rfl, y, h2, p⟩
theorem W_sl (h : W (ea s M) (onV P fun x M1 => W (eb s M1) (onV P fun vl M2 => W (ec s M2) (onV P fun vu M3 => slK x vl vu M3 P)))) : W (evSl ea eb ec s M) P := by
  unfold evSl
  refine W_bind (h.mono ?_)
  rintro (v | ⟨c, x⟩) M1 p
  · refine W_bind (W.mono p ?_)
    rintro (v | ⟨c, x⟩) M1 p
    · refine W_bind (W.mono p ?_)
      rintro (v | ⟨c, x⟩) M1 p
      · obtain ⟨lo, hi, e1, e2, r, e3, p⟩ := p
        dsimp only [onV]
        rw [e1, e2]
        dsimp only
        rw [e3]
        exact ⟨_, _, rfl, p⟩
      · exact p
    · exact p
  · exact p
theorem slK_mk {x vl vu : Va} {lo hi : Option Int} (h1 : boundOf vl = some lo) (h2 : boundOf vu = some hi) (h : WO (opSl M x lo hi) fun r => P (.val r) M) : slK x vl vu M P := ⟨lo, hi, h1, h2, h⟩
theorem W_B (h : W (ea s M) (onV P (bK P))) : W (evB ea s M) P := by
  unfold evB
  refine W_bind (h.mono ?_)
  rintro (v | ⟨c, x⟩) M1 p
  · obtain ⟨i, rfl, p⟩ := p
    exact ⟨_, _, rfl, p⟩
  · exact p
theorem bK_int {i : Int} (h : P (.val (.int i)) M) : bK P (.int i) M := ⟨i, rfl, h⟩
theorem W_frz (h : W (ea s M) (onV P (frzK P))) : W (evFrz ea s M) P := by
  obtain ⟨o, M1, e, p⟩ := h
  unfold evFrz
  rw [e]
  cases o with
  | val v => exact p
  | exc c x => exact ⟨_, _, rfl, p⟩
theorem frzK_l {n : Nat} {l : List Va} (e : M.c n = some (.lst l)) (h : P (.val (.lst l)) (M.del n)) : frzK P (.cel n) M := ⟨.val (.lst l), M.del n, by rw [frz_cel, e], h⟩
theorem frzK_d {n : Nat} {l : List (Key × Va)} (e : M.c n = some (.dic l)) (h : P (.val (.dic l)) (M.del n)) : frzK P (.cel n) M := ⟨.val (.dic l), M.del n, by rw [frz_cel, e], h⟩
theorem frzK_v (e : frzO (some (.val v, M)) = some (.val v, M)) (h : P (.val v) M) : frzK P v M := ⟨.val v, M, e, h⟩
theorem W_lc {src : SI} {tg : Tgt} {tt te : SE} {vs : List Nat} (h : WI (src s M) (onJ P fun l chk M1 => WCm (compL chk tg tt te (wipeI s vs) l M1) fun ys M2 => P (.val (.lst ys)) M2)) : W (evLc src tg tt te vs s M) P := by
  obtain ⟨o, M1, e, p⟩ := h
  unfold evLc
  rw [e]
  cases o with
  | it l chk =>
    obtain ⟨ys, M2, e2, p⟩ := p
    dsimp only
    rw [e2]
    exact ⟨_, _, rfl, p⟩
  | exc c x => exact ⟨_, _, rfl, p⟩
theorem W_lcC {src : SI} {tg : Tgt} {tt te : SE} {vs : List Nat} (h : WI (src s M) (onJ P fun l chk M1 => WCm (compL chk tg tt te (wipeI s vs) l M1) fun ys M2 => P (.val (.cel M2.nx)) (M2.new (.lst ys)))) : W (evLcC src tg tt te vs s M) P := by
  obtain ⟨o, M1, e, p⟩ := h
  unfold evLcC
  rw [e]
  cases o with
  | it l chk =>
    obtain ⟨ys, M2, e2, p⟩ := p
    dsimp only
    rw [e2]
    exact ⟨_, _, rfl, p⟩
  | exc c x => exact ⟨_, _, rfl, p⟩
theorem W_dc {src : SI} {tg : Tgt} {tt tk tv : SE} {vs : List Nat} (h : WI (src s M) (onJ P fun l chk M1 => WDm (dcL chk tg tt tk tv (wipeI s vs) l [] M1) fun kv M2 => P (.val (.dic kv)) M2)) : W (evDc src tg tt tk tv vs s M) P := by
  obtain ⟨o, M1, e, p⟩ := h
  unfold evDc
  rw [e]
  cases o with
  | it l chk =>
    obtain ⟨ys, M2, e2, p⟩ := p
    dsimp only
    rw [e2]
    exact ⟨_, _, rfl, p⟩
  | exc c x => exact ⟨_, _, rfl, p⟩
theorem W_dnew (h : P (.val (.cel M.nx)) (M.new (.dic []))) : W (evDNew s M) P := ⟨_, _, rfl, h⟩
theorem W_prop {c : Nat} {f : FM} (h : W (ea s M) (onV P fun o M1 => W (kProp c f M1 o) P)) : W (evProp c f ea s M) P := W_bind h
theorem W_propI {c : Nat} {f : FM} {n : Nat} {l : List (Str × Va)} (e : M.c n = some (.ins c l)) (h : W (f [.cel n] M) P) : W (kProp c f M (.cel n)) P := by
  unfold kProp
  dsimp only
  rw [e]
  dsimp only
  rw [if_pos rfl]
  exact h
theorem W_meth {c : Nat} {m : Str} {n : Nat} {f : FM} (h : W (ea s M) (onV P fun o M1 => tyK (isObj c m M1 o) (W (eb s M1) (onV P (argK2 (kMethA c m n f) o P))))) : W (evMeth c m n f ea eb s M) P := by
  unfold evMeth
  refine W_bind (h.mono ?_)
  rintro (v | ⟨c, x⟩) M1 p
  · obtain ⟨e, p⟩ := p
    dsimp only [onV]
    rw [if_pos e]
    refine W_bind (W.mono p ?_)
    rintro (v | ⟨c, x⟩) M1 p
    · obtain ⟨l, rfl, p⟩ := p
      exact p
    · exact p
  · exact p
theorem W_methA {c : Nat} {m : Str} {n : Nat} {f : FM} {l : List Va} (hl : l.length = n) (h : W (f (v :: l) M) P) : W (kMethA c m n f v l M) P := by
  unfold kMethA
  rw [if_pos hl]
  exact h
theorem W_clear (h : W (ea s M) (onV P fun o M1 => W (kClear o M1) P)) : W (evClear ea s M) P := W_bind h
theorem W_clearL {l : List Va} (e : M.c n = some (.lst l)) (h : P (.val .non) (M.put n (.lst []))) : W (kClear (.cel n) M) P := ⟨_, _, by unfold kClear; dsimp only; rw [e], h⟩
theorem W_clearD {l : List (Key × Va)} (e : M.c n = some (.dic l)) (h : P (.val .non) (M.put n (.dic []))) : W (kClear (.cel n) M) P := ⟨_, _, by unfold kClear; dsimp only; rw [e], h⟩
theorem W_make {c n : Nat} {f : FM} {l : List Va} (hl : l.length = n) (h : W (f (.cel M.nx :: l) (M.new (.ins c []))) (fun o M2 => match o with | .val .non => P (.val (.cel M.nx)) M2 | .val _ => False | .exc k v => P (.exc k v) M2)) : W (kMake c n f l M) P := by
  obtain ⟨o, M1, e, p⟩ := h
  unfold kMake
  rw [if_pos hl, e]
  rcases o with (_ | _ | _ | _ | _ | _ | _ | _ | _) | ⟨k, v⟩ <;> first | exact ⟨_, _, rfl, p⟩ | exact p.elim

/-! #### statements -/
theorem W_run {n : Nat} {m : SS} {l : List Va} (h : WS (m (startI n l) M) (endK P)) : W (runF n m l M) P := by
  obtain ⟨f, s, M1, e, p⟩ := h
  unfold runF
  rw [e]
  cases f <;> first | exact ⟨_, _, rfl, p⟩ | exact p.elim
theorem S_seq (h : WS (sa s M) (seqK sb K)) : WS (sSeq sa sb s M) K := by
  obtain ⟨f, s, M1, e, p⟩ := h
  unfold sSeq
  rw [e]
  cases f with
  | nx => exact p
  | _ => exact ⟨_, _, _, rfl, p⟩
theorem S_nx (h : K .nx s M) : WS (sNx s M) K := ⟨_, _, _, rfl, h⟩
theorem S_bk (h : K .bk s M) : WS (sBk s M) K := ⟨_, _, _, rfl, h⟩
theorem S_ct (h : K .ct s M) : WS (sCt s M) K := ⟨_, _, _, rfl, h⟩
theorem S_retN (h : K (.ret .non) s M) : WS (sRetN s M) K := ⟨_, _, _, rfl, h⟩
theorem S_E {e : SE} {k : Va → SS} (h : W (e s M) (onS K s fun v M1 => WS (k v s M1) K)) : WS (sE e k s M) K := by
  obtain ⟨o, M1, e1, p⟩ := h
  unfold sE
  rw [e1]
  cases o with
  | val v => exact p
  | exc c x => exact ⟨_, _, _, rfl, p⟩
theorem S_ret (h : W (ea s M) (onS K s fun v M1 => K (.ret v) s M1)) : WS (sRet ea s M) K := by
  refine S_E (h.mono ?_)
  rintro (v | ⟨c, x⟩) M1 p
  · exact ⟨_, _, _, rfl, p⟩
  · exact p
theorem S_set (h : W (ea s M) (onS K s fun v M1 => K .nx (s.set i (some v)) M1)) : WS (sSet i ea s M) K := by
  refine S_E (h.mono ?_)
  rintro (v | ⟨c, x⟩) M1 p
  · exact ⟨_, _, _, rfl, p⟩
  · exact p
theorem S_drop (h : W (ea s M) (onS K s fun v M1 => K .nx s M1)) : WS (sDrop ea s M) K := by
  refine S_E (h.mono ?_)
  rintro (v | ⟨c, x⟩) M1 p
  · exact ⟨_, _, _, rfl, p⟩
  · exact p
theorem S_if (h : W (ea s M) (onS K s (ifK sa sb s K))) : WS (sIf ea sa sb s M) K := by
  refine S_E (h.mono ?_)
  rintro (v | ⟨c, x⟩) M1 p
  · obtain ⟨x, rfl, p1, p2⟩ := p
    cases x
    · exact p2 rfl
    · exact p1 rfl
  · exact p
theorem S_asg {t : Tgt} (h : W (ea s M) (onS K s fun v M1 => tgK (t v s M1) fun s1 => K .nx s1 M1)) : WS (sAsg ea t s M) K := by
  refine S_E (h.mono ?_)
  rintro (v | ⟨c, x⟩) M1 p
  · obtain ⟨s1, e, p⟩ := p
    dsimp only [onS]
    rw [e]
    exact ⟨_, _, _, rfl, p⟩
  · exact p
theorem S_sub {g : Va → Va → Va → Store → Option Store} (h : W (ea s M) (onS K s fun v M1 => W (eb s M1) (onS K s fun o M2 => W (ec s M2) (onS K s fun i M3 => WM (g o i v M3) fun M4 => K .nx s M4)))) : WS (sSub ea eb ec g s M) K := by
  refine S_E (h.mono ?_)
  rintro (v | ⟨c, x⟩) M1 p
  · refine S_E (W.mono p ?_)
    rintro (v | ⟨c, x⟩) M1 p
    · refine S_E (W.mono p ?_)
      rintro (v | ⟨c, x⟩) M1 p
      · obtain ⟨M4, e, p⟩ := p
        dsimp only [onS]
        rw [e]
        exact ⟨_, _, _, rfl, p⟩
      · exact p
    · exact p
  · exact p
theorem S_fld {g : Va → Va → Store → Option Store} (h : W (ea s M) (onS K s fun v M1 => W (eb s M1) (onS K s fun o M2 => WM (g o v M2) fun M4 => K .nx s M4))) : WS (sFldS ea eb g s M) K := by
  refine S_E (h.mono ?_)
  rintro (v | ⟨c, x⟩) M1 p
  · refine S_E (W.mono p ?_)
    rintro (v | ⟨c, x⟩) M1 p
    · obtain ⟨M4, e, p⟩ := p
      dsimp only [onS]
      rw [e]
      exact ⟨_, _, _, rfl, p⟩
    · exact p
  · exact p
theorem S_aug {x : Va} (e : s[i]? = some (some x)) (h : W (ea s M) (onS K s fun y M1 => augK (augO x y M1) fun z M2 => K .nx (s.set i (some z)) M2)) : WS (sAug i ea s M) K := by
  obtain ⟨o, M1, e1, p⟩ := h
  unfold sAug
  rw [e]
  dsimp only
  rw [e1]
  cases o with
  | val v =>
    obtain ⟨z, M2, e2, p⟩ := p
    dsimp only
    rw [e2]
    exact ⟨_, _, _, rfl, p⟩
  | exc c x => exact ⟨_, _, _, rfl, p⟩
theorem S_for {src : SI} {tg : Tgt} {body : SS} (h : WI (src s M) (onI K s fun l chk M1 => WS (loopF chk tg body l s M1) K)) : WS (sFor src tg body s M) K := by
  obtain ⟨o, M1, e, p⟩ := h
  unfold sFor
  rw [e]
  cases o with
  | it l chk => exact p
  | exc c x => exact ⟨_, _, _, rfl, p⟩
theorem S_raise {c : Nat} (h : W (ea s M) (onS K s fun v M1 => K (.exc c v) s M1)) : WS (sRaise c ea s M) K := by
  obtain ⟨o, M1, e, p⟩ := h
  unfold sRaise
  rw [e]
  cases o <;> exact ⟨_, _, _, rfl, p⟩

/-! #### what is walked -/
variable {Ki : OutI → Store → Prop}
theorem I_A (h : W (ea s M) (fun o M1 => WI (anyO (some (o, M1))) Ki)) : WI (itA ea s M) Ki := by
  obtain ⟨o, M1, e, p⟩ := h
  rw [z_itA, e]
  exact p
theorem anyL {l : List Va} (h : Ki (.it l fun _ => True) M) : WI (anyO (some (.val (.lst l), M))) Ki := ⟨_, _, rfl, h⟩
theorem anyT {l : List Va} (h : Ki (.it l fun _ => True) M) : WI (anyO (some (.val (.tup l), M))) Ki := ⟨_, _, rfl, h⟩
theorem anyC {l : List Va} (e : M.c n = some (.lst l)) (h : Ki (.it l fun M => lstOf M (.cel n) = some l) M) : WI (anyO (some (.val (.cel n), M))) Ki := ⟨_, _, by rw [z_anyC, e], h⟩
theorem anyX {c : Nat} (h : Ki (.exc c v) M) : WI (anyO (some (.exc c v, M))) Ki := ⟨_, _, rfl, h⟩
theorem I_R1 (h : W (ea s M) (fun o M1 => ∃ n, o = .val (.tup [.int n]) ∧ n ≤ 100000 ∧ -(2 ^ 62) ≤ n ∧ Ki (.it ((List.range n.toNat).map fun (i : Nat) => Va.int i) fun _ => True) M1)) : WI (itR1 ea s M) Ki := by
  obtain ⟨o, M1, e, n, rfl, h1, h2, p⟩ := h
  rw [z_itR1, e, z_rng h1 h2]
  exact ⟨_, _, rfl, p⟩
theorem I_En (h : W (ea s M) (fun o M1 => ∃ v l, o = .val (.tup [v]) ∧ lstOf M1 v = some l ∧ Ki (.it (enumL 0 l) (fun M => lstOf M v = some l)) M1)) : WI (itEn ea s M) Ki := by
  obtain ⟨o, M1, e, v, l, rfl, h1, p⟩ := h
  refine ⟨_, _, ?_, p⟩
  unfold itEn
  rw [e]
  dsimp only
  rw [h1]
theorem I_Zp (h : W (ea s M) (fun o M1 => ∃ v u l m, o = .val (.tup [v, u]) ∧ lstOf M1 v = some l ∧ lstOf M1 u = some m ∧ Ki (.it (zipL l m) (fun M => lstOf M v = some l ∧ lstOf M u = some m)) M1)) : WI (itZp ea s M) Ki := by
  obtain ⟨o, M1, e, v, u, l, m, rfl, h1, h2, p⟩ := h
  refine ⟨_, _, ?_, p⟩
  unfold itZp
  rw [e]
  dsimp only
  rw [h1, h2]
theorem loop_nilW {chk : Store → Prop} {tg : Tgt} {body : SS} (h : chk M) (p : K .nx s M) : WS (loopF chk tg body [] s M) K := by
  refine ⟨.nx, s, M, ?_, p⟩
  unfold loopF
  rw [if_pos h]
theorem loop_consW {chk : Store → Prop} {tg : Tgt} {body : SS} {x : Va} {xs : List Va} {s1 : SL} (h : chk M) (e : tg x s M = some s1)
    (p : WS (body s1 M) fun f s2 M2 => match f with | .nx => WS (loopF chk tg body xs s2 M2) K | .ct => WS (loopF chk tg body xs s2 M2) K | .bk => K .nx s2 M2 | f => K f s2 M2) : WS (loopF chk tg body (x :: xs) s M) K := by
  obtain ⟨f, s2, M2, e2, p⟩ := p
  unfold loopF
  rw [if_pos h, e]
  dsimp only
  rw [e2]
  cases f <;> first | exact p | exact ⟨_, _, _, rfl, p⟩
/-- how a turn ends, and the loop after it -/
def turnK (I : SL → Store → Prop) (K : Fl → SL → Store → Prop) (f : Fl) (s : SL) (M : Store) : Prop := match f with | .nx => I s M | .ct => I s M | .bk => K .nx s M | f => K f s M
theorem WS_loop {α : Type} {chk : Store → Prop} {tg : Tgt} {body : SS} (enc : α → Va) (xs : List α) (I : List α → SL → Store → Prop) (h0 : I [] s M) (hc : ∀ pre s M, I pre s M → chk M)
    (step : ∀ pre x post s M, xs = pre ++ x :: post → I pre s M → ∃ s1, tg (enc x) s M = some s1 ∧ WS (body s1 M) (turnK (I (pre ++ [x])) K))
    (done : ∀ s M, I xs s M → K .nx s M) : WS (loopF chk tg body (xs.map enc) s M) K := by
  have main : ∀ (post pre : List α) (s : SL) (M : Store), xs = pre ++ post → I pre s M → WS (loopF chk tg body (post.map enc) s M) K := by
    intro post
    induction post with
    | nil =>
      intro pre s M e h
      rw [List.append_nil] at e
      subst e
      exact loop_nilW (hc _ _ _ h) (done _ _ h)
    | cons x post ih =>
      intro pre s M e h
      obtain ⟨s1, e1, p⟩ := step pre x post s M e h
      refine loop_consW (hc _ _ _ h) e1 (p.mono ?_)
      intro f s2 M2 q
      cases f with
      | nx => exact ih (pre ++ [x]) s2 M2 (by rw [e, List.append_assoc]; rfl) q
      | ct => exact ih (pre ++ [x]) s2 M2 (by rw [e, List.append_assoc]; rfl) q
      | bk => exact q
      | ret v => exact q
      | exc c v => exact q
  exact main xs [] s M rfl h0
theorem WC_nil {chk : Store → Prop} {tg : Tgt} {tt te : SE} {k : List Va → Store → Prop} (h : chk M) (p : k [] M) : WCm (compL chk tg tt te s [] M) k := by
  refine ⟨[], M, ?_, p⟩
  unfold compL
  rw [if_pos h]
theorem WC_filter {α : Type} {chk : Store → Prop} {tg : Tgt} {tt te : SE} {k : List Va → Store → Prop} (enc f : α → Va) (p : α → Bool) (xs : List α) (hc : chk M)
    (h : ∀ x ∈ xs, ∃ s1, tg (enc x) s M = some s1 ∧ W (tt s1 M) (isV (.bl (p x)) M) ∧ (p x = true → W (te s1 M) (isV (f x) M))) (q : k ((xs.filter p).map f) M) : WCm (compL chk tg tt te s (xs.map enc) M) k := by
  refine ⟨_, M, compL_filter enc f p hc xs fun x hx => ?_, q⟩
  obtain ⟨s1, h1, ⟨_, _, h2, rfl, rfl⟩, h3⟩ := h x hx
  refine ⟨s1, h1, h2, fun hp => ?_⟩
  obtain ⟨_, _, h4, rfl, rfl⟩ := h3 hp
  exact h4
theorem WC_map {α : Type} {chk : Store → Prop} {tg : Tgt} {te : SE} {k : List Va → Store → Prop} (enc f : α → Va) (xs : List α) (hc : chk M)
    (h : ∀ x ∈ xs, ∃ s1, tg (enc x) s M = some s1 ∧ W (te s1 M) (isV (f x) M)) (q : k (xs.map f) M) : WCm (compL chk tg evYes te s (xs.map enc) M) k := by
  refine ⟨_, M, compL_map enc f hc xs fun x hx => ?_, q⟩
  obtain ⟨s1, h1, ⟨_, _, h2, rfl, rfl⟩⟩ := h x hx
  exact ⟨s1, h1, rfl, h2⟩
theorem WC_inv {α β : Type} {chk : Store → Prop} {tg : Tgt} {te : SE} {k : List Va → Store → Prop} (enc : α → Va) (enc' : β → Va) (xs : List α) (I : List β → Store → Prop) (h0 : I [] M) (hc : ∀ ys M, I ys M → chk M)
    (step : ∀ pre x post M ys, xs = pre ++ x :: post → ys.length = pre.length → I ys M → ∃ s1, tg (enc x) s M = some s1 ∧ W (te s1 M) fun o M' => ∃ y, o = .val (enc' y) ∧ I (ys ++ [y]) M')
    (q : ∀ ys M', ys.length = xs.length → I ys M' → k (ys.map enc') M') : WCm (compL chk tg evYes te s (xs.map enc) M) k := by
  have main : ∀ (post pre : List α) (ys : List β) (M : Store), xs = pre ++ post → ys.length = pre.length → I ys M → ∃ zs M', compL chk tg evYes te s (post.map enc) M = some (zs.map enc', M') ∧ (ys ++ zs).length = xs.length ∧ I (ys ++ zs) M' := by
    intro post
    induction post with
    | nil =>
      intro pre ys M e hl h
      refine ⟨[], M, ?_, by rw [e]; simp [hl], by simpa using h⟩
      show compL chk tg evYes te s [] M = _
      unfold compL
      rw [if_pos (hc _ _ h)]
      rfl
    | cons x post ih =>
      intro pre ys M e hl h
      obtain ⟨s1, e1, _, M1, e2, y, rfl, h1⟩ := step pre x post M ys e hl h
      obtain ⟨zs, M2, e3, hl2, h2⟩ := ih (pre ++ [x]) (ys ++ [y]) M1 (by rw [e, List.append_assoc]; rfl) (by simp [hl]) h1
      refine ⟨y :: zs, M2, ?_, by rw [← hl2]; simp, by rw [List.append_assoc] at h2; exact h2⟩
      show compL chk tg evYes te s (enc x :: post.map enc) M = _
      unfold compL
      rw [if_pos (hc _ _ h), e1]
      dsimp only
      rw [show evYes s1 M = some (.val (.bl true), M) from rfl]
      dsimp only
      rw [e2]
      dsimp only
      rw [e3]
      rfl
  obtain ⟨zs, M', e, hl, h⟩ := main xs [] [] M rfl rfl h0
  exact ⟨_, M', e, q zs M' (by simpa using hl) (by simpa using h)⟩
end
end PV

set_option Elab.async false
set_option linter.all false
set_option maxRecDepth 100000
set_option maxHeartbeats 4000000
namespace PV
open PySem L2

/-! ### small things -/
theorem len_ok {l : List Va} (h : Nat.ble l.length sizeLine = true) : l.length ≤ sizeLine := Nat.le_of_ble_eq_true h
/-- a store that keeps all cells but some -/
structure Fr (ws : List Nat) (M M' : Store) : Prop where
  nx : M.nx ≤ M'.nx
  kp : ∀ n, n < M.nx → n ∉ ws → M'.c n = M.c n
theorem Fr.refl {ws : List Nat} {M : Store} : Fr ws M M := ⟨Nat.le_refl _, fun _ _ _ => rfl⟩
theorem Fr.trans {ws : List Nat} {M M1 M2 : Store} (a : Fr ws M M1) (b : Fr ws M1 M2) : Fr ws M M2 := ⟨Nat.le_trans a.nx b.nx, fun n h1 h2 => (b.kp n (Nat.lt_of_lt_of_le h1 a.nx) h2).trans (a.kp n h1 h2)⟩
theorem Fr.mono {ws ws' : List Nat} {M M' : Store} (a : Fr ws M M') (h : ∀ x ∈ ws, x ∈ ws') : Fr ws' M M' := ⟨a.nx, fun n h1 h2 => a.kp n h1 fun hm => h2 (h n hm)⟩
theorem Fr.put {ws : List Nat} {M : Store} {n : Nat} {x : Cell} (h : n ∈ ws) : Fr ws M (M.put n x) := ⟨Nat.le_refl _, fun m _ h2 => put_ne fun e => h2 (e ▸ h)⟩
theorem Fr.new {ws : List Nat} {M : Store} {x : Cell} : Fr ws M (M.new x) := ⟨Nat.le_succ _, fun m h _ => new_ne (Nat.ne_of_lt h)⟩
/-- later changes to what is new -/
theorem Fr.putN {ws : List Nat} {M M1 : Store} {n : Nat} {x : Cell} (a : Fr ws M M1) (h : M.nx ≤ n) : Fr ws M (M1.put n x) := ⟨a.nx, fun m h1 h2 => by rw [put_ne (by omega)]; exact a.kp m h1 h2⟩
theorem Fr.putW {ws : List Nat} {M M1 : Store} {n : Nat} {x : Cell} (a : Fr ws M M1) (h : n ∈ ws) : Fr ws M (M1.put n x) := a.trans (.put h)
theorem Fr.newN {ws : List Nat} {M M1 : Store} {x : Cell} (a : Fr ws M M1) : Fr ws M (M1.new x) := a.trans .new
theorem Fr.delN {ws : List Nat} {M M1 : Store} {n : Nat} (a : Fr ws M M1) (h : M.nx ≤ n) : Fr ws M (M1.del n) := ⟨a.nx, fun m h1 h2 => by rw [del_ne (by omega)]; exact a.kp m h1 h2⟩
theorem Fr.get {ws : List Nat} {M M' : Store} (a : Fr ws M M') {n : Nat} {x : Cell} (h : n < M.nx) (hn : n ∉ ws) (e : M.c n = some x) : M'.c n = some x := (a.kp n h hn).trans e

theorem ifK_t {a b : SS} {s : SL} {M : Store} {K} (h : WS (a s M) K) : ifK a b s K (.bl true) M := ⟨true, rfl, fun _ => h, fun e => by cases e⟩
theorem ifK_f {a b : SS} {s : SL} {M : Store} {K} (h : WS (b s M) K) : ifK a b s K (.bl false) M := ⟨false, rfl, fun e => by (cases e), fun _ => h⟩
theorem ifK_b {a b : SS} {s : SL} {M : Store} {K} {x : Bool} (h1 : x = true → WS (a s M) K) (h2 : x = false → WS (b s M) K) : ifK a b s K (.bl x) M := ⟨x, rfl, h1, h2⟩
theorem ifE_b {a b : SE} {s : SL} {M : Store} {P} {x : Bool} (h1 : x = true → W (a s M) P) (h2 : x = false → W (b s M) P) : ifE a b s P (.bl x) M := ⟨x, rfl, h1, h2⟩
theorem andK_b {b : SE} {s : SL} {M : Store} {P} {x : Bool} (h1 : x = true → W (b s M) P) (h2 : x = false → P (.val (.bl false)) M) : andK b s P (.bl x) M := ⟨x, rfl, h1, h2⟩
theorem orK_b {b : SE} {s : SL} {M : Store} {P} {x : Bool} (h1 : x = true → P (.val (.bl true)) M) (h2 : x = false → W (b s M) P) : orK b s P (.bl x) M := ⟨x, rfl, h1, h2⟩
theorem I_R1' {s : SL} {M : Store} {ea : SE} {Ki} (h : W (ea s M) (fun o M1 => WI (rngO (some (o, M1))) Ki)) : WI (itR1 ea s M) Ki := by
  obtain ⟨o, M1, e, p⟩ := h
  rw [z_itR1, e]
  exact p
theorem rngW {n : Int} {M : Store} {Ki} (h1 : n ≤ 100000) (h2 : -(2 ^ 62) ≤ n) (p : Ki (.it ((List.range n.toNat).map fun (i : Nat) => Va.int i) fun _ => True) M) : WI (rngO (some (.val (.tup [.int n]), M))) Ki := ⟨_, _, z_rng h1 h2, p⟩
theorem anyS {M : Store} {z : Str} {Ki : OutI → Store → Prop} (hz : z.length ≤ 16777216) (h : Ki (.it (z.cps.toList.map fun c => Va.str ⟨#[c]⟩) fun _ => True) M) : WI (anyO (some (.val (.str z), M))) Ki := ⟨_, _, z_anyS hz, h⟩
theorem tyK_mk {b : Bool} {p : Prop} (h : b = true) (q : p) : tyK b p := ⟨h, q⟩
theorem lst_ty {M : Store} {n : Nat} {l : List Va} (h : M.c n = some (.lst l)) : isLstA M (.cel n) = true := by unfold isLstA; rw [y_lstC, h]; rfl
theorem dic_ty {M : Store} {n : Nat} {l : List (Key × Va)} (h : M.c n = some (.dic l)) : isDicA M (.cel n) = true := by
  unfold isDicA dicOf
  dsimp only
  rw [h]
  rfl
theorem app_ok {l : List Va} {x : Va} (h : l.length < 16777216) : cAppend (.lst l) [x] = some (.lst (l ++ [x]), .non) := by
  unfold cAppend
  first
  | exact if_pos h
  | simp [h]
theorem tru_bl {M : Store} {b : Bool} : truO M (.bl b) = some b := rfl
theorem len_cel {M : Store} {n : Nat} {l : List Va} (h : M.c n = some (.lst l)) : gLen M [.cel n] = some (.int l.length) := by
  unfold gLen
  dsimp only
  rw [show seqOf M (.cel n) = some l by rw [y_seqC, h]]
theorem ix_cel {M : Store} {n : Nat} {l : List Va} {i : Int} {v : Va} (h : M.c n = some (.lst l)) (h2 : atI l i = some v) : opIx M (.cel n) (.int i) = some v := by
  rw [y_ixC, h]
  exact h2
theorem ix_lst {M : Store} {l : List Va} {i : Int} {v : Va} (h2 : atI l i = some v) : opIx M (.lst l) (.int i) = some v := h2
theorem ix_tup {M : Store} {l : List Va} {i : Int} {v : Va} (h2 : atI l i = some v) : opIx M (.tup l) (.int i) = some v := h2
/-- the item at an index -/
def nth {α : Type} [Inhabited α] (l : List α) (i : Int) : α := (l[i.toNat]?).getD default
theorem nth_mem {α : Type} [Inhabited α] {l : List α} {i : Int} (h0 : 0 ≤ i) (h : i < l.length) : nth l i ∈ l := by
  unfold nth
  have hl : i.toNat < l.length := by omega
  rw [List.getElem?_eq_getElem hl]
  exact List.getElem_mem hl
theorem at_map {α : Type} [Inhabited α] {l : List α} {f : α → Va} {i : Int} (h0 : 0 ≤ i) (h : i < l.length) : atI (l.map f) i = some (f (nth l i)) := by
  obtain ⟨x, e, _, e2⟩ := at_nat (l := l.map f) h0 (by rw [List.length_map]; exact h)
  rw [e]
  unfold nth
  rw [List.getElem?_map] at e2
  have hl : i.toNat < l.length := by omega
  rw [List.getElem?_eq_getElem hl] at e2 ⊢
  exact e2.symm
section
variable {s s1 : SL} {M M1 : Store} {v : Va} {P Q : Out → Store → Prop} {K K' : Fl → SL → Store → Prop} {c : Nat}
theorem onV_v {k : Va → Store → Prop} (h : k v M) : onV P k (.val v) M := h
theorem onV_x {k : Va → Store → Prop} (h : P (.exc c v) M) : onV P k (.exc c v) M := h
theorem onS_v {k : Va → Store → Prop} (h : k v M) : onS K s k (.val v) M := h
theorem onS_x {k : Va → Store → Prop} (h : K (.exc c v) s M) : onS K s k (.exc c v) M := h
theorem onI_i {k : List Va → (Store → Prop) → Store → Prop} {l : List Va} {chk : Store → Prop} (h : k l chk M) : onI K s k (.it l chk) M := h
theorem onI_x {k : List Va → (Store → Prop) → Store → Prop} (h : K (.exc c v) s M) : onI K s k (.exc c v) M := h
theorem onJ_i {k : List Va → (Store → Prop) → Store → Prop} {l : List Va} {chk : Store → Prop} (h : k l chk M) : onJ P k (.it l chk) M := h
theorem onJ_x {k : List Va → (Store → Prop) → Store → Prop} (h : P (.exc c v) M) : onJ P k (.exc c v) M := h
theorem seqK_nx {b : SS} (h : WS (b s M) K) : seqK b K .nx s M := h
theorem seqK_ret {b : SS} (h : K (.ret v) s M) : seqK b K (.ret v) s M := h
theorem seqK_bk {b : SS} (h : K .bk s M) : seqK b K .bk s M := h
theorem seqK_ct {b : SS} (h : K .ct s M) : seqK b K .ct s M := h
theorem seqK_x {b : SS} (h : K (.exc c v) s M) : seqK b K (.exc c v) s M := h
theorem endK_nx (h : P (.val .non) M) : endK P .nx s M := h
theorem endK_ret (h : P (.val v) M) : endK P (.ret v) s M := h
theorem endK_x (h : P (.exc c v) M) : endK P (.exc c v) s M := h
theorem turnK_nx {I : SL → Store → Prop} (h : I s M) : turnK I K .nx s M := h
theorem turnK_ct {I : SL → Store → Prop} (h : I s M) : turnK I K .ct s M := h
theorem turnK_bk {I : SL → Store → Prop} (h : K .nx s M) : turnK I K .bk s M := h
theorem turnK_ret {I : SL → Store → Prop} (h : K (.ret v) s M) : turnK I K (.ret v) s M := h
theorem turnK_x {I : SL → Store → Prop} (h : K (.exc c v) s M) : turnK I K (.exc c v) s M := h
def cutK (I : SL → Store → Prop) (K : Fl → SL → Store → Prop) (f : Fl) (s : SL) (M : Store) : Prop := match f with | .nx => I s M | f => K f s M
theorem cutK_nx {I : SL → Store → Prop} (h : I s M) : cutK I K .nx s M := h
theorem cutK_ret {I : SL → Store → Prop} (h : K (.ret v) s M) : cutK I K (.ret v) s M := h
theorem cutK_bk {I : SL → Store → Prop} (h : K .bk s M) : cutK I K .bk s M := h
theorem cutK_ct {I : SL → Store → Prop} (h : K .ct s M) : cutK I K .ct s M := h
theorem cutK_x {I : SL → Store → Prop} (h : K (.exc c v) s M) : cutK I K (.exc c v) s M := h
theorem S_cut {sa sb : SS} (I : SL → Store → Prop) (h1 : WS (sa s M) (cutK I K)) (h2 : ∀ s1 M1, I s1 M1 → WS (sb s1 M1) K) : WS (sSeq sa sb s M) K := by
  refine S_seq (h1.mono ?_)
  intro f s1 M1 h
  cases f with
  | nx => exact h2 s1 M1 h
  | _ => exact h
theorem at_3 {α : Type} {a b c d : α} {l : List α} : atI (a :: b :: c :: d :: l) 3 = some d := by
  have e : ixN (a :: b :: c :: d :: l).length 3 = some 3 := by unfold ixN; simp; omega
  unfold atI; rw [e]; rfl
theorem at_4 {α : Type} {a b c d f : α} {l : List α} : atI (a :: b :: c :: d :: f :: l) 4 = some f := by
  have e : ixN (a :: b :: c :: d :: f :: l).length 4 = some 4 := by unfold ixN; simp; omega
  unfold atI; rw [e]; rfl
theorem fld_get {n c : Nat} {f : Str} {l : List (Str × Va)} (h : M.c n = some (.ins c l)) (hl : l.lookup f = some v) : opFld c f M (.cel n) = some v := by
  unfold opFld
  dsimp only
  rw [h]
  dsimp only
  rw [if_pos rfl]
  exact hl
theorem fld_set {n c : Nat} {f : Str} {l : List (Str × Va)} (h : M.c n = some (.ins c l)) (hl : l.length < 1000) : cSetF c f (.cel n) v M = some (M.put n (.ins c (putA f v l))) := by
  unfold cSetF
  dsimp only
  rw [h]
  dsimp only
  rw [if_pos ⟨rfl, hl⟩]
theorem enumL_map {α : Type} (f : α → Va) : ∀ (xs : List α) (k : Nat), enumL k (xs.map f) = (xs.zipIdx k).map fun p => Va.tup [.int p.2, f p.1]
  | [], _ => rfl
  | x :: xs, k => by
    show Va.tup [.int k, f x] :: enumL (k + 1) (xs.map f) = _
    rw [enumL_map f xs (k + 1)]; rfl
theorem W_lc2 {src src1 : SI} {tg tg1 : Tgt} {tt tt1 te : SE} {vs vs1 : List Nat} (h : WI (src s M) (onJ P fun l chk M1 => WCm (compL2 chk tg tt src1 tg1 tt1 te (wipeI s vs) vs1 l M1) fun ys M2 => ys.length ≤ 16777216 ∧ P (.val (.lst ys)) M2)) : W (evLc2 src tg tt src1 tg1 tt1 te vs vs1 s M) P := by
  obtain ⟨o, M1, e, p⟩ := h
  unfold evLc2
  rw [e]
  cases o with
  | it l chk =>
    obtain ⟨ys, M2, e2, hz, p⟩ := p
    dsimp only
    rw [e2]
    dsimp only
    rw [if_pos (le_line hz)]
    exact ⟨_, _, rfl, p⟩
  | exc c x => exact ⟨_, _, rfl, p⟩
theorem WC2_map {α β : Type} {chk : Store → Prop} {tg tg1 : Tgt} {src1 : SI} {te : SE} {vs1 : List Nat} {k : List Va → Store → Prop} (enc : α → Va) (enc1 : β → Va) (f : α → β → Va) (ls : α → List β) (xs : List α) (hc : chk M)
    (h : ∀ x ∈ xs, ∃ s1, tg (enc x) s M = some s1 ∧ WI (src1 s1 M) (fun o M' => M' = M ∧ ∃ chk1 : Store → Prop, o = .it ((ls x).map enc1) chk1 ∧ chk1 M) ∧ ∀ y ∈ ls x, ∃ s2, tg1 (enc1 y) (wipeI s1 vs1) M = some s2 ∧ W (te s2 M) (isV (f x y) M))
    (q : k ((xs.map fun x => (ls x).map (f x)).flatten) M) : WCm (compL2 chk tg evYes src1 tg1 evYes te s vs1 (xs.map enc) M) k := by
  refine ⟨_, M, ?_, q⟩
  clear q
  induction xs with
  | nil =>
    show compL2 chk tg evYes src1 tg1 evYes te s vs1 [] M = _
    unfold compL2
    rw [if_pos hc]; rfl
  | cons x xs ih =>
    obtain ⟨s1, h1, ⟨o, M', h2, rfl, chk1, rfl, hk⟩, h3⟩ := h x (by simp)
    show compL2 chk tg evYes src1 tg1 evYes te s vs1 (enc x :: xs.map enc) M' = _
    unfold compL2
    rw [if_pos hc, h1]
    dsimp only
    rw [show evYes s1 M' = some (.val (.bl true), M') from rfl]
    dsimp only
    rw [h2]
    dsimp only
    rw [compL_map enc1 (f x) hk (ls x) fun y hy => by
      obtain ⟨s2, e1, ⟨_, _, e2, rfl, rfl⟩⟩ := h3 y hy
      exact ⟨s2, e1, rfl, e2⟩]
    dsimp only
    rw [ih fun y hy => h y (by simp [hy])]
    rfl
theorem WS_loopV {chk : Store → Prop} {tg : Tgt} {body : SS} (xs : List Va) (I : List Va → SL → Store → Prop) (h0 : I [] s M) (hc : ∀ pre s M, I pre s M → chk M)
    (step : ∀ pre x post s M, xs = pre ++ x :: post → I pre s M → ∃ s1, tg x s M = some s1 ∧ WS (body s1 M) (turnK (I (pre ++ [x])) K))
    (done : ∀ s M, I xs s M → K .nx s M) : WS (loopF chk tg body xs s M) K := by
  have := WS_loop (fun y => y) xs I h0 hc step done
  rwa [List.map_id'' (fun _ => rfl)] at this
theorem W_dnewF (h : P (.val (.dic [])) M) : W (evDNewF s M) P := ⟨_, _, rfl, h⟩
theorem own_cel {n : Nat} {l : List Va} (h : M.c n = some (.lst l)) : ownOf M (.cel n) = some l := by rw [y_ownC, h]
theorem pop0 {x : Va} {l : List Va} : cPopAt (.lst (x :: l)) [.int 0] = some (.lst l, x) := by
  unfold cPopAt
  dsimp only
  rw [if_pos ⟨by omega, by omega⟩, show seqIndex? 0 (x :: l).length = some 0 by unfold seqIndex?; simp]
  rfl
theorem set_at {n : Nat} {l : List Va} {i : Int} {j : Nat} (h : M.c n = some (.lst l)) (hj : ixN l.length i = some j) : cSetAt (.cel n) (.int i) v M = some (M.put n (.lst (l.set j v))) := by
  unfold cSetAt
  dsimp only
  rw [h]
  dsimp only
  rw [hj]
theorem set_c0 {n : Nat} {a : Va} {t : List Va} (h : M.c n = some (.lst (a :: t))) : cSetAt (.cel n) (.int 0) v M = some (M.put n (.lst (v :: t))) := by
  have e : ixN (a :: t).length 0 = some 0 := by unfold ixN; simp; try omega
  exact set_at h e
theorem set_c1 {n : Nat} {a b : Va} {t : List Va} (h : M.c n = some (.lst (a :: b :: t))) : cSetAt (.cel n) (.int 1) v M = some (M.put n (.lst (a :: v :: t))) := by
  have e : ixN (a :: b :: t).length 1 = some 1 := by unfold ixN; simp; try omega
  exact set_at h e
theorem set_c2 {n : Nat} {a b c : Va} {t : List Va} (h : M.c n = some (.lst (a :: b :: c :: t))) : cSetAt (.cel n) (.int 2) v M = some (M.put n (.lst (a :: b :: v :: t))) := by
  have e : ixN (a :: b :: c :: t).length 2 = some 2 := by unfold ixN; simp; try omega
  exact set_at h e
theorem set_c3 {n : Nat} {a b c d : Va} {t : List Va} (h : M.c n = some (.lst (a :: b :: c :: d :: t))) : cSetAt (.cel n) (.int 3) v M = some (M.put n (.lst (a :: b :: c :: v :: t))) := by
  have e : ixN (a :: b :: c :: d :: t).length 3 = some 3 := by unfold ixN; simp; try omega
  exact set_at h e
theorem set_c4 {n : Nat} {a b c d e : Va} {t : List Va} (h : M.c n = some (.lst (a :: b :: c :: d :: e :: t))) : cSetAt (.cel n) (.int 4) v M = some (M.put n (.lst (a :: b :: c :: d :: v :: t))) := by
  have e : ixN (a :: b :: c :: d :: e :: t).length 4 = some 4 := by unfold ixN; simp; try omega
  exact set_at h e
theorem set_c5 {n : Nat} {a b c d e f : Va} {t : List Va} (h : M.c n = some (.lst (a :: b :: c :: d :: e :: f :: t))) : cSetAt (.cel n) (.int 5) v M = some (M.put n (.lst (a :: b :: c :: d :: e :: v :: t))) := by
  have e : ixN (a :: b :: c :: d :: e :: f :: t).length 5 = some 5 := by unfold ixN; simp; try omega
  exact set_at h e
theorem set_key {n : Nat} {l : List (Key × Va)} {i : Va} {k : Key} (h : M.c n = some (.dic l)) (hk : keyA i = some k) (hl : l.length < 16777216) : cSetK (.cel n) i v M = some (M.put n (.dic (puK l k v))) := by
  unfold cSetK
  dsimp only
  rw [h, hk]
  dsimp only
  rw [if_pos (lt_line hl)]
theorem W_ext {n : Nat} {x : Va} {xs zs : List Va} (h1 : M.c n = some (.lst xs)) (h2 : ownOf M x = some zs) (h3 : xs.length + zs.length ≤ 16777216) (p : P (.val .non) (M.put n (.lst (xs ++ zs)))) : W (kExt (.cel n) [x] M) P := by
  refine ⟨_, _, ?_, p⟩
  unfold kExt
  dsimp only
  rw [h1, h2]
  dsimp only
  rw [if_pos (le_line h3)]
theorem S_while {t : SE} {b : SS} (I : Nat → SL → Store → Prop) (n : Nat) (h0 : I n s M)
    (step : ∀ n s M, I n s M → W (t s M) (onS K s fun v M1 => ∃ x, v = .bl x ∧ (x = true → WS (b s M1) (turnK (fun s2 M2 => ∃ m, m < n ∧ I m s2 M2) K)) ∧ (x = false → K .nx s M1))) : WS (sWhile t b s M) K := by
  have main : ∀ n s M, I n s M → ∃ k f s' M', whileN k t b s M = some (f, s', M') ∧ K f s' M' := by
    intro n
    induction n using Nat.strongRecOn with
    | ind n ih =>
      intro s M h
      obtain ⟨o, M1, e1, p⟩ := step n s M h
      cases o with
      | exc c x => exact ⟨1, _, _, _, by unfold whileN; rw [e1], p⟩
      | val v =>
        obtain ⟨x, rfl, pt, pf⟩ := p
        cases x with
        | false => exact ⟨1, _, _, _, by unfold whileN; rw [e1], pf rfl⟩
        | true =>
          obtain ⟨f, s2, M2, e2, q⟩ := pt rfl
          cases f with
          | nx =>
            obtain ⟨m, hm, q⟩ := q
            obtain ⟨k, f, s', M', e3, r⟩ := ih m hm s2 M2 q
            exact ⟨k + 1, f, s', M', by unfold whileN; rw [e1]; dsimp only; rw [e2]; exact e3, r⟩
          | ct =>
            obtain ⟨m, hm, q⟩ := q
            obtain ⟨k, f, s', M', e3, r⟩ := ih m hm s2 M2 q
            exact ⟨k + 1, f, s', M', by unfold whileN; rw [e1]; dsimp only; rw [e2]; exact e3, r⟩
          | bk => exact ⟨1, _, _, _, by unfold whileN; rw [e1]; dsimp only; rw [e2], q⟩
          | ret v => exact ⟨1, _, _, _, by unfold whileN; rw [e1]; dsimp only; rw [e2], q⟩
          | exc c v => exact ⟨1, _, _, _, by unfold whileN; rw [e1]; dsimp only; rw [e2], q⟩
  obtain ⟨k, f, s', M', e, q⟩ := main n s M h0
  exact ⟨f, s', M', while_eq e, q⟩
theorem ifK_d {a b : SS} {p : Prop} [Decidable p] (h1 : p → WS (a s M) K) (h2 : ¬p → WS (b s M) K) : ifK a b s K (.bl (decide p)) M := ifK_b (fun h => h1 (of_decide_eq_true h)) fun h => h2 (of_decide_eq_false h)
theorem ifK_n {a b : SS} {p : Prop} [Decidable p] (h1 : ¬p → WS (a s M) K) (h2 : p → WS (b s M) K) : ifK a b s K (.bl (!decide p)) M := ifK_b (fun h => h1 (by simpa using h)) fun h => h2 (by simpa using h)
theorem ifE_d {a b : SE} {p : Prop} [Decidable p] (h1 : p → W (a s M) P) (h2 : ¬p → W (b s M) P) : ifE a b s P (.bl (decide p)) M := ifE_b (fun h => h1 (of_decide_eq_true h)) fun h => h2 (of_decide_eq_false h)
theorem ifE_n {a b : SE} {p : Prop} [Decidable p] (h1 : ¬p → W (a s M) P) (h2 : p → W (b s M) P) : ifE a b s P (.bl (!decide p)) M := ifE_b (fun h => h1 (by simpa using h)) fun h => h2 (by simpa using h)
theorem andK_d {b : SE} {p : Prop} [Decidable p] (h1 : p → W (b s M) P) (h2 : ¬p → P (.val (.bl false)) M) : andK b s P (.bl (decide p)) M := andK_b (fun h => h1 (of_decide_eq_true h)) fun h => h2 (of_decide_eq_false h)
theorem andK_n {b : SE} {p : Prop} [Decidable p] (h1 : ¬p → W (b s M) P) (h2 : p → P (.val (.bl false)) M) : andK b s P (.bl (!decide p)) M := andK_b (fun h => h1 (by simpa using h)) fun h => h2 (by simpa using h)
theorem orK_d {b : SE} {p : Prop} [Decidable p] (h1 : p → P (.val (.bl true)) M) (h2 : ¬p → W (b s M) P) : orK b s P (.bl (decide p)) M := orK_b (fun h => h1 (of_decide_eq_true h)) fun h => h2 (of_decide_eq_false h)
theorem orK_n {b : SE} {p : Prop} [Decidable p] (h1 : ¬p → P (.val (.bl true)) M) (h2 : p → W (b s M) P) : orK b s P (.bl (!decide p)) M := orK_b (fun h => h1 (by simpa using h)) fun h => h2 (by simpa using h)
theorem andK_t {b : SE} (h : W (b s M) P) : andK b s P (.bl true) M := andK_b (fun _ => h) fun e => by cases e
theorem andK_f {b : SE} (h : P (.val (.bl false)) M) : andK b s P (.bl false) M := andK_b (fun e => by cases e) fun _ => h
theorem orK_t {b : SE} (h : P (.val (.bl true)) M) : orK b s P (.bl true) M := orK_b (fun _ => h) fun e => by cases e
theorem orK_f {b : SE} (h : W (b s M) P) : orK b s P (.bl false) M := orK_b (fun e => by cases e) fun _ => h
theorem ifE_t {a b : SE} (h : W (a s M) P) : ifE a b s P (.bl true) M := ifE_b (fun _ => h) fun e => by cases e
theorem ifE_f {a b : SE} (h : W (b s M) P) : ifE a b s P (.bl false) M := ifE_b (fun e => by cases e) fun _ => h
theorem W_gho {ev : SE} {k n : Nat} {l : List Va} (h1 : s[k]? = some (some (.cel n))) (h2 : M.c n = some (.lst l)) (h : W (ev (s.set k (some (.lst l))) (M.del n)) P) : W (evGho k ev s M) P := by
  unfold evGho
  rw [h1]
  dsimp only
  rw [h2]
  exact h
end
end PV

set_option Elab.async false
set_option linter.all false
set_option maxRecDepth 100000
set_option maxHeartbeats 4000000
set_option exponentiation.threshold 3000
namespace Lw
open PySem L2 PV
def Nm (z : Str) : Prop := 1 ≤ (tl z).length ∧ (tl z).length ≤ 8 ∧ ∀ c ∈ tl z, 97 ≤ c ∧ c ≤ 122
theorem Nm.ok {z : Str} (h : Nm z) : PyData.strOk z = true := by
  unfold PyData.strOk
  rw [Array.all_eq_true_iff_forall_mem]
  intro c hc
  have := h.2.2 c (Array.mem_toList_iff.mpr hc)
  exact decide_eq_true (by omega)
theorem Nm.len {z : Str} (h : Nm z) : 1 ≤ z.length ∧ z.length ≤ 8 := by
  rw [tl_len]; exact ⟨h.1, h.2.1⟩
theorem cutS_to {z : Str} (k : Nat) : tl (cutS z none (some (k : Int))) = (tl z).take k := by
  show (((tl z).drop (HT.sIx z.length 0 none)).take (HT.sIx z.length z.length (some (k : Int)) - HT.sIx z.length 0 none)) = _
  rw [HT.sIx_nat, HT.sIx_none]
  have e : z.length = (tl z).length := tl_len z
  rw [e]
  generalize tl z = l
  clear e
  by_cases h : k ≤ l.length
  · rw [Nat.min_eq_left h]; simp
  · rw [Nat.min_eq_right (by omega), List.drop_zero, List.take_of_length_le (by omega), List.take_of_length_le (by omega)]
theorem strsOf_one : ∀ {ys : List Va}, (∀ y ∈ ys, ∃ c, y = .str ⟨#[c]⟩ ∧ 97 ≤ c ∧ c ≤ 122) → ∃ zs : List Str, strsOf ys = some zs ∧ zs.length = ys.length ∧ ∀ z ∈ zs, ∃ c, tl z = [c] ∧ 97 ≤ c ∧ c ≤ 122
  | [], _ => ⟨[], rfl, rfl, fun _ h => by cases h⟩
  | y :: ys, h => by
    obtain ⟨c, rfl, hc⟩ := h y (by simp)
    obtain ⟨zs, e, l, a⟩ := strsOf_one (ys := ys) fun z hz => h z (by simp [hz])
    refine ⟨⟨#[c]⟩ :: zs, by simp [strsOf, e], by simp [l], fun z hz => ?_⟩
    rcases List.mem_cons.mp hz with e | hz
    · subst e; exact ⟨c, rfl, hc⟩
    · exact a z hz
theorem join_one : ∀ {zs : List Str}, (∀ z ∈ zs, ∃ c, tl z = [c] ∧ 97 ≤ c ∧ c ≤ 122) → (TL.joinL [] (zs.map TL.tl)).length = zs.length ∧ (∀ c ∈ TL.joinL [] (zs.map TL.tl), 97 ≤ c ∧ c ≤ 122) ∧ (zs.map (·.length)).sum = zs.length
  | [], _ => ⟨rfl, fun _ h => (nomatch h), rfl⟩
  | [z], h => by
    obtain ⟨c, e, hc⟩ := h z (by simp)
    have e' : TL.tl z = [c] := e
    refine ⟨by simp [TL.joinL, e'], fun d hd => ?_, by rw [List.map_cons, List.map_nil, List.sum_cons, tl_len, e]; rfl⟩
    simp [TL.joinL, e'] at hd
    subst hd; exact hc
  | z :: y :: r, h => by
    obtain ⟨c, e, hc⟩ := h z (by simp)
    have e' : TL.tl z = [c] := e
    obtain ⟨h1, h2, h3⟩ := join_one (zs := y :: r) fun x hx => h x (by simp [hx])
    have q : TL.joinL [] ((z :: y :: r).map TL.tl) = c :: TL.joinL [] ((y :: r).map TL.tl) := by
      simp [TL.joinL, e']
    refine ⟨by rw [q, List.length_cons, h1]; rfl, fun d hd => ?_, ?_⟩
    · rw [q] at hd
      rcases List.mem_cons.mp hd with e2 | hd
      · subst e2; exact hc
      · exact h2 d hd
    · rw [List.map_cons, List.sum_cons, h3, tl_len, e]
      simp only [List.length_cons, List.length_nil]; omega
theorem ints_of_all {P : Int → Prop} : ∀ {ys : List Va}, (∀ y ∈ ys, ∃ n, y = .int n ∧ P n) → ∃ ns : List Int, ys = ns.map Va.int ∧ ∀ n ∈ ns, P n
  | [], _ => ⟨[], rfl, fun _ h => nomatch h⟩
  | y :: ys, h => by
    obtain ⟨n, rfl, hn⟩ := h y (by simp)
    obtain ⟨ns, rfl, hs⟩ := ints_of_all (ys := ys) fun z hz => h z (by simp [hz])
    exact ⟨n :: ns, rfl, fun m hm => by rcases List.mem_cons.mp hm with e | hm; (subst e; exact hn); exact hs m hm⟩
def stV (t : Str × Int × Int) : Va := .tup [.str t.1, .int t.2.1, .int t.2.2]
def prV (t : Str × Int × Int) : Va := .tup [.str t.1, .int t.2.1]
def prD (t : Str × Int × Int) : PyData := .tuple [.str t.1, .int t.2.1]
def hasP (l : List (Str × Int × Int)) (z : Str) (i : Int) : Bool := l.any fun t => t.1 == z && t.2.1 == i
theorem prs_reads {M : Store} : ∀ l : List (Str × Int × Int), PdRs M (l.map prV) (l.map prD)
  | [] => .nil
  | t :: l => .cons (.tup (.cons (.str _) (.cons (.int _) .nil))) (prs_reads l)
theorem prs_lay : ∀ {l : List (Str × Int × Int)}, (∀ t ∈ l, PyData.strOk t.1 = true) → PyData.canLayAll0 (l.map prD) = true ∧ PyData.depthAll (l.map prD) ≤ 1
  | [], _ => by simp [PyData.canLayAll0, PyData.depthAll]
  | t :: l, h => by
    have h1 := h t (by simp)
    obtain ⟨h2, h3⟩ := prs_lay (l := l) fun y hy => h y (by simp [hy])
    refine ⟨by simp [prD, PyData.canLayAll0, PyData.canLay0, h1, h2], ?_⟩
    simp only [List.map_cons, PyData.depthAll, prD, PyData.depth]
    omega
theorem inP_pairs {M : Store} {z : Str} {i : Int} {l : List (Str × Int × Int)} (ok : ∀ t ∈ l, PyData.strOk t.1 = true) (oz : PyData.strOk z = true) : inP M (.tup [.str z, .int i]) (.lst (l.map prV)) = some (hasP l z i) := by
  unfold inP
  rw [pdOf_eq (.tup (.cons (.str _) (.cons (.int _) .nil))), pdOf_eq (.lst rfl (prs_reads l))]
  obtain ⟨h1, h2⟩ := prs_lay ok
  have s1 : SeqAt.shaped (.tuple [.str z, .int i]) = true := by simp [SeqAt.shaped, PyData.canLay0, PyData.canLayAll0, PyData.depth, PyData.depthAll, oz]
  have s2 : SeqAt.shaped (.list (l.map prD)) = true := by
    unfold SeqAt.shaped
    simp only [PyData.canLay0, PyData.depth, h1]
    simp; omega
  simp only [Option.bind_some, pdList]
  rw [if_pos ⟨s1, s2⟩]
  congr 1
  unfold hasP
  rw [List.any_map]
  congr 1
  funext t
  simp [prD, PyData.eqv, PyData.eqvAll]
theorem notIn_pairs {M : Store} {z : Str} {i : Int} {l : List (Str × Int × Int)} (ok : ∀ t ∈ l, PyData.strOk t.1 = true) (oz : PyData.strOk z = true) : opNotInD M (.tup [.str z, .int i]) (.lst (l.map prV)) = some (.bl (!hasP l z i)) := by
  have e : opNotIn M (.tup [.str z, .int i]) (.lst (l.map prV)) = none := by
    show (if flatA (.tup [.str z, .int i]) = true ∧ (l.map prV).all flatA = true then some (Va.bl (!inA (.tup [.str z, .int i]) (l.map prV))) else none) = none
    rw [if_neg (by simp [flatA])]
  unfold opNotInD
  rw [e, inP_pairs ok oz]; rfl
theorem in_pairs {M : Store} {z : Str} {i : Int} {l : List (Str × Int × Int)} (ok : ∀ t ∈ l, PyData.strOk t.1 = true) (oz : PyData.strOk z = true) : opInD M (.tup [.str z, .int i]) (.lst (l.map prV)) = some (.bl (hasP l z i)) := by
  have e : opIn M (.tup [.str z, .int i]) (.lst (l.map prV)) = none := by
    show (if flatA (.tup [.str z, .int i]) = true ∧ (l.map prV).all flatA = true then some (Va.bl (inA (.tup [.str z, .int i]) (l.map prV))) else none) = none
    rw [if_neg (by simp [flatA])]
  unfold opInD
  rw [e, inP_pairs ok oz]; rfl
theorem sl_pair {M : Store} (t : Str × Int × Int) : opSl M (stV t) none (some 2) = some (prV t) := rfl
/-- the steps of one kind: names, places, no two alike -/
structure Sts (size : Int) (l : List (Str × Int × Int)) : Prop where
  ok : ∀ t ∈ l, Nm t.1 ∧ 0 ≤ t.2.1 ∧ t.2.1 < size ∧ 0 ≤ t.2.2 ∧ t.2.2 < size
  nd : (l.map fun t => (t.1, t.2.1)).Nodup
theorem hasP_iff {l : List (Str × Int × Int)} {z : Str} {i : Int} : hasP l z i = true ↔ (z, i) ∈ l.map fun t => (t.1, t.2.1) := by
  unfold hasP
  rw [List.any_eq_true, List.mem_map]
  constructor
  · rintro ⟨t, ht, h⟩
    rw [Bool.and_eq_true, beq_iff_eq, beq_iff_eq] at h
    exact ⟨t, ht, by rw [h.1, h.2]⟩
  · rintro ⟨t, ht, h⟩
    cases h
    exact ⟨t, ht, by simp⟩
theorem Sts.snoc {size : Int} {l : List (Str × Int × Int)} {z : Str} {i j : Int} (h : Sts size l) (hz : Nm z) (hi : 0 ≤ i ∧ i < size) (hj : 0 ≤ j ∧ j < size) (hn : hasP l z i = false) : Sts size (l ++ [(z, i, j)]) := by
  refine ⟨fun t ht => ?_, ?_⟩
  · rcases List.mem_append.mp ht with ht | ht
    · exact h.ok t ht
    · rw [List.mem_singleton.mp ht]; exact ⟨hz, hi.1, hi.2, hj.1, hj.2⟩
  · rw [List.map_append, List.nodup_append]
    refine ⟨h.nd, by simp, fun a ha b hb e => ?_⟩
    simp at hb
    subst hb
    rw [e] at ha
    have := hasP_iff.mpr ha
    rw [hn] at this
    cases this
theorem at_neg {α : Type} {l : List α} {i : Int} (h0 : i < 0) (h : -(l.length : Int) ≤ i) : ∃ x, atI l i = some x ∧ x ∈ l ∧ l[(i + l.length).toNat]? = some x := by
  have e : ixN l.length i = some (i + l.length).toNat := by unfold ixN; rw [if_neg (by omega), if_pos h]
  have hl : (i + l.length).toNat < l.length := by omega
  refine ⟨l[(i + l.length).toNat], ?_, List.getElem_mem hl, by simp [hl]⟩
  unfold atI
  rw [e]
  simp [hl]
theorem y_addL {M : Store} {a b : List Va} (h : a.length + b.length ≤ 16777216) : opAdd M (.lst a) (.lst b) = some (.lst (a ++ b)) := by
  show (match ownOf M (.lst a), ownOf M (.lst b) with | some l, some m => if l.length + m.length ≤ sizeLine then some (Va.lst (l ++ m)) else none | _, _ => none) = _
  simp only [y_ownL]
  rw [if_pos (le_line h)]
/-- all that stood stays, but these -/
structure Kx (S : List Nat) (M M' : Store) : Prop where
  nx : M.nx ≤ M'.nx
  kp : ∀ n, n < M.nx → n ∉ S → M'.c n = M.c n
theorem Kx.refl {S : List Nat} {M : Store} : Kx S M M := ⟨Nat.le_refl _, fun _ _ _ => rfl⟩
theorem Kx.trans {S : List Nat} {M M1 M2 : Store} (a : Kx S M M1) (b : Kx S M1 M2) : Kx S M M2 := ⟨Nat.le_trans a.nx b.nx, fun n h1 h2 => (b.kp n (Nat.lt_of_lt_of_le h1 a.nx) h2).trans (a.kp n h1 h2)⟩
theorem Kx.mono {S T : List Nat} {M M' : Store} (a : Kx S M M') (h : ∀ n ∈ S, n ∈ T) : Kx T M M' := ⟨a.nx, fun n h1 h2 => a.kp n h1 fun z => h2 (h n z)⟩
theorem Kx.put {S : List Nat} {M : Store} {n : Nat} {x : Cell} (h : n ∈ S) : Kx S M (M.put n x) := ⟨Nat.le_refl _, fun m _ h2 => put_ne fun e => h2 (e ▸ h)⟩
theorem Kx.new {S : List Nat} {M : Store} {x : Cell} : Kx S M (M.new x) := ⟨Nat.le_succ _, fun n h _ => new_ne (Nat.ne_of_lt h)⟩
theorem Kx.del {S : List Nat} {M : Store} {n : Nat} (h : n ∈ S) : Kx S M (M.del n) := ⟨Nat.le_refl _, fun m _ h2 => PV.del_ne fun e => h2 (e ▸ h)⟩
/-- what is above the first store counts for nothing -/
theorem Kx.cut {S T : List Nat} {M M' : Store} (a : Kx T M M') (h : ∀ n ∈ T, n < M.nx → n ∈ S) : Kx S M M' := ⟨a.nx, fun n h1 h2 => a.kp n h1 fun z => h2 (h n z h1)⟩
theorem Kx.cut1 {S T : List Nat} {M M1 M' : Store} (a0 : Kx S M M1) (a : Kx T M1 M') (h : ∀ n ∈ T, n < M.nx → n ∈ S) : Kx S M M' :=
  ⟨Nat.le_trans a0.nx a.nx, fun n h1 h2 => (a.kp n (Nat.lt_of_lt_of_le h1 a0.nx) fun z => h2 (h n z h1)).trans (a0.kp n h1 h2)⟩
theorem Kx.get {S : List Nat} {M M' : Store} {n : Nat} {x : Cell} (a : Kx S M M') (h1 : n < M.nx) (h2 : n ∉ S) (h : M.c n = some x) : M'.c n = some x := (a.kp n h1 h2).trans h
abbrev Kd := Str × List (List Int) × List (Str × Int × Int)
def rowV (ns : List Int) : Va := .lst (ns.map Va.int)
def kdV (k : Kd) : Va := .tup [.str k.1, .lst (k.2.1.map rowV), .lst (k.2.2.map stV)]
structure Dat where
  cols : List Str
  kinds : List Kd
  checks : List (List Int)
def Dat.va (D : Dat) : Va := .tup [.lst (D.cols.map Va.str), .lst (D.kinds.map kdV), .lst (D.checks.map rowV)]
def RowOk (m : Nat) (B : Int) (ns : List Int) : Prop := ns.length = m ∧ ∀ n ∈ ns, -B ≤ n ∧ n ≤ B
structure KdOk (m : Nat) (B : Int) (k : Kd) : Prop where
  nm : Nm k.1
  st : ∃ rest, k.2.1 = List.replicate m 0 :: rest
  row : ∀ ns ∈ k.2.1, RowOk m B ns
  sts : Sts k.2.1.length k.2.2
  n1 : k.2.1.length ≤ 50
  n2 : k.2.2.length ≤ 50
structure Dat.Ok (D : Dat) (B : Int) : Prop where
  cn : ∀ z ∈ D.cols, Nm z
  cd : D.cols.Nodup
  cl : D.cols.length ≤ 20
  kn : (D.kinds.map (·.1)).Nodup
  kd : ∀ k ∈ D.kinds, KdOk D.cols.length B k
  kl : D.kinds.length ≤ 20
  ck : ∀ ns ∈ D.checks, RowOk D.cols.length B ns
  hl : D.checks.length ≤ 20
theorem at_last {α : Type} (l : List α) (a : α) : atI (l ++ [a]) (-1) = some a := by
  have e : ixN (l ++ [a]).length (-1) = some l.length := by
    unfold ixN
    rw [if_neg (by omega), if_pos (by simp; omega)]
    simp
    omega
  unfold atI
  rw [e]
  simp
theorem y_neg {M : Store} {i : Int} : opNeg M (.int i) = some (.int (-i)) := rfl
theorem y_mulZ {M : Store} {m : Nat} (h : m ≤ 1000) : opMul M (.lst [.int 0]) (.int m) = some (.lst ((List.replicate m (0 : Int)).map Va.int)) := by
  show (match ownOf M (.lst [.int 0]) with | some l => if -(2 ^ 63) ≤ (m : Int) ∧ (m : Int) < 2 ^ 63 ∧ l.length * (m : Int).toNat ≤ sizeLine then some (Va.lst (List.replicate (m : Int).toNat l).flatten) else none | none => none) = _
  simp only [y_ownL]
  rw [if_pos ⟨by omega, by omega, by simp; omega⟩]
  congr 2
  rw [Int.toNat_natCast, List.map_replicate]
  induction m with
  | zero => rfl
  | succ m ih =>
    rw [List.replicate_succ, List.replicate_succ, List.flatten_cons, ih (by omega)]; rfl
theorem strs_all {P : Str → Prop} : ∀ {ys : List Va}, (∀ y ∈ ys, ∃ z, y = .str z ∧ P z) → ∃ zs : List Str, ys = zs.map Va.str ∧ ∀ z ∈ zs, P z
  | [], _ => ⟨[], rfl, fun _ h => nomatch h⟩
  | y :: ys, h => by
    obtain ⟨n, rfl, hn⟩ := h y (by simp)
    obtain ⟨ns, rfl, hs⟩ := strs_all (ys := ys) fun z hz => h z (by simp [hz])
    exact ⟨n :: ns, rfl, fun m hm => by rcases List.mem_cons.mp hm with e | hm; (subst e; exact hn); exact hs m hm⟩
theorem rows_all {P : List Int → Prop} : ∀ {ys : List Va}, (∀ y ∈ ys, ∃ z, y = rowV z ∧ P z) → ∃ zs : List (List Int), ys = zs.map rowV ∧ ∀ z ∈ zs, P z
  | [], _ => ⟨[], rfl, fun _ h => nomatch h⟩
  | y :: ys, h => by
    obtain ⟨n, rfl, hn⟩ := h y (by simp)
    obtain ⟨ns, rfl, hs⟩ := rows_all (ys := ys) fun z hz => h z (by simp [hz])
    exact ⟨n :: ns, rfl, fun m hm => by rcases List.mem_cons.mp hm with e | hm; (subst e; exact hn); exact hs m hm⟩
theorem snoc_map {α : Type} (f : α → Va) (l : List α) (a : α) : l.map f ++ [f a] = (l ++ [a]).map f := by simp
theorem list0_new {s : SL} {M : Store} : evL kNew evNil s M = some (.val (.cel M.nx), M.new (.lst [])) := by
  rw [x_L, x_nil, bindO_val]
  show kNew [] M = _
  unfold kNew
  rw [if_pos (by show 0 ≤ sizeLine; decide)]
theorem frz_now {i : Nat} {s : SL} {M : Store} {n : Nat} {l : List Va} (h : evVar i s M = some (.val (.cel n), M)) (h2 : M.c n = some (.lst l)) : evFrz (evVar i) s M = some (.val (.lst l), M.del n) := by
  rw [x_frz, h, frz_cel, h2]
theorem list1_new {e : SE} {s : SL} {M M1 : Store} {v : Va} (h : e s M = some (.val v, M1)) : evL kNew (evCons e evNil) s M = some (.val (.cel M1.nx), M1.new (.lst [v])) := by
  rw [x_L, x_cons, h, bindO_val, x_nil, bindO_val, bindO_val]
  show kNew [v] M1 = _
  unfold kNew
  rw [if_pos (by show 1 ≤ sizeLine; decide)]
theorem vaK_map {α : Type} (k : Key) (v : α) (k' : Key) : ∀ l : List (Key × α), vaK (l.map fun kv => if kv.1 = k then (kv.1, v) else kv) k' = if k' = k then (vaK l k').map (fun _ => v) else vaK l k'
  | [] => by unfold vaK; simp
  | p :: l => by
    have ih := vaK_map k v k' l
    unfold vaK at *
    rw [List.map_cons, List.find?_cons, List.find?_cons]
    by_cases h : p.1 = k
    · rw [if_pos h]
      by_cases h2 : p.1 = k'
      · have : k' = k := by rw [← h2]; exact h
        simp [h2, this]
      · have : ¬ k' = k := by intro e; exact h2 (by rw [h, e])
        simp only [h2, decide_false]
        rw [ih]
    · rw [if_neg h]
      by_cases h2 : p.1 = k'
      · have : ¬ k' = k := by intro e; exact h (by rw [h2, e])
        simp [h2, this]
      · simp only [h2, decide_false]
        rw [ih]
theorem vaK_any {α : Type} (l : List (Key × α)) (k : Key) : (l.any fun kv => decide (kv.1 = k)) = (vaK l k).isSome := by
  unfold vaK
  induction l with
  | nil => rfl
  | cons p l ih =>
    rw [List.any_cons, List.find?_cons]
    by_cases h : p.1 = k
    · simp [h]
    · simp only [h, decide_false, Bool.false_or]; exact ih
theorem vaK_app {α : Type} (l : List (Key × α)) (k : Key) (v : α) (k' : Key) : vaK (l ++ [(k, v)]) k' = (vaK l k').or (if k = k' then some v else none) := by
  unfold vaK
  rw [List.find?_append]
  cases h : List.find? (fun kv => decide (kv.1 = k')) l with
  | some x => rfl
  | none =>
    by_cases h2 : k = k' <;> simp [h2]
theorem vaK_put {α : Type} (l : List (Key × α)) (k : Key) (v : α) (k' : Key) : vaK (puK l k v) k' = if k = k' then some v else vaK l k' := by
  unfold puK
  split
  · rename_i h
    rw [vaK_map]
    by_cases h2 : k = k'
    · subst h2
      rw [if_pos rfl, if_pos rfl]
      rw [vaK_any] at h
      cases q : vaK l k with
      | none => rw [q] at h; cases h
      | some x => rfl
    · rw [if_neg (Ne.symm h2), if_neg h2]
  · rename_i h
    rw [vaK_app]
    rw [vaK_any] at h
    by_cases h2 : k = k'
    · subst h2
      cases q : vaK l k with
      | some x => rw [q] at h; exact absurd rfl h
      | none => simp
    · simp [h2]
theorem puK_keys {α : Type} {P : Key → Prop} {l : List (Key × α)} {k : Key} {v : α} (hl : ∀ p ∈ l, P p.1) (hk : P k) : ∀ p ∈ puK l k v, P p.1 := by
  intro p hp
  unfold puK at hp
  split at hp
  · obtain ⟨q, hq, rfl⟩ := List.mem_map.mp hp
    split
    · exact hl q hq
    · exact hl q hq
  · rcases List.mem_append.mp hp with hp | hp
    · exact hl p hp
    · rw [List.mem_singleton.mp hp]; exact hk
theorem puK_all {α : Type} {P : Key × α → Prop} {l : List (Key × α)} {k : Key} {v : α} (hl : ∀ p ∈ l, P p) (hk : P (k, v)) : ∀ p ∈ puK l k v, P p := by
  intro p hp
  unfold puK at hp
  split at hp
  · obtain ⟨q, hq, rfl⟩ := List.mem_map.mp hp
    split
    · rename_i e
      rw [e]; exact hk
    · exact hl q hq
  · rcases List.mem_append.mp hp with hp | hp
    · exact hl p hp
    · rw [List.mem_singleton.mp hp]; exact hk
/-- a dict that tells these numbers of these columns -/
structure Tells (cols : List Str) (row : List Int) (l : List (Key × Va)) : Prop where
  ks : ∀ p ∈ l, ∃ c ∈ cols, p.1 = .inr c
  vs : ∀ p ∈ l, ∃ n ∈ row, p.2 = .int n
  ln : l.length ≤ 20
  eq : cols.map (fun c => (vaK l (.inr c)).getD (.int 0)) = row.map Va.int
  lc : l.length ≤ cols.length
theorem Al2.imp {α β : Type} {P Q : α → β → Prop} (h : ∀ a b, P a b → Q a b) : ∀ {l : List α} {m : List β}, Al2 P l m → Al2 Q l m
  | _, _, .nil => .nil
  | _, _, .cons p t => .cons (h _ _ p) (Al2.imp h t)
theorem Al2.snoc {α β : Type} {P : α → β → Prop} {a : α} {b : β} (h : P a b) : ∀ {l : List α} {m : List β}, Al2 P l m → Al2 P (l ++ [a]) (m ++ [b])
  | _, _, .nil => .cons h .nil
  | _, _, .cons p t => .cons p (Al2.snoc h t)

theorem Kx.trans' {S : List Nat} {M M1 M2 : Store} (b : Kx S M1 M2) (a : Kx S M M1) : Kx S M M2 := a.trans b
theorem Kx.putN {ws : List Nat} {M M1 : Store} {n : Nat} {x : Cell} (a : Kx ws M M1) (h : M.nx ≤ n) : Kx ws M (M1.put n x) := ⟨a.nx, fun m h1 h2 => by rw [put_ne (by omega)]; exact a.kp m h1 h2⟩
theorem Kx.putW {ws : List Nat} {M M1 : Store} {n : Nat} {x : Cell} (a : Kx ws M M1) (h : n ∈ ws) : Kx ws M (M1.put n x) := a.trans (.put h)
theorem Kx.newN {ws : List Nat} {M M1 : Store} {x : Cell} (a : Kx ws M M1) : Kx ws M (M1.new x) := a.trans .new
theorem Kx.delN {ws : List Nat} {M M1 : Store} {n : Nat} (a : Kx ws M M1) (h : M.nx ≤ n) : Kx ws M (M1.del n) := ⟨a.nx, fun m h1 h2 => by rw [PV.del_ne (by omega)]; exact a.kp m h1 h2⟩
theorem Kx.sub {S T : List Nat} {M M1 M2 : Store} (b : Kx T M1 M2) (a : Kx S M M1) (h : ∀ n ∈ T, n < M.nx → n ∈ S) : Kx S M M2 := a.cut1 b h
theorem Kx.nil {S : List Nat} {M M1 M2 : Store} (b : Kx [] M1 M2) (a : Kx S M M1) : Kx S M M2 := a.trans (b.mono fun _ h => by cases h)

end Lw

set_option Elab.async false
set_option linter.all false
set_option maxRecDepth 100000
set_option maxHeartbeats 4000000
set_option exponentiation.threshold 3000
namespace Lw
open PySem L2 PV
structure LA (M : Store) (x : Va) (l : List Va) : Prop where
  at_ : LstAt M x l
  lt : ∀ n, x = .cel n → n < M.nx
structure DA (M : Store) (x : Va) (l : List (Key × Va)) : Prop where
  at_ : dicOf M x = some l
  lt : ∀ n, x = .cel n → n < M.nx
theorem LA.lst {M : Store} {l : List Va} : LA M (.lst l) l := ⟨.lst l, fun n e => by cases e⟩
theorem LA.cel {M : Store} {n : Nat} {l : List Va} (h : M.c n = some (.lst l)) (hn : n < M.nx) : LA M (.cel n) l := ⟨.cel h, fun m e => by cases e; exact hn⟩
theorem DA.dic {M : Store} {l : List (Key × Va)} : DA M (.dic l) l := ⟨rfl, fun n e => by cases e⟩
theorem DA.cel {M : Store} {n : Nat} {l : List (Key × Va)} (h : M.c n = some (.dic l)) (hn : n < M.nx) : DA M (.cel n) l := ⟨by show (match M.c n with | some (.dic l) => some l | _ => none) = _; rw [h], fun m e => by cases e; exact hn⟩
theorem LA.kx {M M' : Store} {x : Va} {l : List Va} (h : LA M x l) (k : Kx [] M M') : LA M' x l := by
  obtain ⟨h1, h2⟩ := h
  cases h1 with
  | lst l => exact LA.lst
  | cel h => exact LA.cel (k.get (h2 _ rfl) (by simp) h) (Nat.lt_of_lt_of_le (h2 _ rfl) k.nx)
theorem DA.kx {M M' : Store} {x : Va} {l : List (Key × Va)} (h : DA M x l) (k : Kx [] M M') : DA M' x l := by
  obtain ⟨h1, h2⟩ := h
  refine ⟨?_, fun n e => Nat.lt_of_lt_of_le (h2 n e) k.nx⟩
  cases x <;> first | exact h1 | skip
  rename_i n
  show (match M'.c n with | some (.dic l) => some l | _ => none) = _
  rw [k.kp n (h2 n rfl) (by simp)]
  exact h1
theorem LA.all {M : Store} {x : Va} {l : List Va} (h : LA M x l) : ∃ chk : Store → Prop, ∀ N, Kx [] M N → anyO (some (.val x, N)) = some (.it l chk, N) ∧ chk N := by
  obtain ⟨h1, h2⟩ := h
  cases h1 with
  | lst l => exact ⟨fun _ => True, fun N _ => ⟨rfl, trivial⟩⟩
  | cel h =>
    rename_i n
    refine ⟨fun N => lstOf N (.cel n) = some l, fun N k => ?_⟩
    have hN := k.get (h2 n rfl) (by simp) h
    exact ⟨by rw [z_anyC, hN], by show lstOf N (.cel n) = some l; rw [y_lstC, hN]⟩
theorem LA.any {M : Store} {x : Va} {l : List Va} (h : LA M x l) : ∃ chk : Store → Prop, anyO (some (.val x, M)) = some (.it l chk, M) ∧ chk M ∧ ∀ M', Kx [] M M' → chk M' := by
  obtain ⟨chk, q⟩ := h.all
  exact ⟨chk, (q M Kx.refl).1, (q M Kx.refl).2, fun M' k => (q M' k).2⟩
theorem blsOf_true {α : Type} : ∀ (l : List α), blsOf (l.map fun _ => Va.bl true) = some (l.map fun _ => true)
  | [] => rfl
  | _ :: l => by simp [blsOf, blsOf_true l]
theorem all1 {α : Type} {M : Store} (l : List α) : gAll M [.lst (l.map fun _ => Va.bl true)] = some (.bl true) := by
  unfold gAll
  simp only [y_lstL, blsOf_true, Option.map_some]
  congr 2
  induction l with
  | nil => rfl
  | cons a l ih => simpa using ih
theorem is_name {M : Store} {z : Str} (h : Nm z) : c_is_name [.str z] M = some (.val (.bl true), M) := by
  obtain ⟨h1, h2, h3⟩ := h
  have hl : z.length ≤ 16777216 := by rw [tl_len]; omega
  have hl1 : (1 : Int) ≤ z.length := by rw [tl_len]; omega
  have hl2 : (z.length : Int) ≤ 8 := by rw [tl_len]; omega
  have c := compL_map (M := M) (chk := fun _ => True) (tg := tgName 1) (tt := evYes) (te := (ev2 opInD (evVar 1) (evC (.str "abcdefghijklmnopqrstuvwxyz")))) (sw := [some (.str z), none]) (fun c => Va.str ⟨#[c]⟩) (fun _ => Va.bl true) trivial z.cps.toList (fun c hc => by
    refine ⟨_, rfl, rfl, ?_⟩
    have := h3 c hc
    have ho : opInD M (.str ⟨#[c]⟩) (.str "abcdefghijklmnopqrstuvwxyz") = some (.bl true) := by
      have : opIn M (.str ⟨#[c]⟩) (.str "abcdefghijklmnopqrstuvwxyz") = some (.bl (decide (c ∈ tl letS))) := rfl
      have hm : c ∈ tl letS := by
        have e : tl letS = (List.range 26).map (97 + ·) := by decide
        rw [e, List.mem_map]
        exact ⟨c - 97, List.mem_range.mpr (by omega), by omega⟩
      unfold opInD
      rw [this]
      simp [hm]
    simp [ho])
  unfold c_is_name runF m_is_name
  simp (disch := omega) [startI, y_lenS, hl1, hl2, z_anyS, c, all1]
/-- a loop whose turns do nothing -/
theorem loop_skip {chk : Store → Prop} {t : Nat} {body : SS} {M : Store} (hc : chk M) : ∀ (xs : List Va) (s : SL), (∀ x ∈ xs, body (s.set t (some x)) M = some (.nx, s.set t (some x), M)) → ∃ s', loopF chk (tgName t) body xs s M = some (.nx, s', M) ∧ (s' = s ∨ ∃ x, s' = s.set t (some x))
  | [], s, _ => ⟨s, loop_nil hc, .inl rfl⟩
  | x :: xs, s, h => by
    obtain ⟨s', e, hs⟩ := loop_skip (s := s.set t (some x)) hc xs (fun y hy => by
      rw [List.set_set]; exact h y (by simp [hy]))
    refine ⟨s', loop_nx hc rfl (h x (by simp)) e, .inr ?_⟩
    rcases hs with hs | ⟨y, hs⟩
    · exact ⟨x, hs⟩
    · exact ⟨y, by rw [hs, List.set_set]⟩
theorem keys_txt {cols : List Str} : ∀ {l : List (Key × Va)}, (∀ p ∈ l, ∃ c ∈ cols, p.1 = .inr c) → ∃ zs : List Str, l.map (·.1) = zs.map Sum.inr ∧ (∀ z ∈ zs, z ∈ cols) ∧ zs.length = l.length
  | [], _ => ⟨[], rfl, (fun _ h => nomatch h), rfl⟩
  | p :: l, h => by
    obtain ⟨c, hc, e⟩ := h p (by simp)
    obtain ⟨zs, e2, h2, h3⟩ := keys_txt (l := l) fun q hq => h q (by simp [hq])
    exact ⟨c :: zs, by rw [List.map_cons, List.map_cons, e, e2], fun z hz => by
      rcases List.mem_cons.mp hz with e | hz
      · rw [e]; exact hc
      · exact h2 z hz, by simp [h3]⟩
theorem factors {M : Store} {x y : Va} {cols : List Str} {row : List Int} {l : List (Key × Va)} (la : LA M x (cols.map Va.str)) (da : DA M y l) (ht : Tells cols row l) : c_factors_of [x, y] M = some (.val (rowV row), M) := by
  obtain ⟨zs, e1, z1, z2⟩ := keys_txt ht.ks
  have hdo := da.at_
  have gs : gSorted M [y] = some (.lst ((srtS zs).map Va.str)) := by
    show (match srtOf M y with | some zs => if zs.length < 64 then some (Va.lst ((srtS zs).map Va.str)) else none | none => none) = _
    have : srtOf M y = some zs := by
      unfold srtOf
      rw [hdo]
      dsimp only
      rw [e1, txtOfKeys_map]
    rw [this]
    dsimp only
    rw [if_pos (by have := ht.ln; omega)]
  obtain ⟨s', e2, hs⟩ := loop_skip (chk := fun _ => True) (t := 2) (body := sIf (ev2 opNotInD (evVar 2) (evVar 0)) sNever sNx) (M := M) trivial ((srtS zs).map Va.str) [some x, some y, none] (fun v hx => by
    obtain ⟨z, hz, rfl⟩ := List.mem_map.mp hx
    have hz' := z1 z ((srtS_perm zs).mem_iff.mp hz)
    simp [la.at_.notIn, hz'])
  obtain ⟨chk, ha, hck, _⟩ := la.any
  have hD : isDicA M y = true := by unfold isDicA; rw [hdo]; rfl
  have cm := compL_map (M := M) (chk := chk) (tg := tgName 2) (tt := evYes) (te := evM2 isDicA (kVal gGetD) (evVar 1) (evCons (evVar 2) (evCons (evC (.int 0)) evNil))) (sw := [some x, some y, none]) Va.str (fun c => (vaK l (.inr c)).getD (.int 0)) hck cols (fun c hc' => ⟨_, rfl, rfl, by
    have hg : gGetD M y [.str c, .int 0] = some ((vaK l (.inr c)).getD (.int 0)) := by
      show (match dicOf M y, keyA (.str c) with | some l, some key => some ((vaK l key).getD (.int 0)) | _, _ => none) = _
      rw [hdo]; rfl
    simp [hD, hg]⟩)
  rw [ht.eq] at cm
  unfold c_factors_of runF
  have hs' : ∃ o, s' = [some x, some y, o] := by
    rcases hs with hs | ⟨v, hs⟩
    · exact ⟨none, hs⟩
    · exact ⟨some v, hs⟩
  obtain ⟨o, rfl⟩ := hs'
  refine end_ret (s1 := [some x, some y, o]) ?_
  unfold m_factors_of
  refine seq_nx (for_it (chk := fun _ => True) (M1 := M) (l := (srtS zs).map Va.str) ?_ e2) (ret_val ?_)
  · show itA _ [some x, some y, none] M = _
    simp [gs]
  · rw [z_lc, z_itA, show ∀ N, evVar 0 [some x, some y, o] N = some (.val x, N) from fun _ => rfl, ha]
    simp only [z_wipeS, z_wipe0, List.set]
    rw [cm]
    rfl
theorem cut_to {α : Type} (l : List α) (k : Nat) : cutA l none (some (k : Int)) = l.take k := by
  unfold cutA
  rw [HT.sIx_nat, HT.sIx_none]
  by_cases h : k ≤ l.length
  · rw [Nat.min_eq_left h]; simp
  · rw [Nat.min_eq_right (by omega), List.drop_zero, List.take_of_length_le (by omega), List.take_of_length_le (by omega)]
theorem sl_to {M : Store} {x : Va} {l : List Va} (h : LstAt M x l) (k : Nat) : opSl M x none (some (k : Int)) = some (.lst (l.take k)) := by
  have e : opSl M x none (some (k : Int)) = (match lstOf M x with | some l => some (.lst (cutA l none (some (k : Int)))) | none => none) := by cases h <;> rfl
  rw [e, h.lof]
  dsimp only
  rw [cut_to]
theorem cols_loop {M : Store} {x : Va} {chk : Store → Prop} {cols : List Str} (la : LA M x (cols.map Va.str)) (hck : chk M) (hn : ∀ z ∈ cols, Nm z) (hd : cols.Nodup) : ∀ (rest done : List Str) (s1 s2 : Option Va), cols = done ++ rest →
    ∃ s1' s2', loopF chk (tgTup [(tgName 1), (tgName 2)]) (sSeq (sIf (evNot (evTru (evL (kFn 1 c_is_name) (evCons (evVar 2) evNil)))) sNever sNx)
    (sIf (ev2 opInD (evVar 2) (evSl (evVar 0) (evC .non) (evB (evVar 1)))) sNever sNx)) (enumL done.length (rest.map Va.str)) [some x, s1, s2] M = some (.nx, [some x, s1', s2'], M)
  | [], done, s1, s2, _ => ⟨s1, s2, loop_nil hck⟩
  | z :: rest, done, s1, s2, e => by
    obtain ⟨s1', s2', e2⟩ := cols_loop la hck hn hd rest (done ++ [z]) (some (.int done.length)) (some (.str z)) (by rw [e]; simp)
    rw [List.length_append, List.length_cons, List.length_nil] at e2
    refine ⟨s1', s2', ?_⟩
    show loopF _ _ _ (.tup [.int (done.length : Nat), .str z] :: enumL (done.length + 1) (rest.map Va.str)) _ M = _
    have hz : Nm z := hn z (by rw [e]; simp)
    have hni : z ∉ done := fun h => by
      rw [e] at hd
      have := (List.nodup_append.mp hd).2.2 z h z (by simp)
      exact this rfl
    have htk : (cols.map Va.str).take done.length = done.map Va.str := by rw [e, List.map_append, List.take_left' (by simp)]
    refine loop_nx (s1 := [some x, some (.int done.length), some (.str z)]) hck rfl ?_ e2
    have hs := sl_to la.at_ done.length
    rw [htk] at hs
    have hin := (LstAt.lst (M := M) (done.map Va.str)).in_ z
    simp [is_name hz, boundOf, hs, hin, hni]
theorem itEn_any {M : Store} {x : Va} {l : List Va} {e : SE} {s : SL} (la : LA M x l) (he : e s M = some (.val (.tup [x]), M)) : itEn e s M = some (.it (enumL 0 l) (fun M => lstOf M x = some l), M) := by
  unfold itEn
  rw [he]
  dsimp only
  rw [la.at_.lof]
theorem look_columns {M : Store} {x : Va} {cols : List Str} (la : LA M x (cols.map Va.str)) (hn : ∀ z ∈ cols, Nm z) (hd : cols.Nodup) : c_look_at_columns [x] M = some (.val .non, M) := by
  have hi := itEn_any (e := evCons (evVar 0) evNil) (s := [some x, none, none]) la rfl
  obtain ⟨s1', s2', e⟩ := cols_loop (chk := fun M => lstOf M x = some (cols.map Va.str)) la la.at_.lof hn hd cols [] none none rfl
  unfold c_look_at_columns runF m_look_at_columns
  rw [show startI 3 [x] = [some x, none, none] from rfl]
  rw [for_it (M1 := M) (chk := fun M => lstOf M x = some (cols.map Va.str)) (l := enumL 0 (cols.map Va.str)) hi e]
  rfl
theorem steps_look {M : Store} {x : Va} {chk : Store → Prop} {size : Int} {l : List (Str × Int × Int)} (la : LA M x (l.map stV)) (hck : chk M) (hs : Sts size l) : ∀ (rest done : List (Str × Int × Int)) (s2 s3 s4 s5 s6 : Option Va), l = done ++ rest →
    ∃ s2' s3' s4' s5' s6', loopF chk (tgTup [(tgName 2), (tgName 3)]) (sSeq (sAsg (evVar 3) (tgTup [(tgName 4), (tgName 5), (tgName 6)]))
    (sSeq (sIf (evNot (evTru (evL (kFn 1 c_is_name) (evCons (evVar 4) evNil)))) sNever sNx)
    (sSeq (sIf (evOr (evNot (evChain opLe opLt (evC (.int 0)) (evVar 5) (evVar 1))) (evNot (evChain opLe opLt (evC (.int 0)) (evVar 6) (evVar 1)))) sNever sNx)
    (sIf (ev2 opInD (evL kTup (evCons (evVar 4) (evCons (evVar 5) evNil))) (evLc (itA (evSl (evVar 0) (evC .non) (evB (evVar 2)))) (tgName 7) evYes (evSl (evVar 7) (evC .non) (evB (evC (.int 2)))) [7])) sNever sNx)))) (enumL done.length (rest.map stV)) [some x, some (.int size), s2, s3, s4, s5, s6, none] M = some (.nx, [some x, some (.int size), s2', s3', s4', s5', s6', none], M)
  | [], done, s2, s3, s4, s5, s6, _ => ⟨s2, s3, s4, s5, s6, loop_nil hck⟩
  | t :: rest, done, s2, s3, s4, s5, s6, e => by
    obtain ⟨s2', s3', s4', s5', s6', e2⟩ := steps_look la hck hs rest (done ++ [t]) (some (.int done.length)) (some (stV t)) (some (.str t.1)) (some (.int t.2.1)) (some (.int t.2.2)) (by rw [e]; simp)
    rw [List.length_append, List.length_cons, List.length_nil] at e2
    refine ⟨s2', s3', s4', s5', s6', ?_⟩
    show loopF _ _ _ (.tup [.int (done.length : Nat), stV t] :: enumL (done.length + 1) (rest.map stV)) _ M = _
    obtain ⟨hz, b1, b2, b3, b4⟩ := hs.ok t (by rw [e]; simp)
    have hni : hasP done t.1 t.2.1 = false := by
      cases q : hasP done t.1 t.2.1 with
      | false => rfl
      | true =>
        have hd := hs.nd
        rw [e, List.map_append] at hd
        exact absurd rfl ((List.nodup_append.mp hd).2.2 _ (hasP_iff.mp q) (t.1, t.2.1) (by simp))
    have htk : (l.map stV).take done.length = done.map stV := by rw [e, List.map_append, List.take_left' (by simp)]
    have hsl := sl_to la.at_ done.length
    rw [htk] at hsl
    have okd : ∀ t' ∈ done, PyData.strOk t'.1 = true := fun t' ht => (hs.ok t' (by rw [e]; simp [ht])).1.ok
    have hin := in_pairs (M := M) (i := t.2.1) okd hz.ok
    have cm := compL_map (M := M) (chk := fun _ => True) (tg := tgName 7) (tt := evYes) (te := evSl (evVar 7) (evC .non) (evB (evC (.int 2)))) (sw := [some x, some (.int size), some (.int done.length), some (stV t), some (.str t.1), some (.int t.2.1), some (.int t.2.2), none]) stV prV trivial done (fun t ht => ⟨_, rfl, rfl, by simp [boundOf, sl_pair]⟩)
    refine loop_nx (s1 := [some x, some (.int size), some (.int done.length), some (stV t), s4, s5, s6, none]) hck rfl (seq_nx (s1 := [some x, some (.int size), some (.int done.length), some (stV t), some (.str t.1), some (.int t.2.1), some (.int t.2.2), none]) (M1 := M) rfl ?_) e2
    simp [is_name hz, b1, b2, b3, b4, boundOf, hsl, cm, hin, hni]
theorem look_steps {M : Store} {x : Va} {size : Int} {l : List (Str × Int × Int)} (la : LA M x (l.map stV)) (hs : Sts size l) : c_look_at_steps [x, .int size] M = some (.val .non, M) := by
  obtain ⟨s2', s3', s4', s5', s6', e⟩ := steps_look (chk := fun M => lstOf M x = some (l.map stV)) la la.at_.lof hs l [] none none none none none rfl
  have hi := itEn_any (e := evCons (evVar 0) evNil) (s := [some x, some (.int size), none, none, none, none, none, none]) la rfl
  unfold c_look_at_steps runF m_look_at_steps
  rw [show startI 8 [x, Va.int size] = [some x, some (.int size), none, none, none, none, none, none] from rfl]
  rw [for_it (M1 := M) (chk := fun M => lstOf M x = some (l.map stV)) (l := enumL 0 (l.map stV)) hi e]
  rfl
/-- a dict, frozen or in a cell, that tells the row -/
def RowAny (M : Store) (cols : List Str) (row : List Int) (y : Va) : Prop := ∃ l, DA M y l ∧ Tells cols row l
theorem RowAny.kx {M M' : Store} {cols : List Str} {row : List Int} {y : Va} (h : RowAny M cols row y) (k : Kx [] M M') : RowAny M' cols row y := by
  obtain ⟨l, h1, h2⟩ := h
  exact ⟨l, h1.kx k, h2⟩
theorem factors_lc {M : Store} {x : Va} {cols : List Str} {s : SL} (la : LA M x (cols.map Va.str)) (chk : Store → Prop) (hk : chk M) (t : Nat) (ex : SE) (h0 : ∀ (v : Va) N, ex (s.set t (some v)) N = some (.val x, N)) (h7 : ∀ (v : Va) N, evVar t (s.set t (some v)) N = some (.val v, N)) : ∀ {rows : List (List Int)} {ds : List Va}, Al2 (RowAny M cols) rows ds →
    compL chk (tgName t) evYes (evL (kFn 2 c_factors_of) (evCons ex (evCons (evVar t) evNil))) s ds M = some (rows.map rowV, M)
  | _, _, .nil => by unfold compL; rw [if_pos hk]; rfl
  | _, _, .cons (a := r) (l := rows) (b := y) (m := ds) p tl => by
    obtain ⟨l, da, ht⟩ := p
    have ih := factors_lc la chk hk t ex h0 h7 tl
    unfold compL
    rw [if_pos hk, x_tgName]
    dsimp only
    rw [x_yes]
    dsimp only
    rw [x_L, x_cons, h0, bindO_val, x_cons, h7, bindO_val, x_nil, bindO_val, bindO_val, bindO_val]
    dsimp only
    rw [x_kFn, if_pos (show [x, y].length = 2 from rfl), factors la da ht]
    dsimp only
    rw [ih]; rfl
theorem DA.noLst {M : Store} {y : Va} {l : List (Key × Va)} (h : DA M y l) : lstOf M y = none := by
  have h1 := h.at_
  cases y <;> first | rfl | (cases h1; done) | skip
  rename_i n
  replace h1 : (match M.c n with | some (.dic l) => some l | _ => none) = some l := h1
  rw [y_lstC]
  cases q : M.c n with
  | none => rfl
  | some c =>
    rw [q] at h1
    cases c <;> first | rfl | (cases h1; done)
theorem LA.noDic {M : Store} {x : Va} {l : List Va} (h : LA M x l) : dicOf M x = none := by
  obtain ⟨h1, _⟩ := h
  cases h1 with
  | lst => rfl
  | cel h => show (match M.c _ with | some (.dic l) => some l | _ => none) = _; rw [h]
/-- a list of dicts is not [] -/
theorem eqX_states {M : Store} {x : Va} {cols : List Str} {rows : List (List Int)} {ds : List Va} (la : LA M x ds) (al : Al2 (RowAny M cols) rows ds) (hr : rows ≠ []) : opEqX M x (.lst []) = some (.bl false) := by
  cases al with
  | nil => exact absurd rfl hr
  | cons p t =>
    obtain ⟨l, da, _⟩ := p
    have no : eqP M x (.lst []) = none := by
      unfold eqP
      cases q : pdOf M x with
      | none => rfl
      | some d =>
        rw [pdOf_eq (.lst rfl .nil)]
        dsimp only
        have hp := pdOf_some q
        have hsh : SeqAt.shaped d = false := by
          cases hp with
          | lst h1 h2 =>
            rw [la.at_.lof] at h1
            cases h1
            cases h2 with
            | cons h3 h4 =>
              cases h3 with
              | lst h5 _ => rw [da.noLst] at h5; cases h5
              | dic h5 _ => simp [SeqAt.shaped, PyData.canLay0, PyData.canLayAll0]
              | _ => have := da.at_; cases this
          | dic h1 _ => rw [la.noDic] at h1; cases h1
          | _ => have := la.at_.lof; cases this
        rw [if_neg (by rw [hsh]; simp)]
    unfold opEqX
    have e1 : opEq M x (.lst []) = none := by
      unfold opEq
      rw [la.at_.eqS_nil, no]; rfl
    rw [e1]
    dsimp only
    rw [la.at_.lof, y_lstL]
    simp
theorem blsOf_false {α : Type} : ∀ (l : List α), blsOf (l.map fun _ => Va.bl false) = some (l.map fun _ => false)
  | [] => rfl
  | _ :: l => by simp [blsOf, blsOf_false l]
theorem any0 {α : Type} {M : Store} (l : List α) : gAny M [.lst (l.map fun _ => Va.bl false)] = some (.bl false) := by
  unfold gAny
  simp only [y_lstL, blsOf_false, Option.map_some]
  congr 2
  induction l with
  | nil => rfl
  | cons a l ih => simpa using ih
/-- the store while the rows are made -/
def Mk0 (M : Store) (ks : List Kd) : Store := (M.new (.lst [])).put M.nx (.lst (ks.map kdV))
theorem Mk0.kx {M : Store} {ks : List Kd} : Kx [] M (Mk0 M ks) := ⟨Nat.le_succ _, fun n h _ => (put_ne (Nat.ne_of_lt h)).trans (new_ne (Nat.ne_of_lt h))⟩
theorem Mk0.rc {M : Store} {ks : List Kd} : (Mk0 M ks).c M.nx = some (.lst (ks.map kdV)) := put_same
noncomputable abbrev krBody : SS := (sSeq (sIf (evNot (evTru (evL (kFn 1 c_is_name) (evCons (evVar 3) evNil)))) sNever sNx)
    (sSeq (sIf (ev2 opInD (evVar 3) (evLc (itA (evVar 2)) (tgName 8) evYes (ev2 opIx (evVar 8) (evC (.int 0))) [8])) sNever sNx)
    (sSeq (sIf (ev2 opEqX (evVar 4) (evL kLst evNil)) sNever sNx)
    (sSeq (sSet 6 (evLc (itA (evVar 4)) (tgName 7) evYes (evL (kFn 2 c_factors_of) (evCons (evVar 0) (evCons (evVar 7) evNil))) [7]))
    (sSeq (sIf (evTru (evL (kPure gAny) (evCons (evLc (itA (ev2 opIx (evVar 6) (evC (.int 0)))) (tgName 9) evYes (ev2 opNeX (evVar 9) (evC (.int 0))) [9]) evNil))) sNever sNx)
    (sSeq (sDrop (evL (kFn 2 c_look_at_steps) (evCons (evVar 5) (evCons (evL (kPure gLen) (evCons (evVar 4) evNil)) evNil))))
    (sDrop (evM2 isLstA (kMut cAppend) (evVar 2) (evCons (evL kTup (evCons (evVar 3) (evCons (evVar 6) (evCons (evL (kPure gList) (evCons (evVar 5) evNil)) evNil)))) evNil)))))))))
/-- a kind as it may be handed in: its lists and dicts frozen or in cells -/
def KindAny (M : Store) (cols : List Str) (k : Kd) (y : Va) : Prop := ∃ st sp ds, y = .tup [.str k.1, st, sp] ∧ LA M st ds ∧ Al2 (RowAny M cols) k.2.1 ds ∧ LA M sp (k.2.2.map stV)
theorem KindAny.kx {M M' : Store} {cols : List Str} {k : Kd} {y : Va} (h : KindAny M cols k y) (x : Kx [] M M') : KindAny M' cols k y := by
  obtain ⟨st, sp, ds, e, h1, h2, h3⟩ := h
  exact ⟨st, sp, ds, e, h1.kx x, Al2.imp (P := RowAny M cols) (fun _ _ q => q.kx x) h2, h3.kx x⟩
theorem kr_turn {M : Store} {x ky : Va} {F : Int} {cols : List Str} (la : LA M x (cols.map Va.str)) (k : Kd) (ok : KdOk cols.length F k) (done : List Kd) (hd : done.length ≤ 100) (hn : k.1 ∉ done.map (·.1)) (st sp : Va) (ds : List Va) (h5 : LA M st ds) (h6 : Al2 (RowAny M cols) k.2.1 ds) (h7 : LA M sp (k.2.2.map stV)) (s6 : Option Va) :
    krBody [some x, some ky, some (.cel M.nx), some (.str k.1), some st, some sp, s6, none, none, none] (Mk0 M done) = some (.nx, [some x, some ky, some (.cel M.nx), some (.str k.1), some st, some sp, some (.lst (k.2.1.map rowV)), none, none, none], Mk0 M (done ++ [k])) := by
  have kx := Mk0.kx (M := M) (ks := done)
  have c0 := la.kx kx
  have cs := h5.kx kx
  have ct := h7.kx kx
  have al : Al2 (RowAny (Mk0 M done) cols) k.2.1 ds := Al2.imp (P := RowAny M cols) (fun a y q => q.kx kx) h6
  have rc := Mk0.rc (M := M) (ks := done)
  obtain ⟨more, hst⟩ := ok.st
  have hne : k.2.1 ≠ [] := by rw [hst]; simp
  have cm1 := compL_map (M := Mk0 M done) (chk := fun N => lstOf N (.cel M.nx) = some (done.map kdV)) (tg := tgName 8) (tt := evYes) (te := ev2 opIx (evVar 8) (evC (.int 0))) (sw := [some x, some ky, some (.cel M.nx), some (.str k.1), some st, some sp, s6, none, none, none]) kdV (fun q => Va.str q.1) (LstAt.cel rc).lof done (fun q _ => ⟨_, rfl, rfl, by simp [kdV]⟩)
  simp only [y_lstC] at cm1
  have em : (done.map fun q => Va.str q.1) = (done.map (·.1)).map Va.str := by rw [List.map_map]; rfl
  have hin := (LstAt.lst (M := Mk0 M done) ((done.map (·.1)).map Va.str)).in_ k.1
  obtain ⟨chk, ha, hck, _⟩ := cs.any
  have cm2 := factors_lc (M := Mk0 M done) c0 chk hck 7 (evVar 0) (s := [some x, some ky, some (.cel M.nx), some (.str k.1), some st, some sp, s6, none, none, none]) (fun _ _ => rfl) (fun _ _ => rfl) al
  have cm3 := compL_map (M := Mk0 M done) (chk := fun _ => True) (tg := tgName 9) (tt := evYes) (te := ev2 opNeX (evVar 9) (evC (.int 0))) (sw := [some x, some ky, some (.cel M.nx), some (.str k.1), some st, some sp, some (.lst (k.2.1.map rowV)), none, none, none]) Va.int (fun _ => Va.bl false) trivial (List.replicate cols.length 0) (fun n hn => by
    rw [List.eq_of_mem_replicate hn]
    exact ⟨_, rfl, rfl, rfl⟩)
  have hix : atI (k.2.1.map rowV) 0 = some (rowV (List.replicate cols.length 0)) := by rw [hst]; exact at_0
  have hlen : gLen (Mk0 M done) [st] = some (.int k.2.1.length) := by rw [cs.at_.len, al.len]
  have hls := look_steps ct ok.sts
  have hgl : gList (Mk0 M done) [sp] = some (.lst (k.2.2.map stV)) := by
    show (seqOf _ sp).map Va.lst = _
    rw [ct.at_.seq]; rfl
  have hdl : done.length < 16777216 := by omega
  refine seq_nx (M1 := Mk0 M done) (s1 := [some x, some ky, some (.cel M.nx), some (.str k.1), some st, some sp, s6, none, none, none]) (by simp [is_name ok.nm]) ?_
  refine seq_nx (M1 := Mk0 M done) (s1 := [some x, some ky, some (.cel M.nx), some (.str k.1), some st, some sp, s6, none, none, none]) (by
    rw [x_sIf, x_2, show evVar 3 [some x, some ky, some (.cel M.nx), some (.str k.1), some st, some sp, s6, none, none, none] (Mk0 M done) = some (.val (.str k.1), Mk0 M done) from rfl, bindO_val]
    simp only [z_lc, z_itA, show evVar 2 [some x, some ky, some (.cel M.nx), some (.str k.1), some st, some sp, s6, none, none, none] (Mk0 M done) = some (.val (.cel M.nx), Mk0 M done) from rfl, z_anyC, rc, z_wipeS, z_wipe0, List.set, y_lstC]
    rw [cm1]
    dsimp only
    rw [bindO_val, em, hin]
    simp [hn]) ?_
  refine seq_nx (M1 := Mk0 M done) (s1 := [some x, some ky, some (.cel M.nx), some (.str k.1), some st, some sp, s6, none, none, none]) (by simp [eqX_states cs al hne]) ?_
  refine seq_nx (M1 := Mk0 M done) (s1 := [some x, some ky, some (.cel M.nx), some (.str k.1), some st, some sp, some (.lst (k.2.1.map rowV)), none, none, none]) (set_val (v := .lst (k.2.1.map rowV)) (by
    rw [z_lc, z_itA, show evVar 4 [some x, some ky, some (.cel M.nx), some (.str k.1), some st, some sp, s6, none, none, none] (Mk0 M done) = some (.val st, Mk0 M done) from rfl, ha]
    simp only [z_wipeS, z_wipe0, List.set]
    rw [cm2])) ?_
  refine seq_nx (M1 := Mk0 M done) (s1 := [some x, some ky, some (.cel M.nx), some (.str k.1), some st, some sp, some (.lst (k.2.1.map rowV)), none, none, none]) (by
    have he : ev2 opIx (evVar 6) (evC (.int 0)) [some x, some ky, some (.cel M.nx), some (.str k.1), some st, some sp, some (.lst (k.2.1.map rowV)), none, none, none] (Mk0 M done) = some (.val (rowV (List.replicate cols.length 0)), Mk0 M done) := by simp [hix]
    rw [x_sIf, x_tru, x_L, x_cons, z_lc, z_itA, he]
    simp only [rowV, z_anyL, z_wipeS, z_wipe0, List.set]
    rw [cm3]
    dsimp only
    rw [bindO_val, x_nil, bindO_val, bindO_val]
    dsimp only
    rw [x_kPure, any0]
    rfl) ?_
  refine seq_nx (M1 := Mk0 M done) (s1 := [some x, some ky, some (.cel M.nx), some (.str k.1), some st, some sp, some (.lst (k.2.1.map rowV)), none, none, none]) (drop_val (v := .non) (by simp [hlen, hls])) ?_
  refine drop_val (v := .non) ?_
  simp [isLstA, rc, hgl, cAppend, hdl]
  simp [Mk0, kdV]
theorem kr_loop {M : Store} {x ky : Va} {F : Int} {cols : List Str} (la : LA M x (cols.map Va.str)) {chk : Store → Prop} (hchk : ∀ N, Kx [] M N → chk N) : ∀ (ks : List Kd) (zs : List Va) (done : List Kd) (s3 s4 s5 s6 : Option Va), Al2 (KindAny M cols) ks zs → (∀ k ∈ ks, KdOk cols.length F k) → ((done ++ ks).map (·.1)).Nodup → done.length + ks.length ≤ 100 →
    ∃ s3' s4' s5' s6', loopF chk (tgTup [(tgName 3), (tgName 4), (tgName 5)]) krBody zs [some x, some ky, some (.cel M.nx), s3, s4, s5, s6, none, none, none] (Mk0 M done) = some (.nx, [some x, some ky, some (.cel M.nx), s3', s4', s5', s6', none, none, none], Mk0 M (done ++ ks)) := by
  intro ks
  induction ks with
  | nil =>
    intro zs done s3 s4 s5 s6 al _ _ _
    cases al
    exact ⟨s3, s4, s5, s6, by
      rw [List.append_nil]
      exact loop_nil (hchk _ Mk0.kx)⟩
  | cons k ks ih =>
    intro zs done s3 s4 s5 s6 al ok nd hl
    cases al with
    | cons p t =>
      obtain ⟨st, sp, ds, rfl, h5, h6, h7⟩ := p
      rw [List.length_cons] at hl
      have hn : k.1 ∉ done.map (·.1) := fun h => by
        rw [List.map_append] at nd
        exact absurd rfl ((List.nodup_append.mp nd).2.2 _ h k.1 (by simp))
      have e1 := kr_turn (ky := ky) la k (ok k (by simp)) done (by omega) hn st sp ds h5 h6 h7 s6
      obtain ⟨s3', s4', s5', s6', e2⟩ := ih _ (done ++ [k]) (some (.str k.1)) (some st) (some sp) (some (.lst (k.2.1.map rowV))) t (fun q hq => ok q (by simp [hq])) (by rw [List.append_assoc]; exact nd) (by simp; omega)
      rw [List.append_assoc] at e2
      exact ⟨s3', s4', s5', s6', loop_nx (hchk _ Mk0.kx) rfl e1 e2⟩
theorem kind_rows {M : Store} {x ky : Va} {F : Int} {cols : List Str} {ks : List Kd} {ys : List Va} (la : LA M x (cols.map Va.str)) (lk : LA M ky ys) (al : Al2 (KindAny M cols) ks ys) (ok : ∀ k ∈ ks, KdOk cols.length F k) (nd : (ks.map (·.1)).Nodup) (hl : ks.length ≤ 100) :
    c_kind_rows_of [x, ky] M = some (.val (.lst (ks.map kdV)), (Mk0 M ks).del M.nx) := by
  have h0 : Mk0 M [] = M.new (.lst []) := by
    unfold Mk0 Store.put Store.new
    congr 1
    funext m
    by_cases h : m = M.nx <;> simp [h]
  obtain ⟨chk, hall⟩ := lk.all
  have ha := (hall _ (Mk0.kx (M := M) (ks := []))).1
  obtain ⟨s3', s4', s5', s6', e⟩ := kr_loop (ky := ky) (chk := chk) la (fun N k => (hall N k).2) ks ys [] none none none none al ok (by simpa using nd) (by simpa using hl)
  rw [h0, List.nil_append] at e
  rw [h0] at ha
  unfold c_kind_rows_of runF
  refine end_ret (s1 := [some x, some ky, some (.cel M.nx), s3', s4', s5', s6', none, none, none]) ?_
  unfold m_kind_rows_of
  refine seq_nx (set_val list0_new) (seq_nx (for_it (chk := chk) (M1 := M.new (.lst [])) (l := ys) ?_ e) (ret_val ?_))
  · show itA _ [some x, some ky, some (.cel M.nx), none, none, none, none, none, none, none] _ = _
    rw [z_itA, show evVar 1 [some x, some ky, some (.cel M.nx), none, none, none, none, none, none, none] (M.new (.lst [])) = some (.val ky, M.new (.lst [])) from rfl, ha]
  · exact frz_now rfl Mk0.rc
end Lw

set_option Elab.async false
set_option linter.all false
set_option maxRecDepth 100000
set_option maxHeartbeats 4000000
set_option exponentiation.threshold 3000
namespace Lw
open PySem L2 PV
/-- the fields of a plan with these data -/
def planF (D : Dat) : List (Str × Va) := [("column_names", .lst (D.cols.map Va.str)), ("kind_rows", .lst (D.kinds.map kdV)), ("check_rows", .lst (D.checks.map rowV))]
theorem fld_step {e eo : SE} {c : Nat} {f : Str} {s : SL} {M M1 : Store} {v : Va} {n : Nat} {l : List (Str × Va)} (h : e s M = some (.val v, M1)) (ho : eo s M1 = some (.val (.cel n), M1)) (hc : M1.c n = some (.ins c l)) (hl : l.length < 1000) : sFldS e eo (cSetF c f) s M = some (.nx, s, M1.put n (.ins c (putA f v l))) := by
  unfold sFldS sE
  rw [h]
  dsimp only
  rw [ho]
  dsimp only
  unfold cSetF
  dsimp only
  rw [hc]
  dsimp only
  rw [if_pos ⟨rfl, hl⟩]
theorem putA_len (f : Str) (v : Va) : ∀ l : List (Str × Va), (putA f v l).length ≤ l.length + 1
  | [] => by simp [putA]
  | (g, u) :: r => by
    have := putA_len f v r
    unfold putA
    split
    · simp
    · rw [List.length_cons, List.length_cons]; omega
/-- what is handed to the class, in any form -/
structure Passed (M : Store) (D : Dat) (x y z : Va) : Prop where
  c : LA M x (D.cols.map Va.str)
  k : ∃ ys, LA M y ys ∧ Al2 (KindAny M D.cols) D.kinds ys
  h : ∃ zs, LA M z zs ∧ Al2 (RowAny M D.cols) D.checks zs
theorem Passed.kx {M M' : Store} {D : Dat} {x y z : Va} (h : Passed M D x y z) (k : Kx [] M M') : Passed M' D x y z := by
  obtain ⟨ys, k1, k2⟩ := h.k
  obtain ⟨zs, h1, h2⟩ := h.h
  exact ⟨h.c.kx k, ⟨ys, k1.kx k, Al2.imp (P := KindAny M D.cols) (fun _ _ q => q.kx k) k2⟩, ⟨zs, h1.kx k, Al2.imp (P := RowAny M D.cols) (fun _ _ q => q.kx k) h2⟩⟩
theorem make_any {M : Store} {x y z : Va} {D : Dat} {F : Int} (ok : D.Ok F) (H : Passed M D x y z) : ∃ M', kMake 0 3 c_Plan___init__ [x, y, z] M = some (.val (.cel M.nx), M') ∧ M'.c M.nx = some (.ins 0 (planF D)) ∧ Kx [] M M' ∧ M.nx < M'.nx := by
  let p := M.nx
  let M1 := M.new (.ins 0 [])
  have x1 : Kx [] M M1 := Kx.new
  have H1 := H.kx x1
  have p1 : M1.c p = some (.ins 0 []) := new_same
  let M2 := M1.put p (.ins 0 (putA "column_names" (.lst (D.cols.map Va.str)) []))
  have x2 : Kx [] M M2 := ⟨Nat.le_succ _, fun n h _ => (put_ne (Nat.ne_of_lt h)).trans (new_ne (Nat.ne_of_lt h))⟩
  have H2 := H.kx x2
  obtain ⟨ys, k1, k2⟩ := H2.k
  have kr := kind_rows (M := M2) (x := x) (ky := y) (F := F) H2.c k1 k2 ok.kd ok.kn (by have := ok.kl; omega)
  let M3 := (Mk0 M2 D.kinds).del M2.nx
  have x23 : Kx [] M2 M3 := ⟨Nat.le_succ _, fun n h h' => (PV.del_ne (Nat.ne_of_lt h)).trans (Mk0.kx.kp n h h')⟩
  have pl : p < M2.nx := Nat.lt_succ_self _
  have p3 : M3.c p = some (.ins 0 (putA "column_names" (.lst (D.cols.map Va.str)) [])) := x23.get pl (by simp) put_same
  let M4 := M3.put p (.ins 0 (putA "kind_rows" (.lst (D.kinds.map kdV)) (putA "column_names" (.lst (D.cols.map Va.str)) [])))
  have x4 : Kx [] M M4 := ⟨Nat.le_trans x2.nx x23.nx, fun n h h' => (put_ne (Nat.ne_of_lt h)).trans ((x23.kp n (Nat.lt_of_lt_of_le h x2.nx) h').trans (x2.kp n h h'))⟩
  have H4 := H.kx x4
  obtain ⟨zs, h41, h42⟩ := H4.h
  obtain ⟨chk, ha, hck, _⟩ := h41.any
  have lcx := factors_lc (M := M4) H4.c chk hck 4 (evVar 1) (s := [some (.cel p), some x, some y, some z, none]) (fun _ _ => rfl) (fun _ _ => rfl) h42
  let M5 := M4.put p (.ins 0 (putA "check_rows" (.lst (D.checks.map rowV)) (putA "kind_rows" (.lst (D.kinds.map kdV)) (putA "column_names" (.lst (D.cols.map Va.str)) []))))
  refine ⟨M5, ?_, put_same, ⟨x4.nx, fun n h h' => (put_ne (Nat.ne_of_lt h)).trans (x4.kp n h h')⟩, Nat.lt_of_lt_of_le pl x23.nx⟩
  have run : c_Plan___init__ [.cel M.nx, x, y, z] M1 = some (.val .non, M5) := by
    unfold c_Plan___init__ runF m_Plan___init__
    rw [show startI 5 [Va.cel M.nx, x, y, z] = [some (.cel p), some x, some y, some z, none] from rfl]
    rw [seq_nx (M1 := M1) (s1 := [some (.cel p), some x, some y, some z, none]) (r := some (.nx, [some (.cel p), some x, some y, some z, none], M5)) (drop_val (v := .non) ?_) (seq_nx (M1 := M2) (fld_step (M1 := M1) (v := .lst (D.cols.map Va.str)) ?_ rfl p1 (by decide)) (seq_nx (M1 := M4) (fld_step (M1 := M3) (v := .lst (D.kinds.map kdV)) ?_ rfl p3 (by have := putA_len "column_names" (.lst (D.cols.map Va.str)) []; simp at this; omega)) (fld_step (M1 := M4) (v := .lst (D.checks.map rowV)) ?_ rfl put_same (by have := putA_len "column_names" (.lst (D.cols.map Va.str)) []; have := putA_len "kind_rows" (.lst (D.kinds.map kdV)) (putA "column_names" (.lst (D.cols.map Va.str)) []); simp at *; omega))))]
    · rfl
    · simp [look_columns H1.c ok.cn ok.cd]
    · have : gList M1 [x] = some (.lst (D.cols.map Va.str)) := by
        show (seqOf M1 x).map Va.lst = _
        rw [H1.c.at_.seq]; rfl
      simp [this]
    · rw [x_L, x_cons, show evVar 1 [some (.cel p), some x, some y, some z, none] M2 = some (.val x, M2) from rfl, bindO_val, x_cons, show evVar 2 [some (.cel p), some x, some y, some z, none] M2 = some (.val y, M2) from rfl, bindO_val, x_nil, bindO_val, bindO_val, bindO_val]
      dsimp only
      rw [x_kFn, if_pos (show [x, y].length = 2 from rfl), kr]
    · rw [z_lc, z_itA, show evVar 3 [some (.cel p), some x, some y, some z, none] M4 = some (.val z, M4) from rfl, ha]
      simp only [z_wipeS, z_wipe0, List.set]
      rw [lcx]
  unfold kMake
  rw [if_pos (show [x, y, z].length = 3 from rfl), run]
end Lw

set_option Elab.async false
set_option linter.all false
set_option maxRecDepth 100000
set_option maxHeartbeats 4000000
set_option exponentiation.threshold 3000
local macro_rules | `(tactic| tm_at "ne") => `(tactic| first | assumption | exact Ne.symm (by assumption) | omega | (simp only [PV.put_nx, PV.new_nx, PV.del_nx]; omega) | (simp only [List.mem_cons, List.not_mem_nil, or_false, not_or]; omega))
local macro_rules | `(tactic| tm_at "lt") => `(tactic| first | assumption | omega | (simp only [PV.put_nx, PV.new_nx, PV.del_nx]; omega))
local macro_rules | `(tactic| tm_at "st") => `(tactic| first
  | assumption
  | exact PV.put_same
  | exact PV.new_same
  | ((refine' Eq.trans (PV.put_ne ?e1) ?e2); (case e1 => tm_at "ne"); (case e2 => tm_at "st"))
  | ((refine' Eq.trans (PV.new_ne ?e1) ?e2); (case e1 => tm_at "ne"); (case e2 => tm_at "st"))
  | ((refine' Eq.trans (PV.del_ne ?e1) ?e2); (case e1 => tm_at "ne"); (case e2 => tm_at "st"))
  | ((refine' Eq.trans (Lw.Kx.kp ?k _ ?e1 ?e2) ?e3); (case k => assumption); (case e1 => tm_at "lt"); (case e2 => tm_at "ne"); (case e3 => tm_at "st"))
  | tm_at "stx")
local macro_rules | `(tactic| tm_at "kx") => `(tactic| first
  | exact Lw.Kx.refl
  | assumption
  | ((refine' Lw.Kx.trans' ?k ?e); (case k => assumption); (case e => tm_at "kx"))
  | ((refine' Lw.Kx.nil ?k ?e); (case k => assumption); (case e => tm_at "kx"))
  | ((refine' Lw.Kx.putN ?e ?h); (case e => tm_at "kx"); (case h => tm_at "lt"))
  | ((refine' Lw.Kx.putW ?e ?h); (case e => tm_at "kx"); (case h => tm_at "mem"))
  | ((refine' Lw.Kx.newN ?e); (case e => tm_at "kx"))
  | ((refine' Lw.Kx.delN ?e ?h); (case e => tm_at "kx"); (case h => tm_at "lt"))
  | ((refine' Lw.Kx.sub ?k ?e ?h); (case k => assumption); (case e => tm_at "kx"); (case h => tm_at "sub")))
local macro_rules | `(tactic| tm_at "mem") => `(tactic| (simp only [List.mem_cons, List.not_mem_nil, or_false, true_or, or_true]; done))
local macro_rules | `(tactic| tm_at "sub") => `(tactic| (intro n hn hl; simp only [PV.put_nx, PV.new_nx, PV.del_nx, List.mem_cons, List.not_mem_nil, or_false] at hn hl ⊢; omega))
local macro_rules | `(tactic| tm_at "num") => `(tactic| first | omega | (simp only [List.length_append, List.length_cons, List.length_nil, List.length_map, List.length_range]; omega))
local macro_rules | `(tactic| tm_at "op") => `(tactic| first
  | with_reducible exact PV.y_add | with_reducible exact PV.y_sub | with_reducible exact PV.y_lt | with_reducible exact PV.y_le | with_reducible exact PV.y_gt | with_reducible exact PV.y_ge
  | with_reducible exact PV.y_eqI | with_reducible exact PV.y_neI | with_reducible exact PV.y_eqS | with_reducible exact PV.y_neS | with_reducible exact PV.y_isN | with_reducible exact PV.y_notN
  | with_reducible exact PV.y_lenL | with_reducible exact PV.y_lenT | with_reducible exact PV.y_int | with_reducible exact PV.y_intB
  | ((with_reducible apply PV.y_mulL) <;> omega) | ((with_reducible apply PV.y_mulR) <;> omega)
  | ((with_reducible apply PV.y_mod) <;> omega) | ((with_reducible apply PV.y_div) <;> omega)
  | ((with_reducible apply PV.y_addS) <;> tm_at "num")
  | ((with_reducible apply PV.y_lenS) <;> tm_at "num")
  | ((with_reducible refine' PV.len_cel ?e); (case e => tm_at "st"))
  | with_reducible exact PV.at_0 | with_reducible exact PV.at_1 | with_reducible exact PV.at_2
  | with_reducible exact PV.at_3 | with_reducible exact PV.at_4
  | ((with_reducible apply PV.at_map) <;> tm_at "num")
  | ((with_reducible refine' PV.ix_lst ?e); (case e => tm_at "op"))
  | ((with_reducible refine' PV.ix_tup ?e); (case e => tm_at "op"))
  | ((with_reducible refine' PV.ix_cel ?e1 ?e2); (case e1 => tm_at "st"); (case e2 => tm_at "op"))
  | ((with_reducible refine' PV.fld_get ?e ?h); (case e => tm_at "st"); (case h => exact rfl))
  | tm_at "opx"
  | exact rfl)
local macro_rules | `(tactic| tm_at "ty") => `(tactic| first | exact rfl | ((refine' PV.lst_ty ?e); (case e => tm_at "st")) | ((refine' PV.dic_ty ?e); (case e => tm_at "st")))
local macro_rules | `(tactic| tm_at "mut") => `(tactic| first | ((apply PV.app_ok) <;> tm_at "num") | exact PV.pop0 | exact rfl)
local macro_rules | `(tactic| tm_at "set") => `(tactic| first | ((with_reducible refine' PV.set_c0 ?e); (case e => tm_at "st")) | ((with_reducible refine' PV.set_c1 ?e); (case e => tm_at "st")) | ((with_reducible refine' PV.set_c2 ?e); (case e => tm_at "st")) | ((with_reducible refine' PV.set_c3 ?e); (case e => tm_at "st")) | ((with_reducible refine' PV.set_c4 ?e); (case e => tm_at "st")) | ((with_reducible refine' PV.set_c5 ?e); (case e => tm_at "st")) | ((refine' PV.set_at ?e rfl); (case e => tm_at "st")) | ((refine' PV.set_key ?e rfl ?h); (case e => tm_at "st"); (case h => tm_at "num")) | ((refine' PV.fld_set ?e ?h); (case e => tm_at "st"); (case h => (first | decide | exact Nat.le_of_ble_eq_true rfl))) | tm_at "setx" | exact rfl)
local macro_rules | `(tactic| tm_at "tru") => `(tactic| first | exact PV.tru_bl | exact rfl)
local macro_rules | `(tactic| tm_at "1") => `(tactic| first | with_reducible refine' PV.S_seq ?_ | tm_at "1n")
local macro_rules | `(tactic| tm_at "v") => `(tactic| repeat tm_at "1n")
local macro_rules | `(tactic| tm_at "s") => `(tactic| (refine PV.S_seq ?_; tm_at "v"))
local macro_rules | `(tactic| tm_at "1n") => `(tactic| first
  | with_reducible refine' PV.onV_v ?_
  | with_reducible refine' PV.onS_v ?_
  | with_reducible refine' PV.seqK_nx ?_
  | ((with_reducible refine' PV.W_var ?e ?_); (case e => exact rfl))
  | with_reducible refine' PV.W_c ?_
  | with_reducible refine' PV.W_2 ?_
  | with_reducible refine' PV.W_L ?_
  | with_reducible refine' PV.W_cons ?_
  | with_reducible refine' PV.W_nil ?_
  | with_reducible refine' PV.consK_tup ?_
  | with_reducible refine' PV.argK_tup ?_
  | with_reducible refine' PV.W_fn rfl ?_
  | with_reducible refine' PV.W_pure ?_
  | ((with_reducible refine' PV.WO_eq ?e ?_); (case e => tm_at "op"))
  | with_reducible refine' PV.S_set ?_
  | with_reducible refine' PV.S_ret ?_
  | with_reducible refine' PV.S_if ?_
  | with_reducible refine' PV.S_nx ?_
  | with_reducible refine' PV.S_drop ?_
  | with_reducible refine' PV.endK_ret ?_
  | with_reducible refine' PV.seqK_ret ?_
  | with_reducible refine' PV.turnK_nx ?_
  | with_reducible refine' PV.turnK_ret ?_
  | with_reducible refine' PV.ifK_t ?_
  | with_reducible refine' PV.ifK_f ?_
  | with_reducible refine' PV.W_1 ?_
  | with_reducible refine' PV.W_M2 ?_
  | ((with_reducible refine' PV.tyK_mk ?e ?_); (case e => tm_at "ty"))
  | with_reducible refine' PV.argK2_tup ?_
  | with_reducible refine' PV.W_val ?_
  | with_reducible refine' PV.W_mut ?_
  | ((with_reducible refine' PV.mutK_eq ?e1 ?e2 ?_); (case e1 => tm_at "st"); (case e2 => tm_at "mut"))
  | ((with_reducible refine' PV.W_tup ?e ?_); (case e => exact PV.len_ok rfl))
  | ((with_reducible refine' PV.W_lst ?e ?_); (case e => exact PV.len_ok rfl))
  | ((with_reducible refine' PV.W_new ?e ?_); (case e => exact PV.len_ok rfl))
  | with_reducible refine' PV.W_if ?_
  | with_reducible refine' PV.W_and ?_
  | with_reducible refine' PV.W_or ?_
  | with_reducible refine' PV.W_not ?_
  | with_reducible refine' PV.notK_bl ?_
  | with_reducible refine' PV.andK_t ?_
  | with_reducible refine' PV.andK_f ?_
  | with_reducible refine' PV.orK_t ?_
  | with_reducible refine' PV.orK_f ?_
  | with_reducible refine' PV.ifE_t ?_
  | with_reducible refine' PV.ifE_f ?_
  | ((with_reducible refine' PV.andK_pure ?e ?_); (case e => (intro _; tm_at "w"; done)))
  | ((with_reducible refine' PV.orK_pure ?e ?_); (case e => (intro _; tm_at "w"; done)))
  | exact PV.isV_mk
  | with_reducible refine' PV.W_tru ?_
  | ((with_reducible refine' PV.truK_eq ?e ?_); (case e => tm_at "tru"))
  | with_reducible refine' PV.W_chain ?_
  | ((with_reducible refine' PV.chK_mk ?e1 ?e2 ?_); (case e1 => (tm_at "w"; done)); (case e2 => tm_at "op"))
  | with_reducible refine' PV.W_sl ?_
  | with_reducible refine' PV.slK_mk rfl rfl ?_
  | with_reducible refine' PV.W_B ?_
  | with_reducible refine' PV.bK_int ?_
  | with_reducible refine' PV.W_frz ?_
  | ((with_reducible refine' PV.W_gho ?e1 ?e2 ?_); (case e1 => exact rfl); (case e2 => tm_at "st"))
  | ((with_reducible refine' PV.frzK_l ?e ?_); (case e => tm_at "st"))
  | ((with_reducible refine' PV.frzK_d ?e ?_); (case e => tm_at "st"))
  | ((with_reducible refine' PV.frzK_v ?e ?_); (case e => exact rfl))
  | with_reducible refine' PV.W_yes ?_
  | with_reducible refine' PV.W_lc ?_
  | with_reducible refine' PV.W_lcC ?_
  | with_reducible refine' PV.W_dc ?_
  | with_reducible refine' PV.W_lc2 ?_
  | with_reducible refine' PV.onJ_i ?_
  | with_reducible refine' PV.S_for ?_
  | with_reducible refine' PV.onI_i ?_
  | with_reducible refine' PV.I_A ?_
  | with_reducible refine' PV.anyL ?_
  | with_reducible refine' PV.anyT ?_
  | ((with_reducible refine' PV.anyC ?e ?_); (case e => tm_at "st"))
  | ((with_reducible refine' PV.anyS ?e ?_); (case e => first | decide | omega))
  | with_reducible refine' PV.I_R1' ?_
  | ((with_reducible refine' PV.rngW ?e1 ?e2 ?_); (case e1 => tm_at "num"); (case e2 => tm_at "num"))
  | with_reducible refine' PV.S_asg ?_
  | ((with_reducible refine' PV.tgK_eq ?e ?_); (case e => exact rfl))
  | with_reducible refine' PV.S_sub ?_
  | ((with_reducible refine' PV.WM_eq ?e ?_); (case e => tm_at "set"))
  | with_reducible refine' PV.S_fld ?_
  | with_reducible refine' PV.W_dnew ?_
  | with_reducible refine' PV.W_dnewF ?_
  | with_reducible refine' PV.W_prop ?_
  | ((with_reducible refine' PV.W_propI ?e ?_); (case e => tm_at "st"))
  | with_reducible refine' PV.W_meth ?_
  | with_reducible refine' PV.W_methA rfl ?_
  | with_reducible refine' PV.W_clear ?_
  | ((with_reducible refine' PV.W_clearL ?e ?_); (case e => tm_at "st"))
  | ((with_reducible refine' PV.W_clearD ?e ?_); (case e => tm_at "st"))
  | with_reducible refine' PV.S_retN ?_
  | with_reducible refine' PV.S_bk ?_
  | with_reducible refine' PV.S_ct ?_
  | with_reducible refine' PV.S_raise ?_
  | with_reducible refine' PV.endK_nx ?_
  | with_reducible refine' PV.endK_x ?_
  | with_reducible refine' PV.onV_x ?_
  | with_reducible refine' PV.onS_x ?_
  | with_reducible refine' PV.onI_x ?_
  | with_reducible refine' PV.onJ_x ?_
  | with_reducible refine' PV.seqK_x ?_
  | with_reducible refine' PV.seqK_bk ?_
  | with_reducible refine' PV.seqK_ct ?_
  | with_reducible refine' PV.turnK_ct ?_
  | with_reducible refine' PV.turnK_bk ?_
  | with_reducible refine' PV.turnK_x ?_
  | with_reducible refine' PV.W_run ?_
  | ((with_reducible refine' PV.S_aug ?e ?_); (case e => exact rfl))
  | ((with_reducible refine' PV.augK_eq ?e ?_); (case e => exact rfl))
  | with_reducible refine' PV.cutK_nx ?_
  | with_reducible refine' PV.cutK_ret ?_
  | with_reducible refine' PV.cutK_bk ?_
  | with_reducible refine' PV.cutK_ct ?_
  | with_reducible refine' PV.cutK_x ?_
  | ((with_reducible refine' PV.W_ext ?e1 ?e2 ?e3 ?_); (case e1 => tm_at "st"); (case e2 => tm_at "own"); (case e3 => tm_at "num"))
  | tm_at "1x")
local macro_rules | `(tactic| tm_at "own") => `(tactic| first | exact PV.y_ownL | ((refine' PV.own_cel ?e); (case e => tm_at "st")))
local macro_rules | `(tactic| tm_at "w") => `(tactic| repeat tm_at "1")
local macro_rules | `(tactic| tm_at "if") => `(tactic| first | with_reducible refine' PV.ifK_d ?_ ?_ | with_reducible refine' PV.ifK_n ?_ ?_ | with_reducible refine' PV.ifK_b ?_ ?_ | with_reducible refine' PV.ifE_d ?_ ?_ | with_reducible refine' PV.ifE_n ?_ ?_ | with_reducible refine' PV.ifE_b ?_ ?_ | with_reducible refine' PV.andK_d ?_ ?_ | with_reducible refine' PV.andK_n ?_ ?_ | with_reducible refine' PV.andK_b ?_ ?_ | with_reducible refine' PV.orK_d ?_ ?_ | with_reducible refine' PV.orK_n ?_ ?_ | with_reducible refine' PV.orK_b ?_ ?_)
local macro_rules | `(tactic| tm_at "pure") => `(tactic| first | with_reducible refine' PV.andK_pure (fun _ => ?_) ?_ | with_reducible refine' PV.orK_pure (fun _ => ?_) ?_ | with_reducible refine' PV.ifE_pure (fun _ => ?_) (fun _ => ?_) ?_)
section
namespace Lw
open PySem L2 PV
/-! ### the source of numbers -/
structure Src (M : Store) (w g : Nat) : Prop where
  ne : w ≠ g
  lw : w < M.nx
  lg : g < M.nx
  at_ : ∃ (gr sm : List Int) (d m k : Int), M.c w = some (.lst [.cel g, .lst (sm.map Va.int), .int d, .int m, .int k]) ∧ M.c g = some (.lst (gr.map Va.int)) ∧ (∀ x ∈ gr, 0 < x) ∧ 0 ≤ d ∧ 0 ≤ m ∧ m < 2 ^ 61 ∧ 0 ≤ k ∧ sm.length ≤ 63
theorem Src.kx {M M' : Store} {w g : Nat} {S : List Nat} (h : Src M w g) (k : Kx S M M') (hw : w ∉ S) (hg : g ∉ S) : Src M' w g := by
  obtain ⟨h1, h2, h3, gr, sm, d, m, q, e1, e2, r⟩ := h
  have n := k.nx
  exact ⟨h1, by omega, by omega, gr, sm, d, m, q, k.get h2 hw e1, k.get h3 hg e2, r⟩
theorem Src.put {M : Store} {w g n : Nat} {x : Cell} (h : Src M w g) (h1 : n ≠ w) (h2 : n ≠ g) : Src (M.put n x) w g := h.kx (S := [n]) (.put (by simp)) (by simpa using h1.symm) (by simpa using h2.symm)
theorem Src.new {M : Store} {w g : Nat} {x : Cell} (h : Src M w g) : Src (M.new x) w g := h.kx (S := []) .new (by simp) (by simp)
theorem Src.del {M : Store} {w g n : Nat} (h : Src M w g) (h1 : n ≠ w) (h2 : n ≠ g) : Src (M.del n) w g := h.kx (S := [n]) (.del (by simp)) (by simpa using h1.symm) (by simpa using h2.symm)
theorem draw {M : Store} {w g : Nat} (h : Src M w g) (n : Int) (h0 : 0 < n) (h1 : n < 2 ^ 200) : ∃ r M', c__law_draw [.cel w, .int n] M = some (.val (.int r), M') ∧ 0 ≤ r ∧ r < n ∧ Src M' w g ∧ Kx [w, g] M M' ∧ M.nx ≤ M'.nx := by
  suffices hW : W (c__law_draw [.cel w, .int n] M) (fun o M' => ∃ r, o = .val (.int r) ∧ 0 ≤ r ∧ r < n ∧ Src M' w g ∧ Kx [w, g] M M') by
    obtain ⟨_, M', e, r, rfl, a, b, c, d⟩ := hW
    exact ⟨r, M', e, a, b, c, d, d.nx⟩
  obtain ⟨ne, lw, lg, gr, sm, d, m, k, c1, c2, p1, p2, p3, p4, p5, p6⟩ := h
  unfold c__law_draw m__law_draw
  refine W_run (S_cut (fun s M' => s = [some (.cel w), some (.int n), none, none, none] ∧ Kx [w, g] M M' ∧ ∃ (gr : List Int) (d : Int), M'.c w = some (.lst [.cel g, .lst (sm.map Va.int), .int d, .int m, .int k]) ∧ M'.c g = some (.lst (gr.map Va.int)) ∧ (∀ x ∈ gr, 0 < x) ∧ 0 ≤ d) ?_ ?_)
  · tm_at "w"
    tm_at "if"
    · intro h
      simp only [Bool.and_eq_true, decide_eq_true_eq, List.length_map] at h
      obtain ⟨rfl, hl⟩ := h
      cases gr with
      | nil => simp only [List.length_nil] at hl; omega
      | cons x gr =>
        tm_at "w"
        refine ⟨rfl, by tm_at "kx", gr, x, ?_, ?_, fun y hy => p1 y (by simp [hy]), ?_⟩
        · tm_at "st"
        · tm_at "st"
        · have := p1 x (by simp)
          omega
    · intro h
      tm_at "w"
      exact ⟨rfl, Kx.refl, gr, d, c1, c2, p1, p2⟩
  · clear c1 c2 p1 p2 gr d
    rintro _ M1 ⟨rfl, k1, gr, d, c1, c2, p1, p2⟩
    have n1 := k1.nx
    tm_at "w"
    tm_at "if"
    · intro hd
      tm_at "w"
      refine ⟨_, rfl, Int.emod_nonneg _ (by omega), Int.emod_lt_of_pos _ h0, ⟨ne, by simp only [put_nx]; omega, by simp only [put_nx]; omega, gr, sm, d / n, m, k, put_same, by tm_at "st", p1, Int.ediv_nonneg p2 (by omega), p3, p4, p5, p6⟩, by tm_at "kx"⟩
    · intro hd
      have hm : ∀ x : Int, 0 ≤ x % 2305843009213693951 ∧ x % 2305843009213693951 < 2305843009213693951 := fun x => ⟨Int.emod_nonneg _ (by omega), Int.emod_lt_of_pos _ (by omega)⟩
      have h61 : (2305843009213693951 : Int) < 2 ^ 61 := by decide
      tm_at "w"
      tm_at "if"
      all_goals intro hs
      · have q1 := Int.emod_nonneg (k + 1) (show ((sm.map Va.int).length : Int) ≠ 0 by omega)
        have q2 := Int.emod_lt_of_pos (k + 1) hs
        have q3 : ((sm.map Va.int).length : Int) = sm.length := by rw [List.length_map]
        tm_at "w"
        refine ⟨_, rfl, Int.emod_nonneg _ (by omega), Int.emod_lt_of_pos _ h0, ⟨ne, by simp only [put_nx]; omega, by simp only [put_nx]; omega, gr, sm, d, _, k + 1, put_same, by tm_at "st", p1, p2, (hm _).1, Int.lt_trans (hm _).2 h61, by omega, p6⟩, by tm_at "kx"⟩
      · tm_at "w"
        refine ⟨_, rfl, Int.emod_nonneg _ (by omega), Int.emod_lt_of_pos _ h0, ⟨ne, by simp only [put_nx]; omega, by simp only [put_nx]; omega, gr, sm, d, _, k + 1, put_same, by tm_at "st", p1, p2, (hm _).1, Int.lt_trans (hm _).2 h61, by omega, p6⟩, by tm_at "kx"⟩
end Lw
end

set_option Elab.async false
set_option linter.all false
set_option maxRecDepth 100000
set_option maxHeartbeats 4000000
set_option exponentiation.threshold 3000
section
namespace Lw
open PySem L2 PV
/-! ### names -/
def lets (cs : List Nat) : Str := ⟨cs.toArray⟩
def chV (c : Nat) : Va := .str ⟨#[c]⟩
theorem tl_lets (cs : List Nat) : tl (lets cs) = cs := by simp [tl, lets]
theorem strsOf_ch : ∀ cs : List Nat, strsOf (cs.map chV) = some (cs.map fun c => (⟨#[c]⟩ : Str))
  | [] => rfl
  | c :: cs => by
    show (strsOf (cs.map chV)).map _ = _
    first
    | rw [strsOf_ch cs]; rfl
    | simp [chV, strsOf, strsOf_ch cs]
theorem joinL_ch : ∀ cs : List Nat, TL.joinL [] (cs.map fun c => [c]) = cs
  | [] => rfl
  | [c] => rfl
  | c :: d :: cs => by
    have ih := joinL_ch (d :: cs)
    show [c] ++ ([] ++ TL.joinL [] ((d :: cs).map fun c => [c])) = _
    rw [ih]; rfl
theorem join_ch {M : Store} {cs : List Nat} (h : cs.length ≤ 1000) : gJoin M (.str "") [.lst (cs.map chV)] = some (.str (lets cs)) := by
  have e1 : ((cs.map fun c => (⟨#[c]⟩ : Str)).map (·.length)).sum = cs.length := by
    clear h
    induction cs with
    | nil => rfl
    | cons c cs ih => rw [List.map_cons, List.map_cons, List.sum_cons, ih, List.length_cons, show (⟨#[c]⟩ : Str).length = 1 from rfl]; omega
  unfold gJoin
  dsimp only
  rw [show seqOf M (.lst (cs.map chV)) = some (cs.map chV) from rfl]
  dsimp only
  rw [strsOf_ch]
  dsimp only
  rw [if_pos (by rw [e1, List.length_map, show ("" : Str).length = 0 from rfl]; omega)]
  congr 2
  refine TL.ext_tl ?_
  have e : TL.tl (Txt.join "" (cs.map fun c => (⟨#[c]⟩ : Str))) = TL.joinL (TL.tl "") ((cs.map fun c => (⟨#[c]⟩ : Str)).map TL.tl) := by rw [TL.join_eq, TL.tl_join]
  rw [e, List.map_map]
  show TL.joinL [] (cs.map fun c => [c]) = tl (lets cs)
  rw [joinL_ch, tl_lets]
theorem sl_str {M : Store} {z : Str} {lo hi : Option Int} (h : z.length ≤ 16777216) : opSl M (.str z) lo hi = some (.str (cutS z lo hi)) := if_pos (le_line h)
def Lc (c : Nat) : Prop := 97 ≤ c ∧ c ≤ 122
/-- some letters are drawn -/
theorem letters_c {M : Store} {w g : Nat} (hs : Src M w g) {s : SL} {i : Nat} {n : Nat} (hn : n ≤ 1000) {chk : Store → Prop} (hc : ∀ M, chk M) {k : List Va → Store → Prop}
    (h0 : ∀ (x : Va), evVar 0 (s.set i (some x)) = fun N => some (.val (.cel w), N)) (h2 : ∀ (x : Va), evVar 2 (s.set i (some x)) = fun N => some (.val (.str "abcdefghijklmnopqrstuvwxyz"), N))
    (q : ∀ (cs : List Nat) (M' : Store), cs.length = n → (∀ c ∈ cs, Lc c) → Src M' w g → Kx [w, g] M M' → M.nx ≤ M'.nx → k (cs.map chV) M') :
    WCm (compL chk (tgName i) evYes (ev2 opIx (evVar 2) (evL (kFn 2 c__law_draw) (evCons (evVar 0) (evCons (evC (.int 26)) evNil)))) s ((List.range n).map fun (i : Nat) => Va.int i) M) k := by
  refine WC_inv (fun (i : Nat) => Va.int i) chV (List.range n) (fun cs M' => (∀ c ∈ cs, Lc c) ∧ Src M' w g ∧ Kx [w, g] M M') ⟨fun _ h => (by cases h), hs, Kx.refl⟩ (fun _ M _ => hc M) ?_ ?_
  · rintro pre x post N ys e hl ⟨hy, hsN, kN⟩
    refine ⟨_, rfl, ?_⟩
    obtain ⟨r, N1, e1, a1, a2, s1, k1, n1⟩ := draw hsN 26 (by omega) (by decide)
    refine W_2 ⟨_, _, congrFun (h2 _) N, onV_v ?_⟩
    refine W_L (W_cons ⟨_, _, congrFun (h0 _) N, onV_v ?_⟩)
    tm_at "w"
    refine W_eq e1 ?_
    tm_at "1"
    refine WO_eq (let_is a1 a2) ?_
    refine ⟨97 + r.toNat, rfl, fun c hc => ?_, s1, kN.trans k1⟩
    rcases List.mem_append.mp hc with h | h
    · exact hy c h
    · rw [List.mem_singleton.mp h]
      exact ⟨by omega, by omega⟩
  · rintro ys M' hl ⟨h1, h2, h3⟩
    exact q ys M' (by simpa using hl) h1 h2 h3 h3.nx
end Lw
end

set_option Elab.async false
set_option linter.all false
set_option maxRecDepth 100000
set_option maxHeartbeats 4000000
set_option exponentiation.threshold 3000
section
local macro_rules | `(tactic| tm_at "opx") => `(tactic| first | ((apply Lw.join_ch) <;> omega) | ((refine' PV.LstAt.len ?e); (case e => assumption)) | ((refine' PV.LstAt.in_ ?e _); (case e => assumption)) | ((refine' PV.LstAt.notIn ?e _); (case e => assumption)) | ((refine' Eq.trans (PV.LstAt.ix ?e _) ?e2); (case e => assumption); (case e2 => first | assumption | tm_at "op")) | ((apply PV.let_is) <;> assumption) | exact Lw.y_neg | ((apply Lw.sl_str) <;> omega))
namespace Lw
open PySem L2 PV
/-- a list that is not the source -/
def Off (M : Store) (w g : Nat) (x : Va) : Prop := ∀ n, x = .cel n → n < M.nx ∧ n ≠ w ∧ n ≠ g
theorem Off.kx {M M' : Store} {w g : Nat} {x : Va} (h : Off M w g x) (k : M.nx ≤ M'.nx) : Off M' w g x := fun n e => by
  obtain ⟨a, b⟩ := h n e
  exact ⟨by omega, b⟩
theorem LstAt.off {M M' : Store} {w g : Nat} {x : Va} {l : List Va} (h : LstAt M x l) (o : Off M w g x) (k : Kx [w, g] M M') : LstAt M' x l := by
  cases h with
  | lst => exact .lst l
  | @cel n _ e =>
    obtain ⟨a, b, c⟩ := o n rfl
    exact .cel (k.get a (by simp; exact ⟨b, c⟩) e)
theorem near_nm {z c : Str} {at_ : Nat} (hz : Nm z) (hl : (tl z).length < 8) (ha : at_ ≤ (tl z).length) (hc : ∃ k, tl c = [k] ∧ Lc k) : Nm (cutS z none (some (at_ : Int)) ++ c ++ cutS z (some (at_ : Int)) none) := by
  obtain ⟨k, ec, hk⟩ := hc
  have e : tl (cutS z none (some (at_ : Int)) ++ c ++ cutS z (some (at_ : Int)) none) = (tl z).take at_ ++ [k] ++ (tl z).drop at_ := by
    show TL.tl _ = _
    rw [TL.tl_append, TL.tl_append]
    show tl _ ++ tl c ++ tl _ = _
    rw [cutS_to, cut_from, ec]
  unfold Nm
  rw [e]
  refine ⟨?_, ?_, fun d hd => ?_⟩
  · simp only [List.length_append, List.length_take, List.length_drop, List.length_cons, List.length_nil]; omega
  · simp only [List.length_append, List.length_take, List.length_drop, List.length_cons, List.length_nil]; omega
  · rcases List.mem_append.mp hd with hd | hd
    · rcases List.mem_append.mp hd with hd | hd
      · exact hz.2.2 d (List.mem_of_mem_take hd)
      · rw [List.mem_singleton.mp hd]; exact hk
    · exact hz.2.2 d (List.mem_of_mem_drop hd)
theorem lets_nm {cs : List Nat} (h1 : 1 ≤ cs.length) (h2 : cs.length ≤ 8) (h : ∀ c ∈ cs, Lc c) : Nm (lets cs) := by
  unfold Nm
  rw [tl_lets]
  exact ⟨h1, h2, h⟩
theorem lets_len (cs : List Nat) : (lets cs).length = cs.length := by rw [tl_len, tl_lets]
theorem nd_le {α : Type} [DecidableEq α] : ∀ (l m : List α), l.Nodup → (∀ x ∈ l, x ∈ m) → l.length ≤ m.length
  | [], _, _, _ => Nat.zero_le _
  | a :: l, m, nd, h => by
    rw [List.nodup_cons] at nd
    have ha := h a (by simp)
    have := nd_le l (m.erase a) nd.2 fun x hx => (List.mem_erase_of_ne fun e => nd.1 (by rw [← e]; exact hx)).mpr (h x (by simp [hx]))
    rw [List.length_erase_of_mem ha] at this
    have : 0 < m.length := List.length_pos_of_mem ha
    rw [List.length_cons]
    omega
/-- one of the letters is free -/
theorem free_letter {zs : List Str} (h : zs.length < 26) : ∃ c, Lc c ∧ (⟨#[c]⟩ : Str) ∉ zs := by
  refine Classical.byContradiction fun hn => ?_
  have all : ∀ c, Lc c → (⟨#[c]⟩ : Str) ∈ zs := fun c hc => Classical.byContradiction fun z => hn ⟨c, hc, z⟩
  have nd : ((List.range 26).map fun i => (⟨#[97 + i]⟩ : Str)).Nodup := by
    unfold List.Nodup
    rw [List.pairwise_map]
    refine List.nodup_range.imp fun {a b} h e => h ?_
    have : (#[97 + a] : Array Nat) = #[97 + b] := congrArg Str.cps e
    simpa using this
  have := nd_le _ zs nd fun z hz => by
    obtain ⟨i, hi, rfl⟩ := List.mem_map.mp hz
    have := List.mem_range.mp hi
    exact all _ ⟨by omega, by omega⟩
  rw [List.length_map, List.length_range] at this
  omega
theorem law_name {M : Store} {w g : Nat} {x : Va} {zs : List Str} (hs : Src M w g) (hx : LstAt M x (zs.map Va.str)) (ho : Off M w g x) (hz : ∀ z ∈ zs, Nm z) (hl : zs.length ≤ 20) :
    ∃ z M', c__law_name [.cel w, x] M = some (.val (.str z), M') ∧ Nm z ∧ z ∉ zs ∧ Src M' w g ∧ Kx [w, g] M M' ∧ M.nx ≤ M'.nx := by
  suffices hW : W (c__law_name [.cel w, x] M) (fun o M' => ∃ z, o = .val (.str z) ∧ Nm z ∧ z ∉ zs ∧ Src M' w g ∧ Kx [w, g] M M') by
    obtain ⟨_, M', e, r, rfl, a, b, c, d⟩ := hW
    exact ⟨r, M', e, a, b, c, d, d.nx⟩
  unfold c__law_name m__law_name
  let S : SL → Str → Store → Prop := fun s z M' => (∃ s4, s = [some (.cel w), some x, some (.str "abcdefghijklmnopqrstuvwxyz"), some (.str z), s4, none, none]) ∧ Nm z ∧ Src M' w g ∧ Kx [w, g] M M' ∧ LstAt M' x (zs.map Va.str)
  refine W_run ?_
  tm_at "s"
  tm_at "s"
  obtain ⟨r1, M1, e1, a1, a2, s1, k1, n1⟩ := draw hs 3 (by omega) (by decide)
  refine W_eq e1 ?_
  tm_at "v"
  refine letters_c s1 (by omega) (fun _ => trivial) (fun _ => rfl) (fun _ => rfl) ?_
  intro cs M2 hcl hcs s2 k2 n2
  tm_at "v"
  refine S_cut (fun s M' => ∃ z, S s z M') ?_ ?_
  · tm_at "v"
    obtain ⟨r3, M3, e3, a3, b3, s3, k3, n3⟩ := draw s2 4 (by omega) (by decide)
    refine W_eq e3 ?_
    tm_at "v"
    tm_at "if"
    · intro h
      tm_at "v"
      refine letters_c s3 (by decide) (fun _ => trivial) (fun _ => rfl) (fun _ => rfl) ?_
      intro ds M4 hdl hds s4 k4 n4
      have q1 := lets_len cs
      have q2 := lets_len ds
      tm_at "v"
      refine ⟨_, ⟨_, rfl⟩, ?_, s4, by tm_at "kx", LstAt.off hx ho (by tm_at "kx")⟩
      have e : tl (lets cs ++ lets ds) = cs ++ ds := by
        show TL.tl _ = _
        rw [TL.tl_append]
        show tl _ ++ tl _ = _
        rw [tl_lets, tl_lets]
      unfold Nm
      rw [e, List.length_append]
      refine ⟨by omega, by omega, fun c hc => ?_⟩
      rcases List.mem_append.mp hc with h | h
      · exact hcs c h
      · exact hds c h
    · intro h
      tm_at "v"
      refine ⟨_, ⟨_, rfl⟩, lets_nm (by omega) (by omega) hcs, s3, by tm_at "kx", ?_⟩
      exact LstAt.off hx ho (by tm_at "kx")
  · rintro _ M4 ⟨z, ⟨u4, rfl⟩, hz1, s4, k4, x4⟩
    refine S_cut (fun s M' => ∃ z, S s z M') ?_ ?_
    · have skip : ∀ N, Src N w g → Kx [w, g] M N → ∃ y, S [some (.cel w), some x, some (.str "abcdefghijklmnopqrstuvwxyz"), some (.str z), u4, none, none] y N := fun N a b => ⟨z, ⟨u4, rfl⟩, hz1, a, b, LstAt.off hx ho b⟩
      refine S_if (W_and ?_)
      tm_at "v"
      tm_at "if"
      · intro h
        obtain ⟨zs', y, rfl⟩ : ∃ zs' y, zs = zs' ++ [y] := ⟨zs.dropLast, zs.getLast (by intro e; subst e; simp only [List.map_nil, List.length_nil] at h; omega), (List.dropLast_concat_getLast _).symm⟩
        have ny := hz y (by simp)
        have yl := ny.len
        have la : atI ((zs' ++ [y]).map Va.str) (-1) = some (.str y) := by rw [List.map_append]; exact at_last _ _
        have hx0 := hx
        have n4 := k4.nx
        tm_at "v"
        tm_at "if"
        · intro h8
          obtain ⟨r5, M5, e5, a5, b5, s5, k5, n5⟩ := draw s4 3 (by omega) (by decide)
          tm_at "v"
          refine W_eq e5 ?_
          tm_at "v"
          tm_at "if"
          · intro _
            have x5 := LstAt.off hx ho (k4.trans k5)
            tm_at "s"
            obtain ⟨r6, M6, e6, a6, b6, s6, k6, n6⟩ := draw s5 (y.length + 1) (by omega) (by omega)
            refine W_eq e6 ?_
            have x6 := LstAt.off hx ho ((k4.trans k5).trans k6)
            obtain ⟨at_, rfl⟩ : ∃ n : Nat, r6 = n := ⟨r6.toNat, by omega⟩
            obtain ⟨r7, M7, e7, a7, b7, s7, k7, n7⟩ := draw s6 26 (by omega) (by decide)
            have x7 := LstAt.off hx ho (((k4.trans k5).trans k6).trans k7)
            have c1 := cutS_length y none (some (at_ : Int))
            have c2 := cutS_length y (some (at_ : Int)) none
            have lc : (⟨#[97 + r7.toNat]⟩ : Str).length = 1 := rfl
            have ll := len_app (cutS y none (some (at_ : Int))) ⟨#[97 + r7.toNat]⟩
            tm_at "v"
            refine W_eq e7 ?_
            tm_at "v"
            refine ⟨_, ⟨_, rfl⟩, near_nm ny (by rw [← tl_len]; omega) (by rw [← tl_len]; omega) ⟨97 + r7.toNat, rfl, by omega, by omega⟩, s7, by tm_at "kx", x7⟩
          · intro _
            tm_at "v"
            exact skip _ s5 (k4.trans k5)
        · intro h8
          tm_at "v"
          exact skip _ s4 k4
      · intro h
        tm_at "v"
        exact skip _ s4 k4
    · clear k2 s2 n2 k1 s1 n1 e1 hcs hcl
      rintro _ M5 ⟨z, ⟨u4, rfl⟩, hz1, s5, k5, x5⟩
      tm_at "s"
      tm_at "if"
      · intro hin
        tm_at "v"
        obtain ⟨c0, hc0, hn0⟩ := free_letter (zs := zs) (by omega)
        refine WC_filter chV chV (fun c => !decide ((⟨#[c]⟩ : Str) ∈ zs)) _ trivial ?_ ?_
        · intro c hc
          refine ⟨_, rfl, ?_, fun _ => ?_⟩
          · tm_at "v"
          · tm_at "v"
        · have hm : c0 ∈ (tl letS).filter fun c => !decide ((⟨#[c]⟩ : Str) ∈ zs) := by
            rw [List.mem_filter]
            refine ⟨?_, by simp [hn0]⟩
            have he : tl letS = (List.range 26).map (97 + ·) := by decide
            rw [he, List.mem_map]
            exact ⟨c0 - 97, List.mem_range.mpr (by have := hc0.2; omega), by have := hc0.1; omega⟩
          obtain ⟨c1, cs, e1⟩ : ∃ c1 cs, (tl letS).filter (fun c => !decide ((⟨#[c]⟩ : Str) ∈ zs)) = c1 :: cs := by
            cases q : (tl letS).filter fun c => !decide ((⟨#[c]⟩ : Str) ∈ zs) with
            | nil => rw [q] at hm; cases hm
            | cons a b => exact ⟨a, b, rfl⟩
          have hm1 : c1 ∈ (tl letS).filter fun c => !decide ((⟨#[c]⟩ : Str) ∈ zs) := by rw [e1]; simp
          rw [List.mem_filter] at hm1
          show onV _ _ (.val (.lst (((tl letS).filter fun c => !decide ((⟨#[c]⟩ : Str) ∈ zs)).map chV))) M5
          rw [e1, List.map_cons]
          tm_at "v"
          have hl1 : Lc c1 := by
            have := hm1.1
            have he : tl letS = (List.range 26).map (97 + ·) := by decide
            rw [he, List.mem_map] at this
            obtain ⟨i, hi, rfl⟩ := this
            have := List.mem_range.mp hi
            exact ⟨by omega, by omega⟩
          refine ⟨_, rfl, ⟨Nat.le_refl 1, (show 1 ≤ 8 by omega), fun c hc => ?_⟩, by simpa using hm1.2, s5, k5⟩
          have : c = c1 := by simpa [tl] using hc
          rw [this]
          exact hl1
      · intro hin
        tm_at "v"
        exact ⟨z, rfl, hz1, hin, s5, k5⟩
theorem law_names {M : Store} {w g : Nat} (hs : Src M w g) (n : Int) (h0 : 0 ≤ n) (hn : n ≤ 20) :
    ∃ (zs : List Str) (M' : Store), c__law_names [.cel w, .int n] M = some (.val (.lst (zs.map Va.str)), M') ∧ (∀ z ∈ zs, Nm z) ∧ zs.Nodup ∧ (zs.length : Int) = n ∧ Src M' w g ∧ Kx [w, g] M M' ∧ M.nx ≤ M'.nx := by
  suffices hW : W (c__law_names [.cel w, .int n] M) (fun o M' => ∃ zs : List Str, o = .val (.lst (zs.map Va.str)) ∧ (∀ z ∈ zs, Nm z) ∧ zs.Nodup ∧ (zs.length : Int) = n ∧ Src M' w g ∧ Kx [w, g] M M') by
    obtain ⟨_, M', e, r, rfl, a, b, c, d, f⟩ := hW
    exact ⟨r, M', e, a, b, c, d, f, f.nx⟩
  unfold c__law_names m__law_names
  have lw := hs.lw
  have lg := hs.lg
  refine W_run ?_
  tm_at "s"
  tm_at "s"
  refine WS_loop (fun (i : Nat) => Va.int i) (List.range n.toNat) (fun pre s M' => ∃ (zs : List Str) (s3 : Option Va), s = [some (.cel w), some (.int n), some (.cel M.nx), s3] ∧ M'.c M.nx = some (.lst (zs.map Va.str)) ∧ (∀ z ∈ zs, Nm z) ∧ zs.Nodup ∧ zs.length = pre.length ∧ Src M' w g ∧ Kx [w, g] M M' ∧ M.nx < M'.nx) ?_ ?_ ?_ ?_
  · exact ⟨[], none, rfl, new_same, (by simp), List.nodup_nil, rfl, hs.new, Kx.new, Nat.lt_succ_self _⟩
  · intro _ _ _ _; trivial
  · rintro pre x post s N e ⟨zs, s3, rfl, c, hz, nd, hl, sN, kN, lN⟩
    have hpl : pre.length + post.length + 1 = n.toNat := by
      have := congrArg List.length e
      simp at this
      omega
    have nN := kN.nx
    refine ⟨_, rfl, ?_⟩
    tm_at "v"
    obtain ⟨z, N1, e1, nz, hz1, s1, k1, n1⟩ := law_name (x := .cel M.nx) sN (.cel c) (fun m q => by cases q; exact ⟨lN, by omega, by omega⟩) hz (by omega)
    refine W_eq e1 ?_
    have l1 : (zs.map Va.str).length = zs.length := List.length_map _
    tm_at "v"
    refine ⟨zs ++ [z], _, rfl, ?_, fun y hy => ?_, ?_, by simp [hl], s1.put (by omega) (by omega), by tm_at "kx", by simp only [put_nx]; omega⟩
    · rw [List.map_append]; exact put_same
    · rcases List.mem_append.mp hy with h | h
      · exact hz y h
      · rw [List.mem_singleton.mp h]; exact nz
    · rw [List.nodup_append]
      exact ⟨nd, by simp, fun a ha b hb e => hz1 (by rw [List.mem_singleton] at hb; rw [← hb, ← e]; exact ha)⟩
  · rintro s N ⟨zs, s3, rfl, c, hz, nd, hl, sN, kN, lN⟩
    tm_at "v"
    refine ⟨zs, rfl, hz, nd, ?_, sN.del (by omega) (by omega), by tm_at "kx"⟩
    rw [hl, List.length_range]
    omega
end Lw
end

set_option Elab.async false
set_option linter.all false
set_option maxRecDepth 100000
set_option maxHeartbeats 4000000
set_option exponentiation.threshold 3000
section
local macro_rules | `(tactic| tm_at "opx") => `(tactic| first | exact Lw.y_neg)
namespace Lw
open PySem L2 PV
/-! ### counts, steps -/
abbrev Row := List (Str × Int)
def rowE (r : Row) : List (Key × Va) := r.map fun p => (Sum.inr p.1, Va.int p.2)
def rowX (r : Row) : Va := .dic (rowE r)
structure RowK (cols : List Str) (F : Int) (r : Row) : Prop where
  ks : ∀ p ∈ r, p.1 ∈ cols
  vs : ∀ p ∈ r, -F ≤ p.2 ∧ p.2 ≤ F
  nd : (r.map (·.1)).Nodup
theorem rowK_nil {cols : List Str} {F : Int} : RowK cols F [] := ⟨by simp, by simp, by simp⟩
theorem puK_new {α : Type} {l : List (Key × α)} {k : Key} {v : α} (h : ∀ p ∈ l, p.1 ≠ k) : puK l k v = l ++ [(k, v)] := by
  unfold puK
  rw [if_neg]
  intro z
  rw [List.any_eq_true] at z
  obtain ⟨p, hp, e⟩ := z
  exact h p hp (of_decide_eq_true e)
def CntI (M : Store) (w g : Nat) (cols : List Str) (F : Int) (pre : List Str) (s : SL) (M' : Store) : Prop := ∃ (r : Row) (s4 s5 : Option Va), s = [some (.cel w), some (.lst (cols.map Va.str)), some (.int F), some (.cel M.nx), s4, s5] ∧ M'.c M.nx = some (.dic (rowE r)) ∧ (∀ p ∈ r, p.1 ∈ pre) ∧ RowK cols F r ∧ r.length ≤ pre.length ∧ Src M' w g ∧ Kx [w, g] M M' ∧ M.nx < M'.nx
theorem law_counts {M : Store} {w g : Nat} {cols : List Str} (hs : Src M w g) (F : Int) (hF : 1 ≤ F ∧ F ≤ 10 ^ 12) (nd : cols.Nodup) (hc : cols.length ≤ 20) :
    ∃ (r : Row) (M' : Store), c__law_counts [.cel w, .lst (cols.map Va.str), .int F] M = some (.val (rowX r), M') ∧ RowK cols F r ∧ r.length ≤ cols.length ∧ Src M' w g ∧ Kx [w, g] M M' ∧ M.nx ≤ M'.nx := by
  suffices hW : W (c__law_counts [.cel w, .lst (cols.map Va.str), .int F] M) (fun o M' => ∃ r : Row, o = .val (rowX r) ∧ RowK cols F r ∧ r.length ≤ cols.length ∧ Src M' w g ∧ Kx [w, g] M M') by
    obtain ⟨_, M', e, r, rfl, a, b, c, d⟩ := hW
    exact ⟨r, M', e, a, b, c, d, d.nx⟩
  unfold c__law_counts m__law_counts
  have lw := hs.lw
  have lg := hs.lg
  refine W_run ?_
  tm_at "s"
  tm_at "s"
  refine WS_loop Va.str cols (CntI M w g cols F) ?_ ?_ ?_ ?_
  · exact ⟨[], none, none, rfl, new_same, by simp, rowK_nil, Nat.le_refl _, hs.new, Kx.new, Nat.lt_succ_self _⟩
  · intro _ _ _ _; trivial
  · rintro pre x post s N e ⟨r, s4, s5, rfl, c, hp, rk, hl, sN, kN, lN⟩
    have hpl : pre.length + post.length + 1 = cols.length := by
      have := congrArg List.length e
      simp only [List.length_append, List.length_cons] at this
      omega
    have hx : x ∉ pre := fun hm => by
      rw [e, List.nodup_append] at nd
      exact nd.2.2 x hm x (by simp) rfl
    have hxc : x ∈ cols := by rw [e]; simp
    refine ⟨_, rfl, ?_⟩
    tm_at "s"
    obtain ⟨q, N1, e1, a1, b1, s1, k1, n1⟩ := draw sN (2 * F + 3) (by omega) (by omega)
    refine W_eq e1 ?_
    tm_at "v"
    have c1 : N1.c M.nx = some (.dic (rowE r)) := by tm_at "st"
    refine S_cut (fun s M' => N1 = M' ∧ ∃ n : Int, -F ≤ n ∧ n ≤ F ∧ s = [some (.cel w), some (.lst (cols.map Va.str)), some (.int F), some (.cel M.nx), some (.str x), some (.int n)]) ?_ ?_
    · tm_at "v"
      tm_at "if"
      · intro h
        tm_at "v"
        exact ⟨rfl, 0, by omega, by omega, rfl⟩
      · intro h
        tm_at "v"
        exact ⟨rfl, q - F, by omega, by omega, rfl⟩
    · rintro _ _ ⟨rfl, n, h0, h1, rfl⟩
      have skip : ∀ N2, Src N2 w g → Kx [w, g] N1 N2 → CntI M w g cols F (pre ++ [x]) [some (.cel w), some (.lst (cols.map Va.str)), some (.int F), some (.cel M.nx), some (.str x), some (.int n)] N2 := fun N2 a b => by
        have := b.nx
        exact ⟨r, _, _, rfl, by tm_at "st", fun p h => List.mem_append_left _ (hp p h), rk, by rw [List.length_append]; omega, a, (kN.trans k1).trans b, by omega⟩
      have rl : (rowE r).length = r.length := List.length_map _
      have put : ∀ N2, Src N2 w g → Kx [w, g] N1 N2 → CntI M w g cols F (pre ++ [x]) [some (.cel w), some (.lst (cols.map Va.str)), some (.int F), some (.cel M.nx), some (.str x), some (.int n)] (N2.put M.nx (.dic (puK (rowE r) (.inr x) (.int n)))) := fun N2 a b => by
        have := b.nx
        have eK := puK_new (l := rowE r) (k := .inr x) (v := .int n) (fun p h z => by
          obtain ⟨p', hp', rfl⟩ := List.mem_map.mp h
          injection z with z
          exact hx (z ▸ hp p' hp'))
        refine ⟨r ++ [(x, n)], _, _, rfl, ?_, fun p h => ?_, ⟨fun p h => ?_, fun p h => ?_, ?_⟩, ?_, a.put (by omega) (by omega), ((kN.trans k1).trans b).putN (Nat.le_refl _), by simp only [put_nx]; omega⟩
        · rw [put_same, eK]
          unfold rowE
          rw [List.map_append]; rfl
        · rcases List.mem_append.mp h with h | h
          · exact List.mem_append_left _ (hp p h)
          · rw [List.mem_singleton.mp h]; simp
        · rcases List.mem_append.mp h with h | h
          · exact rk.ks p h
          · rw [List.mem_singleton.mp h]; exact hxc
        · rcases List.mem_append.mp h with h | h
          · exact rk.vs p h
          · rw [List.mem_singleton.mp h]; exact ⟨h0, h1⟩
        · rw [List.map_append, List.nodup_append]
          refine ⟨rk.nd, by simp, fun a ha b hb e => ?_⟩
          simp only [List.map_cons, List.map_nil, List.mem_singleton] at hb
          rw [hb] at e
          obtain ⟨p', hp', e'⟩ := List.mem_map.mp ha
          exact hx (by rw [← e, ← e']; exact hp p' hp')
        · simp only [List.length_append, List.length_cons, List.length_nil]; omega
      refine S_if (W_or ?_)
      tm_at "v"
      tm_at "if"
      · intro h
        tm_at "v"
        exact put _ s1 Kx.refl
      · intro h
        obtain ⟨q2, N2, e2, a2, b2, s2, k2, n2⟩ := draw s1 4 (by omega) (by decide)
        have c2 : N2.c M.nx = some (.dic (rowE r)) := by tm_at "st"
        tm_at "v"
        refine W_eq e2 ?_
        tm_at "v"
        tm_at "if"
        · intro _
          tm_at "v"
          exact put _ s2 k2
        · intro _
          tm_at "v"
          exact skip _ s2 k2
  · rintro s N ⟨r, s4, s5, rfl, c, hp, rk, hl, sN, kN, lN⟩
    tm_at "v"
    refine ⟨r, rfl, rk, hl, sN.del (by omega) (by omega), by tm_at "kx"⟩
end Lw
end

set_option Elab.async false
set_option linter.all false
set_option maxRecDepth 100000
set_option maxHeartbeats 4000000
set_option exponentiation.threshold 3000
section
local macro_rules | `(tactic| tm_at "opx") => `(tactic| first | exact Lw.y_neg | exact PV.y_min)
namespace Lw
open PySem L2 PV
def StpI (M : Store) (w g : Nat) (zs : List Str) (many : Int) (shv : Va) (pre : List Nat) (s : SL) (M' : Store) : Prop := ∃ (l : List (Str × Int × Int)) (s5 s6 s7 s8 : Option Va), s = [some (.cel w), some (.lst (zs.map Va.str)), some (.int many), some shv, some (.cel M.nx), s5, s6, s7, s8, none] ∧ M'.c M.nx = some (.lst (l.map stV)) ∧ Sts many l ∧ l.length ≤ pre.length ∧ (∀ t ∈ l, t.1 ∈ zs) ∧ Src M' w g ∧ Kx [w, g] M M' ∧ M.nx < M'.nx
theorem filter_len {l : List (Str × Int × Int)} {z : Str} {i : Int} : decide (((l.filter fun t => decide (t.1 = z) && decide (t.2.1 = i)).length : Int) = 0) = !hasP l z i := by
  unfold hasP
  cases h : l.filter fun t => decide (t.1 = z) && decide (t.2.1 = i) with
  | nil =>
    rw [List.filter_eq_nil_iff] at h
    have : (l.any fun t => t.1 == z && t.2.1 == i) = false := by
      rw [List.any_eq_false]
      intro t ht
      have := h t ht
      simpa using this
    rw [this]; rfl
  | cons a b =>
    have ha : a ∈ l.filter fun t => decide (t.1 = z) && decide (t.2.1 = i) := by rw [h]; simp
    rw [List.mem_filter] at ha
    have : (l.any fun t => t.1 == z && t.2.1 == i) = true := by
      rw [List.any_eq_true]
      exact ⟨a, ha.1, by simpa using ha.2⟩
    rw [this]
    simp
    omega
theorem law_steps {M : Store} {w g : Nat} {zs : List Str} (hs : Src M w g) (many a0 a1 a2 a3 a4 : Int) (hm : 1 ≤ many ∧ many ≤ 50) (h2 : 1 ≤ a2 ∧ a2 ≤ 50) (h3 : 1 ≤ a3 ∧ a3 ≤ 50) (hz : ∀ z ∈ zs, Nm z) (hz0 : 0 < zs.length) (hzl : zs.length ≤ 50) :
    ∃ (l : List (Str × Int × Int)) (M' : Store), c__law_steps [.cel w, .lst (zs.map Va.str), .int many, .tup [.int a0, .int a1, .int a2, .int a3, .int a4]] M = some (.val (.lst (l.map stV)), M') ∧ Sts many l ∧ (l.length : Int) ≤ a2 ∧ (∀ t ∈ l, t.1 ∈ zs) ∧ Src M' w g ∧ Kx [w, g] M M' ∧ M.nx ≤ M'.nx := by
  suffices hW : W (c__law_steps [.cel w, .lst (zs.map Va.str), .int many, .tup [.int a0, .int a1, .int a2, .int a3, .int a4]] M) (fun o M' => ∃ l : List (Str × Int × Int), o = .val (.lst (l.map stV)) ∧ Sts many l ∧ (l.length : Int) ≤ a2 ∧ (∀ t ∈ l, t.1 ∈ zs) ∧ Src M' w g ∧ Kx [w, g] M M') by
    obtain ⟨_, M', e, r, rfl, a, b, b2, c, d⟩ := hW
    exact ⟨r, M', e, a, b, b2, c, d, d.nx⟩
  unfold c__law_steps m__law_steps
  have lw := hs.lw
  have lg := hs.lg
  refine W_run ?_
  tm_at "s"
  tm_at "s"
  have s0 : Src (M.new (.lst [])) w g := hs.new
  obtain ⟨q, M1, e1, i1', j1', s1, k1, n1⟩ := draw s0 a3 (by omega) (by omega)
  refine W_eq e1 ?_
  simp only [new_nx] at n1
  tm_at "v"
  have hmin : (if many + q < a2 then many + q else a2) ≤ a2 ∧ 0 ≤ (if many + q < a2 then many + q else a2) := by split <;> omega
  generalize (if many + q < a2 then many + q else a2) = tn at hmin ⊢
  tm_at "v"
  refine WS_loop (fun (i : Nat) => Va.int i) (List.range tn.toNat) (StpI M w g zs many (.tup [.int a0, .int a1, .int a2, .int a3, .int a4])) ?_ ?_ ?_ ?_
  · refine ⟨[], none, none, none, none, rfl, by tm_at "st", ⟨(by simp), by simp⟩, Nat.le_refl _, (by simp), s1, Kx.new.trans k1, by omega⟩
  · intro _ _ _ _; trivial
  · rintro pre k post s N e ⟨l, s5, s6, s7, s8, rfl, c, st, hl, hnz, sN, kN, lN⟩
    have hpl : pre.length + post.length + 1 = tn.toNat := by
      have := congrArg List.length e
      simp only [List.length_append, List.length_cons, List.length_range] at this
      omega
    have hk : k < tn.toNat := by
      have : k ∈ List.range tn.toNat := by rw [e]; simp
      exact List.mem_range.mp this
    have zl : (zs.map Va.str).length = zs.length := List.length_map _
    refine ⟨_, rfl, ?_⟩
    tm_at "s"
    obtain ⟨r1, N1, e1, i1, j1, s1, k1, n1⟩ := draw sN ((zs.map Va.str).length) (by omega) (by omega)
    refine W_eq e1 ?_
    tm_at "v"
    have hnm : nth zs r1 ∈ zs := nth_mem i1 (by omega)
    generalize nth zs r1 = nm at hnm
    tm_at "s"
    obtain ⟨r2, N2, e2, i2, j2, s2, k2, n2⟩ := draw s1 many (by omega) (by omega)
    refine W_eq e2 ?_
    tm_at "v"
    tm_at "s"
    obtain ⟨r3, N3, e3, i3, j3, s3, k3, n3⟩ := draw s2 many (by omega) (by omega)
    refine W_eq e3 ?_
    tm_at "v"
    refine S_cut (fun s M' => Src M' w g ∧ Kx [w, g] M M' ∧ M.nx < M'.nx ∧ M'.c M.nx = some (.lst (l.map stV)) ∧ ∃ st en : Int, 0 ≤ st ∧ st < many ∧ 0 ≤ en ∧ en < many ∧ s = [some (.cel w), some (.lst (zs.map Va.str)), some (.int many), some (.tup [.int a0, .int a1, .int a2, .int a3, .int a4]), some (.cel M.nx), some (.int k), some (.str nm), some (.int st), some (.int en), none]) ?_ ?_
    · refine S_if (W_and ?_)
      tm_at "v"
      tm_at "if"
      · intro h
        obtain ⟨r4, N4, e4, i4, j4, s4, k4, n4⟩ := draw s3 3 (by omega) (by decide)
        tm_at "v"
        refine W_eq e4 ?_
        tm_at "v"
        tm_at "if"
        · intro _
          tm_at "w"
          refine ⟨s4, by tm_at "kx", by omega, by tm_at "st", k, k + 1, by omega, by omega, by omega, by omega, rfl⟩
        · intro _
          tm_at "w"
          refine ⟨s4, by tm_at "kx", by omega, by tm_at "st", r2, r3, by omega, by omega, by omega, by omega, rfl⟩
      · intro h
        tm_at "w"
        refine ⟨s3, by tm_at "kx", by omega, by tm_at "st", r2, r3, by omega, by omega, by omega, by omega, rfl⟩
    · clear k1 k2 k3 s1 s2 s3 e1 e2 e3
      rintro _ N5 ⟨s5, k5, n5, c5, st', en, p1, p2, p3, p4, rfl⟩
      refine S_if ?_
      tm_at "v"
      refine WC_filter stV stV (fun t => decide (t.1 = nm) && decide (t.2.1 = st')) l (by rw [y_lstC, c5]) ?_ ?_
      · intro t ht
        refine ⟨_, rfl, ?_, fun _ => ?_⟩
        · tm_at "v"
        · tm_at "v"
      · tm_at "v"
        rw [List.length_map, filter_len]
        have ll : (l.map stV).length = l.length := List.length_map _
        refine ifK_b ?_ ?_
        · intro h
          have h' : hasP l nm st' = false := by simpa using h
          tm_at "v"
          refine ⟨l ++ [(nm, st', en)], _, _, _, _, rfl, ?_, st.snoc (hz _ hnm) ⟨p1, p2⟩ ⟨p3, p4⟩ h', ?_, ?_, s5.put (by omega) (by omega), k5.putN (Nat.le_refl _), n5⟩
          · rw [List.map_append]; exact put_same
          · simp only [List.length_append, List.length_cons, List.length_nil]; omega
          · intro t ht
            rcases List.mem_append.mp ht with h | h
            · exact hnz t h
            · rw [List.mem_singleton.mp h]; exact hnm
        · intro h
          tm_at "v"
          exact ⟨l, _, _, _, _, rfl, c5, st, by rw [List.length_append]; omega, hnz, s5, k5, n5⟩
  · rintro s N ⟨l, s5, s6, s7, s8, rfl, c, st, hl, hnz, sN, kN, lN⟩
    rw [List.length_range] at hl
    tm_at "v"
    refine ⟨l, rfl, st, by omega, hnz, sN.del (by omega) (by omega), by tm_at "kx"⟩
end Lw
end

set_option Elab.async false
set_option linter.all false
set_option maxRecDepth 100000
set_option maxHeartbeats 4000000
set_option exponentiation.threshold 3000
section
local macro_rules | `(tactic| tm_at "opx") => `(tactic| first | assumption | exact Lw.y_neg | exact PV.y_min | ((apply Lw.y_addL) <;> tm_at "num"))
namespace Lw
open PySem L2 PV
/-! ### the data of a plan -/
abbrev Kn := Str × List Row × List (Str × Int × Int)
def knV (k : Kn) : Va := .tup [.str k.1, .lst (k.2.1.map rowX), .lst (k.2.2.map stV)]
structure Sch where
  cols : List Str
  kinds : List Kn
  checks : List Row
def Sch.va (D : Sch) : Va := .tup [.lst (D.cols.map Va.str), .lst (D.kinds.map knV), .lst (D.checks.map rowX)]
structure KnOk (cols : List Str) (F : Int) (k : Kn) : Prop where
  nm : Nm k.1
  st : ∃ rest, k.2.1 = [] :: rest
  row : ∀ r ∈ k.2.1, RowK cols F r
  sts : Sts k.2.1.length k.2.2
  n1 : k.2.1.length ≤ 14
  n2 : k.2.2.length ≤ 12
structure Sch.Ok (D : Sch) (F : Int) : Prop where
  cn : ∀ z ∈ D.cols, Nm z
  cd : D.cols.Nodup
  cl : D.cols.length ≤ 6
  c1 : 1 ≤ D.cols.length
  kn : (D.kinds.map (·.1)).Nodup
  kd : ∀ k ∈ D.kinds, KnOk D.cols F k
  kl : D.kinds.length ≤ 4
  ck : ∀ r ∈ D.checks, RowK D.cols F r
def shapesL : List Va := [.tup [.int 4, .int 3, .int 3, .int 2, .int 3], .tup [.int 3, .int 4, .int 4, .int 2, .int 3], .tup [.int 2, .int 7, .int 6, .int 2, .int 3], .tup [.int 1, .int 14, .int 12, .int 2, .int 3], .tup [.int 1, .int 4, .int 12, .int 12, .int 12], .tup [.int 2, .int 4, .int 6, .int 6, .int 6]]
theorem shape_at {r : Int} (h0 : 0 ≤ r) (h1 : r < 6) : ∃ a0 a1 a2 a3 a4 : Int, atI shapesL r = some (.tup [.int a0, .int a1, .int a2, .int a3, .int a4]) ∧ (1 ≤ a0 ∧ a0 ≤ 4) ∧ (1 ≤ a1 ∧ a1 ≤ 14) ∧ (1 ≤ a2 ∧ a2 ≤ 12) ∧ (1 ≤ a3 ∧ a3 ≤ 12) ∧ (1 ≤ a4 ∧ a4 ≤ 12) := by
  have : r = 0 ∨ r = 1 ∨ r = 2 ∨ r = 3 ∨ r = 4 ∨ r = 5 := by omega
  rcases this with rfl | rfl | rfl | rfl | rfl | rfl
  · exact ⟨_, _, _, _, _, at_0, by decide⟩
  · exact ⟨_, _, _, _, _, at_1, by decide⟩
  · exact ⟨_, _, _, _, _, at_2, by decide⟩
  · exact ⟨_, _, _, _, _, at_3, by decide⟩
  · exact ⟨_, _, _, _, _, at_4, by decide⟩
  · exact ⟨_, _, _, _, _, rfl, by decide⟩
theorem most_at {r : Int} (h0 : 0 ≤ r) (h1 : r < 3) : ∃ F : Int, atI [Va.int 1, .int 3, .int 100] r = some (.int F) ∧ 1 ≤ F ∧ F ≤ 100 := by
  have : r = 0 ∨ r = 1 ∨ r = 2 := by omega
  rcases this with rfl | rfl | rfl
  · exact ⟨_, at_0, by decide⟩
  · exact ⟨_, at_1, by decide⟩
  · exact ⟨_, at_2, by decide⟩
/-- rows of counts -/
theorem counts_lc {M : Store} {w g : Nat} {cols : List Str} (hs : Src M w g) (F : Int) (hF : 1 ≤ F ∧ F ≤ 10 ^ 12) (nd : cols.Nodup) (hc : cols.length ≤ 20) {s : SL} {i a b : Nat} {n : Nat} {chk : Store → Prop} (hk : ∀ M, chk M) {k : List Va → Store → Prop}
    (h0 : ∀ (x : Va), evVar 0 (s.set i (some x)) = fun N => some (.val (.cel w), N)) (h1 : ∀ (x : Va), evVar a (s.set i (some x)) = fun N => some (.val (.lst (cols.map Va.str)), N)) (h2 : ∀ (x : Va), evVar b (s.set i (some x)) = fun N => some (.val (.int F), N))
    (q : ∀ (rs : List Row) (M' : Store), rs.length = n → (∀ r ∈ rs, RowK cols F r) → Src M' w g → Kx [w, g] M M' → M.nx ≤ M'.nx → k (rs.map rowX) M') :
    WCm (compL chk (tgName i) evYes (evL (kFn 3 c__law_counts) (evCons (evVar 0) (evCons (evVar a) (evCons (evVar b) evNil)))) s ((List.range n).map fun (i : Nat) => Va.int i) M) k := by
  refine WC_inv (fun (i : Nat) => Va.int i) rowX (List.range n) (fun rs M' => (∀ r ∈ rs, RowK cols F r) ∧ Src M' w g ∧ Kx [w, g] M M') ⟨fun _ h => (by cases h), hs, Kx.refl⟩ (fun _ M _ => hk M) ?_ ?_
  · rintro pre x post N ys e hl ⟨hy, hsN, kN⟩
    refine ⟨_, rfl, ?_⟩
    obtain ⟨r, N1, e1, a1, _, s1, k1, n1⟩ := law_counts hsN F hF nd hc
    refine W_L (W_cons ⟨_, _, congrFun (h0 _) N, onV_v (W_cons ⟨_, _, congrFun (h1 _) N, onV_v (W_cons ⟨_, _, congrFun (h2 _) N, onV_v ?_⟩)⟩)⟩)
    tm_at "v"
    refine W_eq e1 ?_
    refine ⟨r, rfl, fun c hc => ?_, s1, kN.trans k1⟩
    rcases List.mem_append.mp hc with h | h
    · exact hy c h
    · rw [List.mem_singleton.mp h]; exact a1
  · rintro ys M' hl ⟨h1, h2, h3⟩
    exact q ys M' (by simpa using hl) h1 h2 h3 h3.nx
def FreI (M : Store) (w g : Nat) (kc : Nat) (cols : List Str) (F : Int) (labels pre : List Str) (v1 v2 v3 v5 : Va) (s : SL) (M' : Store) : Prop := ∃ (ks : List Kn) (s8 s10 s11 : Option Va), s = [some (.cel w), some v1, some v2, some v3, some (.lst (cols.map Va.str)), some v5, some (.int F), some (.cel kc), s8, none, s10, s11, none] ∧ M'.c kc = some (.lst (ks.map knV)) ∧ ks.map (·.1) = pre ∧ (∀ k ∈ ks, KnOk cols F k) ∧ Src M' w g ∧ Kx [w, g] M M' ∧ kc < M'.nx
theorem law_free {M : Store} {w g : Nat} (hs : Src M w g) (mc : Int) (hmc : 0 ≤ mc ∧ mc ≤ 20) :
    ∃ (D : Sch) (F : Int) (M' : Store), c__law_free [.cel w, .int mc] M = some (.val D.va, M') ∧ D.Ok F ∧ 1 ≤ F ∧ F ≤ 100 ∧ (D.checks.length : Int) ≤ mc ∧ Src M' w g ∧ Kx [w, g] M M' ∧ M.nx ≤ M'.nx := by
  suffices hW : W (c__law_free [.cel w, .int mc] M) (fun o M' => ∃ (D : Sch) (F : Int), o = .val D.va ∧ D.Ok F ∧ 1 ≤ F ∧ F ≤ 100 ∧ (D.checks.length : Int) ≤ mc ∧ Src M' w g ∧ Kx [w, g] M M') by
    obtain ⟨_, M', e, D, F, rfl, a, b, b2, b3, c, d⟩ := hW
    exact ⟨D, F, M', e, a, b, b2, b3, c, d, d.nx⟩
  unfold c__law_free m__law_free
  have lw := hs.lw
  have lg := hs.lg
  refine W_run ?_
  tm_at "s"
  tm_at "s"
  obtain ⟨q1, M1, e1, i1, j1, s1, k1, n1⟩ := draw hs 6 (by omega) (by decide)
  refine W_eq e1 ?_
  obtain ⟨a0, a1, a2, a3, a4, ea, h0, h1, h2, h3, h4⟩ := shape_at i1 j1
  unfold shapesL at ea
  tm_at "v"
  tm_at "s"
  obtain ⟨q2, M2, e2, i2, j2, s2, k2, n2⟩ := draw s1 6 (by omega) (by decide)
  refine W_eq e2 ?_
  tm_at "v"
  obtain ⟨cols, M3, e3, cn, cd, cl, s3, k3, n3⟩ := law_names s2 (1 + q2) (by omega) (by omega)
  refine W_eq e3 ?_
  tm_at "v"
  tm_at "s"
  obtain ⟨q4, M4, e4, i4, j4, s4, k4, n4⟩ := draw s3 a4 (by omega) (by omega)
  refine W_eq e4 ?_
  tm_at "v"
  obtain ⟨zs, M5, e5, zn, zd, zl, s5, k5, n5⟩ := law_names s4 (1 + q4) (by omega) (by omega)
  refine W_eq e5 ?_
  tm_at "v"
  tm_at "s"
  obtain ⟨q6, M6, e6, i6, j6, s6, k6, n6⟩ := draw s5 3 (by omega) (by decide)
  refine W_eq e6 ?_
  obtain ⟨F, eF, hF1, hF2⟩ := most_at i6 j6
  tm_at "v"
  tm_at "s"
  refine S_cut (fun s N => ∃ labels : List Str, labels.Nodup ∧ (∀ z ∈ labels, Nm z) ∧ labels.length ≤ 4 ∧ FreI M w g M6.nx cols F labels labels (.int mc) (.lst shapesL) (.tup [.int a0, .int a1, .int a2, .int a3, .int a4]) (.lst (zs.map Va.str)) s N) ?_ ?_
  · tm_at "v"
    obtain ⟨q7, M7, e7, i7, j7, s7, k7, n7⟩ := draw (s6.new (x := .lst [])) a0 (by omega) (by omega)
    refine W_eq e7 ?_
    simp only [new_nx] at n7
    tm_at "v"
    obtain ⟨labels, M8, e8, ln, ld, ll, s8, k8, n8⟩ := law_names s7 (1 + q7) (by omega) (by omega)
    refine W_eq e8 ?_
    have hw6 := s6.lw
    have hg6 := s6.lg
    tm_at "v"
    refine WS_loop Va.str labels (fun pre => FreI M w g M6.nx cols F labels pre (.int mc) (.lst shapesL) (.tup [.int a0, .int a1, .int a2, .int a3, .int a4]) (.lst (zs.map Va.str))) ?_ ?_ ?_ ?_
    · refine ⟨[], none, none, none, rfl, by tm_at "st", rfl, (by simp), s8, by tm_at "kx", by omega⟩
    · intro _ _ _ _; trivial
    · rintro pre lb post s N e ⟨ks, u8, u10, u11, rfl, c, hks, hk, sN, kN, lN⟩
      have hpl : pre.length + post.length + 1 = labels.length := by
        have := congrArg List.length e
        simp only [List.length_append, List.length_cons] at this
        omega
      have nlb : Nm lb := ln lb (by rw [e]; simp)
      have kl : ks.length = pre.length := by rw [← hks, List.length_map]
      have kl2 : (ks.map knV).length = ks.length := List.length_map _
      refine ⟨_, rfl, ?_⟩
      tm_at "s"
      obtain ⟨r1, N1, e1, i1, j1, s1, k1, n1⟩ := draw sN a1 (by omega) (by omega)
      refine W_eq e1 ?_
      tm_at "v"
      tm_at "s"
      refine counts_lc s1 F (by omega) cd (by omega) (fun _ => trivial) (fun _ => rfl) (fun _ => rfl) (fun _ => rfl) ?_
      intro rs N2 hrl hrs s2 k2 n2
      have rl2 : (rs.map rowX).length = rs.length := List.length_map _
      tm_at "v"
      obtain ⟨l, N3, e3, st, stl, stn, s3, k3, n3⟩ := law_steps s2 (1 + r1) a0 a1 a2 a3 a4 (by omega) (by omega) (by omega) zn (by omega) (by omega)
      refine W_eq e3 ?_
      tm_at "v"
      refine ⟨ks ++ [(lb, [] :: rs, l)], _, _, _, rfl, ?_, by rw [List.map_append, hks]; rfl, ?_, s3.put (by omega) (by omega), by tm_at "kx", by simp only [put_nx]; omega⟩
      · rw [put_same, List.map_append]; rfl
      · intro k hk'
        rcases List.mem_append.mp hk' with h | h
        · exact hk k h
        · rw [List.mem_singleton.mp h]
          refine ⟨nlb, ⟨rs, rfl⟩, fun r hr => ?_, ?_, ?_, ?_⟩
          · rcases List.mem_cons.mp hr with h | h
            · rw [h]; exact rowK_nil
            · exact hrs r h
          · rw [show ((([] : Row) :: rs).length : Int) = 1 + r1 by rw [List.length_cons]; omega]
            exact st
          · rw [List.length_cons]; omega
          · show l.length ≤ 12
            omega
    · rintro s N h
      exact ⟨labels, ld, ln, by omega, h⟩
  · rintro s N ⟨labels, ld, ln, ll, ks, u8, u10, u11, rfl, c, hks, hk, sN, kN, lN⟩
    have hw6 := s6.lw
    have hg6 := s6.lg
    tm_at "s"
    obtain ⟨r1, N1, e1, i1, j1, s1, k1, n1⟩ := draw sN (mc + 1) (by omega) (by omega)
    refine W_eq e1 ?_
    tm_at "v"
    refine counts_lc s1 F (by omega) cd (by omega) (fun _ => trivial) (fun _ => rfl) (fun _ => rfl) (fun _ => rfl) ?_
    intro rs N2 hrl hrs s2 k2 n2
    tm_at "v"
    refine ⟨⟨cols, ks, rs⟩, F, rfl, ⟨cn, cd, by show cols.length ≤ 6; omega, by show 1 ≤ cols.length; omega, by show (ks.map (·.1)).Nodup; rw [hks]; exact ld, hk, by show ks.length ≤ 4; rw [show ks.length = labels.length by rw [← hks, List.length_map]]; exact ll, hrs⟩, hF1, hF2, by show (rs.length : Int) ≤ mc; omega, s2.del (by omega) (by omega), by tm_at "kx"⟩
end Lw
end

set_option Elab.async false
set_option linter.all false
set_option maxRecDepth 100000
set_option maxHeartbeats 4000000
set_option exponentiation.threshold 3000
section
namespace Lw
open PySem L2 PV
/-! ### the data as full rows -/
def getR (r : Row) (c : Str) : Int := (r.lookup c).getD 0
def rowF (cols : List Str) (r : Row) : List Int := cols.map (getR r)
def knF (cols : List Str) (k : Kn) : Kd := (k.1, k.2.1.map (rowF cols), k.2.2)
def Sch.dat (D : Sch) : Dat := ⟨D.cols, D.kinds.map (knF D.cols), D.checks.map (rowF D.cols)⟩
theorem vaK_row : ∀ (r : Row) (c : Str), vaK (rowE r) (.inr c) = (r.lookup c).map Va.int
  | [], _ => rfl
  | (k, n) :: r, c => by
    have ih := vaK_row r c
    unfold vaK at ih ⊢
    show ((List.find? (fun kv => decide (kv.1 = Sum.inr c)) ((Sum.inr k, Va.int n) :: rowE r)).map (·.2)) = _
    rw [List.find?_cons, List.lookup_cons]
    by_cases h : k = c
    · subst h
      simp
    · have h1 : decide ((Sum.inr k : Key) = .inr c) = false := decide_eq_false fun z => by injection z with z; exact h z
      have h2 : (c == k) = false := by
        rw [beq_eq_false_iff_ne]
        exact fun z => h z.symm
      rw [show decide (((Sum.inr k : Key), Va.int n).fst = Sum.inr c) = false from h1]
      rw [h2]
      exact ih
theorem lookup_mem : ∀ {r : Row} {c : Str} {n : Int}, (r.map (·.1)).Nodup → (c, n) ∈ r → r.lookup c = some n
  | (k, m) :: r, c, n, nd, h => by
    rw [List.map_cons, List.nodup_cons] at nd
    rw [List.lookup_cons]
    rcases List.mem_cons.mp h with e | h
    · cases e
      simp
    · have : (c == k) = false := by
        rw [beq_eq_false_iff_ne]
        intro e
        exact nd.1 (List.mem_map.mpr ⟨(c, n), h, e⟩)
      rw [this]
      exact lookup_mem nd.2 h
theorem mem_lookup : ∀ {r : Row} {c : Str} {n : Int}, r.lookup c = some n → (c, n) ∈ r
  | (k, m) :: r, c, n, h => by
    rw [List.lookup_cons] at h
    by_cases e : c = k
    · subst e
      rw [beq_self_eq_true] at h
      cases h
      simp
    · have : (c == k) = false := by rw [beq_eq_false_iff_ne]; exact e
      rw [this] at h
      exact List.mem_cons_of_mem _ (mem_lookup h)
theorem getR_lim {cols : List Str} {F : Int} {r : Row} (h : RowK cols F r) (hF : 0 ≤ F) (c : Str) : -F ≤ getR r c ∧ getR r c ≤ F := by
  unfold getR
  cases q : r.lookup c with
  | none => exact ⟨by show -F ≤ 0; omega, hF⟩
  | some n => exact h.vs _ (mem_lookup q)
theorem RowK.len {cols : List Str} {F : Int} {r : Row} (h : RowK cols F r) : r.length ≤ cols.length := by
  have := nd_le (r.map (·.1)) cols h.nd fun x hx => by
    obtain ⟨p, hp, rfl⟩ := List.mem_map.mp hx
    exact h.ks p hp
  rwa [List.length_map] at this
theorem row_tells {cols : List Str} {F : Int} {r : Row} (h : RowK cols F r) (hl : cols.length ≤ 20) : Tells cols (rowF cols r) (rowE r) := by
  have hlen := h.len
  refine ⟨fun p hp => ?_, fun p hp => ?_, by unfold rowE; rw [List.length_map]; omega, ?_, by unfold rowE; rw [List.length_map]; exact hlen⟩
  · obtain ⟨q, hq, rfl⟩ := List.mem_map.mp hp
    exact ⟨q.1, h.ks q hq, rfl⟩
  · obtain ⟨q, hq, rfl⟩ := List.mem_map.mp hp
    refine ⟨q.2, List.mem_map.mpr ⟨q.1, h.ks q hq, ?_⟩, rfl⟩
    unfold getR
    rw [lookup_mem h.nd hq]; rfl
  · unfold rowF
    rw [List.map_map]
    refine List.map_congr_left fun c _ => ?_
    rw [vaK_row]
    show _ = Va.int (getR r c)
    unfold getR
    cases r.lookup c <;> rfl
theorem Sch.Ok.dat {D : Sch} {F : Int} (h : D.Ok F) (hF : 0 ≤ F) (hl : D.checks.length ≤ 20) : D.dat.Ok F := by
  have ro : ∀ {r : Row}, RowK D.cols F r → RowOk D.cols.length F (rowF D.cols r) := fun {r} hr => ⟨by unfold rowF; rw [List.length_map], fun n hn => by
    obtain ⟨c, _, rfl⟩ := List.mem_map.mp hn
    exact getR_lim hr hF c⟩
  refine ⟨h.cn, h.cd, by have := h.cl; show D.cols.length ≤ 20; omega, ?_, fun k hk => ?_, by show (D.kinds.map _).length ≤ 20; rw [List.length_map]; have := h.kl; omega, fun r hr => ?_, by show (D.checks.map _).length ≤ 20; rw [List.length_map]; exact hl⟩
  · show ((D.kinds.map (knF D.cols)).map (·.1)).Nodup
    rw [List.map_map]
    exact h.kn
  · obtain ⟨k', hk', rfl⟩ := List.mem_map.mp hk
    have ok := h.kd k' hk'
    obtain ⟨rest, er⟩ := ok.st
    refine ⟨ok.nm, ⟨rest.map (rowF D.cols), ?_⟩, fun r hr => ?_, ?_, ?_, ?_⟩
    · show k'.2.1.map (rowF D.cols) = _
      rw [er, List.map_cons]
      congr 1
      unfold rowF
      exact List.map_eq_replicate_iff.mpr fun c _ => rfl
    · obtain ⟨r', hr', rfl⟩ := List.mem_map.mp hr
      exact ro (ok.row r' hr')
    · show Sts ((k'.2.1.map _).length) k'.2.2
      rw [List.length_map]
      exact ok.sts
    · show (k'.2.1.map _).length ≤ 50
      rw [List.length_map]
      have := ok.n1
      omega
    · have := ok.n2
      show k'.2.2.length ≤ 50
      omega
  · obtain ⟨r', hr', rfl⟩ := List.mem_map.mp hr
    exact ro (h.ck r' hr')
end Lw
end

set_option Elab.async false
set_option linter.all false
set_option maxRecDepth 100000
set_option maxHeartbeats 4000000
set_option exponentiation.threshold 3000
section
namespace Lw
open PySem L2 PV
/-! ### what is made of cells, by kinds -/
inductive CT where
  | dct | sts | any | oth
def CTok (B L nx : Nat) (τ : Nat → CT) : CT → Cell → Prop
  | .dct, .dic _ => True
  | .sts, .lst l => l.length ≤ L ∧ ∀ y ∈ l, ∃ d, y = .cel d ∧ B ≤ d ∧ d < nx ∧ τ d = .dct
  | .any, .lst l => l.length ≤ L
  | .oth, _ => True
  | _, _ => False
structure HT (B L : Nat) (N : Store) (τ : Nat → CT) : Prop where
  b : B ≤ N.nx
  at_ : ∀ n, B ≤ n → n < N.nx → τ n = .oth ∨ ∃ x, N.c n = some x ∧ CTok B L N.nx τ (τ n) x
theorem CTok.mono {B L L' nx nx' : Nat} {τ τ' : Nat → CT} {c : CT} {x : Cell} (h : CTok B L nx τ c x) (hL : L ≤ L') (hn : nx ≤ nx') (ht : ∀ d, d < nx → τ d = .dct → τ' d = .dct) : CTok B L' nx' τ' c x := by
  cases c <;> cases x <;> first | exact h | exact trivial | skip
  · obtain ⟨h1, h2⟩ := h
    refine ⟨Nat.le_trans h1 hL, fun y hy => ?_⟩
    obtain ⟨d, e, a, b, c⟩ := h2 y hy
    exact ⟨d, e, a, Nat.lt_of_lt_of_le b hn, ht d b c⟩
  · exact Nat.le_trans h hL
theorem HT.mono {B L L' : Nat} {N : Store} {τ : Nat → CT} (h : HT B L N τ) (hL : L ≤ L') : HT B L' N τ := ⟨h.b, fun n h1 h2 => by
  rcases h.at_ n h1 h2 with q | ⟨x, e, c⟩
  · exact .inl q
  · exact .inr ⟨x, e, c.mono hL (Nat.le_refl _) fun _ _ q => q⟩⟩
theorem HT.put {B L : Nat} {N : Store} {τ : Nat → CT} {n : Nat} {x : Cell} (h : HT B L N τ) (hx : CTok B L N.nx τ (τ n) x) : HT B L (N.put n x) τ := ⟨h.b, fun m h1 h2 => by
  rcases h.at_ m h1 h2 with q | ⟨y, e, c⟩
  · exact .inl q
  · by_cases z : m = n
    · subst z; exact .inr ⟨x, put_same, hx⟩
    · exact .inr ⟨y, (put_ne z).trans e, c⟩⟩
def upT (τ : Nat → CT) (n : Nat) (c : CT) : Nat → CT := fun m => if m = n then c else τ m
theorem upT_same {τ : Nat → CT} {n : Nat} {c : CT} : upT τ n c n = c := if_pos rfl
theorem upT_lt {τ : Nat → CT} {n m : Nat} {c : CT} (h : m < n) : upT τ n c m = τ m := if_neg (by omega)
theorem HT.new {B L : Nat} {N : Store} {τ : Nat → CT} {x : Cell} (h : HT B L N τ) (c : CT) (hx : CTok B L (N.nx + 1) (upT τ N.nx c) c x) : HT B L (N.new x) (upT τ N.nx c) := by
  refine ⟨Nat.le_succ_of_le h.b, fun m h1 h2 => ?_⟩
  rw [new_nx] at h2
  by_cases z : m = N.nx
  · subst z
    rw [upT_same]
    exact .inr ⟨x, new_same, hx⟩
  · rw [upT_lt (by omega)]
    rcases h.at_ m h1 (by omega) with q | ⟨y, e, q⟩
    · exact .inl q
    · exact .inr ⟨y, (new_ne z).trans e, q.mono (Nat.le_refl _) (by rw [new_nx]; omega) fun d hd hq => by rw [upT_lt hd]; exact hq⟩
def cutT (τ : Nat → CT) (n : Nat) : Nat → CT := fun m => if m < n then τ m else .oth
theorem cutT_lt {τ : Nat → CT} {n m : Nat} (h : m < n) : cutT τ n m = τ m := if_pos h
theorem cutT_ge {τ : Nat → CT} {n m : Nat} (h : n ≤ m) : cutT τ n m = .oth := if_neg (by omega)
theorem HT.ext {B L : Nat} {N N' : Store} {τ : Nat → CT} (h : HT B L N τ) (k : Kx [] N N') : HT B L N' (cutT τ N.nx) := by
  have hn := k.nx
  refine ⟨Nat.le_trans h.b hn, fun m h1 h2 => ?_⟩
  by_cases z : m < N.nx
  · rw [cutT_lt z]
    rcases h.at_ m h1 z with q | ⟨y, e, q⟩
    · exact .inl q
    · exact .inr ⟨y, k.get z (by simp) e, q.mono (Nat.le_refl _) hn fun d hd hq => by rw [cutT_lt hd]; exact hq⟩
  · exact .inl (cutT_ge (by omega))
theorem HT.dct {B L : Nat} {N : Store} {τ : Nat → CT} {n : Nat} (h : HT B L N τ) (h1 : B ≤ n) (h2 : n < N.nx) (e : τ n = .dct) : ∃ l, N.c n = some (.dic l) := by
  rcases h.at_ n h1 h2 with q | ⟨x, ex, c⟩
  · rw [e] at q; cases q
  · rw [e] at c
    cases x <;> first | exact ⟨_, ex⟩ | exact c.elim
theorem HT.sts {B L : Nat} {N : Store} {τ : Nat → CT} {n : Nat} (h : HT B L N τ) (h1 : B ≤ n) (h2 : n < N.nx) (e : τ n = .sts) : ∃ l, N.c n = some (.lst l) ∧ l.length ≤ L ∧ ∀ y ∈ l, ∃ d, y = .cel d ∧ B ≤ d ∧ d < N.nx ∧ τ d = .dct := by
  rcases h.at_ n h1 h2 with q | ⟨x, ex, c⟩
  · rw [e] at q; cases q
  · rw [e] at c
    cases x <;> first | exact ⟨_, ex, c⟩ | exact c.elim
theorem HT.any {B L : Nat} {N : Store} {τ : Nat → CT} {n : Nat} (h : HT B L N τ) (h1 : B ≤ n) (h2 : n < N.nx) (e : τ n = .any) : ∃ l, N.c n = some (.lst l) ∧ l.length ≤ L := by
  rcases h.at_ n h1 h2 with q | ⟨x, ex, c⟩
  · rw [e] at q; cases q
  · rw [e] at c
    cases x <;> first | exact ⟨_, ex, c⟩ | exact c.elim
theorem W_dict {M : Store} {x : Va} {l : List (Key × Va)} {P : Out → Store → Prop} (e : dicOf M x = some l) (h : P (.val (.cel M.nx)) (M.new (.dic l))) : W (kDict [x] M) P := ⟨_, _, by unfold kDict; dsimp only; rw [e], h⟩
theorem W_list {M : Store} {x : Va} {l : List Va} {P : Out → Store → Prop} (e : seqOf M x = some l) (h : P (.val (.cel M.nx)) (M.new (.lst l))) : W (kList [x] M) P := ⟨_, _, by unfold kList; dsimp only; rw [e], h⟩
theorem al2_append {α β : Type} {P : α → β → Prop} : ∀ {l : List α} {m : List β} {l' : List α} {m' : List β}, Al2 P l m → Al2 P l' m' → Al2 P (l ++ l') (m ++ m')
  | _, _, _, _, .nil, h => h
  | _, _, _, _, .cons a t, h => .cons a (al2_append t h)
/-- copies of rows -/
theorem copy_lc {B L : Nat} {N : Store} {τ : Nat → CT} (ht : HT B L N τ) {cols : List Str} {F : Int} (hl : cols.length ≤ 20) {rows : List Row} (hr : ∀ r ∈ rows, RowK cols F r) {s : SL} {i : Nat} {chk : Store → Prop} (hc : ∀ M, chk M) {k : List Va → Store → Prop}
    (hi : ∀ (x : Va), evVar i (s.set i (some x)) = fun N => some (.val x, N))
    (q : ∀ (ds : List Nat) (N' : Store) (τ' : Nat → CT), HT B L N' τ' → (∀ m, m < N.nx → τ' m = τ m) → (∀ d ∈ ds, B ≤ d ∧ d < N'.nx ∧ τ' d = .dct) → Al2 (RowAny N' cols) (rows.map (rowF cols)) (ds.map Va.cel) → Kx [] N N' → ds.length = rows.length → k (ds.map Va.cel) N') :
    WCm (compL chk (tgName i) evYes (evL kDict (evCons (evVar i) evNil)) s (rows.map rowX) N) k := by
  refine WC_inv rowX Va.cel rows (fun ds N' => ∃ τ', HT B L N' τ' ∧ (∀ m, m < N.nx → τ' m = τ m) ∧ (∀ d ∈ ds, B ≤ d ∧ d < N'.nx ∧ τ' d = .dct) ∧ Al2 (RowAny N' cols) ((rows.take ds.length).map (rowF cols)) (ds.map Va.cel) ∧ Kx [] N N') ⟨τ, ht, fun _ _ => rfl, (fun _ h => (by cases h)), .nil, Kx.refl⟩ (fun _ M _ => hc M) ?_ ?_
  · rintro pre x post N1 ds e hdl ⟨τ1, t1, ag, hd, al, kN⟩
    refine ⟨_, rfl, ?_⟩
    have b1 := t1.b
    have nN := kN.nx
    refine W_L (W_cons ⟨_, _, congrFun (hi _) N1, onV_v ?_⟩)
    tm_at "v"
    refine W_dict (l := rowE x) rfl ?_
    have k2 : Kx [] N1 (N1.new (.dic (rowE x))) := Kx.new
    refine ⟨N1.nx, rfl, upT τ1 N1.nx .dct, t1.new .dct trivial, fun m hm => by rw [upT_lt (by omega)]; exact ag m hm, fun d hd' => ?_, ?_, kN.trans k2⟩
    · rcases List.mem_append.mp hd' with h | h
      · obtain ⟨p1, p2, p3⟩ := hd d h
        exact ⟨p1, by rw [new_nx]; omega, by rw [upT_lt p2]; exact p3⟩
      · rw [List.mem_singleton.mp h]
        exact ⟨b1, by rw [new_nx]; omega, upT_same⟩
    · have hx : x ∈ rows := by rw [e]; simp
      have e2 : rows.take (ds ++ [N1.nx]).length = rows.take ds.length ++ [x] := by
        have f1 : (pre ++ x :: post).take (pre.length + 1) = pre ++ [x] := by
          rw [show pre ++ x :: post = (pre ++ [x]) ++ post by simp, show pre.length + 1 = (pre ++ [x]).length by simp, List.take_left]
        have f2 : (pre ++ x :: post).take pre.length = pre := List.take_left
        rw [e, hdl, List.length_append, hdl, f2]
        exact f1
      rw [e2, List.map_append, List.map_append]
      exact al2_append (Al2.imp (P := RowAny N1 cols) (fun _ _ q => q.kx k2) al) (.cons ⟨rowE x, DA.cel new_same (by rw [new_nx]; omega), row_tells (hr x hx) hl⟩ .nil)
  · rintro ds N' hdl ⟨τ', t', ag, hd, al, kN⟩
    refine q ds N' τ' t' ag hd ?_ kN hdl
    rwa [hdl, List.take_length] at al
def KC (B nx : Nat) (τ : Nat → CT) (y : Va) : Prop := ∃ z si ti, y = .tup [.str z, .cel si, .cel ti] ∧ (B ≤ si ∧ si < nx ∧ τ si = .sts) ∧ B ≤ ti ∧ ti < nx ∧ τ ti = .any
theorem KC.up {B nx nx' : Nat} {τ τ' : Nat → CT} {y : Va} (h : KC B nx τ y) (hn : nx ≤ nx') (ht : ∀ m, m < nx → τ' m = τ m) : KC B nx' τ' y := by
  obtain ⟨z, si, ti, e, ⟨a1, a2, a3⟩, b1, b2, b3⟩ := h
  exact ⟨z, si, ti, e, ⟨a1, by omega, by rw [ht _ a2]; exact a3⟩, b1, by omega, by rw [ht _ b2]; exact b3⟩
/-- copies of kinds -/
theorem kinds_lc {B : Nat} {N : Store} {τ : Nat → CT} (ht : HT B 100 N τ) {D : Sch} {F : Int} (ok : D.Ok F) {s0 s1 s2 s3 s4 s5 : Option Va} {k : List Va → Store → Prop}
    (q : ∀ (ys : List Va) (N' : Store) (τ' : Nat → CT), HT B 100 N' τ' → (∀ m, m < N.nx → τ' m = τ m) → (∀ y ∈ ys, KC B N'.nx τ' y) → Al2 (KindAny N' D.cols) (D.kinds.map (knF D.cols)) ys → Kx [] N N' → k ys N') :
    WCm (compL (fun _ => True) (tgTup [(tgName 6), (tgName 7), (tgName 8)]) evYes (evL kTup (evCons (evVar 6) (evCons (evLcC (itA (evVar 7)) (tgName 9) evYes (evL kDict (evCons (evVar 9) evNil)) [9]) (evCons (evL kList (evCons (evVar 8) evNil)) evNil)))) [s0, s1, s2, s3, s4, s5, none, none, none, none] (D.kinds.map knV) N) k := by
  have hcl := ok.cl
  have key : WCm (compL (fun _ => True) (tgTup [(tgName 6), (tgName 7), (tgName 8)]) evYes (evL kTup (evCons (evVar 6) (evCons (evLcC (itA (evVar 7)) (tgName 9) evYes (evL kDict (evCons (evVar 9) evNil)) [9]) (evCons (evL kList (evCons (evVar 8) evNil)) evNil)))) [s0, s1, s2, s3, s4, s5, none, none, none, none] (D.kinds.map knV) N) (fun ys N' => ∃ τ', HT B 100 N' τ' ∧ (∀ m, m < N.nx → τ' m = τ m) ∧ (∀ y ∈ ys, KC B N'.nx τ' y) ∧ Al2 (KindAny N' D.cols) (D.kinds.map (knF D.cols)) ys ∧ Kx [] N N') := by
    refine WC_inv knV (fun y => y) D.kinds (fun ys N' => ∃ τ', HT B 100 N' τ' ∧ (∀ m, m < N.nx → τ' m = τ m) ∧ (∀ y ∈ ys, KC B N'.nx τ' y) ∧ Al2 (KindAny N' D.cols) ((D.kinds.take ys.length).map (knF D.cols)) ys ∧ Kx [] N N') ⟨τ, ht, fun _ _ => rfl, (fun _ h => (by cases h)), .nil, Kx.refl⟩ (fun _ _ _ => trivial) ?_ ?_
    · rintro pre x post N1 ys e hyl ⟨τ1, t1, ag, hd, al, kN⟩
      have hx : x ∈ D.kinds := by rw [e]; simp
      have okx := ok.kd x hx
      have nN := kN.nx
      have n1 := okx.n1
      have n2 := okx.n2
      refine ⟨_, rfl, ?_⟩
      tm_at "v"
      refine copy_lc t1 (by omega) okx.row (fun _ => trivial) (fun _ => rfl) ?_
      intro ds N2 τ2 t2 ag2 hd2 al2 k2 hdl
      have nN2 := k2.nx
      tm_at "v"
      have t3 : HT B 100 (N2.new (.lst (ds.map Va.cel))) (upT τ2 N2.nx .sts) := t2.new .sts (by
        refine ⟨by rw [List.length_map]; omega, fun y hy => ?_⟩
        obtain ⟨d, hd', rfl⟩ := List.mem_map.mp hy
        obtain ⟨p1, p2, p3⟩ := hd2 d hd'
        exact ⟨d, rfl, p1, by omega, by rw [upT_lt p2]; exact p3⟩)
      refine W_list (l := x.2.2.map stV) rfl ?_
      have t4 := t3.new (x := .lst (x.2.2.map stV)) .any (by show (x.2.2.map stV).length ≤ 100; rw [List.length_map]; omega)
      have b2 := t2.b
      have k3 : Kx [] N1 ((N2.new (.lst (ds.map Va.cel))).new (.lst (x.2.2.map stV))) := (k2.newN).newN
      tm_at "v"
      refine ⟨_, rfl, _, t4, fun m hm => ?_, fun y hy => ?_, ?_, kN.trans k3⟩
      · rw [upT_lt (by rw [new_nx]; omega), upT_lt (by omega), ag2 m (by omega), ag m hm]
      · rcases List.mem_append.mp hy with h | h
        · refine (hd y h).up (by simp only [new_nx]; omega) fun m hm => ?_
          rw [upT_lt (by rw [new_nx]; omega), upT_lt (by omega), ag2 m (by omega)]
        · rw [List.mem_singleton.mp h]
          refine ⟨x.1, N2.nx, N2.nx + 1, rfl, ⟨b2, by simp only [new_nx]; omega, ?_⟩, by omega, by simp only [new_nx]; omega, upT_same⟩
          rw [upT_lt (by rw [new_nx]; omega), upT_same]
      · have e2 : D.kinds.take (ys ++ [Va.tup [.str x.1, .cel N2.nx, .cel (N2.nx + 1)]]).length = D.kinds.take ys.length ++ [x] := by
          have f1 : (pre ++ x :: post).take (pre.length + 1) = pre ++ [x] := by
            rw [show pre ++ x :: post = (pre ++ [x]) ++ post by simp, show pre.length + 1 = (pre ++ [x]).length by simp, List.take_left]
          have f2 : (pre ++ x :: post).take pre.length = pre := List.take_left
          rw [e, hyl, List.length_append, hyl, f2]
          exact f1
        show Al2 _ ((D.kinds.take (ys ++ [Va.tup [.str x.1, .cel N2.nx, .cel (N2.nx + 1)]]).length).map (knF D.cols)) (ys ++ [Va.tup [.str x.1, .cel N2.nx, .cel (N2.nx + 1)]])
        rw [e2, List.map_append]
        refine al2_append (Al2.imp (P := KindAny N1 D.cols) (fun _ _ q => q.kx k3) al) (.cons ⟨.cel N2.nx, .cel (N2.nx + 1), ds.map Va.cel, rfl, LA.cel (by rw [new_ne (by rw [new_nx]; omega)]; exact new_same) (by simp only [new_nx]; omega), ?_, LA.cel new_same (by simp only [new_nx]; omega)⟩ .nil)
        exact Al2.imp (P := RowAny N2 D.cols) (fun _ _ q => q.kx (Kx.new.newN)) al2
    · rintro ys N' hyl ⟨τ', t', ag, hd, al, kN⟩
      rw [List.map_id'']
      · refine ⟨τ', t', ag, hd, ?_, kN⟩
        rwa [hyl, List.take_length] at al
      · intro _; rfl
  obtain ⟨ys, N', e, τ', h1, h2, h3, h4, h5⟩ := key
  exact ⟨ys, N', e, q ys N' τ' h1 h2 h3 h4 h5⟩
end Lw
end

set_option Elab.async false
set_option linter.all false
set_option maxRecDepth 100000
set_option maxHeartbeats 4000000
set_option exponentiation.threshold 3000
section
namespace Lw
open PySem L2 PV
/-! ### the plan, and what was passed is changed behind -/
structure PlI (M : Store) (p kc : Nat) (ys : List Va) (D : Dat) (L : Nat) (N : Store) (τ : Nat → CT) : Prop where
  ht : HT M.nx L N τ
  kx : Kx [] M N
  pc : N.c p = some (.ins 0 (planF D))
  pt : τ p = .oth
  pl : M.nx ≤ p
  pn : p < N.nx
  kt : τ kc = .oth
  kn : kc < N.nx
  kk : N.c kc = some (.lst ys)
theorem PlI.put {M : Store} {p kc : Nat} {ys : List Va} {D : Dat} {L : Nat} {N : Store} {τ : Nat → CT} {n : Nat} {x : Cell} (h : PlI M p kc ys D L N τ) (hn : M.nx ≤ n) (ho : τ n ≠ .oth) (hx : CTok M.nx L N.nx τ (τ n) x) : PlI M p kc ys D L (N.put n x) τ :=
  ⟨h.ht.put hx, h.kx.putN hn, (put_ne fun e => ho (by rw [← e]; exact h.pt)).trans h.pc, h.pt, h.pl, h.pn, h.kt, h.kn, (put_ne fun e => ho (by rw [← e]; exact h.kt)).trans h.kk⟩
theorem PlI.newD {M : Store} {p kc : Nat} {ys : List Va} {D : Dat} {L : Nat} {N : Store} {τ : Nat → CT} (h : PlI M p kc ys D L N τ) : PlI M p kc ys D L (N.new (.dic [])) (upT τ N.nx .dct) := by
  have h1 := h.pn
  have h2 := h.kn
  exact ⟨h.ht.new .dct trivial, h.kx.newN, (new_ne (by omega)).trans h.pc, by rw [upT_lt h1]; exact h.pt, h.pl, by rw [new_nx]; omega, by rw [upT_lt h2]; exact h.kt, by rw [new_nx]; omega, (new_ne (by omega)).trans h.kk⟩
theorem PlI.mono {M : Store} {p kc : Nat} {ys : List Va} {D : Dat} {L L' : Nat} {N : Store} {τ : Nat → CT} (h : PlI M p kc ys D L N τ) (hl : L ≤ L') : PlI M p kc ys D L' N τ := ⟨h.ht.mono hl, h.kx, h.pc, h.pt, h.pl, h.pn, h.kt, h.kn, h.kk⟩
theorem ct_ne {c : CT} (h : c = .dct ∨ c = .sts ∨ c = .any) : c ≠ .oth := by rcases h with rfl | rfl | rfl <;> intro e <;> cases e
/-- for x in c: x.clear() -/
theorem clear_all {M : Store} {p kc : Nat} {ys : List Va} {D : Dat} {L : Nat} {N : Store} {τ : Nat → CT} (h : PlI M p kc ys D L N τ) {c : Nat} {l : List Va} (hc : N.c c = some (.lst l)) (hl : ∀ y ∈ l, ∃ d, y = .cel d ∧ M.nx ≤ d ∧ d < N.nx ∧ τ d = .dct) (hct : τ c = .sts) {t : Nat} {s : SL} (G : SL → Prop) (g0 : G s)
    (hv : ∀ s (x : Va), G s → G (s.set t (some x)) ∧ evVar t (s.set t (some x)) = fun N => some (.val x, N)) {K : Fl → SL → Store → Prop}
    (q : ∀ s' N', G s' → PlI M p kc ys D L N' τ → N'.c c = some (.lst l) → N'.nx = N.nx → K .nx s' N') :
    WS (loopF (fun M => lstOf M (.cel c) = some l) (tgName t) (sDrop (evClear (evVar t))) l s N) K := by
  rw [show l = l.map fun y => y from (List.map_id'' (fun _ => rfl) l).symm]
  refine WS_loop (fun y => y) l (fun _ s N' => G s ∧ PlI M p kc ys D L N' τ ∧ N'.c c = some (.lst l) ∧ N'.nx = N.nx) ⟨g0, h, hc, rfl⟩ ?_ ?_ ?_
  · rintro _ s N1 ⟨_, _, e, _⟩
    rw [y_lstC, e]
    simp
  · rintro pre y post s N1 e ⟨g1, h1, c1, n1⟩
    obtain ⟨d, rfl, d1, d2, d3⟩ := hl y (by rw [e]; simp)
    obtain ⟨dl, hd⟩ := h1.ht.dct d1 (by omega) d3
    obtain ⟨g2, v2⟩ := hv s (.cel d) g1
    refine ⟨_, rfl, S_drop (W_clear ⟨_, _, congrFun v2 N1, onV_v (W_clearD hd ?_)⟩)⟩
    tm_at "v"
    refine ⟨g2, h1.put d1 (ct_ne (.inl d3)) (by rw [d3]; trivial), (put_ne fun z => ?_).trans c1, n1⟩
    rw [z, d3] at hct
    cases hct
  · rintro s N1 ⟨g1, h1, c1, n1⟩
    exact q s N1 g1 h1 c1 n1
theorem law_plan {M : Store} {D : Sch} {F : Int} (ok : D.Ok F) (hF : 0 ≤ F) (hch : D.checks.length ≤ 20) :
    ∃ p M', c__law_plan [D.va] M = some (.val (.cel p), M') ∧ M.nx ≤ p ∧ p < M'.nx ∧ M'.c p = some (.ins 0 (planF D.dat)) ∧ Kx [] M M' ∧ M.nx ≤ M'.nx := by
  suffices hW : W (c__law_plan [D.va] M) (fun o M' => ∃ p, o = .val (.cel p) ∧ M.nx ≤ p ∧ p < M'.nx ∧ M'.c p = some (.ins 0 (planF D.dat)) ∧ Kx [] M M') by
    obtain ⟨_, M', e, r, rfl, a, b, c, d⟩ := hW
    exact ⟨r, M', e, a, b, c, d, d.nx⟩
  unfold c__law_plan m__law_plan
  have hcl := ok.cl
  refine W_run ?_
  tm_at "s"
  refine W_list (l := D.cols.map Va.str) rfl ?_
  have t0 : HT M.nx 100 M (fun _ => CT.oth) := ⟨Nat.le_refl _, fun _ _ _ => .inl rfl⟩
  have t1 := t0.new (x := .lst (D.cols.map Va.str)) .any (by show (D.cols.map Va.str).length ≤ 100; rw [List.length_map]; omega)
  tm_at "v"
  tm_at "s"
  refine kinds_lc t1 ok ?_
  intro ys N2 τ2 t2 ag2 kc2 al2 k2
  have b2 := t2.b
  have n2 := k2.nx
  rw [new_nx] at n2
  have t3 := t2.new (x := .lst ys) .oth trivial
  tm_at "v"
  tm_at "s"
  refine copy_lc t3 (by omega) ok.ck (fun _ => trivial) (fun _ => rfl) ?_
  intro ds N3 τ3 t3' ag3 hd3 al3 k3 hdl
  have b3 := t3'.b
  have n3 := k3.nx
  rw [new_nx] at n3
  have t4 := t3'.new (x := .lst (ds.map Va.cel)) .sts (by
    refine ⟨by rw [List.length_map]; omega, fun y hy => ?_⟩
    obtain ⟨d, hd', rfl⟩ := List.mem_map.mp hy
    obtain ⟨p1, p2, p3⟩ := hd3 d hd'
    exact ⟨d, rfl, p1, by omega, by rw [upT_lt p2]; exact p3⟩)
  have K2 : Kx [] M N2 := Kx.new.trans k2
  have K3 : Kx [] N2 N3 := Kx.new.trans k3
  have c0 : N2.c M.nx = some (.lst (D.cols.map Va.str)) := k2.get (by rw [new_nx]; omega) (by simp) new_same
  have cK : N3.c N2.nx = some (.lst ys) := k3.get (by rw [new_nx]; omega) (by simp) new_same
  have K4 : Kx [] N3 (N3.new (.lst (ds.map Va.cel))) := Kx.new
  have H : Passed (N3.new (.lst (ds.map Va.cel))) D.dat (.cel M.nx) (.cel N2.nx) (.cel N3.nx) := by
    refine ⟨LA.cel (K4.get (by omega) (by simp) (K3.get (by omega) (by simp) c0)) (by rw [new_nx]; omega), ⟨ys, LA.cel (K4.get (by omega) (by simp) cK) (by rw [new_nx]; omega), ?_⟩, ⟨ds.map Va.cel, LA.cel new_same (by rw [new_nx]; omega), ?_⟩⟩
    · exact Al2.imp (P := KindAny N2 D.cols) (fun _ _ q => (q.kx K3).kx K4) al2
    · exact Al2.imp (P := RowAny N3 D.cols) (fun _ _ q => q.kx K4) al3
  tm_at "v"
  tm_at "s"
  obtain ⟨N5, e5, p5, k5, n5⟩ := make_any (ok.dat hF hch) H
  refine W_eq e5 ?_
  have n5' := k5.nx
  rw [new_nx] at n5' n5 e5
  have t5 := t4.ext k5
  rw [new_nx] at t5
  let τ5 := cutT (upT τ3 N3.nx .sts) (N3.nx + 1)
  have a0 : τ5 M.nx = .any := by
    show cutT (upT τ3 N3.nx .sts) (N3.nx + 1) M.nx = .any
    rw [cutT_lt (by omega), upT_lt (by omega), ag3 _ (by rw [new_nx]; omega), upT_lt (by omega), ag2 _ (by rw [new_nx]; omega), upT_same]
  have aK : τ5 N2.nx = .oth := by
    show cutT (upT τ3 N3.nx .sts) (N3.nx + 1) N2.nx = .oth
    rw [cutT_lt (by omega), upT_lt (by omega), ag3 _ (by rw [new_nx]; omega), upT_same]
  have aH : τ5 N3.nx = .sts := by
    show cutT (upT τ3 N3.nx .sts) (N3.nx + 1) N3.nx = .sts
    rw [cutT_lt (by omega), upT_same]
  have up : ∀ m, m < N2.nx → τ5 m = τ2 m := fun m hm => by
    show cutT (upT τ3 N3.nx .sts) (N3.nx + 1) m = _
    rw [cutT_lt (by omega), upT_lt (by omega), ag3 _ (by rw [new_nx]; omega), upT_lt hm]
  have I5 : PlI M (N3.nx + 1) N2.nx ys D.dat 100 N5 τ5 := ⟨t5, ((K2.trans K3).trans K4).trans k5, p5, cutT_ge (Nat.le_refl _), by omega, n5, aK, by omega, k5.get (by rw [new_nx]; omega) (by simp) (K4.get (by omega) (by simp) cK)⟩
  clear_value τ5
  have kc5 : ∀ y ∈ ys, KC M.nx N5.nx τ5 y := fun y hy => (kc2 y hy).up (by omega) up
  obtain ⟨l0, cl0, ll0⟩ := I5.ht.any (Nat.le_refl _) (by omega) a0
  tm_at "v"
  tm_at "s"
  have I6 : PlI M (N3.nx + 1) N2.nx ys D.dat 101 (N5.put M.nx (.lst (l0 ++ [.str "late"]))) τ5 := (I5.mono (by omega)).put (Nat.le_refl _) (ct_ne (.inr (.inr a0))) (by rw [a0]; show (l0 ++ [Va.str "late"]).length ≤ 101; rw [List.length_append]; simp; omega)
  generalize hN6 : N5.put M.nx (.lst (l0 ++ [.str "late"])) = N6 at I6 ⊢
  have n6 : N6.nx = N5.nx := by rw [← hN6]; rfl
  clear hN6
  refine S_cut (fun s N => ∃ (τ : Nat → CT) (u6 u7 u8 u9 : Option Va), s = [some D.va, some (.cel M.nx), some (.cel N2.nx), some (.cel N3.nx), some (.cel (N3.nx + 1)), none, u6, u7, u8, u9] ∧ PlI M (N3.nx + 1) N2.nx ys D.dat (101 + 2 * ys.length) N τ ∧ τ N3.nx = .sts ∧ N3.nx < N.nx) ?_ ?_
  · have hk6 := I6.kk
    tm_at "v"
    refine WS_loopV ys (fun pre s N => ∃ (τ : Nat → CT) (u6 u7 u8 u9 : Option Va), s = [some D.va, some (.cel M.nx), some (.cel N2.nx), some (.cel N3.nx), some (.cel (N3.nx + 1)), none, u6, u7, u8, u9] ∧ PlI M (N3.nx + 1) N2.nx ys D.dat (101 + 2 * pre.length) N τ ∧ τ N3.nx = .sts ∧ (∀ y ∈ ys, KC M.nx N.nx τ y) ∧ N5.nx ≤ N.nx) ?_ ?_ ?_ ?_
    · exact ⟨τ5, none, none, none, none, rfl, I6, aH, fun y hy => (kc5 y hy).up (by omega) fun _ _ => rfl, by omega⟩
    · rintro _ s N ⟨τ, _, _, _, _, _, h, _⟩
      rw [y_lstC, h.kk]
    · rintro pre y post s N e ⟨τ, u6, u7, u8, u9, rfl, I, aS, kcs, nN⟩
      have hpl : pre.length + post.length + 1 = ys.length := by
        have := congrArg List.length e
        simp only [List.length_append, List.length_cons] at this
        omega
      have yl : ys.length ≤ 4 := by
        have := al2.len
        rw [List.length_map] at this
        have := ok.kl
        omega
      obtain ⟨z, si, ti, rfl, ⟨a1, a2, a3⟩, b1, b2, b3⟩ := kcs y (by rw [e]; simp)
      refine ⟨_, rfl, ?_⟩
      obtain ⟨ls, cs, lsl, hls⟩ := I.ht.sts a1 a2 a3
      refine S_seq ?_
      tm_at "v"
      refine clear_all I cs hls a3 (fun s => ∃ u9, s = [some D.va, some (.cel M.nx), some (.cel N2.nx), some (.cel N3.nx), some (.cel (N3.nx + 1)), none, some (.str z), some (.cel si), some (.cel ti), u9]) ⟨_, rfl⟩ ?_ ?_
      · rintro s x ⟨u9, rfl⟩
        exact ⟨⟨_, rfl⟩, rfl⟩
      · rintro s' N7 ⟨u9, rfl⟩ I7 c7 n7
        tm_at "v"
        tm_at "s"
        have I8 : PlI M (N3.nx + 1) N2.nx ys D.dat (101 + 2 * pre.length + 1) (N7.new (.dic [])) (upT τ N7.nx .dct) := I7.newD.mono (by omega)
        have e8 : upT τ N7.nx .dct si = .sts := by rw [upT_lt (by omega)]; exact a3
        have e9 : upT τ N7.nx .dct ti = .any := by rw [upT_lt (by omega)]; exact b3
        have I9 : PlI M (N3.nx + 1) N2.nx ys D.dat (101 + 2 * pre.length + 1) ((N7.new (.dic [])).put si (.lst (ls ++ [.cel N7.nx]))) (upT τ N7.nx .dct) := I8.put a1 (ct_ne (.inr (.inl e8))) (by
          rw [e8]
          refine ⟨by rw [List.length_append]; simp; omega, fun y hy => ?_⟩
          rcases List.mem_append.mp hy with h | h
          · obtain ⟨d, ed, d1, d2, d3⟩ := hls y h
            exact ⟨d, ed, d1, by rw [new_nx]; omega, by rw [upT_lt (by omega)]; exact d3⟩
          · rw [List.mem_singleton.mp h]
            exact ⟨N7.nx, rfl, I7.ht.b, by rw [new_nx]; omega, upT_same⟩)
        obtain ⟨lt, ct, ltl⟩ := I9.ht.any b1 (by simp only [put_nx, new_nx]; omega) e9
        tm_at "v"
        have I10 := I9.mono (L' := 101 + 2 * pre.length + 2) (by omega)
        have I11 : PlI M (N3.nx + 1) N2.nx ys D.dat (101 + 2 * pre.length + 2) (((N7.new (.dic [])).put si (.lst (ls ++ [.cel N7.nx]))).put ti (.lst (lt ++ [.tup [.str "late", .int 0, .int 0]]))) (upT τ N7.nx .dct) := I10.put b1 (ct_ne (.inr (.inr e9))) (by rw [e9]; show (lt ++ [Va.tup [.str "late", .int 0, .int 0]]).length ≤ _; simp only [List.length_append, List.length_cons, List.length_nil]; omega)
        refine ⟨upT τ N7.nx .dct, _, _, _, _, rfl, I11.mono (by simp only [List.length_append, List.length_cons, List.length_nil]; omega), by rw [upT_lt (by omega)]; exact aS, fun y hy => (kcs y hy).up (by simp only [put_nx, new_nx]; omega) fun m hm => upT_lt (by omega), by simp only [put_nx, new_nx]; omega⟩
    · rintro s N ⟨τ, u6, u7, u8, u9, rfl, I, aS, kcs, nN⟩
      exact ⟨τ, u6, u7, u8, u9, rfl, I, aS, by omega⟩
  · rintro _ N ⟨τ, u6, u7, u8, u9, rfl, I, aS, nN⟩
    have kk := I.kk
    have yl : ys.length ≤ 4 := by
      have := al2.len
      rw [List.length_map] at this
      have := ok.kl
      omega
    tm_at "s"
    have I2 : PlI M (N3.nx + 1) N2.nx ys.reverse D.dat (101 + 2 * ys.length) (N.put N2.nx (.lst ys.reverse)) τ := ⟨I.ht.put (by rw [I.kt]; trivial), I.kx.putN (by omega), (put_ne (by omega)).trans I.pc, I.pt, I.pl, I.pn, I.kt, I.kn, put_same⟩
    obtain ⟨ls, cs, lsl, hls⟩ := I2.ht.sts (by omega) (by simp only [put_nx]; omega) aS
    tm_at "v"
    refine S_seq ?_
    tm_at "v"
    refine clear_all I2 cs hls aS (fun s => ∃ u5, s = [some D.va, some (.cel M.nx), some (.cel N2.nx), some (.cel N3.nx), some (.cel (N3.nx + 1)), u5, u6, u7, u8, u9]) ⟨_, rfl⟩ ?_ ?_
    · rintro s x ⟨u5, rfl⟩
      exact ⟨⟨_, rfl⟩, rfl⟩
    · rintro s' N7 ⟨u5, rfl⟩ I7 c7 n7
      have c8 : (N7.new (.dic [])).c N3.nx = some (.lst ls) := (new_ne (by rw [n7]; simp only [put_nx]; omega)).trans c7
      have I8 := I7.newD
      have p8 := I8.pn
      have x8 := I8.kx
      have pc8 := I8.pc
      tm_at "w"
      refine ⟨N3.nx + 1, rfl, I8.pl, I8.pn, (put_ne (by omega)).trans pc8, x8.putN (by omega)⟩
end Lw
end

set_option Elab.async false
set_option linter.all false
set_option maxRecDepth 100000
set_option maxHeartbeats 4000000
set_option exponentiation.threshold 3000
section
local macro_rules | `(tactic| tm_at "opx") => `(tactic| first | assumption | exact Lw.y_neg | exact PV.y_min | ((apply Lw.y_addL) <;> tm_at "num"))
namespace Lw
open PySem L2 PV
/-! ### values of sums, steps that are barred -/
def dot : List Int → List Int → Int
  | x :: a, y :: b => x * y + dot a b
  | _, _ => 0
def barB : List Int → List Int → List Bool → Bool
  | x :: b, y :: a, r :: rs => (decide (y < x) && !r) || barB b a rs
  | _, _, _ => false
theorem zipL_map (a b : List Int) : zipL (a.map Va.int) (b.map Va.int) = (a.zip b).map fun p => Va.tup [.int p.1, .int p.2] := by
  induction a generalizing b with
  | nil => cases b <;> rfl
  | cons x a ih =>
    cases b with
    | nil => rfl
    | cons y b =>
      show Va.tup [.int x, .int y] :: zipL (a.map Va.int) (b.map Va.int) = _
      rw [ih]; rfl
theorem dot_zip : ∀ a b : List Int, dot a b = ((a.zip b).map fun p => p.1 * p.2).sum
  | [], b => by cases b <;> rfl
  | x :: a, [] => rfl
  | x :: a, y :: b => by
    show x * y + dot a b = _
    rw [dot_zip a b]; rfl
/-- products stay in the model's bounds -/
def MulOk (a b : List Int) : Prop := ∀ p ∈ a.zip b, CMul p.1 p.2
theorem mulOk_left {a b : List Int} (h : ∀ x ∈ a, -(2 ^ 64) < x ∧ x < 2 ^ 64) : MulOk a b := fun p hp => .inl (h _ (List.of_mem_zip hp).1)
theorem mulOk_right {a b : List Int} (h : ∀ x ∈ b, -(2 ^ 64) < x ∧ x < 2 ^ 64) : MulOk a b := fun p hp => .inr (h _ (List.of_mem_zip hp).2)
theorem y_mulC {M : Store} {i j : Int} (h : CMul i j) : opMul M (.int i) (.int j) = some (.int (i * j)) := if_pos h.ok
theorem value_of {M : Store} {a b : List Int} (h : MulOk a b) : c_value_of [rowV a, rowV b] M = some (.val (.int (dot a b)), M) := by
  suffices hW : W (c_value_of [rowV a, rowV b] M) (fun o M' => o = .val (.int (dot a b)) ∧ M' = M) by
    obtain ⟨_, _, e, rfl, rfl⟩ := hW
    exact e
  unfold c_value_of m_value_of
  refine W_run ?_
  tm_at "s"
  tm_at "s"
  refine I_Zp ?_
  tm_at "v"
  refine ⟨_, _, a.map Va.int, b.map Va.int, rfl, rfl, rfl, ?_⟩
  rw [zipL_map]
  tm_at "v"
  refine WS_loop (fun (p : Int × Int) => Va.tup [.int p.1, .int p.2]) (a.zip b) (fun pre s M' => M' = M ∧ ∃ s3 s4, s = [some (rowV a), some (rowV b), some (.int ((pre.map fun p => p.1 * p.2).sum)), s3, s4]) ?_ ?_ ?_ ?_
  · exact ⟨rfl, none, none, rfl⟩
  · rintro _ _ _ ⟨rfl, _⟩
    exact ⟨rfl, rfl⟩
  · rintro pre x post s N e ⟨rfl, s3, s4, rfl⟩
    have hx := h x (by rw [e]; simp)
    refine ⟨_, rfl, ?_⟩
    tm_at "v"
    refine WO_eq (y_mulC hx) ?_
    tm_at "v"
    refine ⟨rfl, some (.int x.1), some (.int x.2), ?_⟩
    rw [show ((pre ++ [x]).map fun p => p.1 * p.2).sum = (pre.map fun p => p.1 * p.2).sum + x.1 * x.2 by rw [List.map_append, List.sum_append]; simp]
    rfl
  · rintro s N ⟨rfl, s3, s4, rfl⟩
    tm_at "v"
    refine ⟨?_, rfl⟩
    rw [dot_zip]
def zip3 : List Int → List Int → List Bool → List (Int × Int × Bool)
  | x :: b, y :: a, r :: rs => (x, y, r) :: zip3 b a rs
  | _, _, _ => []
theorem barB_zip : ∀ (b a : List Int) (r : List Bool), barB b a r = (zip3 b a r).any fun p => decide (p.2.1 < p.1) && !p.2.2
  | x :: b, y :: a, r :: rs => by
    show (_ || barB b a rs) = _
    rw [barB_zip b a rs]; rfl
  | [], _, _ => by simp [barB, zip3]
  | _ :: _, [], _ => by simp [barB, zip3]
  | _ :: _, _ :: _, [] => by simp [barB, zip3]
theorem zipL3_map : ∀ (b a : List Int) (r : List Bool), zipL3 (b.map Va.int) (a.map Va.int) (r.map Va.bl) = (zip3 b a r).map fun p => Va.tup [.int p.1, .int p.2.1, .bl p.2.2]
  | x :: b, y :: a, r :: rs => by
    show Va.tup [.int x, .int y, .bl r] :: zipL3 (b.map Va.int) (a.map Va.int) (rs.map Va.bl) = _
    rw [zipL3_map b a rs]; rfl
  | [], _, _ => by simp [zipL3, zip3]
  | _ :: _, [], _ => by simp [zipL3, zip3]
  | _ :: _, _ :: _, [] => by simp [zipL3, zip3]
theorem I_Zp3 {s : SL} {M : Store} {ea : SE} {Ki : OutI → Store → Prop} (h : W (ea s M) (fun o M1 => ∃ v u y l m n, o = .val (.tup [v, u, y]) ∧ lstOf M1 v = some l ∧ lstOf M1 u = some m ∧ lstOf M1 y = some n ∧ Ki (.it (zipL3 l m n) (fun M => lstOf M v = some l ∧ lstOf M u = some m ∧ lstOf M y = some n)) M1)) : WI (itZp3 ea s M) Ki := by
  obtain ⟨o, M1, e, v, u, y, l, m, n, rfl, h1, h2, h3, p⟩ := h
  refine ⟨_, _, ?_, p⟩
  unfold itZp3
  rw [e]
  dsimp only
  rw [h1, h2, h3]
theorem blsOf_map {α : Type} (f : α → Bool) : ∀ l : List α, blsOf (l.map fun x => Va.bl (f x)) = some (l.map f)
  | [] => rfl
  | x :: l => by
    have ih := blsOf_map f l
    first
    | simp [blsOf, ih]
    | (show (blsOf (l.map fun x => Va.bl (f x))).map _ = _; rw [ih]; rfl)
theorem any_map {M : Store} {α : Type} (f : α → Bool) (l : List α) : gAny M [.lst (l.map fun x => Va.bl (f x))] = some (.bl (l.any f)) := by
  unfold gAny
  dsimp only
  rw [y_lstL]
  dsimp only
  rw [blsOf_map]
  simp [List.any_map]
theorem is_barred {M : Store} (b a : List Int) (r : List Bool) : c_is_barred [rowV b, rowV a, .lst (r.map Va.bl)] M = some (.val (.bl (barB b a r)), M) := by
  suffices hW : W (c_is_barred [rowV b, rowV a, .lst (r.map Va.bl)] M) (fun o M' => o = .val (.bl (barB b a r)) ∧ M' = M) by
    obtain ⟨_, _, e, rfl, rfl⟩ := hW
    exact e
  unfold c_is_barred m_is_barred
  refine W_run ?_
  tm_at "v"
  refine I_Zp3 ?_
  tm_at "v"
  refine ⟨_, _, _, b.map Va.int, a.map Va.int, r.map Va.bl, rfl, rfl, rfl, rfl, ?_⟩
  rw [zipL3_map]
  tm_at "v"
  refine WC_map (fun (p : Int × Int × Bool) => Va.tup [.int p.1, .int p.2.1, .bl p.2.2]) (fun p => .bl (decide (p.2.1 < p.1) && !p.2.2)) _ ⟨rfl, rfl, rfl⟩ ?_ ?_
  · intro p _
    refine ⟨_, rfl, ?_⟩
    tm_at "v"
  · tm_at "v"
    refine WO_eq (any_map _ _) ?_
    tm_at "v"
    rw [barB_zip]
    exact ⟨rfl, rfl⟩
end Lw
end

set_option Elab.async false
set_option linter.all false
set_option maxRecDepth 100000
set_option maxHeartbeats 4000000
set_option exponentiation.threshold 3000
section
namespace Lw
open PySem L2 PV
/-! ### the ways of a kind -/
abbrev Stp := Str × Int × Int
abbrev Way := List (Str × Int)
def wayV (w : Way) : Va := .lst (w.map fun q => .tup [.str q.1, .int q.2])
def wE (ws : List (Int × Way)) : List (Key × Va) := ws.map fun p => (Sum.inl p.1, wayV p.2)
/-- a path from state 0, each step let -/
inductive Path (l : List Stp) (ok : Int → Int → Bool) : Int → Way → Prop
  | nil : Path l ok 0 []
  | snoc {n : Str} {s e : Int} {w : Way} : Path l ok s w → (n, s, e) ∈ l → ok s e = true → Path l ok e (w ++ [(n, e)])
structure WyI (l : List Stp) (ok : Int → Int → Bool) (size : Int) (ws : List (Int × Way)) : Prop where
  nd : (ws.map (·.1)).Nodup
  rg : ∀ p ∈ ws, 0 ≤ p.1 ∧ p.1 < size
  pt : ∀ p ∈ ws, Path l ok p.1 p.2 ∧ p.2.length ≤ ws.length
  z : (0, []) ∈ ws
def ClosedAt (l : List Stp) (ok : Int → Int → Bool) (ws : List (Int × Way)) (st : Int) : Prop := ∀ t ∈ l, t.2.1 = st → ok t.2.1 t.2.2 = true → t.2.2 ∈ ws.map (·.1)
theorem WyI.len {l : List Stp} {ok : Int → Int → Bool} {size : Int} {ws : List (Int × Way)} (h : WyI l ok size ws) (hs : 0 ≤ size) : (ws.length : Int) ≤ size := by
  have := nd_le (ws.map (·.1)) ((List.range size.toNat).map fun (i : Nat) => (i : Int)) h.nd fun x hx => by
    obtain ⟨p, hp, rfl⟩ := List.mem_map.mp hx
    obtain ⟨a, b⟩ := h.rg p hp
    exact List.mem_map.mpr ⟨p.1.toNat, List.mem_range.mpr (by omega), by omega⟩
  rw [List.length_map, List.length_map, List.length_range] at this
  omega
theorem WyI.add {l : List Stp} {ok : Int → Int → Bool} {size : Int} {ws : List (Int × Way)} (h : WyI l ok size ws) {n : Str} {s e : Int} {w : Way} (hw : (s, w) ∈ ws) (ht : (n, s, e) ∈ l) (hok : ok s e = true) (he : e ∉ ws.map (·.1)) (hr : 0 ≤ e ∧ e < size) : WyI l ok size (ws ++ [(e, w ++ [(n, e)])]) := by
  refine ⟨?_, fun p hp => ?_, fun p hp => ?_, List.mem_append_left _ h.z⟩
  · rw [List.map_append, List.nodup_append]
    refine ⟨h.nd, by simp, fun a ha b hb z => he ?_⟩
    simp only [List.map_cons, List.map_nil, List.mem_singleton] at hb
    rw [← hb, ← z]
    exact ha
  · rcases List.mem_append.mp hp with q | q
    · exact h.rg p q
    · rw [List.mem_singleton.mp q]; exact hr
  · rcases List.mem_append.mp hp with q | q
    · exact ⟨(h.pt p q).1, by have := (h.pt p q).2; rw [List.length_append]; omega⟩
    · rw [List.mem_singleton.mp q]
      obtain ⟨p1, p2⟩ := h.pt _ hw
      exact ⟨.snoc p1 ht hok, by simp only [List.length_append, List.length_cons, List.length_nil] at p2 ⊢; omega⟩
theorem vaK_way : ∀ (ws : List (Int × Way)) (k : Int), vaK (wE ws) (.inl k) = (ws.lookup k).map wayV
  | [], _ => rfl
  | (j, w) :: ws, k => by
    have ih := vaK_way ws k
    unfold vaK at ih ⊢
    show ((List.find? (fun kv => decide (kv.1 = Sum.inl k)) ((Sum.inl j, wayV w) :: wE ws)).map (·.2)) = _
    rw [List.find?_cons, List.lookup_cons]
    by_cases h : j = k
    · subst h
      simp
    · have h1 : decide ((Sum.inl j : Key) = .inl k) = false := decide_eq_false fun z => by injection z with z; exact h z
      have h2 : (k == j) = false := by
        rw [beq_eq_false_iff_ne]
        exact fun z => h z.symm
      rw [show decide (((Sum.inl j : Key), wayV w).fst = Sum.inl k) = false from h1, h2]
      exact ih
theorem wlook : ∀ {ws : List (Int × Way)} {k : Int} {w : Way}, (ws.map (·.1)).Nodup → (k, w) ∈ ws → ws.lookup k = some w
  | (j, v) :: ws, k, w, nd, h => by
    rw [List.map_cons, List.nodup_cons] at nd
    rw [List.lookup_cons]
    rcases List.mem_cons.mp h with e | h
    · cases e
      simp
    · have : (k == j) = false := by
        rw [beq_eq_false_iff_ne]
        intro e
        exact nd.1 (List.mem_map.mpr ⟨(k, w), h, e⟩)
      rw [this]
      exact wlook nd.2 h
theorem wlook_none : ∀ {ws : List (Int × Way)} {k : Int}, k ∉ ws.map (·.1) → ws.lookup k = none
  | [], _, _ => rfl
  | (j, v) :: ws, k, h => by
    rw [List.map_cons, List.mem_cons, not_or] at h
    rw [List.lookup_cons, show (k == j) = false by rw [beq_eq_false_iff_ne]; exact h.1]
    exact wlook_none h.2
theorem notInX_way {M : Store} {d : Nat} {ws : List (Int × Way)} {k : Int} (hd : M.c d = some (.dic (wE ws))) (nd : (ws.map (·.1)).Nodup) : opNotInX M (.int k) (.cel d) = some (.bl (!decide (k ∈ ws.map (·.1)))) := by
  have e : opNotInX M (.int k) (.cel d) = some (.bl (!(vaK (wE ws) (.inl k)).isSome)) := by
    unfold opNotInX
    rw [show dicOf M (.cel d) = some (wE ws) by unfold dicOf; dsimp only; rw [hd]]
    rfl
  rw [e, vaK_way]
  by_cases h : k ∈ ws.map (·.1)
  · obtain ⟨p, hp, rfl⟩ := List.mem_map.mp h
    rw [wlook nd hp]
    simp [h]
  · rw [wlook_none h]
    simp [h]
theorem dget_way {M : Store} {d : Nat} {ws : List (Int × Way)} {k : Int} {w : Way} (hd : M.c d = some (.dic (wE ws))) (nd : (ws.map (·.1)).Nodup) (h : (k, w) ∈ ws) : opDGet M (.cel d) (.int k) = some (wayV w) := by
  have e : opDGet M (.cel d) (.int k) = vaK (wE ws) (.inl k) := by
    unfold opDGet
    rw [show dicOf M (.cel d) = some (wE ws) by unfold dicOf; dsimp only; rw [hd]]
    rfl
  rw [e, vaK_way, wlook nd h]; rfl
end Lw
end

set_option Elab.async false
set_option linter.all false
set_option maxRecDepth 100000
set_option maxHeartbeats 4000000
set_option exponentiation.threshold 3000
section
local macro_rules | `(tactic| tm_at "opx") => `(tactic| first | assumption | exact Lw.y_neg | ((apply Lw.y_addL) <;> tm_at "num") | ((refine' Lw.notInX_way ?e ?h); (case e => tm_at "st"); (case h => assumption)) | ((refine' Lw.dget_way ?e ?h ?m); (case e => tm_at "st"); (case h => assumption); (case m => assumption)))
local macro_rules | `(tactic| tm_at "1x") => `(tactic| first | ((with_reducible refine' PV.W_eq (Lw.is_barred _ _ _) ?_)))
namespace Lw
open PySem L2 PV
def okB (gs : List (List Int)) (rs : List Bool) (s e : Int) : Bool := !barB (nth gs s) (nth gs e) rs
abbrev gsV (gs : List (List Int)) : Va := .lst (gs.map rowV)
abbrev rsV (rs : List Bool) : Va := .lst (rs.map Va.bl)
def WayI (M : Store) (l : List Stp) (gs : List (List Int)) (rs : List Bool) (size : Int) (i : Nat) (ws : List (Int × Way)) (s : SL) (N : Store) : Prop :=
  ∃ s6 s7 s8 s9 : Option Va, s = [some (.lst (l.map stV)), some (gsV gs), some (rsV rs), some (.cel M.nx), some (.cel (M.nx + 1)), some (.int i), s6, s7, s8, s9] ∧ N.c M.nx = some (.dic (wE ws)) ∧ N.c (M.nx + 1) = some (.lst ((ws.map (·.1)).map Va.int)) ∧ WyI l (okB gs rs) size ws ∧ Kx [] M N ∧ N.nx = M.nx + 2
theorem ways_of {M : Store} {l : List Stp} {gs : List (List Int)} {rs : List Bool} {size : Int} (hst : Sts size l) (h0 : 0 < size) (hs : size ≤ 1000) (hg : (gs.length : Int) = size) :
    ∃ (ws : List (Int × Way)) (M' : Store), c_ways_of [.lst (l.map stV), gsV gs, rsV rs] M = some (.val (.dic (wE ws)), M') ∧ WyI l (okB gs rs) size ws ∧ (∀ k ∈ ws.map (·.1), ClosedAt l (okB gs rs) ws k) ∧ Kx [] M M' ∧ M.nx ≤ M'.nx := by
  suffices hW : W (c_ways_of [.lst (l.map stV), gsV gs, rsV rs] M) (fun o M' => ∃ ws, o = .val (.dic (wE ws)) ∧ WyI l (okB gs rs) size ws ∧ (∀ k ∈ ws.map (·.1), ClosedAt l (okB gs rs) ws k) ∧ Kx [] M M') by
    obtain ⟨_, M', e, ws, rfl, a, b, c⟩ := hW
    exact ⟨ws, M', e, a, b, c, c.nx⟩
  unfold c_ways_of m_ways_of
  refine W_run (S_seq (S_set ?_))
  refine W_eq (show evDispC [((evC (.int 0)), (evL kLst evNil))] _ M = some (.val (.cel M.nx), M.new (.dic (wE [(0, [])]))) from rfl) ?_
  tm_at "v"
  tm_at "s"
  tm_at "s"
  refine S_cut (fun s N => ∃ (i : Nat) (ws : List (Int × Way)), WayI M l gs rs size i ws s N ∧ i = ws.length ∧ ∀ k ∈ (ws.take i).map (·.1), ClosedAt l (okB gs rs) ws k) ?_ ?_
  · refine S_while (fun n s N => ∃ (i : Nat) (ws : List (Int × Way)), WayI M l gs rs size i ws s N ∧ i ≤ ws.length ∧ (∀ k ∈ (ws.take i).map (·.1), ClosedAt l (okB gs rs) ws k) ∧ n = size.toNat - i) size.toNat ?_ ?_
    · refine ⟨0, [(0, [])], ⟨none, none, none, none, rfl, ?_, ?_, ?_, Kx.new.newN, rfl⟩, Nat.zero_le _, by simp, by omega⟩
      · rw [new_ne (by rw [new_nx]; omega)]; exact new_same
      · exact new_same
      · refine ⟨by simp, fun p hp => ?_, fun p hp => ?_, by simp⟩
        · rw [List.mem_singleton.mp hp]; exact ⟨by decide, h0⟩
        · rw [List.mem_singleton.mp hp]; exact ⟨.nil, by decide⟩
    · rintro n s N ⟨i, ws, ⟨s6, s7, s8, s9, rfl, c1, c2, wi, kN, nN⟩, hi, hcl, rfl⟩
      have wl := wi.len (by omega)
      have kl : ((ws.map (·.1)).map Va.int).length = ws.length := by rw [List.length_map, List.length_map]
      have kl' : (ws.map (·.1)).length = ws.length := by rw [List.length_map]
      tm_at "v"
      refine ⟨_, rfl, fun h => ?_, fun h => ?_⟩
      · rw [decide_eq_true_eq] at h
        tm_at "s"
        tm_at "s"
        have hst0 : nth (ws.map (·.1)) (i : Int) ∈ ws.map (·.1) := nth_mem (by omega) (by omega)
        have hnth : (ws.take (i + 1)).map (·.1) = (ws.take i).map (·.1) ++ [nth (ws.map (·.1)) (i : Int)] := by
          rw [List.map_take, List.map_take, List.take_succ]
          congr 1
          unfold nth
          rw [Int.toNat_natCast, List.getElem?_eq_getElem (by omega)]
          rfl
        generalize nth (ws.map (·.1)) (i : Int) = st at hst0 hnth
        obtain ⟨⟨st', w0⟩, hw0, rfl⟩ := List.mem_map.mp hst0
        dsimp only at hnth ⊢
        refine WS_loop stV l (fun pre s N => ∃ (ext : List (Int × Way)) (s7 s8 s9 : Option Va), s = [some (.lst (l.map stV)), some (gsV gs), some (rsV rs), some (.cel M.nx), some (.cel (M.nx + 1)), some (.int (i + 1)), some (.int st'), s7, s8, s9] ∧ N.c M.nx = some (.dic (wE (ws ++ ext))) ∧ N.c (M.nx + 1) = some (.lst (((ws ++ ext).map (·.1)).map Va.int)) ∧ WyI l (okB gs rs) size (ws ++ ext) ∧ Kx [] M N ∧ N.nx = M.nx + 2 ∧ ∀ t ∈ pre, t.2.1 = st' → okB gs rs t.2.1 t.2.2 = true → t.2.2 ∈ (ws ++ ext).map (·.1)) ?_ ?_ ?_ ?_
        · exact ⟨[], s7, s8, s9, rfl, by rw [List.append_nil]; exact c1, by rw [List.append_nil]; exact c2, by rw [List.append_nil]; exact wi, kN, nN, by simp⟩
        · intro _ _ _ _; trivial
        · rintro pre ⟨tn, ts, te⟩ post s N2 e ⟨ext, s7, s8, s9, rfl, d1, d2, wi2, k2, n2, hp⟩
          have htl : (tn, ts, te) ∈ l := by rw [e]; simp
          obtain ⟨-, t1, t2, t3, t4⟩ := hst.ok _ htl
          dsimp only at t1 t2 t3 t4
          have wnd := wi2.nd
          have wl2 := wi2.len (by omega)
          have hw2 : (st', w0) ∈ ws ++ ext := List.mem_append_left _ hw0
          have hwl := (wi2.pt _ hw2).2
          dsimp only at hwl
          have el : (wE (ws ++ ext)).length = (ws ++ ext).length := List.length_map _
          have kl2 : (((ws ++ ext).map (·.1)).map Va.int).length = (ws ++ ext).length := by rw [List.length_map, List.length_map]
          refine ⟨_, rfl, ?_⟩
          tm_at "v"
          refine ifK_b ?_ ?_
          · intro hb
            simp only [Bool.and_eq_true, decide_eq_true_eq, Bool.not_eq_true', decide_eq_false_iff_not] at hb
            obtain ⟨rfl, hni, hba⟩ := hb
            tm_at "s"
            have lw : (w0.map fun q : Str × Int => Va.tup [.str q.1, .int q.2]).length = w0.length := List.length_map _
            have wi3 := wi2.add hw2 htl (by simp [okB, hba]) hni ⟨t3, t4⟩
            have eK : puK (wE (ws ++ ext)) (.inl te) (wayV (w0 ++ [(tn, te)])) = wE (ws ++ (ext ++ [(te, w0 ++ [(tn, te)])])) := by
              rw [puK_new]
              · unfold wE
                rw [← List.append_assoc, List.map_append (l₁ := ws ++ ext)]; rfl
              · intro p hp' z
                obtain ⟨q, hq, rfl⟩ := List.mem_map.mp hp'
                injection z with z
                exact hni (z ▸ List.mem_map.mpr ⟨q, hq, rfl⟩)
            rw [List.append_assoc] at wi3
            refine ⟨ext ++ [(te, w0 ++ [(tn, te)])], _, _, _, rfl, ?_, ?_, wi3, (k2.putN (Nat.le_refl _)).putN (by omega), n2, fun t ht h1 h2 => ?_⟩
            · rw [put_ne (by omega), put_same, ← eK]
              show some (Cell.dic (puK (wE (ws ++ ext)) (.inl te) (.lst ((w0.map fun q : Str × Int => Va.tup [.str q.1, .int q.2]) ++ [.tup [.str tn, .int te]])))) = some (Cell.dic (puK (wE (ws ++ ext)) (.inl te) (.lst ((w0 ++ [(tn, te)]).map fun q : Str × Int => Va.tup [.str q.1, .int q.2]))))
              rw [List.map_append]; rfl
            · rw [put_same]
              simp only [List.map_append, List.append_assoc, List.map_cons, List.map_nil]
            · rw [← List.append_assoc, List.map_append]
              rcases List.mem_append.mp ht with h | h
              · exact List.mem_append_left _ (hp t h h1 h2)
              · rw [List.mem_singleton.mp h]
                exact List.mem_append_right _ (by simp)
          · intro hb
            tm_at "v"
            refine ⟨ext, _, _, _, rfl, d1, d2, wi2, k2, n2, fun t ht h1 h2 => ?_⟩
            rcases List.mem_append.mp ht with h | h
            · exact hp t h h1 h2
            · rw [List.mem_singleton.mp h] at h1 h2 ⊢
              dsimp only at h1 h2 ⊢
              subst h1
              refine Classical.byContradiction fun hn => ?_
              have h2' : barB (nth gs ts) (nth gs te) rs = false := by simpa [okB] using h2
              rw [h2', decide_eq_true (rfl : ts = ts), decide_eq_false hn] at hb
              cases hb
        · rintro s N2 ⟨ext, s7, s8, s9, rfl, d1, d2, wi2, k2, n2, hp⟩
          refine ⟨size.toNat - (i + 1), by omega, i + 1, ws ++ ext, ⟨_, _, _, _, rfl, d1, d2, wi2, k2, n2⟩, by rw [List.length_append]; omega, fun k hk => ?_, rfl⟩
          rw [List.take_append_of_le_length (by omega), hnth] at hk
          rcases List.mem_append.mp hk with h | h
          · intro t ht h1 h2
            have := hcl k h t ht h1 h2
            rw [List.map_append]
            exact List.mem_append_left _ this
          · rw [List.mem_singleton.mp h]
            exact hp
      · rw [decide_eq_false_iff_not] at h
        have : i = ws.length := by omega
        exact ⟨i, ws, ⟨s6, s7, s8, s9, rfl, c1, c2, wi, kN, nN⟩, this, hcl⟩
  · rintro s N ⟨i, ws, ⟨s6, s7, s8, s9, rfl, c1, c2, wi, kN, nN⟩, rfl, hcl⟩
    rw [List.take_length] at hcl
    tm_at "v"
    exact ⟨ws, rfl, wi, hcl, kN.delN (Nat.le_refl _)⟩
end Lw
end

set_option Elab.async false
set_option linter.all false
set_option maxRecDepth 100000
set_option maxHeartbeats 4000000
set_option exponentiation.threshold 3000
section
local macro_rules | `(tactic| tm_at "opx") => `(tactic| first | assumption | exact Lw.y_neg)
namespace Lw
open PySem L2 PV
/-! ### a plan's properties, the ground -/
structure PlA (M : Store) (p : Nat) (D : Dat) : Prop where
  lt : p < M.nx
  f : M.c p = some (.ins 0 (planF D))
theorem PlA.kx {M M' : Store} {p : Nat} {D : Dat} {S : List Nat} (h : PlA M p D) (k : Kx S M M') (hp : p ∉ S) : PlA M' p D := ⟨Nat.lt_of_lt_of_le h.lt k.nx, k.get h.lt hp h.f⟩
theorem plan_kinds {M : Store} {p : Nat} {D : Dat} (h : PlA M p D) : c_Plan_kinds [.cel p] M = some (.val (.lst (D.kinds.map kdV)), M) := by
  suffices hW : W (c_Plan_kinds [.cel p] M) (isV (.lst (D.kinds.map kdV)) M) by
    obtain ⟨_, _, e, rfl, rfl⟩ := hW
    exact e
  have hf := h.f
  unfold c_Plan_kinds m_Plan_kinds
  refine W_run ?_
  tm_at "v"
  refine WC_map kdV kdV D.kinds trivial ?_ ?_
  · intro k _
    refine ⟨_, rfl, ?_⟩
    tm_at "v"
    refine WC_map rowV rowV k.2.1 trivial ?_ ?_
    · intro r _
      refine ⟨_, rfl, ?_⟩
      tm_at "v"
    · tm_at "v"
  · tm_at "v"
theorem plan_checks {M : Store} {p : Nat} {D : Dat} (h : PlA M p D) : c_Plan_checks [.cel p] M = some (.val (.lst (D.checks.map rowV)), M) := by
  suffices hW : W (c_Plan_checks [.cel p] M) (isV (.lst (D.checks.map rowV)) M) by
    obtain ⟨_, _, e, rfl, rfl⟩ := hW
    exact e
  have hf := h.f
  unfold c_Plan_checks m_Plan_checks
  refine W_run ?_
  tm_at "v"
  refine WC_map rowV rowV D.checks trivial ?_ ?_
  · intro r _
    refine ⟨_, rfl, ?_⟩
    tm_at "v"
  · tm_at "v"
def gainsK (cs : List (List Int)) (k : Kd) : List (List Int) := k.2.1.map fun r => cs.map fun c => dot c r
def gainsV (D : Dat) : Va := .lst (D.kinds.map fun k => gsV (gainsK D.checks k))
abbrev Wys := List (Int × Way)
def wysV (ws : Wys) : Va := .dic (wE ws)
def plcV (q : Int × Int) : Va := .tup [.int q.1, .int q.2]
def placesOf (wss : List Wys) : List (Int × Int) := (wss.zipIdx.map fun p => (srtI (p.1.map (·.1))).map fun s => ((p.2 : Int), s)).flatten
abbrev Wk := Int × Way × Int
def wkV (w : Wk) : Va := .tup [.int w.1, wayV w.2.1, .int w.2.2]
def groundF (D : Dat) (rs : List Bool) (base : List Wk) (wss : List Wys) : List (Str × Va) :=
  [("tables", .lst (D.kinds.map kdV)), ("gains", gainsV D), ("risen", rsV rs), ("base", .lst (base.map wkV)), ("ways", .lst (wss.map wysV)), ("places", .lst ((placesOf wss).map plcV))]
structure GrA (M : Store) (p : Nat) (D : Dat) (rs : List Bool) (base : List Wk) (wss : List Wys) : Prop where
  lt : p < M.nx
  f : M.c p = some (.ins 1 (groundF D rs base wss))
/-- the ways of each kind -/
structure WssOk (D : Dat) (rs : List Bool) (wss : List Wys) : Prop where
  len : wss.length = D.kinds.length
  at_ : ∀ (i : Nat) (k : Kd) (ws : Wys), D.kinds[i]? = some k → wss[i]? = some ws → WyI k.2.2 (okB (gainsK D.checks k) rs) k.2.1.length ws ∧ ∀ s ∈ ws.map (·.1), ClosedAt k.2.2 (okB (gainsK D.checks k) rs) ws s
end Lw
end

set_option Elab.async false
set_option linter.all false
set_option maxRecDepth 100000
set_option maxHeartbeats 4000000
set_option exponentiation.threshold 3000
section
local macro_rules | `(tactic| tm_at "opx") => `(tactic| first | assumption | exact Lw.y_neg)
namespace Lw
open PySem L2 PV
theorem zipIdx_mem {α : Type} {xs : List α} {p : α × Nat} (h : p ∈ xs.zipIdx) : xs[p.2]? = some p.1 := by
  have := List.mem_zipIdx_iff_getElem?.mp h
  exact this
theorem srtI_mem {ns : List Int} {x : Int} : x ∈ srtI ns ↔ x ∈ ns := (List.mergeSort_perm ns _).mem_iff
theorem srtI_len {ns : List Int} : (srtI ns).length = ns.length := (List.mergeSort_perm ns _).length_eq
theorem wE_keys (ws : Wys) : (wE ws).map (fun kv => keyVa kv.1) = (ws.map (·.1)).map Va.int := by
  unfold wE
  rw [List.map_map, List.map_map]; rfl
theorem intsOf_map : ∀ ns : List Int, intsOf (ns.map Va.int) = some ns
  | [] => rfl
  | n :: ns => by
    have ih := intsOf_map ns
    first
    | simp [intsOf, ih]
    | (show (intsOf (ns.map Va.int)).map _ = _; rw [ih]; rfl)
theorem strsOf_ints {n : Int} {ns : List Int} : strsOf ((n :: ns).map Va.int) = none := rfl
theorem sortI {M : Store} {ns : List Int} (h : 0 < ns.length) (hl : ns.length ≤ 16777216) : gSortedI M [.lst (ns.map Va.int)] = some (.lst ((srtI ns).map Va.int)) := by
  cases ns with
  | nil => simp at h
  | cons n ns =>
    have e : gSorted M [.lst ((n :: ns).map Va.int)] = none := rfl
    unfold gSortedI
    rw [e]
    dsimp only
    rw [y_lstL]
    dsimp only
    rw [intsOf_map]
    dsimp only
    rw [if_pos (le_line hl)]
theorem placesOf_len {D : Dat} {rs : List Bool} {wss : List Wys} (h : ∀ ws ∈ wss, ws.length ≤ 1000) (hl : wss.length ≤ 100) : (placesOf wss).length ≤ 100000 := by
  unfold placesOf
  rw [List.length_flatten, List.map_map]
  have : ∀ (l : List (Wys × Nat)), (∀ p ∈ l, p.1.length ≤ 1000) → (l.map (List.length ∘ fun p => (srtI (p.1.map (·.1))).map fun s => ((p.2 : Int), s))).sum ≤ 1000 * l.length := by
    intro l
    induction l with
    | nil => intro _; simp
    | cons a l ih =>
      intro h
      have h1 := h a (by simp)
      have h2 := ih fun p hp => h p (by simp [hp])
      rw [List.map_cons, List.sum_cons, List.length_cons]
      simp only [Function.comp, List.length_map, srtI_len] at h2 ⊢
      omega
  have h3 := this wss.zipIdx fun p hp => h _ (List.mem_of_getElem? (zipIdx_mem hp))
  rw [List.length_zipIdx] at h3
  omega
theorem at_get {α : Type} {l : List α} {f : α → Va} {i : Nat} {x : α} (h : l[i]? = some x) : atI (l.map f) (i : Int) = some (f x) := by
  have hl : i < l.length := by
    rcases Nat.lt_or_ge i l.length with q | q
    · exact q
    · rw [List.getElem?_eq_none q] at h; cases h
  obtain ⟨y, e, _, e2⟩ := at_nat (l := l.map f) (i := (i : Int)) (by omega) (by rw [List.length_map]; omega)
  rw [Int.toNat_natCast, List.getElem?_map, h] at e2
  cases e2
  exact e
theorem zipIdx_at {α : Type} {xs : List α} {pre post : List (α × Nat)} {x : α × Nat} (e : xs.zipIdx = pre ++ x :: post) : x.2 = pre.length ∧ xs[x.2]? = some x.1 := by
  have h : xs.zipIdx[pre.length]? = some x := by rw [e]; simp
  rw [List.getElem?_zipIdx] at h
  cases q : xs[pre.length]? with
  | none => rw [q] at h; cases h
  | some y =>
    rw [q] at h
    cases h
    simp [q]
/-- a ground is made -/
theorem make_ground {M : Store} {D : Dat} {F : Int} (ok : D.Ok F) (rs : List Bool) (base : List Wk) :
    ∃ (wss : List Wys) (M' : Store), kMake 1 4 c_Ground___init__ [.lst (D.kinds.map kdV), gainsV D, rsV rs, .lst (base.map wkV)] M = some (.val (.cel M.nx), M') ∧ GrA M' M.nx D rs base wss ∧ WssOk D rs wss ∧ Kx [] M M' ∧ M.nx ≤ M'.nx := by
  suffices hW : W (kMake 1 4 c_Ground___init__ [.lst (D.kinds.map kdV), gainsV D, rsV rs, .lst (base.map wkV)] M) (fun o M' => o = .val (.cel M.nx) ∧ ∃ wss, GrA M' M.nx D rs base wss ∧ WssOk D rs wss ∧ Kx [] M M') by
    obtain ⟨_, M', e, rfl, wss, a, b, c⟩ := hW
    exact ⟨wss, M', e, a, b, c, c.nx⟩
  refine W_make rfl ?_
  unfold c_Ground___init__ m_Ground___init__
  refine W_run ?_
  have n0 : (M.new (.ins 1 [])).c M.nx = some (.ins 1 []) := new_same
  tm_at "s"
  tm_at "s"
  tm_at "s"
  tm_at "s"
  tm_at "s"
  generalize hN : ((((M.new (.ins 1 [])).put M.nx _).put M.nx _).put M.nx _).put M.nx _ = N
  have c0 : N.c M.nx = some (.ins 1 [("tables", .lst (D.kinds.map kdV)), ("gains", gainsV D), ("risen", rsV rs), ("base", .lst (base.map wkV))]) := by rw [← hN, put_same]; rfl
  have k0 : Kx [] M N := by rw [← hN]; exact ((((Kx.new.putN (Nat.le_refl _)).putN (Nat.le_refl _)).putN (Nat.le_refl _)).putN (Nat.le_refl _))
  have nN : N.nx = M.nx + 1 := by rw [← hN]; rfl
  clear hN n0
  refine I_En ?_
  tm_at "v"
  refine ⟨_, D.kinds.map kdV, rfl, rfl, ?_⟩
  rw [enumL_map]
  tm_at "v"
  refine WC_inv (fun (p : Kd × Nat) => Va.tup [.int p.2, kdV p.1]) wysV D.kinds.zipIdx (fun wss N' => Kx [] N N' ∧ ∀ (i : Nat) (k : Kd) (ws : Wys), D.kinds[i]? = some k → wss[i]? = some ws → WyI k.2.2 (okB (gainsK D.checks k) rs) k.2.1.length ws ∧ ∀ s ∈ ws.map (·.1), ClosedAt k.2.2 (okB (gainsK D.checks k) rs) ws s) ⟨Kx.refl, fun i k ws _ h => by simp at h⟩ (fun _ _ _ => rfl) ?_ ?_
  · rintro pre ⟨k, i⟩ post N1 wss e hl ⟨k1, hw⟩
    obtain ⟨hi, hk⟩ := zipIdx_at e
    dsimp only at hi hk
    have kok := ok.kd k (List.mem_of_getElem? hk)
    have kn1 := kok.n1
    obtain ⟨rest, er⟩ := kok.st
    refine ⟨_, rfl, ?_⟩
    tm_at "v"
    refine WO_eq (show opIx N1 (gainsV D) (.int (i : Int)) = some (gsV (gainsK D.checks k)) from at_get hk) ?_
    tm_at "v"
    obtain ⟨ws, N2, e2, wi, wc, k2, n2⟩ := ways_of (M := N1) (l := k.2.2) (gs := gainsK D.checks k) (rs := rs) (size := k.2.1.length) kok.sts (by rw [er, List.length_cons]; omega) (by omega) (by unfold gainsK; rw [List.length_map])
    refine W_eq e2 ?_
    refine ⟨ws, rfl, k1.trans k2, fun j k' ws' h1 h2 => ?_⟩
    rcases Nat.lt_trichotomy j wss.length with q | q | q
    · rw [List.getElem?_append_left q] at h2
      exact hw j k' ws' h1 h2
    · rw [q, List.getElem?_append_right (Nat.le_refl _), Nat.sub_self] at h2
      cases h2
      rw [q, hl, ← hi, hk] at h1
      cases h1
      exact ⟨wi, wc⟩
    · rw [List.getElem?_eq_none (by simp; omega)] at h2
      cases h2
  · rintro wss N2 hl ⟨k2, hw⟩
    rw [List.length_zipIdx] at hl
    have W : WssOk D rs wss := ⟨hl, hw⟩
    have n2 := k2.nx
    have c2 : N2.c M.nx = some (.ins 1 [("tables", .lst (D.kinds.map kdV)), ("gains", gainsV D), ("risen", rsV rs), ("base", .lst (base.map wkV))]) := k2.get (by omega) (by simp) c0
    have hkl := ok.kl
    have wlen : ∀ ws ∈ wss, ws.length ≤ 1000 ∧ 0 < ws.length := fun ws hws => by
      obtain ⟨i, hi, rfl⟩ := List.getElem_of_mem hws
      have hk : D.kinds[i]? = some (D.kinds[i]'(by omega)) := List.getElem?_eq_getElem _
      obtain ⟨a, _⟩ := hw i _ _ hk (List.getElem?_eq_getElem hi)
      have b := a.len (by omega)
      have c := (ok.kd _ (List.mem_of_getElem? hk)).n1
      exact ⟨by omega, List.length_pos_of_mem a.z⟩
    have pl := placesOf_len (D := D) (rs := rs) (wss := wss) (fun ws h => (wlen ws h).1) (by omega)
    tm_at "v"
    refine I_En ?_
    tm_at "v"
    refine ⟨_, wss.map wysV, rfl, rfl, ?_⟩
    rw [enumL_map]
    tm_at "v"
    refine WC2_map (fun (p : Wys × Nat) => Va.tup [.int p.2, wysV p.1]) Va.int (fun p s => .tup [.int p.2, .int s]) (fun p => srtI (p.1.map (·.1))) wss.zipIdx rfl ?_ ?_
    · rintro ⟨ws, i⟩ hp
      obtain ⟨wl, wp⟩ := wlen ws (List.mem_of_getElem? (zipIdx_mem hp))
      refine ⟨_, rfl, ?_, ?_⟩
      · refine I_A ?_
        tm_at "v"
        refine WO_eq (v := .lst ((srtI (ws.map (·.1))).map Va.int)) (show gSortedI _ [.lst ((wE ws).map fun kv => keyVa kv.1)] = _ by rw [wE_keys]; exact sortI (by rw [List.length_map]; exact wp) (by rw [List.length_map]; omega)) ?_
        exact anyL ⟨rfl, _, rfl, trivial⟩
      · intro y hy
        refine ⟨_, rfl, ?_⟩
        tm_at "v"
    · have ef : (wss.zipIdx.map fun x => (srtI (x.1.map (·.1))).map fun s => Va.tup [Va.int x.2, Va.int s]).flatten = (placesOf wss).map plcV := by
        unfold placesOf
        rw [List.map_flatten, List.map_map]
        congr 1
        refine List.map_congr_left fun p _ => ?_
        simp [Function.comp, plcV]
      rw [ef]
      refine ⟨by rw [List.length_map]; omega, ?_⟩
      generalize hN3 : N2.put M.nx _ = N3
      have c3 : N3.c M.nx = some (.ins 1 [("tables", .lst (D.kinds.map kdV)), ("gains", gainsV D), ("risen", rsV rs), ("base", .lst (base.map wkV)), ("ways", .lst (wss.map wysV))]) := by rw [← hN3, put_same]; rfl
      have k3 : Kx [] M N3 := by rw [← hN3]; exact (k0.trans k2).putN (Nat.le_refl _)
      tm_at "v"
      refine ⟨rfl, wss, ⟨?_, ?_⟩, W, k3.putN (Nat.le_refl _)⟩
      · have := k3.nx
        show M.nx < N3.nx
        have e3 : N3.nx = N2.nx := by rw [← hN3]; rfl
        omega
      · rw [put_same]; rfl
end Lw
end

set_option Elab.async false
set_option linter.all false
set_option maxRecDepth 100000
set_option maxHeartbeats 4000000
set_option exponentiation.threshold 3000
section
local macro_rules | `(tactic| tm_at "opx") => `(tactic| first | assumption | exact Lw.y_neg)
namespace Lw
open PySem L2 PV
/-! ### the ground of a plan without checks -/
theorem GrA.kx {M M' : Store} {p : Nat} {D : Dat} {rs : List Bool} {base : List Wk} {wss : List Wys} {S : List Nat} (h : GrA M p D rs base wss) (k : Kx S M M') (hp : p ∉ S) : GrA M' p D rs base wss := ⟨Nat.lt_of_lt_of_le h.lt k.nx, k.get h.lt hp h.f⟩
theorem obj_ty {M : Store} {n c : Nat} {m : Str} {l : List (Str × Va)} (h : M.c n = some (.ins c l)) (hl : (l.lookup m).isNone = true) : PV.isObj c m M (.cel n) = true := by
  unfold PV.isObj
  dsimp only
  rw [h]
  dsimp only
  rw [hl, decide_eq_true rfl]; rfl
theorem fresh_none {M : Store} {p : Nat} {D : Dat} {base : List Wk} {wss : List Wys} (h : GrA M p D [] base wss) :
    ∃ M', c_Ground_fresh_rises [.cel p] M = some (.val (.tup [.lst [], .lst []]), M') ∧ Kx [] M M' ∧ M.nx ≤ M'.nx := by
  suffices hW : W (c_Ground_fresh_rises [.cel p] M) (fun o M' => o = .val (.tup [.lst [], .lst []]) ∧ Kx [] M M') by
    obtain ⟨_, M', e, rfl, k⟩ := hW
    exact ⟨M', e, k, k.nx⟩
  have hf := h.f
  have hl := h.lt
  unfold groundF at hf
  unfold c_Ground_fresh_rises m_Ground_fresh_rises
  refine W_run ?_
  tm_at "s"
  tm_at "s"
  tm_at "s"
  refine WS_loopV [] (fun _ s' M' => s' = _ ∧ M' = _) ⟨rfl, rfl⟩ (fun _ _ _ _ => trivial) (fun pre x post _ _ e => by simp at e) ?_
  rintro _ _ ⟨rfl, rfl⟩
  tm_at "v"
  exact ⟨rfl, by tm_at "kx"⟩
theorem ground_none {M : Store} {p : Nat} {D : Dat} {F : Int} (h : PlA M p D) (ok : D.Ok F) (hc : D.checks = []) :
    ∃ wss q M', c_ground_of [.cel p] M = some (.val (.cel q), M') ∧ GrA M' q D [] [] wss ∧ WssOk D [] wss ∧ Kx [] M M' ∧ M.nx ≤ q := by
  suffices hW : W (c_ground_of [.cel p] M) (fun o M' => ∃ wss q, o = .val (.cel q) ∧ GrA M' q D [] [] wss ∧ WssOk D [] wss ∧ Kx [] M M' ∧ M.nx ≤ q) by
    obtain ⟨_, M', e, wss, q, rfl, a, b, c, d⟩ := hW
    exact ⟨wss, q, M', e, a, b, c, d⟩
  unfold c_ground_of m_ground_of
  refine W_run ?_
  have hf := h.f
  tm_at "s"
  refine W_eq (plan_kinds h) ?_
  tm_at "v"
  tm_at "s"
  refine W_eq (plan_checks h) ?_
  rw [hc]
  tm_at "v"
  tm_at "s"
  refine WC_map kdV (fun k => gsV (gainsK D.checks k)) D.kinds trivial ?_ ?_
  · intro k _
    refine ⟨_, rfl, ?_⟩
    tm_at "v"
    refine WC_map rowV (fun r => rowV (D.checks.map fun c => dot c r)) k.2.1 trivial ?_ ?_
    · intro r _
      refine ⟨_, rfl, ?_⟩
      rw [hc]
      tm_at "v"
      refine WC_map rowV (fun c => Va.int (dot c r)) [] trivial ?_ ?_
      · intro c h; simp at h
      · tm_at "v"
    · tm_at "v"
      rw [show gsV (gainsK D.checks k) = .lst (k.2.1.map fun r => rowV (D.checks.map fun c => dot c r)) by unfold gainsK gsV; rw [List.map_map]; rfl]
      exact isV_mk
  · tm_at "v"
    tm_at "s"
    obtain ⟨wss, M1, e1, g1, w1, k1, n1⟩ := make_ground (M := M) ok [] []
    refine W_eq (show kMake 1 4 c_Ground___init__ [.lst (D.kinds.map kdV), gainsV D, .lst [], .lst []] M = _ from e1) ?_
    tm_at "v"
    have f1 := g1.f
    obtain ⟨M2, e2, k2, n2⟩ := fresh_none g1
    tm_at "s"
    refine tyK_mk (obj_ty g1.f rfl) ?_
    tm_at "v"
    refine W_eq e2 ?_
    tm_at "v"
    have g2 := g1.kx k2 (by simp)
    tm_at "s"
    refine S_while (fun _ s' M' => s' = _ ∧ M' = _) 0 ⟨rfl, rfl⟩ ?_
    rintro _ _ _ ⟨rfl, rfl⟩
    tm_at "v"
    refine ⟨false, rfl, fun h => by simp at h, fun _ => ?_⟩
    tm_at "v"
    exact ⟨wss, M.nx, rfl, g2, w1, k1.trans k2, Nat.le_refl _⟩
end Lw
end

set_option Elab.async false
set_option linter.all false
set_option maxRecDepth 100000
set_option maxHeartbeats 4000000
set_option exponentiation.threshold 3000
section
local macro_rules | `(tactic| tm_at "opx") => `(tactic| first | assumption | exact Lw.y_neg)
namespace Lw
open PySem L2 PV
/-! ### open_states, open_steps, as a ground tells them -/
theorem places_at {D : Dat} {wss : List Wys} (h : wss.length = D.kinds.length) {q : Int × Int} (hq : q ∈ placesOf wss) : 0 ≤ q.1 ∧ q.1 < D.kinds.length := by
  unfold placesOf at hq
  obtain ⟨l, hl, hq⟩ := List.mem_flatten.mp hq
  obtain ⟨p, hp, rfl⟩ := List.mem_map.mp hl
  obtain ⟨s, _, rfl⟩ := List.mem_map.mp hq
  have h1 := zipIdx_mem hp
  have h2 : p.2 < wss.length := by
    rcases Nat.lt_or_ge p.2 wss.length with q | q
    · exact q
    · rw [List.getElem?_eq_none q] at h1; cases h1
  dsimp only
  omega
def opnStates (D : Dat) (wss : List Wys) : List (Str × Int) := (placesOf wss).map fun q => ((nth D.kinds q.1).1, q.2)
def osV (q : Str × Int) : Va := .tup [.str q.1, .int q.2]
theorem open_states_gr {M M1 : Store} {p q : Nat} {D : Dat} {F : Int} {rs : List Bool} {base : List Wk} {wss : List Wys} (ok : D.Ok F) (hg : c_ground_of [.cel p] M = some (.val (.cel q), M1)) (g : GrA M1 q D rs base wss) (hw : WssOk D rs wss) (k : Kx [] M M1) (hl : (placesOf wss).length ≤ 100000) :
    ∃ r M', c_open_states [.cel p] M = some (.val (.cel r), M') ∧ M'.c r = some (.lst ((opnStates D wss).map osV)) ∧ M.nx ≤ r ∧ r < M'.nx ∧ Kx [] M M' := by
  suffices hW : W (c_open_states [.cel p] M) (fun o M' => ∃ r, o = .val (.cel r) ∧ M'.c r = some (.lst ((opnStates D wss).map osV)) ∧ M.nx ≤ r ∧ r < M'.nx ∧ Kx [] M M') by
    obtain ⟨_, M', e, r, rfl, a⟩ := hW
    exact ⟨r, M', e, a⟩
  have n1 := k.nx
  have hf := g.f
  unfold groundF at hf
  unfold c_open_states m_open_states
  refine W_run ?_
  tm_at "s"
  refine W_eq hg ?_
  tm_at "v"
  refine WC_map plcV (fun q => osV ((nth D.kinds q.1).1, q.2)) (placesOf wss) trivial ?_ ?_
  · intro x hx
    obtain ⟨x0, x1⟩ := places_at hw.len hx
    refine ⟨_, rfl, ?_⟩
    tm_at "v"
  · tm_at "v"
    refine ⟨M1.nx, rfl, ?_, n1, Nat.lt_succ_self _, k.newN⟩
    rw [new_same]
    unfold opnStates
    rw [List.map_map]; rfl
def okSt (D : Dat) (rs : List Bool) (wss : List Wys) (p : Kd × Nat) (t : Stp) : Bool := decide (t.2.1 ∈ (nth wss p.2).map (·.1)) && okB (gainsK D.checks p.1) rs t.2.1 t.2.2
def opnK (D : Dat) (rs : List Bool) (wss : List Wys) (p : Kd × Nat) (l : List Stp) : List (Str × Str × Int) := (l.filter (okSt D rs wss p)).map fun t => (p.1.1, t.1, t.2.1)
def opnSteps (D : Dat) (rs : List Bool) (wss : List Wys) (ps : List (Kd × Nat)) : List (Str × Str × Int) := (ps.map fun p => opnK D rs wss p p.1.2.2).flatten
def otV (q : Str × Str × Int) : Va := .tup [.str q.1, .str q.2.1, .int q.2.2]
theorem inX_way {M : Store} {ws : Wys} {k : Int} (nd : (ws.map (·.1)).Nodup) : opInX M (.int k) (wysV ws) = some (.bl (decide (k ∈ ws.map (·.1)))) := by
  show (keyA (.int k)).map (fun k => Va.bl (vaK (wE ws) k).isSome) = _
  show some (Va.bl (vaK (wE ws) (.inl k)).isSome) = _
  rw [vaK_way]
  by_cases h : k ∈ ws.map (·.1)
  · obtain ⟨⟨a, w⟩, hw, e⟩ := List.mem_map.mp h
    cases e
    rw [wlook nd hw, decide_eq_true h]; rfl
  · rw [wlook_none h, decide_eq_false h]; rfl
local macro_rules | `(tactic| tm_at "opx") => `(tactic| exact Lw.inX_way (by assumption))
local macro_rules | `(tactic| tm_at "1x") => `(tactic| ((with_reducible refine' PV.W_eq ?e ?_); (case e => exact Lw.is_barred _ _ _)))
theorem open_steps_gr {M M1 : Store} {p q : Nat} {D : Dat} {F : Int} {rs : List Bool} {base : List Wk} {wss : List Wys} (ok : D.Ok F) (hg : c_ground_of [.cel p] M = some (.val (.cel q), M1)) (g : GrA M1 q D rs base wss) (hw : WssOk D rs wss) (k : Kx [] M M1) :
    ∃ r M', c_open_steps [.cel p] M = some (.val (.cel r), M') ∧ M'.c r = some (.lst ((opnSteps D rs wss D.kinds.zipIdx).map otV)) ∧ M.nx ≤ r ∧ r < M'.nx ∧ Kx [] M M' := by
  suffices hW : W (c_open_steps [.cel p] M) (fun o M' => ∃ r, o = .val (.cel r) ∧ M'.c r = some (.lst ((opnSteps D rs wss D.kinds.zipIdx).map otV)) ∧ M.nx ≤ r ∧ r < M'.nx ∧ Kx [] M M') by
    obtain ⟨_, M', e, r, rfl, a⟩ := hW
    exact ⟨r, M', e, a⟩
  have n1 := k.nx
  have hf := g.f
  have hq := g.lt
  have hkl := ok.kl
  unfold groundF at hf
  unfold c_open_steps m_open_steps
  refine W_run ?_
  tm_at "s"
  refine W_eq hg ?_
  tm_at "v"
  tm_at "s"
  tm_at "s"
  refine I_En ?_
  tm_at "v"
  refine ⟨_, D.kinds.map kdV, rfl, rfl, ?_⟩
  rw [enumL_map]
  tm_at "v"
  refine WS_loop (fun (p : Kd × Nat) => Va.tup [.int p.2, kdV p.1]) D.kinds.zipIdx (fun pre s N => N.c M1.nx = some (.lst ((opnSteps D rs wss pre).map otV)) ∧ (opnSteps D rs wss pre).length ≤ 50 * pre.length ∧ N.c q = M1.c q ∧ Kx [] M N ∧ N.nx = M1.nx + 1 ∧ ∃ s3 s4 s5 s6 s7 s8 s9 s10, s = [some (.cel p), some (.cel q), some (.cel M1.nx), s3, s4, s5, s6, s7, s8, s9, s10]) ?_ ?_ ?_ ?_
  · refine ⟨new_same, Nat.zero_le _, new_ne (by omega), k.newN, rfl, none, none, none, none, none, none, none, none, rfl⟩
  · rintro _ _ _ _
    rfl
  · rintro pre ⟨kd, i⟩ post s N e ⟨c1, l1, c2, k1, nx1, s3, s4, s5, s6, s7, s8, s9, s10, rfl⟩
    rw [hf] at c2
    obtain ⟨hi, hk⟩ := zipIdx_at e
    dsimp only at hi hk
    have il : i < D.kinds.length := by
      rcases Nat.lt_or_ge i D.kinds.length with q | q
      · exact q
      · rw [List.getElem?_eq_none q] at hk; cases hk
    have hwl := hw.len
    have hws : wss[i]? = some (nth wss i) := by
      unfold nth
      rw [Int.toNat_natCast, List.getElem?_eq_getElem (by omega)]; rfl
    obtain ⟨wi, _⟩ := hw.at_ i kd (nth wss i) hk hws
    have kok := ok.kd kd (List.mem_of_getElem? hk)
    have pl : pre.length < 20 := by omega
    refine ⟨_, rfl, ?_⟩
    tm_at "s"
    refine WO_eq (show opIx N (gainsV D) (.int (i : Int)) = some (gsV (gainsK D.checks kd)) from at_get hk) ?_
    tm_at "v"
    refine WS_loop stV kd.2.2 (fun pre2 s N => N.c M1.nx = some (.lst ((opnSteps D rs wss pre ++ opnK D rs wss (kd, i) pre2).map otV)) ∧ (opnK D rs wss (kd, i) pre2).length ≤ pre2.length ∧ N.c q = M1.c q ∧ Kx [] M N ∧ N.nx = M1.nx + 1 ∧ ∃ s8 s9 s10, s = [some (.cel p), some (.cel q), some (.cel M1.nx), some (.int i), some (gsV (gainsK D.checks kd)), some (.str kd.1), some (.lst (kd.2.1.map rowV)), some (.lst (kd.2.2.map stV)), s8, s9, s10]) ?_ ?_ ?_ ?_
    · refine ⟨?_, Nat.le_refl _, by rw [c2, hf], k1, nx1, s8, s9, s10, rfl⟩
      rw [c1]
      simp [opnK]
    · rintro _ _ _ _
      exact trivial
    · rintro pre2 ⟨nm, st, en⟩ post2 s N e2 ⟨c3, l3, c4, k3, nx3, s8, s9, s10, rfl⟩
      rw [hf] at c4
      have hl2 : pre2.length < 50 := by
        have := kok.n2
        rw [e2] at this
        simp at this
        omega
      have sok := kok.sts
      have ht : (nm, st, en) ∈ kd.2.2 := by rw [e2]; simp
      have gl : (gainsK D.checks kd).length = kd.2.1.length := by unfold gainsK; rw [List.length_map]
      obtain ⟨-, t1, t2, t3, t4⟩ := sok.ok _ ht
      dsimp only at t1 t2 t3 t4
      have wnd := wi.nd
      have oe : okSt D rs wss (kd, i) (nm, st, en) = (decide (st ∈ (nth wss i).map (·.1)) && !barB (nth (gainsK D.checks kd) st) (nth (gainsK D.checks kd) en) rs) := rfl
      have l4 : ((opnSteps D rs wss pre ++ opnK D rs wss (kd, i) pre2).map otV).length ≤ 2000 := by
        rw [List.length_map, List.length_append]; omega
      refine ⟨_, rfl, ?_⟩
      tm_at "v"
      refine ifK_b ?_ ?_
      · intro hb
        tm_at "v"
        refine ⟨?_, ?_, ?_, k3.putN n1, nx3, _, _, _, rfl⟩
        · rw [put_same]
          unfold opnK
          rw [List.filter_append, List.filter_cons, oe, if_pos hb]
          simp [otV]
        · unfold opnK at l3 ⊢
          rw [List.filter_append, List.filter_cons, oe, if_pos hb]
          simp at l3 ⊢
          omega
        · rw [put_ne (by omega), c4, hf]
      · intro hb
        tm_at "v"
        refine ⟨?_, ?_, by rw [c4, hf], k3, nx3, _, _, _, rfl⟩
        · rw [c3]
          unfold opnK
          rw [List.filter_append, List.filter_cons, oe, hb]
          simp
        · unfold opnK at l3 ⊢
          rw [List.filter_append, List.filter_cons, oe, hb]
          simp at l3 ⊢
          omega
    · rintro s N ⟨c3, l3, c4, k3, nx3, s8, s9, s10, rfl⟩
      have hn2 := kok.n2
      have ee : opnSteps D rs wss (pre ++ [(kd, i)]) = opnSteps D rs wss pre ++ opnK D rs wss (kd, i) kd.2.2 := by
        unfold opnSteps
        rw [List.map_append, List.flatten_append]; simp
      refine ⟨by rw [ee]; exact c3, by rw [ee, List.length_append, List.length_append, List.length_singleton]; omega, c4, k3, nx3, _, _, _, _, _, _, _, _, rfl⟩
  · rintro s N ⟨c3, l3, c4, k3, nx3, s3, s4, s5, s6, s7, s8, s9, s10, rfl⟩
    tm_at "v"
    exact ⟨_, rfl, c3, n1, by omega, k3⟩
end Lw
end

set_option Elab.async false
set_option linter.all false
set_option maxRecDepth 100000
set_option maxHeartbeats 4000000
set_option exponentiation.threshold 3000
section
local macro_rules | `(tactic| tm_at "opx") => `(tactic| first | assumption | exact Lw.y_neg)
namespace Lw
open PySem L2 PV
/-! ### the law: its source -/
theorem y_pow18 {M : Store} : opPow M (.int 10) (.int 18) = some (.int 1000000000000000000) := by
  have h : powOk 10 18 := ⟨by decide, by decide +kernel⟩
  unfold opPow
  dsimp only
  rw [if_pos h]
  have e : (10 : Int) ^ (18 : Int).toNat = 1000000000000000000 := by decide +kernel
  rw [e]
local macro_rules | `(tactic| tm_at "opx") => `(tactic| first | exact Lw.y_pow18 | exact PV.y_abs)
theorem law_source {M : Store} (ns : List Int) : ∃ w g M', c__law_source [.scr ns] M = some (.val (.cel w), M') ∧ Src M' w g ∧ Kx [] M M' ∧ M.nx ≤ w ∧ M.nx ≤ g := by
  suffices hW : W (c__law_source [.scr ns] M) (fun o M' => ∃ w g, o = .val (.cel w) ∧ Src M' w g ∧ Kx [] M M' ∧ M.nx ≤ w ∧ M.nx ≤ g) by
    obtain ⟨_, M', e, w, g, rfl, a⟩ := hW
    exact ⟨w, g, M', e, a⟩
  unfold c__law_source m__law_source
  refine W_run ?_
  tm_at "s"
  tm_at "s"
  tm_at "s"
  rw [show (some 63 : Option Int) = some ((63 : Nat) : Int) from rfl, cut_to, ← List.map_take]
  have hl : (ns.take 63).length ≤ 63 := by simp; omega
  generalize ns.take 63 = ls at hl
  refine WS_loop Va.int ls (fun pre s N => ∃ (gr sm : List Int) (s3 : Option Va), s = [some (.scr ns), some (.cel M.nx), some (.cel (M.nx + 1)), s3] ∧ N.c M.nx = some (.lst (gr.map Va.int)) ∧ N.c (M.nx + 1) = some (.lst (sm.map Va.int)) ∧ (∀ x ∈ gr, 0 < x) ∧ gr.length + sm.length = pre.length ∧ Kx [] M N ∧ N.nx = M.nx + 2) ?_ ?_ ?_ ?_
  · exact ⟨[], [], none, rfl, by tm_at "st", by tm_at "st", by simp, rfl, by tm_at "kx", rfl⟩
  · intro _ _ _ _; trivial
  · rintro pre x post s N e ⟨gr, sm, s3, rfl, c1, c2, hg, hl2, k1, nx1⟩
    have pl : pre.length < 63 := by
      rw [e] at hl
      simp at hl
      omega
    refine ⟨_, rfl, ?_⟩
    tm_at "v"
    refine ifK_d ?_ ?_
    · intro h
      tm_at "v"
      refine ⟨gr ++ [if x < 0 then -x else x], sm, _, rfl, ?_, by tm_at "st", ?_, ?_, by tm_at "kx", nx1⟩
      · rw [put_same, List.map_append]; rfl
      · intro y hy
        rcases List.mem_append.mp hy with q | q
        · exact hg y q
        · rw [List.mem_singleton.mp q]; omega
      · simp only [List.length_append, List.length_singleton]; omega
    · intro h
      tm_at "v"
      refine ⟨gr, sm ++ [x], _, rfl, by tm_at "st", ?_, hg, ?_, by tm_at "kx", nx1⟩
      · rw [put_same, List.map_append]; rfl
      · simp only [List.length_append, List.length_singleton]; omega
  · rintro s N ⟨gr, sm, s3, rfl, c1, c2, hg, hl2, k1, nx1⟩
    tm_at "v"
    refine ⟨(N.del (M.nx + 1)).nx, M.nx, rfl, ⟨?_, ?_, ?_, gr, sm, 0, (sm.length : Int) + 17, 0, ?_, ?_, hg, by omega, by omega, by omega, by omega, by omega⟩, by tm_at "kx", ?_, Nat.le_refl _⟩
    · show N.nx ≠ M.nx
      omega
    · show N.nx < N.nx + 1
      omega
    · show M.nx < N.nx + 1
      omega
    · rw [new_same, List.length_map]
    · tm_at "st"
    · show M.nx ≤ N.nx
      omega
end Lw
end

set_option Elab.async false
set_option linter.all false
set_option maxRecDepth 100000
set_option maxHeartbeats 4000000
set_option exponentiation.threshold 3000
section
local macro_rules | `(tactic| tm_at "opx") => `(tactic| first | assumption | exact Lw.y_neg)
namespace Lw
open PySem L2 PV
/-! ### the law: what is reached -/
theorem inA_ints (z : Int) : ∀ zs : List Int, inA (.int z) (zs.map Va.int) = decide (z ∈ zs)
  | [] => rfl
  | y :: ys => by
    show (eqF (.int y) (.int z) || inA (.int z) (ys.map Va.int)) = _
    rw [inA_ints z ys]
    show ((y == z) || _) = _
    by_cases h : y = z
    · subst h; simp
    · have : (y == z) = false := by rw [beq_eq_false_iff_ne]; exact h
      rw [this]
      simp [Ne.symm h]
theorem flat_nums (zs : List Int) : (zs.map Va.int).all flatA = true := by
  rw [List.all_eq_true]
  intro x hx
  obtain ⟨z, _, rfl⟩ := List.mem_map.mp hx
  rfl
theorem in_ints {M : Store} {x : Va} {zs : List Int} (h : LstAt M x (zs.map Va.int)) (z : Int) : opInD M (.int z) x = some (.bl (decide (z ∈ zs))) := by
  have hs := h.seq
  have e : opIn M (.int z) x = some (.bl (decide (z ∈ zs))) := by
    have e2 : opIn M (.int z) x = (match seqOf M x with | some l => if flatA (.int z) = true ∧ l.all flatA = true then some (Va.bl (inA (.int z) l)) else none | none => none) := by cases h <;> rfl
    rw [e2, hs]
    dsimp only
    rw [if_pos ⟨rfl, flat_nums zs⟩, inA_ints]
  unfold opInD
  rw [e]
theorem notIn_ints {M : Store} {x : Va} {zs : List Int} (h : LstAt M x (zs.map Va.int)) (z : Int) : opNotInD M (.int z) x = some (.bl (!decide (z ∈ zs))) := by
  have hs := h.seq
  have e : opNotIn M (.int z) x = some (.bl (!decide (z ∈ zs))) := by
    have e2 : opNotIn M (.int z) x = (match seqOf M x with | some l => if flatA (.int z) = true ∧ l.all flatA = true then some (Va.bl (!inA (.int z) l)) else none | none => none) := by cases h <;> rfl
    rw [e2, hs]
    dsimp only
    rw [if_pos ⟨rfl, flat_nums zs⟩, inA_ints]
  unfold opNotInD
  rw [e]
theorem sortC {M : Store} {n : Nat} {ns : List Int} (hn : M.c n = some (.lst (ns.map Va.int))) (h : 0 < ns.length) (hl : ns.length ≤ 16777216) : gSortedI M [.cel n] = some (.lst ((srtI ns).map Va.int)) := by
  cases ns with
  | nil => simp at h
  | cons a ns =>
    have e : gSorted M [.cel n] = none := by
      unfold gSorted
      dsimp only
      unfold srtOf
      dsimp only [lstOf, dicOf]
      rw [hn]
      rfl
    unfold gSortedI
    rw [e]
    dsimp only
    rw [y_lstC, hn]
    dsimp only
    rw [intsOf_map]
    dsimp only
    rw [if_pos (le_line hl)]
/-- what the law calls reached -/
structure RchI (l : List Stp) (size : Nat) (xs : List Int) : Prop where
  nd : xs.Nodup
  z : 0 ∈ xs
  rg : ∀ x ∈ xs, 0 ≤ x ∧ x < size
  pt : ∀ x ∈ xs, ∃ w, Path l (fun _ _ => true) x w
def ClsI (l : List Stp) (xs : List Int) : Prop := ∀ t ∈ l, t.2.1 ∈ xs → t.2.2 ∈ xs
theorem RchI.add {l : List Stp} {size : Nat} {xs : List Int} (h : RchI l size xs) {n : Str} {s e : Int} (ht : (n, s, e) ∈ l) (hs : s ∈ xs) (he : e ∉ xs) (hr : 0 ≤ e ∧ e < size) : RchI l size (xs ++ [e]) := by
  refine ⟨?_, List.mem_append_left _ h.z, fun x hx => ?_, fun x hx => ?_⟩
  · rw [List.nodup_append]
    refine ⟨h.nd, by simp, fun a ha b hb z => he ?_⟩
    rw [List.mem_singleton.mp hb] at z
    exact z ▸ ha
  · rcases List.mem_append.mp hx with q | q
    · exact h.rg x q
    · rw [List.mem_singleton.mp q]; exact hr
  · rcases List.mem_append.mp hx with q | q
    · exact h.pt x q
    · rw [List.mem_singleton.mp q]
      obtain ⟨w, hw⟩ := h.pt s hs
      exact ⟨_, .snoc hw ht rfl⟩
theorem RchI.len {l : List Stp} {size : Nat} {xs : List Int} (h : RchI l size xs) : xs.length ≤ size := by
  have := nd_le xs ((List.range size).map fun (i : Nat) => (i : Int)) h.nd fun x hx => by
    obtain ⟨a, b⟩ := h.rg x hx
    exact List.mem_map.mpr ⟨x.toNat, List.mem_range.mpr (by omega), by omega⟩
  rwa [List.length_map, List.length_range] at this
local macro_rules | `(tactic| tm_at "opx") => `(tactic| first | ((refine' Lw.in_ints ?e _); (case e => exact PV.LstAt.cel (by assumption))) | ((refine' Lw.notIn_ints ?e _); (case e => exact PV.LstAt.cel (by assumption))) | exact Lw.sortC (by assumption) (by assumption) (by assumption))
theorem law_reached {M : Store} {l : List Stp} {vs : List Va} (hst : Sts vs.length l) (h0 : 0 < vs.length) (hs : vs.length ≤ 1000) :
    ∃ (xs : List Int) (M' : Store), c__law_reached [.lst vs, .lst (l.map stV)] M = some (.val (.lst ((srtI xs).map Va.int)), M') ∧ RchI l vs.length xs ∧ ClsI l xs ∧ Kx [] M M' := by
  suffices hW : W (c__law_reached [.lst vs, .lst (l.map stV)] M) (fun o M' => ∃ xs, o = .val (.lst ((srtI xs).map Va.int)) ∧ RchI l vs.length xs ∧ ClsI l xs ∧ Kx [] M M') by
    obtain ⟨_, M', e, xs, rfl, a⟩ := hW
    exact ⟨xs, M', e, a⟩
  unfold c__law_reached m__law_reached
  refine W_run ?_
  tm_at "s"
  tm_at "s"
  refine WS_loop (fun (i : Nat) => Va.int i) (List.range vs.length) (fun pre s N => ∃ (xs : List Int) (s3 s4 s5 s6 : Option Va), s = [some (.lst vs), some (.lst (l.map stV)), some (.cel M.nx), s3, s4, s5, s6] ∧ N.c M.nx = some (.lst (xs.map Va.int)) ∧ RchI l vs.length xs ∧ (ClsI l xs ∨ pre.length + 1 ≤ xs.length) ∧ Kx [] M N ∧ N.nx = M.nx + 1) ?_ ?_ ?_ ?_
  · refine ⟨[0], none, none, none, none, rfl, by tm_at "st", ⟨by simp, by simp, fun x hx => ?_, fun x hx => ?_⟩, .inr (Nat.le_refl _), by tm_at "kx", rfl⟩
    · rw [List.mem_singleton.mp hx]; omega
    · rw [List.mem_singleton.mp hx]; exact ⟨[], .nil⟩
  · intro _ _ _ _; trivial
  · rintro pre x post s N e ⟨xs, s3, s4, s5, s6, rfl, c1, r1, cl1, k1, nx1⟩
    refine ⟨_, rfl, ?_⟩
    tm_at "v"
    refine WS_loop stV l (fun pre2 s N => ∃ (ys : List Int) (s4 s5 s6 : Option Va), s = [some (.lst vs), some (.lst (l.map stV)), some (.cel M.nx), some (.int x), s4, s5, s6] ∧ N.c M.nx = some (.lst ((xs ++ ys).map Va.int)) ∧ RchI l vs.length (xs ++ ys) ∧ (∀ t ∈ pre2, t.2.1 ∈ xs → t.2.2 ∈ xs ++ ys) ∧ (ClsI l xs → ys = []) ∧ Kx [] M N ∧ N.nx = M.nx + 1) ?_ ?_ ?_ ?_
    · exact ⟨[], s4, s5, s6, rfl, by rw [List.append_nil]; exact c1, by rw [List.append_nil]; exact r1, by simp, fun _ => rfl, k1, nx1⟩
    · intro _ _ _ _; trivial
    · rintro pre2 ⟨tn, ts, te⟩ post2 s N e2 ⟨ys, s4, s5, s6, rfl, c2, r2, t2, cl2, k2, nx2⟩
      have ht : (tn, ts, te) ∈ l := by rw [e2]; simp
      obtain ⟨-, t3, t4, t5, t6⟩ := hst.ok _ ht
      dsimp only at t3 t4 t5 t6
      have hl := r2.len
      refine ⟨_, rfl, ?_⟩
      tm_at "v"
      refine ifK_b ?_ ?_
      · intro hb
        simp only [Bool.and_eq_true, decide_eq_true_eq, Bool.not_eq_true', decide_eq_false_iff_not] at hb
        have hml : ((xs ++ ys).map Va.int).length ≤ 1000 := by rw [List.length_map]; omega
        tm_at "v"
        refine ⟨ys ++ [te], _, _, _, rfl, ?_, ?_, ?_, ?_, by tm_at "kx", nx2⟩
        · rw [put_same, ← List.append_assoc, List.map_append (l₁ := xs ++ ys)]; rfl
        · rw [← List.append_assoc]
          exact r2.add ht hb.1 hb.2 ⟨t5, t6⟩
        · intro t hm hx
          rw [← List.append_assoc]
          rcases List.mem_append.mp hm with q | q
          · exact List.mem_append_left _ (t2 t q hx)
          · rw [List.mem_singleton.mp q]
            exact List.mem_append_right _ (by simp)
        · intro hc
          have := cl2 hc
          subst this
          rw [List.append_nil] at hb
          exact absurd (hc _ ht hb.1) hb.2
      · intro hb
        tm_at "v"
        refine ⟨ys, _, _, _, rfl, c2, r2, ?_, cl2, k2, nx2⟩
        intro t hm hx
        rcases List.mem_append.mp hm with q | q
        · exact t2 t q hx
        · rw [List.mem_singleton.mp q] at hx ⊢
          refine Classical.byContradiction fun hn => ?_
          have : te ∉ xs ++ ys := hn
          dsimp only at hx
          rw [decide_eq_true (List.mem_append_left ys hx), decide_eq_false this] at hb
          cases hb
    · rintro s N ⟨ys, s4, s5, s6, rfl, c2, r2, t2, cl2, k2, nx2⟩
      refine ⟨xs ++ ys, _, _, _, _, rfl, c2, r2, ?_, k2, nx2⟩
      by_cases hc : ClsI l xs
      · have := cl2 hc
        subst this
        rw [List.append_nil]
        exact .inl hc
      · right
        rw [List.length_append, List.length_append, List.length_singleton]
        have : 0 < ys.length := by
          refine Nat.pos_of_ne_zero fun h => hc ?_
          rw [List.length_eq_zero_iff] at h
          subst h
          rw [List.append_nil] at t2
          exact t2
        rcases cl1 with q | q
        · exact absurd q hc
        · omega
  · rintro s N ⟨xs, s3, s4, s5, s6, rfl, c1, r1, cl1, k1, nx1⟩
    have hl := r1.len
    have hp : 0 < xs.length := List.length_pos_of_mem r1.z
    have hl2 : xs.length ≤ 16777216 := by omega
    tm_at "v"
    refine ⟨xs, rfl, r1, ?_, k1⟩
    rcases cl1 with q | q
    · exact q
    · rw [List.length_range] at q
      omega
end Lw
end

set_option Elab.async false
set_option linter.all false
set_option maxRecDepth 100000
set_option maxHeartbeats 4000000
set_option exponentiation.threshold 3000
section
local macro_rules | `(tactic| tm_at "opx") => `(tactic| first | assumption | exact Lw.y_neg)
namespace Lw
open PySem L2 PV
/-! ### what is due is what is open -/
theorem srtI_pw (ns : List Int) : (srtI ns).Pairwise (· ≤ ·) := by
  have := List.pairwise_mergeSort (le := fun a b : Int => decide (a ≤ b)) (fun a b c h1 h2 => by simp at *; omega) (fun a b => by simp; omega) ns
  exact this.imp fun h => by simpa using h
theorem srtI_same {ns ms : List Int} (h1 : ns.Nodup) (h2 : ms.Nodup) (h : ∀ x, x ∈ ns ↔ x ∈ ms) : srtI ns = srtI ms := by
  refine srtI_eq ?_ (srtI_pw ns)
  exact (List.mergeSort_perm ns _).trans ((List.perm_ext_iff_of_nodup h1 h2).mpr h)
theorem barB_nil (b a : List Int) : barB b a [] = false := by
  cases b with
  | nil => rfl
  | cons x b => cases a <;> rfl
theorem okB_nil {gs : List (List Int)} {s e : Int} : okB gs [] s e = true := by
  unfold okB
  rw [barB_nil]; rfl
theorem path_in {l : List Stp} {ok : Int → Int → Bool} {xs : List Int} (h0 : 0 ∈ xs) (hc : ∀ t ∈ l, t.2.1 ∈ xs → ok t.2.1 t.2.2 = true → t.2.2 ∈ xs) : ∀ {x : Int} {w : Way}, Path l ok x w → x ∈ xs
  | _, _, .nil => h0
  | _, _, .snoc p ht hok => hc _ ht (path_in h0 hc p) hok
theorem path_mono {l : List Stp} {ok ok' : Int → Int → Bool} (h : ∀ s e, ok s e = true → ok' s e = true) : ∀ {x : Int} {w : Way}, Path l ok x w → Path l ok' x w
  | _, _, .nil => .nil
  | _, _, .snoc p ht hok => .snoc (path_mono h p) ht (h _ _ hok)
theorem same_rch {l : List Stp} {gs : List (List Int)} {size : Int} {n : Nat} {ws : Wys} {xs : List Int} (wi : WyI l (okB gs []) size ws) (wc : ∀ s ∈ ws.map (·.1), ClosedAt l (okB gs []) ws s) (r : RchI l n xs) (c : ClsI l xs) : ∀ x, x ∈ ws.map (·.1) ↔ x ∈ xs := by
  intro x
  constructor
  · intro h
    obtain ⟨p, hp, rfl⟩ := List.mem_map.mp h
    exact path_in r.z (fun t ht h1 _ => c t ht h1) (wi.pt p hp).1
  · intro h
    obtain ⟨w, hw⟩ := r.pt x h
    exact path_in (List.mem_map.mpr ⟨_, wi.z, rfl⟩) (fun t ht h1 _ => wc _ h1 t ht rfl okB_nil) hw
abbrev Kx_ := Kn × List Int
def lawPl (kx : List Kx_) : List (Str × Int) := (kx.map fun p => (srtI p.2).map fun s => (p.1.1, s)).flatten
def lawSt (kx : List Kx_) : List (Str × Str × Int) := (kx.map fun p => (p.1.2.2.filter fun t => decide (t.2.1 ∈ srtI p.2)).map fun t => (p.1.1, t.1, t.2.1)).flatten
def KxOk (D : Sch) (kx : List Kx_) : Prop := kx.map (·.1) = D.kinds ∧ ∀ p ∈ kx, RchI p.1.2.2 p.1.2.1.length p.2 ∧ ClsI p.1.2.2 p.2
theorem nth_nat {α : Type} [Inhabited α] {l : List α} {i : Nat} (h : i < l.length) : nth l (i : Int) = l[i] := by
  unfold nth
  rw [Int.toNat_natCast, List.getElem?_eq_getElem h]; rfl
theorem kx_at {D : Sch} {wss : List Wys} {kx : List Kx_} (h : KxOk D kx) (hw : WssOk D.dat [] wss) {i : Nat} (h1 : i < wss.length) (h2 : i < kx.length) (h3 : i < D.dat.kinds.length) : D.dat.kinds[i] = knF D.cols kx[i].1 ∧ (∀ x, x ∈ wss[i].map (·.1) ↔ x ∈ kx[i].2) ∧ srtI (wss[i].map (·.1)) = srtI kx[i].2 := by
  have e1 : D.dat.kinds[i] = knF D.cols kx[i].1 := by
    have e : D.kinds = kx.map (·.1) := h.1.symm
    have : D.dat.kinds = (kx.map (·.1)).map (knF D.cols) := by
      show D.kinds.map (knF D.cols) = _
      rw [e]
    rw [List.getElem_of_eq this]
    simp
  obtain ⟨wi, wc⟩ := hw.at_ i _ _ (List.getElem?_eq_getElem h3) (List.getElem?_eq_getElem h1)
  obtain ⟨r, c⟩ := h.2 kx[i] (List.getElem_mem h2)
  rw [e1] at wi wc
  have s := same_rch (l := kx[i].1.2.2) wi wc r c
  exact ⟨e1, s, srtI_same wi.nd r.nd s⟩
theorem kx_len {D : Sch} {kx : List Kx_} (h : KxOk D kx) : kx.length = D.dat.kinds.length := by
  have : (kx.map (·.1)).length = D.kinds.length := by rw [h.1]
  rw [List.length_map] at this
  show _ = (D.kinds.map _).length
  rw [List.length_map, this]
theorem states_due {D : Sch} {wss : List Wys} {kx : List Kx_} (h : KxOk D kx) (hw : WssOk D.dat [] wss) : opnStates D.dat wss = lawPl kx := by
  have l1 := hw.len
  have l2 := kx_len h
  unfold opnStates placesOf lawPl
  rw [List.map_flatten, List.map_map]
  congr 1
  refine List.ext_getElem (by simp; omega) fun i h1 h2 => ?_
  rw [List.length_map, List.length_zipIdx] at h1
  rw [List.length_map] at h2
  obtain ⟨a, b, c⟩ := kx_at h hw h1 h2 (by omega)
  simp only [List.getElem_map, List.getElem_zipIdx, Function.comp, List.map_map, Nat.zero_add]
  rw [c]
  refine List.map_congr_left fun s _ => ?_
  show ((nth D.dat.kinds (i : Int)).1, s) = _
  rw [nth_nat (show i < D.dat.kinds.length by omega), a]
  rfl
theorem steps_due {D : Sch} {wss : List Wys} {kx : List Kx_} (h : KxOk D kx) (hw : WssOk D.dat [] wss) : opnSteps D.dat [] wss D.dat.kinds.zipIdx = lawSt kx := by
  have l1 := hw.len
  have l2 := kx_len h
  unfold opnSteps lawSt opnK okSt
  congr 1
  refine List.ext_getElem (by simp; omega) fun i h1 h2 => ?_
  rw [List.length_map, List.length_zipIdx] at h1
  rw [List.length_map] at h2
  obtain ⟨a, b, c⟩ := kx_at h hw (by omega) h2 h1
  simp only [List.getElem_map, List.getElem_zipIdx, Nat.zero_add]
  rw [nth_nat (show i < wss.length by omega), a]
  have e : ∀ t : Stp, (decide (t.2.1 ∈ wss[i].map (·.1)) && okB (gainsK D.dat.checks (knF D.cols kx[i].1)) [] t.2.1 t.2.2) = decide (t.2.1 ∈ srtI kx[i].2) := fun t => by
    rw [okB_nil, Bool.and_true]
    congr 1
    rw [b, srtI_mem]
  simp only [e]
  rfl
end Lw
end

set_option Elab.async false
set_option linter.all false
set_option maxRecDepth 100000
set_option maxHeartbeats 4000000
set_option exponentiation.threshold 3000
section
local macro_rules | `(tactic| tm_at "opx") => `(tactic| first | assumption | exact Lw.y_neg)
namespace Lw
open PySem L2 PV
/-! ### lists of told places and steps are compared -/
theorem ne_same {M : Store} {a b : Nat} {vs : List Va} {ds : List PyData} (ha : M.c a = some (.lst vs)) (hb : M.c b = some (.lst vs)) (hr : PdRs M vs ds) (hs : SeqAt.shaped (.list ds) = true) (he : PyData.eqvAll ds ds = true) : opNe M (.cel a) (.cel b) = some (.bl false) := by
  have pa : PdR M (.cel a) (.list ds) := .lst (by rw [y_lstC, ha]) hr
  have pb : PdR M (.cel b) (.list ds) := .lst (by rw [y_lstC, hb]) hr
  have : eqP M (.cel a) (.cel b) = some true := by
    unfold eqP
    rw [pdOf_eq pa, pdOf_eq pb]
    dsimp only
    rw [if_pos ⟨hs, hs⟩]
    simp only [PyData.eqv, he]
  unfold opNe
  rw [show eqS (.cel a) (.cel b) = none from rfl, this]
  rfl
def osD (q : Str × Int) : PyData := .tuple [.str q.1, .int q.2]
def otD (q : Str × Str × Int) : PyData := .tuple [.str q.1, .str q.2.1, .int q.2.2]
theorem os_reads {M : Store} : ∀ l : List (Str × Int), PdRs M (l.map osV) (l.map osD)
  | [] => .nil
  | t :: l => .cons (.tup (.cons (.str _) (.cons (.int _) .nil))) (os_reads l)
theorem ot_reads {M : Store} : ∀ l : List (Str × Str × Int), PdRs M (l.map otV) (l.map otD)
  | [] => .nil
  | t :: l => .cons (.tup (.cons (.str _) (.cons (.str _) (.cons (.int _) .nil)))) (ot_reads l)
theorem os_lay : ∀ {l : List (Str × Int)}, (∀ t ∈ l, PyData.strOk t.1 = true) → PyData.canLayAll0 (l.map osD) = true ∧ PyData.depthAll (l.map osD) ≤ 1 ∧ PyData.eqvAll (l.map osD) (l.map osD) = true
  | [], _ => by simp [PyData.canLayAll0, PyData.depthAll, PyData.eqvAll]
  | t :: l, h => by
    have h1 := h t (by simp)
    obtain ⟨h2, h3, h4⟩ := os_lay (l := l) fun y hy => h y (by simp [hy])
    refine ⟨by simp [osD, PyData.canLayAll0, PyData.canLay0, h1, h2], ?_, ?_⟩
    · simp only [List.map_cons, PyData.depthAll, osD, PyData.depth]
      omega
    · simp [List.map_cons, PyData.eqvAll, osD, PyData.eqv]
      exact h4
theorem ot_lay : ∀ {l : List (Str × Str × Int)}, (∀ t ∈ l, PyData.strOk t.1 = true ∧ PyData.strOk t.2.1 = true) → PyData.canLayAll0 (l.map otD) = true ∧ PyData.depthAll (l.map otD) ≤ 1 ∧ PyData.eqvAll (l.map otD) (l.map otD) = true
  | [], _ => by simp [PyData.canLayAll0, PyData.depthAll, PyData.eqvAll]
  | t :: l, h => by
    obtain ⟨h1, h1'⟩ := h t (by simp)
    obtain ⟨h2, h3, h4⟩ := ot_lay (l := l) fun y hy => h y (by simp [hy])
    refine ⟨by simp [otD, PyData.canLayAll0, PyData.canLay0, h1, h1', h2], ?_, ?_⟩
    · simp only [List.map_cons, PyData.depthAll, otD, PyData.depth]
      omega
    · simp [List.map_cons, PyData.eqvAll, otD, PyData.eqv]
      exact h4
theorem shaped_of {ds : List PyData} (h1 : PyData.canLayAll0 ds = true) (h2 : PyData.depthAll ds ≤ 1) : SeqAt.shaped (.list ds) = true := by
  unfold SeqAt.shaped
  simp only [PyData.canLay0, PyData.depth, h1]
  simp; omega
theorem ne_states {M : Store} {a b : Nat} {l : List (Str × Int)} (ha : M.c a = some (.lst (l.map osV))) (hb : M.c b = some (.lst (l.map osV))) (h : ∀ t ∈ l, PyData.strOk t.1 = true) : opNe M (.cel a) (.cel b) = some (.bl false) := by
  obtain ⟨h1, h2, h3⟩ := os_lay h
  exact ne_same ha hb (os_reads l) (shaped_of h1 h2) h3
theorem ne_steps {M : Store} {a b : Nat} {l : List (Str × Str × Int)} (ha : M.c a = some (.lst (l.map otV))) (hb : M.c b = some (.lst (l.map otV))) (h : ∀ t ∈ l, PyData.strOk t.1 = true ∧ PyData.strOk t.2.1 = true) : opNe M (.cel a) (.cel b) = some (.bl false) := by
  obtain ⟨h1, h2, h3⟩ := ot_lay h
  exact ne_same ha hb (ot_reads l) (shaped_of h1 h2) h3
theorem isList {M : Store} {n : Nat} {l : List Va} (h : M.c n = some (.lst l)) : opIsT "list" M (.cel n) = some (.bl true) := by
  have : tyA M (.cel n) = some "list" := by
    unfold tyA
    dsimp only
    rw [h]
  unfold opIsT
  rw [this]
  dsimp only
  have : kitB "list" "list" = some true := by decide +kernel
  rw [this]; rfl
theorem law_is_int {M : Store} {i : Int} : c__law_is_int [.int i] M = some (.val (.bl true), M) := by
  suffices hW : W (c__law_is_int [.int i] M) (isV (.bl true) M) by
    obtain ⟨_, _, e, rfl, rfl⟩ := hW
    exact e
  have h1 : opIsT "int" M (.int i) = some (.bl true) := by
    have : kitB "int" "int" = some true := by decide +kernel
    show (kitB "int" "int").map Va.bl = _
    rw [this]; rfl
  have h2 : opIsT "bool" M (.int i) = some (.bl false) := by
    have : kitB "int" "bool" = some false := by decide +kernel
    show (kitB "int" "bool").map Va.bl = _
    rw [this]; rfl
  unfold c__law_is_int m__law_is_int
  refine W_run ?_
  tm_at "w"
theorem wss_len {D : Dat} {F : Int} (ok : D.Ok F) {rs : List Bool} {wss : List Wys} (h : WssOk D rs wss) : ∀ ws ∈ wss, ws.length ≤ 1000 := fun ws hws => by
  obtain ⟨i, hi, rfl⟩ := List.getElem_of_mem hws
  have hkl := ok.kl
  have hl := h.len
  have hk : D.kinds[i]? = some (D.kinds[i]'(by omega)) := List.getElem?_eq_getElem _
  obtain ⟨a, _⟩ := h.at_ i _ _ hk (List.getElem?_eq_getElem hi)
  have b := a.len (by omega)
  have c := (ok.kd _ (List.mem_of_getElem? hk)).n1
  omega
theorem states_law {M : Store} {p : Nat} {D : Sch} {F : Int} {kx : List Kx_} (h : PlA M p D.dat) (ok : D.dat.Ok F) (hc : D.checks = []) (hx : KxOk D kx) :
    ∃ r M', c_open_states [.cel p] M = some (.val (.cel r), M') ∧ M'.c r = some (.lst ((lawPl kx).map osV)) ∧ M.nx ≤ r ∧ r < M'.nx ∧ Kx [] M M' ∧ M.nx ≤ M'.nx := by
  obtain ⟨wss, q, M1, e, g, w, k, _⟩ := ground_none h ok (show D.checks.map _ = [] by rw [hc]; rfl)
  have hl := ok.kl
  have hw := w.len
  obtain ⟨r, M', e2, c, a1, a2, k2⟩ := open_states_gr ok e g w k (placesOf_len (D := D.dat) (rs := []) (wss_len ok w) (by omega))
  rw [states_due hx w] at c
  exact ⟨r, M', e2, c, a1, a2, k2, k2.nx⟩
theorem steps_law {M : Store} {p : Nat} {D : Sch} {F : Int} {kx : List Kx_} (h : PlA M p D.dat) (ok : D.dat.Ok F) (hc : D.checks = []) (hx : KxOk D kx) :
    ∃ r M', c_open_steps [.cel p] M = some (.val (.cel r), M') ∧ M'.c r = some (.lst ((lawSt kx).map otV)) ∧ M.nx ≤ r ∧ r < M'.nx ∧ Kx [] M M' ∧ M.nx ≤ M'.nx := by
  obtain ⟨wss, q, M1, e, g, w, k, _⟩ := ground_none h ok (show D.checks.map _ = [] by rw [hc]; rfl)
  obtain ⟨r, M', e2, c, a1, a2, k2⟩ := open_steps_gr ok e g w k
  rw [steps_due hx w] at c
  exact ⟨r, M', e2, c, a1, a2, k2, k2.nx⟩
end Lw
end

set_option Elab.async false
set_option linter.all false
set_option maxRecDepth 100000
set_option maxHeartbeats 4000000
set_option exponentiation.threshold 3000
section
local macro_rules | `(tactic| tm_at "opx") => `(tactic| first | assumption | exact Lw.y_neg)
namespace Lw
open PySem L2 PV
local macro_rules | `(tactic| tm_at "opx") => `(tactic| first | assumption | ((refine' Lw.in_ints ?e _); (case e => first | exact PV.LstAt.lst | exact PV.LstAt.cel (by assumption))))
def LawI (D : Sch) (ns : List Int) (w g p b : Nat) (M3 : Store) (kx : List Kx_) (pre : List Kn) (s : SL) (N : Store) : Prop :=
  ∃ s6 s7 s8 s9 s10 s13 s14 : Option Va, s = [some (.scr ns), some (.cel w), some D.va, some (.cel p), some (.cel b), some (.cel (b + 1)), s6, s7, s8, s9, s10, none, none, s13, s14, none]
    ∧ N.c b = some (.lst ((lawPl kx).map osV)) ∧ N.c (b + 1) = some (.lst ((lawSt kx).map otV)) ∧ kx.map (·.1) = pre ∧ (∀ q ∈ kx, RchI q.1.2.2 q.1.2.1.length q.2 ∧ ClsI q.1.2.2 q.2) ∧ Kx [] M3 N ∧ b + 2 ≤ N.nx
theorem lawPl_len {D : Sch} {F : Int} {kx : List Kx_} {pre : List Kn} (h : kx.map (·.1) = pre) (hp : ∀ k ∈ pre, KnOk D.cols F k) (hr : ∀ q ∈ kx, RchI q.1.2.2 q.1.2.1.length q.2 ∧ ClsI q.1.2.2 q.2) : (lawPl kx).length ≤ 14 * kx.length ∧ (lawSt kx).length ≤ 12 * kx.length := by
  subst h
  unfold lawPl lawSt
  induction kx with
  | nil => exact ⟨Nat.le_refl _, Nat.le_refl _⟩
  | cons a kx ih =>
    obtain ⟨i1, i2⟩ := ih (fun q hq => hr q (List.mem_cons_of_mem _ hq)) fun k hk => hp k (by rw [List.map_cons]; exact List.mem_cons_of_mem _ hk)
    have r := (hr a (by simp)).1.len
    have q := hp a.1 (by simp)
    have q1 := q.n1
    have q2 := q.n2
    have f := List.length_filter_le (fun t : Str × Int × Int => decide (t.2.1 ∈ srtI a.2)) a.1.2.2
    rw [List.map_cons, List.flatten_cons, List.length_append, List.length_map, List.length_cons, srtI_len, List.map_cons, List.flatten_cons, List.length_append, List.length_map]
    omega
theorem lawPl_nm {D : Sch} {F : Int} {kx : List Kx_} (h : KxOk D kx) (ok : D.Ok F) : ∀ t ∈ lawPl kx, PyData.strOk t.1 = true := fun t ht => by
  obtain ⟨l, hl, ht⟩ := List.mem_flatten.mp ht
  obtain ⟨q, hq, rfl⟩ := List.mem_map.mp hl
  obtain ⟨s, _, rfl⟩ := List.mem_map.mp ht
  exact (ok.kd q.1 (h.1 ▸ List.mem_map.mpr ⟨q, hq, rfl⟩)).nm.ok
theorem lawSt_nm {D : Sch} {F : Int} {kx : List Kx_} (h : KxOk D kx) (ok : D.Ok F) : ∀ t ∈ lawSt kx, PyData.strOk t.1 = true ∧ PyData.strOk t.2.1 = true := fun t ht => by
  obtain ⟨l, hl, ht⟩ := List.mem_flatten.mp ht
  obtain ⟨q, hq, rfl⟩ := List.mem_map.mp hl
  obtain ⟨s, hs, rfl⟩ := List.mem_map.mp ht
  have k := ok.kd q.1 (h.1 ▸ List.mem_map.mpr ⟨q, hq, rfl⟩)
  exact ⟨k.nm.ok, (k.sts.ok s (List.mem_filter.mp hs).1).1.ok⟩
local macro_rules | `(tactic| tm_at "opx") => `(tactic| first | exact Lw.all1 _ | exact Lw.isList (by assumption) | exact Lw.ne_states (by assumption) (by assumption) (by assumption) | exact Lw.ne_steps (by assumption) (by assumption) (by assumption))
local macro_rules | `(tactic| tm_at "1x") => `(tactic| ((with_reducible refine' PV.W_eq ?e ?_); (case e => exact Lw.law_is_int)))
theorem law_right (ns : List Int) : ∃ M', c_law [.scr ns] ⟨fun _ => none, 0⟩ = some (.val (.bl true), M') := by
  generalize (⟨fun _ => none, 0⟩ : Store) = M
  suffices hW : W (c_law [.scr ns] M) (fun o M' => o = .val (.bl true)) by
    obtain ⟨_, M', e, rfl⟩ := hW
    exact ⟨M', e⟩
  unfold c_law m_law
  refine W_run ?_
  obtain ⟨w, g, M1, e1, src1, k1, nw, ng⟩ := law_source (M := M) ns
  obtain ⟨D, F, M2, e2, ok, F1, F2, hch, src2, k2, n2⟩ := law_free src1 0 ⟨by omega, by omega⟩
  have hc : D.checks = [] := List.length_eq_zero_iff.mp (by omega)
  obtain ⟨p, M3, e3, np, np3, fp, k3, n3⟩ := law_plan (M := M2) ok (by omega) (by rw [hc]; simp)
  have dok := ok.dat (by omega) (by rw [hc]; simp)
  tm_at "s"
  refine W_eq e1 ?_
  tm_at "s"
  refine W_eq e2 ?_
  tm_at "s"
  refine W_eq e3 ?_
  tm_at "v"
  tm_at "s"
  tm_at "s"
  have src3 := src2.kx k3 (by simp) (by simp)
  have pl3 : PlA M3 p D.dat := ⟨np3, fp⟩
  refine S_cut (fun s N => ∃ kx, LawI D ns w g p M3.nx M3 kx D.kinds s N) ?_ ?_
  · tm_at "v"
    refine WS_loop knV D.kinds (fun pre s N => ∃ kx, LawI D ns w g p M3.nx M3 kx pre s N) ?_ ?_ ?_ ?_
    · exact ⟨[], none, none, none, none, none, none, none, rfl, by tm_at "st", by tm_at "st", rfl, by simp, by tm_at "kx", Nat.le_refl _⟩
    · intro _ _ _ _; trivial
    · rintro pre k post s N e ⟨kx, s6, s7, s8, s9, s10, s13, s14, rfl, c4, c5, hm, hr, kN, nN⟩
      have kok := ok.kd k (by rw [e]; simp)
      have kn1 := kok.n1
      have kn2 := kok.n2
      obtain ⟨rest, er⟩ := kok.st
      have kp : 0 < k.2.1.length := by rw [er]; simp
      have le : (k.2.1.map rowX).length = k.2.1.length := List.length_map _
      obtain ⟨xs, N1, e4, r1, cl1, k4⟩ := law_reached (M := N) (l := k.2.2) (vs := k.2.1.map rowX) (by rw [le]; exact kok.sts) (by omega) (by omega)
      rw [le] at r1
      have n4 := k4.nx
      have c4' := k4.get (by omega) (by simp) c4
      have c5' := k4.get (by omega) (by simp) c5
      have hm2 : kx.length = pre.length := by rw [← hm, List.length_map]
      have pre4 : pre.length < 4 := by
        have := ok.kl
        rw [e] at this
        simp at this
        omega
      have bl := lawPl_len (D := D) (F := F) hm (fun k hk => ok.kd k (by rw [e]; exact List.mem_append_left _ hk)) hr
      refine ⟨_, rfl, ?_⟩
      tm_at "s"
      refine W_eq e4 ?_
      tm_at "s"
      refine WC_map Va.int (fun sp => osV (k.1, sp)) (srtI xs) trivial ?_ ?_
      · intro y _
        refine ⟨_, rfl, ?_⟩
        tm_at "v"
      · tm_at "v"
        have xl := r1.len
        refine W_ext c4' rfl (by simp only [List.length_map, srtI_len]; omega) ?_
        tm_at "v"
        refine WC_filter stV (fun t => otV (k.1, t.1, t.2.1)) (fun t => decide (t.2.1 ∈ srtI xs)) k.2.2 trivial ?_ ?_
        · intro t _
          refine ⟨_, rfl, ?_, ?_⟩
          · tm_at "v"
            exact WO_eq (in_ints (.lst _) _) isV_mk
          · intro _
            tm_at "v"
        · tm_at "v"
          have fl := List.length_filter_le (fun t : Str × Int × Int => decide (t.2.1 ∈ srtI xs)) k.2.2
          refine W_ext (show (N1.put M3.nx _).c (M3.nx + 1) = _ by rw [put_ne (by omega)]; exact c5') rfl (by simp only [List.length_map]; omega) ?_
          tm_at "v"
          refine ⟨kx ++ [(k, xs)], _, _, _, _, _, _, _, rfl, ?_, ?_, by rw [List.map_append, hm]; rfl, fun q hq => ?_, ((kN.trans k4).putN (Nat.le_refl _)).putN (by omega), by show M3.nx + 2 ≤ N1.nx; omega⟩
          · rw [put_ne (by omega), put_same]
            unfold lawPl
            rw [List.map_append (l₁ := kx), List.flatten_append, List.map_append]
            simp
          · rw [put_same]
            unfold lawSt
            rw [List.map_append (l₁ := kx), List.flatten_append, List.map_append]
            simp
          · rcases List.mem_append.mp hq with q1 | q1
            · exact hr q q1
            · rw [List.mem_singleton.mp q1]; exact ⟨r1, cl1⟩
    · rintro s N h
      exact h
  · rintro s N ⟨kx, s6, s7, s8, s9, s10, s13, s14, rfl, c4, c5, hm, hr, kN, nN⟩
    have hx : KxOk D kx := ⟨hm, hr⟩
    have pN := pl3.kx kN (by simp)
    have sN := src3.kx kN (by simp) (by simp)
    have hg1 : ∀ t ∈ lawPl kx, PyData.strOk t.1 = true := lawPl_nm (D := D) (F := F) hx ok
    have hg2 : ∀ t ∈ lawSt kx, PyData.strOk t.1 = true ∧ PyData.strOk t.2.1 = true := lawSt_nm (D := D) (F := F) hx ok
    have b0 := src3.lw
    have b1 := src3.lg
    have b2 := src2.lw
    have b3 := src2.lg
    have bl := lawPl_len (D := D) (F := F) hm ok.kd hr
    have kl4 : kx.length ≤ 4 := by
      have := ok.kl
      rw [← hm, List.length_map] at this
      exact this
    tm_at "s"
    refine WS_loop (fun (i : Nat) => Va.int i) (List.range 2) (fun pre s N => (∃ s6 s7 s8 s9 s10 s11 s12 s13 s14 s15 : Option Va, s = [some (.scr ns), some (.cel w), some D.va, some (.cel p), some (.cel M3.nx), some (.cel (M3.nx + 1)), s6, s7, s8, s9, s10, s11, s12, s13, s14, s15]) ∧ N.c M3.nx = some (.lst ((lawPl kx).map osV)) ∧ N.c (M3.nx + 1) = some (.lst ((lawSt kx).map otV)) ∧ Src N w g ∧ PlA N p D.dat ∧ M3.nx + 2 ≤ N.nx) ?_ ?_ ?_ ?_
    · exact ⟨⟨_, _, _, _, _, _, _, _, _, _, rfl⟩, c4, c5, sN, pN, nN⟩
    · intro _ _ _ _; trivial
    · clear c4 c5 sN pN nN kN
      rintro pre i post s N e ⟨⟨s6, s7, s8, s9, s10, s11, s12, s13, s14, s15, rfl⟩, c4, c5, sN, pN, nN⟩
      refine ⟨_, rfl, ?_⟩
      obtain ⟨r, N1, e4, r0, r1, sN1, k4, n4⟩ := draw sN 2 (by omega) (by decide)
      have c4' := k4.get (by omega) (by simp; omega) c4
      have c5' := k4.get (by omega) (by simp; omega) c5
      have pN1 := pN.kx k4 (by simp; omega)
      refine S_cut (fun s N => (∃ (a b : Nat) (s6 s7 s8 s9 s10 s13 s14 s15 : Option Va), s = [some (.scr ns), some (.cel w), some D.va, some (.cel p), some (.cel M3.nx), some (.cel (M3.nx + 1)), s6, s7, s8, s9, s10, some (.cel a), some (.cel b), s13, s14, s15] ∧ a ≠ b ∧ N.c a = some (.lst ((lawPl kx).map osV)) ∧ N.c b = some (.lst ((lawSt kx).map otV)) ∧ M3.nx + 2 ≤ a ∧ M3.nx + 2 ≤ b ∧ a < N.nx ∧ b < N.nx) ∧ N.c M3.nx = some (.lst ((lawPl kx).map osV)) ∧ N.c (M3.nx + 1) = some (.lst ((lawSt kx).map otV)) ∧ Src N w g ∧ PlA N p D.dat ∧ M3.nx + 2 ≤ N.nx) ?_ ?_
      · tm_at "v"
        refine W_eq e4 ?_
        tm_at "v"
        refine ifK_d ?_ ?_
        · intro _
          obtain ⟨a, N2, e5, ca, a1, a2, k5, n5⟩ := states_law pN1 dok hc hx
          obtain ⟨b, N3, e6, cb, b1, b2, k6, n6⟩ := steps_law (pN1.kx k5 (by simp)) dok hc hx
          tm_at "s"
          refine W_eq e5 ?_
          tm_at "v"
          refine W_eq e6 ?_
          tm_at "v"
          have k7 := k5.trans k6
          exact ⟨⟨a, b, _, _, _, _, _, _, _, _, rfl, by omega, k6.get a2 (by simp) ca, cb, by omega, by omega, by omega, by omega⟩, k7.get (by omega) (by simp) c4', k7.get (by omega) (by simp) c5', sN1.kx k7 (by simp) (by simp), pN1.kx k7 (by simp), by omega⟩
        · intro _
          obtain ⟨b, N2, e5, cb, a1, a2, k5, n5⟩ := steps_law pN1 dok hc hx
          obtain ⟨a, N3, e6, ca, b1, b2, k6, n6⟩ := states_law (pN1.kx k5 (by simp)) dok hc hx
          tm_at "s"
          refine W_eq e5 ?_
          tm_at "v"
          refine W_eq e6 ?_
          tm_at "v"
          have k7 := k5.trans k6
          exact ⟨⟨a, b, _, _, _, _, _, _, _, _, rfl, by omega, ca, k6.get a2 (by simp) cb, by omega, by omega, by omega, by omega⟩, k7.get (by omega) (by simp) c4', k7.get (by omega) (by simp) c5', sN1.kx k7 (by simp) (by simp), pN1.kx k7 (by simp), by omega⟩
      · rintro s N ⟨⟨a, b, s6, s7, s8, s9, s10, s13, s14, s15, rfl, ab, ca, cb, ha, hb, la, lb⟩, c4, c5, sN, pN, nN⟩
        tm_at "s"
        refine ifK_f ?_
        tm_at "v"
        tm_at "s"
        tm_at "s"
        refine WC_map osV (fun _ => Va.bl true) (lawPl kx) (show lstOf N (.cel a) = _ by rw [y_lstC, ca]) ?_ ?_
        · intro q _
          refine ⟨_, rfl, ?_⟩
          tm_at "v"
        · tm_at "v"
          refine ifK_f ?_
          tm_at "v"
          tm_at "s"
          refine WC_map otV (fun _ => Va.bl true) (lawSt kx) (show lstOf N (.cel b) = _ by rw [y_lstC, cb]) ?_ ?_
          · intro q _
            refine ⟨_, rfl, ?_⟩
            tm_at "v"
          · tm_at "v"
            refine ifK_f ?_
            have la1 : ((lawPl kx).map osV).length ≤ 1000 := by rw [List.length_map]; omega
            tm_at "v"
            tm_at "s"
            have cb2 : (N.put a (.lst ((lawPl kx).map osV ++ [.tup [.str "zz", .int 0]]))).c b = some (.lst ((lawSt kx).map otV)) := by rw [put_ne ab.symm]; exact cb
            tm_at "v"
            refine ⟨⟨_, _, _, _, _, _, _, _, _, _, rfl⟩, by rw [put_ne (by omega), put_ne (by omega)]; exact c4, by rw [put_ne (by omega), put_ne (by omega)]; exact c5, (sN.put (by omega) (by omega)).put (by omega) (by omega), ⟨pN.lt, by rw [put_ne (by omega), put_ne (by omega)]; exact pN.f⟩, nN⟩
    · rintro s N ⟨⟨s6, s7, s8, s9, s10, s11, s12, s13, s14, s15, rfl⟩, c4, c5, sN, pN, nN⟩
      tm_at "v"
      rfl
end Lw
end

set_option Elab.async false
set_option linter.all false
set_option maxRecDepth 100000
set_option maxHeartbeats 4000000
namespace Lw
open PySem L2 PV
theorem lawOk (ns : List Int) (hl : ns.length ≤ 63) : ∃ M', c_law [.scr ns] ⟨fun _ => none, 0⟩ = some (.val (.bl true), M') := law_right ns
end Lw

set_option Elab.async false
set_option linter.all false
set_option maxRecDepth 100000
set_option maxHeartbeats 4000000
namespace Lw
open PySem L2 PV
def top (i : Nat) : Stmt := PySem.Challenge.pw_paidinparts_k17_open_states_without_chec.main.body.getD i noS
structure Tx (mg : Str → Option Value) : Prop where
  b_abs : mg "abs" = none
  b_all : mg "all" = none
  b_any : mg "any" = none
  b_bool : mg "bool" = none
  b_dict : mg "dict" = none
  b_enumerate : mg "enumerate" = none
  b_int : mg "int" = none
  b_isinstance : mg "isinstance" = none
  b_len : mg "len" = none
  b_list : mg "list" = none
  b_max : mg "max" = none
  b_min : mg "min" = none
  b_range : mg "range" = none
  b_sorted : mg "sorted" = none
  b_zip : mg "zip" = none
  g_LETTERS : ∃ t, mg "LETTERS" = some (.str "abcdefghijklmnopqrstuvwxyz" t)
  g_MOST_LETTERS : ∃ t, mg "MOST_LETTERS" = some (.int 8 t)
section
variable {P : Program} {w : World} {K : PySem.W.Frag} {mg : Str → Option Value} {base : Heap} {CA : Nat → Addr}
abbrev s__law_source : Stmt := top 38
abbrev N__law_source : List Str := ["script", "great", "small", "cell"]
theorem sc__law_source : FnScope N__law_source ["script"] (defScope s__law_source) := ⟨rfl, rfl, rfl, by decide +kernel, rfl, by decide +kernel, by decide +kernel⟩
theorem b__law_source (T : Tx mg) (hsb : ∃ mm, base.Ns sysModules mm)  {f : Addr} (cdv : Value) (A : Around) (outer : List Env) (s : Shared) (H : Hp) (E : XK) (hr : Room 0 (A.deeper (PyProof.Rows.envOfC "_law_source" (defScope s__law_source) s.heap.objs.size f cdv))) (hgd : A.guards = some []) :
    PSs (cxOf CX0 P w K mg base N__law_source "_law_source" (defScope s__law_source) f cdv A outer s H E).nox (defBody s__law_source) (tS ⟨K, CA⟩ E0 m__law_source) := by
  let G : Sig := ⟨K, CA⟩
  exact (qss_cons (qs_set (i := 1) sc__law_source.nd rfl (by first | exact Or.inl rfl | exact Or.inr rfl) (q_lstC qa_nil))
      (qss_cons (qs_set (i := 2) sc__law_source.nd rfl (by first | exact Or.inl rfl | exact Or.inr rfl) (q_lstC qa_nil))
      (qss_cons (qs_for PassesOwn.never rfl (qi_any rfl (q_sl rfl (qv 0) qo_none (qo_b qc_int))) (qg_name (i := 3) sc__law_source.nd rfl (by first | exact Or.inl rfl | exact Or.inr rfl)) (qss_one (qs_if (qt_cmp op_ge s_ge (q_callB call_abs s_abs (by rfl) T.b_abs bt_abs (qa_cons (qv 3) qa_nil)) (q_pow qc_int qc_int) (nomark _)) (qss_one (qs_expr (q_bm rfl PySem.F.plainAttrs_list PySem.F.slot_list_append PySem.F.type_list_append mt_append tyLst s_append (qv 1) (qa_cons (q_callB call_abs s_abs (by rfl) T.b_abs bt_abs (qa_cons (qv 3) qa_nil)) qa_nil)))) (qss_one (qs_expr (q_bm rfl PySem.F.plainAttrs_list PySem.F.slot_list_append PySem.F.type_list_append mt_append tyLst s_append (qv 2) (qa_cons (qv 3) qa_nil)))))))
      (qss_one (qs_ret (q_gho (k := 2) (q_lstC (qa_cons (qv 1) (qa_cons (qv 2) (qa_cons qc_int (qa_cons (q_add (q_callB (call_len_seq.or (call_len_str.or call_lenD)) (s_len rfl) (by rfl) T.b_len bt_len (qa_cons (qv 2) qa_nil)) qc_int) (qa_cons qc_int qa_nil))))))))))))
theorem w__law_source {f : Addr} {fd : FuncData} (F : Fun K "_law_source" "_law_source" s__law_source f fd) (m : mg "_law_source" = some (.ref f)) (T : Tx mg) (hsb : ∃ mm, base.Ns sysModules mm)  : Cal P w K mg base ⟨K, CA⟩ "_law_source" 1 1 c__law_source :=
  cal_of F sc__law_source m (F.binds fun _ _ _ _ _ _ us hl => match us, hl with | [_], _ => rfl) rfl rfl rfl (b__law_source T hsb )
abbrev s__law_draw : Stmt := top 39
abbrev N__law_draw : List Str := ["source", "many", "cell", "mixed", "digit"]
theorem sc__law_draw : FnScope N__law_draw ["source", "many"] (defScope s__law_draw) := ⟨rfl, rfl, rfl, by decide +kernel, rfl, by decide +kernel, by decide +kernel⟩
theorem b__law_draw (T : Tx mg) (hsb : ∃ mm, base.Ns sysModules mm)  {f : Addr} (cdv : Value) (A : Around) (outer : List Env) (s : Shared) (H : Hp) (E : XK) (hr : Room 0 (A.deeper (PyProof.Rows.envOfC "_law_draw" (defScope s__law_draw) s.heap.objs.size f cdv))) (hgd : A.guards = some []) :
    PSs (cxOf CX0 P w K mg base N__law_draw "_law_draw" (defScope s__law_draw) f cdv A outer s H E).nox (defBody s__law_draw) (tS ⟨K, CA⟩ E0 m__law_draw) := by
  let G : Sig := ⟨K, CA⟩
  exact (qss_cons (qs_if (qt_pw (qw_and (qt_cmp (op_eq.or (op_eqA (G := G) rfl hr)) s_eq (q_ix ix_seq (s_ix rfl) (qv 0) qc_int) qc_int (nomark _)) (qw_and1 (qt_cmp op_gt s_gt (q_callB (call_len_seq.or (call_len_str.or call_lenD)) (s_len rfl) (by rfl) T.b_len bt_len (qa_cons (q_ix ix_seq (s_ix rfl) (qv 0) qc_int) qa_nil)) qc_int (nomark _))))) (qss_one (qs_sub set_list s_setAt (q_bm rfl PySem.F.plainAttrs_list PySem.F.slot_list_pop PySem.F.type_list_pop mt_popAt tyLst s_popAt (q_ix ix_seq (s_ix rfl) (qv 0) qc_int) (qa_cons qc_int qa_nil)) (qv 0) qc_int)) qss_nil)
      (qss_cons (qs_if (qt_cmp op_gt s_gt (q_ix ix_seq (s_ix rfl) (qv 0) qc_int) qc_int (nomark _)) (qss_cons (qs_set (i := 4) sc__law_draw.nd rfl (by first | exact Or.inl rfl | exact Or.inr rfl) (q_mod (q_callTy (call_int1.or call_int_str) s_int (by rfl) T.b_int bt_int (qa_cons (q_ix ix_seq (s_ix rfl) (qv 0) qc_int) qa_nil)) (qv 1)))
      (qss_cons (qs_sub set_list s_setAt (q_div (q_callTy (call_int1.or call_int_str) s_int (by rfl) T.b_int bt_int (qa_cons (q_ix ix_seq (s_ix rfl) (qv 0) qc_int) qa_nil)) (qv 1)) (qv 0) qc_int)
      (qss_one (qs_ret (qv 4))))) qss_nil)
      (qss_cons (qs_sub set_list s_setAt (q_add (q_ix ix_seq (s_ix rfl) (qv 0) qc_int) qc_int) (qv 0) qc_int)
      (qss_cons (qs_set (i := 2) sc__law_draw.nd rfl (by first | exact Or.inl rfl | exact Or.inr rfl) (q_add (q_mul (q_ix ix_seq (s_ix rfl) (qv 0) qc_int) qc_int) qc_int))
      (qss_cons (qs_if (qt_cmp op_gt s_gt (q_callB (call_len_seq.or (call_len_str.or call_lenD)) (s_len rfl) (by rfl) T.b_len bt_len (qa_cons (q_ix ix_seq (s_ix rfl) (qv 0) qc_int) qa_nil)) qc_int (nomark _)) (qss_one (qs_set (i := 2) sc__law_draw.nd rfl (by first | exact Or.inl rfl | exact Or.inr rfl) (q_add (qv 2) (q_mul (q_ix ix_seq (s_ix rfl) (q_ix ix_seq (s_ix rfl) (qv 0) qc_int) (q_mod (q_callTy (call_int1.or call_int_str) s_int (by rfl) T.b_int bt_int (qa_cons (q_ix ix_seq (s_ix rfl) (qv 0) qc_int) qa_nil)) (q_callB (call_len_seq.or (call_len_str.or call_lenD)) (s_len rfl) (by rfl) T.b_len bt_len (qa_cons (q_ix ix_seq (s_ix rfl) (qv 0) qc_int) qa_nil)))) qc_int)))) qss_nil)
      (qss_cons (qs_set (i := 3) sc__law_draw.nd rfl (by first | exact Or.inl rfl | exact Or.inr rfl) (q_add (q_add (q_mul (q_mul (q_ix ix_seq (s_ix rfl) (qv 0) qc_int) (q_ix ix_seq (s_ix rfl) (qv 0) qc_int)) qc_int) (q_mul (qv 2) qc_int)) qc_int))
      (qss_cons (qs_sub set_list s_setAt (q_mod (q_callTy (call_int1.or call_int_str) s_int (by rfl) T.b_int bt_int (qa_cons (qv 3) qa_nil)) qc_int) (qv 0) qc_int)
      (qss_one (qs_ret (q_mod (q_callTy (call_int1.or call_int_str) s_int (by rfl) T.b_int bt_int (qa_cons (q_div (q_ix ix_seq (s_ix rfl) (qv 0) qc_int) qc_int) qa_nil)) (qv 1)))))))))))
theorem w__law_draw {f : Addr} {fd : FuncData} (F : Fun K "_law_draw" "_law_draw" s__law_draw f fd) (m : mg "_law_draw" = some (.ref f)) (T : Tx mg) (hsb : ∃ mm, base.Ns sysModules mm)  : Cal P w K mg base ⟨K, CA⟩ "_law_draw" 1 2 c__law_draw :=
  cal_of F sc__law_draw m (F.binds fun _ _ _ _ _ _ us hl => match us, hl with | [_, _], _ => rfl) rfl rfl rfl (b__law_draw T hsb )
abbrev s__law_name : Stmt := top 40
abbrev N__law_name : List Str := ["source", "taken", "letters", "name", "spot", "k", "letter"]
theorem sc__law_name : FnScope N__law_name ["source", "taken"] (defScope s__law_name) := ⟨rfl, rfl, rfl, by decide +kernel, rfl, by decide +kernel, by decide +kernel⟩
theorem b__law_name (T : Tx mg) (hsb : ∃ mm, base.Ns sysModules mm) (C__law_draw : Cal P w K mg base ⟨K, CA⟩ "_law_draw" 1 2 c__law_draw) {f : Addr} (cdv : Value) (A : Around) (outer : List Env) (s : Shared) (H : Hp) (E : XK) (hr : Room 1 (A.deeper (PyProof.Rows.envOfC "_law_name" (defScope s__law_name) s.heap.objs.size f cdv))) (hgd : A.guards = some []) :
    PSs (cxOf CX0 P w K mg base N__law_name "_law_name" (defScope s__law_name) f cdv A outer s H E).nox (defBody s__law_name) (tS ⟨K, CA⟩ E0 m__law_name) := by
  let G : Sig := ⟨K, CA⟩
  exact (qss_cons (qs_set (i := 2) sc__law_name.nd rfl (by first | exact Or.inl rfl | exact Or.inr rfl) qc_str)
      (qss_cons (qs_set (i := 3) sc__law_name.nd rfl (by first | exact Or.inl rfl | exact Or.inr rfl) (q_bm rfl PySem.F.plainAttrs_str PySem.F.slot_str_join PySem.F.type_str_join mt_join tyStr (s_join rfl) qc_str (qa_cons (q_lc (own := [("k", 5)]) (E2 := E0) rfl sc__law_name.nd (qi_range1 (by rfl) T.b_range (qa_cons (q_add qc_int (q_cal C__law_draw hr (by decide) hgd (by rfl) (qa_cons (qv 0) (qa_cons qc_int qa_nil)))) qa_nil)) (blkOk_by (N := N__law_name) (sc := (defScope s__law_name)) (by decide +kernel)) (fun _ _ _ _ _ => by exact (qg_name (i := 5) sc__law_name.nd rfl (by first | exact Or.inl rfl | exact Or.inr rfl))) (fun _ _ _ _ _ => qts_nil) (fun _ _ _ _ _ => (q_ix ix_seq (s_ix rfl) (qv 2) (q_cal C__law_draw hr (by decide) hgd (by rfl) (qa_cons (qv 0) (qa_cons qc_int qa_nil)))))) qa_nil)))
      (qss_cons (qs_if (qt_cmp (op_eq.or (op_eqA (G := G) rfl hr)) s_eq (q_cal C__law_draw hr (by decide) hgd (by rfl) (qa_cons (qv 0) (qa_cons qc_int qa_nil))) qc_int (nomark _)) (qss_one (qs_set (i := 3) sc__law_name.nd rfl (by first | exact Or.inl rfl | exact Or.inr rfl) (q_add (qv 3) (q_bm rfl PySem.F.plainAttrs_str PySem.F.slot_str_join PySem.F.type_str_join mt_join tyStr (s_join rfl) qc_str (qa_cons (q_lc (own := [("k", 5)]) (E2 := E0) rfl sc__law_name.nd (qi_range1 (by rfl) T.b_range (qa_cons qc_int qa_nil)) (blkOk_by (N := N__law_name) (sc := (defScope s__law_name)) (by decide +kernel)) (fun _ _ _ _ _ => by exact (qg_name (i := 5) sc__law_name.nd rfl (by first | exact Or.inl rfl | exact Or.inr rfl))) (fun _ _ _ _ _ => qts_nil) (fun _ _ _ _ _ => (q_ix ix_seq (s_ix rfl) (qv 2) (q_cal C__law_draw hr (by decide) hgd (by rfl) (qa_cons (qv 0) (qa_cons qc_int qa_nil)))))) qa_nil))))) qss_nil)
      (qss_cons (qs_if (qt_pw (qw_and (qt_cmp op_gt s_gt (q_callB (call_len_seq.or (call_len_str.or call_lenD)) (s_len rfl) (by rfl) T.b_len bt_len (qa_cons (qv 1) qa_nil)) qc_int (nomark _)) (qw_and (qt_cmp op_lt s_lt (q_callB (call_len_seq.or (call_len_str.or call_lenD)) (s_len rfl) (by rfl) T.b_len bt_len (qa_cons (q_ix ix_seq (s_ix rfl) (qv 1) (q_neg qc_int)) qa_nil)) qc_int (nomark _)) (qw_and1 (qt_cmp (op_eq.or (op_eqA (G := G) rfl hr)) s_eq (q_cal C__law_draw hr (by decide) hgd (by rfl) (qa_cons (qv 0) (qa_cons qc_int qa_nil))) qc_int (nomark _)))))) (qss_cons (qs_set (i := 4) sc__law_name.nd rfl (by first | exact Or.inl rfl | exact Or.inr rfl) (q_cal C__law_draw hr (by decide) hgd (by rfl) (qa_cons (qv 0) (qa_cons (q_add (q_callB (call_len_seq.or (call_len_str.or call_lenD)) (s_len rfl) (by rfl) T.b_len bt_len (qa_cons (q_ix ix_seq (s_ix rfl) (qv 1) (q_neg qc_int)) qa_nil)) qc_int) qa_nil))))
      (qss_one (qs_set (i := 3) sc__law_name.nd rfl (by first | exact Or.inl rfl | exact Or.inr rfl) (q_add (q_add (q_sl rfl (q_ix ix_seq (s_ix rfl) (qv 1) (q_neg qc_int)) qo_none (qo_b (qv 4))) (q_ix ix_seq (s_ix rfl) (qv 2) (q_cal C__law_draw hr (by decide) hgd (by rfl) (qa_cons (qv 0) (qa_cons qc_int qa_nil))))) (q_sl rfl (q_ix ix_seq (s_ix rfl) (qv 1) (q_neg qc_int)) (qo_b (qv 4)) qo_none))))) qss_nil)
      (qss_cons (qs_if (qt_cmp ((op_in_sign.or op_in_seq).or (op_inP (G := G) rfl hr)) (s_inD rfl) (qv 3) (qv 1) (by rfl)) (qss_one (qs_set (i := 3) sc__law_name.nd rfl (by first | exact Or.inl rfl | exact Or.inr rfl) (q_ix ix_seq (s_ix rfl) (q_lc (own := [("letter", 6)]) (E2 := E0) rfl sc__law_name.nd (qi_any rfl (qv 2)) (blkOk_by (N := N__law_name) (sc := (defScope s__law_name)) (by decide +kernel)) (fun _ _ _ _ _ => by exact (qg_name (i := 6) sc__law_name.nd rfl (by first | exact Or.inl rfl | exact Or.inr rfl))) (fun _ _ _ _ _ => (qts_one (qt_cmp ((op_notIn_sign.or op_notIn_seq).or (op_notInP (G := G) rfl hr)) (s_notInD rfl) (qv 6) (qv 1) (by rfl)))) (fun _ _ _ _ _ => (qv 6))) qc_int))) qss_nil)
      (qss_one (qs_ret (qv 3))))))))
theorem w__law_name {f : Addr} {fd : FuncData} (F : Fun K "_law_name" "_law_name" s__law_name f fd) (m : mg "_law_name" = some (.ref f)) (T : Tx mg) (hsb : ∃ mm, base.Ns sysModules mm) (C__law_draw : Cal P w K mg base ⟨K, CA⟩ "_law_draw" 1 2 c__law_draw) : Cal P w K mg base ⟨K, CA⟩ "_law_name" 2 2 c__law_name :=
  cal_of F sc__law_name m (F.binds fun _ _ _ _ _ _ us hl => match us, hl with | [_, _], _ => rfl) rfl rfl rfl (b__law_name T hsb C__law_draw)
abbrev s__law_names : Stmt := top 41
abbrev N__law_names : List Str := ["source", "many", "names", "k"]
theorem sc__law_names : FnScope N__law_names ["source", "many"] (defScope s__law_names) := ⟨rfl, rfl, rfl, by decide +kernel, rfl, by decide +kernel, by decide +kernel⟩
theorem b__law_names (T : Tx mg) (hsb : ∃ mm, base.Ns sysModules mm) (C__law_name : Cal P w K mg base ⟨K, CA⟩ "_law_name" 2 2 c__law_name) {f : Addr} (cdv : Value) (A : Around) (outer : List Env) (s : Shared) (H : Hp) (E : XK) (hr : Room 2 (A.deeper (PyProof.Rows.envOfC "_law_names" (defScope s__law_names) s.heap.objs.size f cdv))) (hgd : A.guards = some []) :
    PSs (cxOf CX0 P w K mg base N__law_names "_law_names" (defScope s__law_names) f cdv A outer s H E).nox (defBody s__law_names) (tS ⟨K, CA⟩ E0 m__law_names) := by
  let G : Sig := ⟨K, CA⟩
  exact (qss_cons (qs_set (i := 2) sc__law_names.nd rfl (by first | exact Or.inl rfl | exact Or.inr rfl) (q_lstC qa_nil))
      (qss_cons (qs_for PassesOwn.never rfl (qi_range1 (by rfl) T.b_range (qa_cons (qv 1) qa_nil)) (qg_name (i := 3) sc__law_names.nd rfl (by first | exact Or.inl rfl | exact Or.inr rfl)) (qss_one (qs_expr (q_bm rfl PySem.F.plainAttrs_list PySem.F.slot_list_append PySem.F.type_list_append mt_append tyLst s_append (qv 2) (qa_cons (q_cal C__law_name hr (by decide) hgd (by rfl) (qa_cons (qv 0) (qa_cons (qv 2) qa_nil))) qa_nil)))))
      (qss_one (qs_ret (q_frz (qv 2))))))
theorem w__law_names {f : Addr} {fd : FuncData} (F : Fun K "_law_names" "_law_names" s__law_names f fd) (m : mg "_law_names" = some (.ref f)) (T : Tx mg) (hsb : ∃ mm, base.Ns sysModules mm) (C__law_name : Cal P w K mg base ⟨K, CA⟩ "_law_name" 2 2 c__law_name) : Cal P w K mg base ⟨K, CA⟩ "_law_names" 3 2 c__law_names :=
  cal_of F sc__law_names m (F.binds fun _ _ _ _ _ _ us hl => match us, hl with | [_, _], _ => rfl) rfl rfl rfl (b__law_names T hsb C__law_name)
abbrev s__law_counts : Stmt := top 42
abbrev N__law_counts : List Str := ["source", "columns", "most", "counts", "column", "number"]
theorem sc__law_counts : FnScope N__law_counts ["source", "columns", "most"] (defScope s__law_counts) := ⟨rfl, rfl, rfl, by decide +kernel, rfl, by decide +kernel, by decide +kernel⟩
theorem b__law_counts (T : Tx mg) (hsb : ∃ mm, base.Ns sysModules mm) (C__law_draw : Cal P w K mg base ⟨K, CA⟩ "_law_draw" 1 2 c__law_draw) {f : Addr} (cdv : Value) (A : Around) (outer : List Env) (s : Shared) (H : Hp) (E : XK) (hr : Room 1 (A.deeper (PyProof.Rows.envOfC "_law_counts" (defScope s__law_counts) s.heap.objs.size f cdv))) (hgd : A.guards = some []) :
    PSs (cxOf CX0 P w K mg base N__law_counts "_law_counts" (defScope s__law_counts) f cdv A outer s H E).nox (defBody s__law_counts) (tS ⟨K, CA⟩ E0 m__law_counts) := by
  let G : Sig := ⟨K, CA⟩
  exact (qss_cons (qs_set (i := 3) sc__law_counts.nd rfl (by first | exact Or.inl rfl | exact Or.inr rfl) q_dnew)
      (qss_cons (qs_for PassesOwn.never rfl (qi_any rfl (qv 1)) (qg_name (i := 4) sc__law_counts.nd rfl (by first | exact Or.inl rfl | exact Or.inr rfl)) (qss_cons (qs_set (i := 5) sc__law_counts.nd rfl (by first | exact Or.inl rfl | exact Or.inr rfl) (q_sub (q_cal C__law_draw hr (by decide) hgd (by rfl) (qa_cons (qv 0) (qa_cons (q_add (q_mul qc_int (qv 2)) qc_int) qa_nil))) (qv 2)))
      (qss_cons (qs_if (qt_cmp op_gt s_gt (qv 5) (qv 2) (nomark _)) (qss_one (qs_set (i := 5) sc__law_counts.nd rfl (by first | exact Or.inl rfl | exact Or.inr rfl) qc_int)) qss_nil)
      (qss_one (qs_if (qt_pw (qw_or (qt_cmp (op_ne.or (op_neA (G := G) rfl hr)) s_ne (qv 5) qc_int (nomark _)) (qw_or1 (qt_cmp (op_eq.or (op_eqA (G := G) rfl hr)) s_eq (q_cal C__law_draw hr (by decide) hgd (by rfl) (qa_cons (qv 0) (qa_cons qc_int qa_nil))) qc_int (nomark _))))) (qss_one (qs_sub (set_dict hr) s_setK (qv 5) (qv 3) (qv 4))) qss_nil)))))
      (qss_one (qs_ret (q_frz (qv 3))))))
theorem w__law_counts {f : Addr} {fd : FuncData} (F : Fun K "_law_counts" "_law_counts" s__law_counts f fd) (m : mg "_law_counts" = some (.ref f)) (T : Tx mg) (hsb : ∃ mm, base.Ns sysModules mm) (C__law_draw : Cal P w K mg base ⟨K, CA⟩ "_law_draw" 1 2 c__law_draw) : Cal P w K mg base ⟨K, CA⟩ "_law_counts" 2 3 c__law_counts :=
  cal_of F sc__law_counts m (F.binds fun _ _ _ _ _ _ us hl => match us, hl with | [_, _, _], _ => rfl) rfl rfl rfl (b__law_counts T hsb C__law_draw)
abbrev s__law_steps : Stmt := top 43
abbrev N__law_steps : List Str := ["source", "names", "many", "shape", "steps", "k", "name", "start", "end", "step"]
theorem sc__law_steps : FnScope N__law_steps ["source", "names", "many", "shape"] (defScope s__law_steps) := ⟨rfl, rfl, rfl, by decide +kernel, rfl, by decide +kernel, by decide +kernel⟩
theorem b__law_steps (T : Tx mg) (hsb : ∃ mm, base.Ns sysModules mm) (C__law_draw : Cal P w K mg base ⟨K, CA⟩ "_law_draw" 1 2 c__law_draw) {f : Addr} (cdv : Value) (A : Around) (outer : List Env) (s : Shared) (H : Hp) (E : XK) (hr : Room 1 (A.deeper (PyProof.Rows.envOfC "_law_steps" (defScope s__law_steps) s.heap.objs.size f cdv))) (hgd : A.guards = some []) :
    PSs (cxOf CX0 P w K mg base N__law_steps "_law_steps" (defScope s__law_steps) f cdv A outer s H E).nox (defBody s__law_steps) (tS ⟨K, CA⟩ E0 m__law_steps) := by
  let G : Sig := ⟨K, CA⟩
  exact (qss_cons (qs_set (i := 4) sc__law_steps.nd rfl (by first | exact Or.inl rfl | exact Or.inr rfl) (q_lstC qa_nil))
      (qss_cons (qs_for PassesOwn.never rfl (qi_range1 (by rfl) T.b_range (qa_cons (q_callB ((call_min2 rfl).or (cr_min rfl)) (s_min rfl) (by rfl) T.b_min bt_min (qa_cons (q_ix ix_seq (s_ix rfl) (qv 3) qc_int) (qa_cons (q_add (qv 2) (q_cal C__law_draw hr (by decide) hgd (by rfl) (qa_cons (qv 0) (qa_cons (q_ix ix_seq (s_ix rfl) (qv 3) qc_int) qa_nil)))) qa_nil))) qa_nil)) (qg_name (i := 5) sc__law_steps.nd rfl (by first | exact Or.inl rfl | exact Or.inr rfl)) (qss_cons (qs_set (i := 6) sc__law_steps.nd rfl (by first | exact Or.inl rfl | exact Or.inr rfl) (q_ix ix_seq (s_ix rfl) (qv 1) (q_cal C__law_draw hr (by decide) hgd (by rfl) (qa_cons (qv 0) (qa_cons (q_callB (call_len_seq.or (call_len_str.or call_lenD)) (s_len rfl) (by rfl) T.b_len bt_len (qa_cons (qv 1) qa_nil)) qa_nil)))))
      (qss_cons (qs_set (i := 7) sc__law_steps.nd rfl (by first | exact Or.inl rfl | exact Or.inr rfl) (q_cal C__law_draw hr (by decide) hgd (by rfl) (qa_cons (qv 0) (qa_cons (qv 2) qa_nil))))
      (qss_cons (qs_set (i := 8) sc__law_steps.nd rfl (by first | exact Or.inl rfl | exact Or.inr rfl) (q_cal C__law_draw hr (by decide) hgd (by rfl) (qa_cons (qv 0) (qa_cons (qv 2) qa_nil))))
      (qss_cons (qs_if (qt_pw (qw_and (qt_cmp op_lt s_lt (q_add (qv 5) qc_int) (qv 2) (nomark _)) (qw_and1 (qt_cmp op_gt s_gt (q_cal C__law_draw hr (by decide) hgd (by rfl) (qa_cons (qv 0) (qa_cons qc_int qa_nil))) qc_int (nomark _))))) (qss_cons (qs_set (i := 7) sc__law_steps.nd rfl (by first | exact Or.inl rfl | exact Or.inr rfl) (qv 5))
      (qss_one (qs_set (i := 8) sc__law_steps.nd rfl (by first | exact Or.inl rfl | exact Or.inr rfl) (q_add (qv 5) qc_int)))) qss_nil)
      (qss_one (qs_if (qt_cmp (op_eq.or (op_eqA (G := G) rfl hr)) s_eq (q_callB (call_len_seq.or (call_len_str.or call_lenD)) (s_len rfl) (by rfl) T.b_len bt_len (qa_cons (q_lc (own := [("step", 9)]) (E2 := E0) rfl sc__law_steps.nd (qi_any rfl (qv 4)) (blkOk_by (N := N__law_steps) (sc := (defScope s__law_steps)) (by decide +kernel)) (fun _ _ _ _ _ => by exact (qg_name (i := 9) sc__law_steps.nd rfl (by first | exact Or.inl rfl | exact Or.inr rfl))) (fun _ _ _ _ _ => (qts_one (qt_pw (qw_and (qt_cmp (op_eq.or (op_eqA (G := G) rfl hr)) s_eq (q_ix ix_seq (s_ix rfl) (qv 9) qc_int) (qv 6) (nomark _)) (qw_and1 (qt_cmp (op_eq.or (op_eqA (G := G) rfl hr)) s_eq (q_ix ix_seq (s_ix rfl) (qv 9) qc_int) (qv 7) (nomark _))))))) (fun _ _ _ _ _ => (qv 9))) qa_nil)) qc_int (nomark _)) (qss_one (qs_expr (q_bm rfl PySem.F.plainAttrs_list PySem.F.slot_list_append PySem.F.type_list_append mt_append tyLst s_append (qv 4) (qa_cons (q_tup (qa_cons (qv 6) (qa_cons (qv 7) (qa_cons (qv 8) qa_nil)))) qa_nil)))) qss_nil)))))))
      (qss_one (qs_ret (q_frz (qv 4))))))
theorem w__law_steps {f : Addr} {fd : FuncData} (F : Fun K "_law_steps" "_law_steps" s__law_steps f fd) (m : mg "_law_steps" = some (.ref f)) (T : Tx mg) (hsb : ∃ mm, base.Ns sysModules mm) (C__law_draw : Cal P w K mg base ⟨K, CA⟩ "_law_draw" 1 2 c__law_draw) : Cal P w K mg base ⟨K, CA⟩ "_law_steps" 2 4 c__law_steps :=
  cal_of F sc__law_steps m (F.binds fun _ _ _ _ _ _ us hl => match us, hl with | [_, _, _, _], _ => rfl) rfl rfl rfl (b__law_steps T hsb C__law_draw)
abbrev s__law_free : Stmt := top 44
abbrev N__law_free : List Str := ["source", "most_checks", "shapes", "shape", "columns", "names", "most", "kinds", "label", "checks", "many", "spots", "k"]
theorem sc__law_free : FnScope N__law_free ["source", "most_checks"] (defScope s__law_free) := ⟨rfl, rfl, rfl, by decide +kernel, rfl, by decide +kernel, by decide +kernel⟩
theorem b__law_free (T : Tx mg) (hsb : ∃ mm, base.Ns sysModules mm) (C__law_draw : Cal P w K mg base ⟨K, CA⟩ "_law_draw" 1 2 c__law_draw) (C__law_names : Cal P w K mg base ⟨K, CA⟩ "_law_names" 3 2 c__law_names) (C__law_counts : Cal P w K mg base ⟨K, CA⟩ "_law_counts" 2 3 c__law_counts) (C__law_steps : Cal P w K mg base ⟨K, CA⟩ "_law_steps" 2 4 c__law_steps) {f : Addr} (cdv : Value) (A : Around) (outer : List Env) (s : Shared) (H : Hp) (E : XK) (hr : Room 3 (A.deeper (PyProof.Rows.envOfC "_law_free" (defScope s__law_free) s.heap.objs.size f cdv))) (hgd : A.guards = some []) :
    PSs (cxOf CX0 P w K mg base N__law_free "_law_free" (defScope s__law_free) f cdv A outer s H E).nox (defBody s__law_free) (tS ⟨K, CA⟩ E0 m__law_free) := by
  let G : Sig := ⟨K, CA⟩
  exact (qss_cons (qs_set (i := 2) sc__law_free.nd rfl (by first | exact Or.inl rfl | exact Or.inr rfl) (q_lst (qa_cons (q_tup (qa_cons qc_int (qa_cons qc_int (qa_cons qc_int (qa_cons qc_int (qa_cons qc_int qa_nil)))))) (qa_cons (q_tup (qa_cons qc_int (qa_cons qc_int (qa_cons qc_int (qa_cons qc_int (qa_cons qc_int qa_nil)))))) (qa_cons (q_tup (qa_cons qc_int (qa_cons qc_int (qa_cons qc_int (qa_cons qc_int (qa_cons qc_int qa_nil)))))) (qa_cons (q_tup (qa_cons qc_int (qa_cons qc_int (qa_cons qc_int (qa_cons qc_int (qa_cons qc_int qa_nil)))))) (qa_cons (q_tup (qa_cons qc_int (qa_cons qc_int (qa_cons qc_int (qa_cons qc_int (qa_cons qc_int qa_nil)))))) (qa_cons (q_tup (qa_cons qc_int (qa_cons qc_int (qa_cons qc_int (qa_cons qc_int (qa_cons qc_int qa_nil)))))) qa_nil))))))))
      (qss_cons (qs_set (i := 3) sc__law_free.nd rfl (by first | exact Or.inl rfl | exact Or.inr rfl) (q_ix ix_seq (s_ix rfl) (qv 2) (q_cal C__law_draw hr (by decide) hgd (by rfl) (qa_cons (qv 0) (qa_cons qc_int qa_nil)))))
      (qss_cons (qs_set (i := 4) sc__law_free.nd rfl (by first | exact Or.inl rfl | exact Or.inr rfl) (q_cal C__law_names hr (by decide) hgd (by rfl) (qa_cons (qv 0) (qa_cons (q_add qc_int (q_cal C__law_draw hr (by decide) hgd (by rfl) (qa_cons (qv 0) (qa_cons qc_int qa_nil)))) qa_nil))))
      (qss_cons (qs_set (i := 5) sc__law_free.nd rfl (by first | exact Or.inl rfl | exact Or.inr rfl) (q_cal C__law_names hr (by decide) hgd (by rfl) (qa_cons (qv 0) (qa_cons (q_add qc_int (q_cal C__law_draw hr (by decide) hgd (by rfl) (qa_cons (qv 0) (qa_cons (q_ix ix_seq (s_ix rfl) (qv 3) qc_int) qa_nil)))) qa_nil))))
      (qss_cons (qs_set (i := 6) sc__law_free.nd rfl (by first | exact Or.inl rfl | exact Or.inr rfl) (q_ix ix_seq (s_ix rfl) (q_lst (qa_cons qc_int (qa_cons qc_int (qa_cons qc_int qa_nil)))) (q_cal C__law_draw hr (by decide) hgd (by rfl) (qa_cons (qv 0) (qa_cons qc_int qa_nil)))))
      (qss_cons (qs_set (i := 7) sc__law_free.nd rfl (by first | exact Or.inl rfl | exact Or.inr rfl) (q_lstC qa_nil))
      (qss_cons (qs_for PassesOwn.never rfl (qi_any rfl (q_cal C__law_names hr (by decide) hgd (by rfl) (qa_cons (qv 0) (qa_cons (q_add qc_int (q_cal C__law_draw hr (by decide) hgd (by rfl) (qa_cons (qv 0) (qa_cons (q_ix ix_seq (s_ix rfl) (qv 3) qc_int) qa_nil)))) qa_nil)))) (qg_name (i := 8) sc__law_free.nd rfl (by first | exact Or.inl rfl | exact Or.inr rfl)) (qss_cons (qs_set (i := 10) sc__law_free.nd rfl (by first | exact Or.inl rfl | exact Or.inr rfl) (q_add qc_int (q_cal C__law_draw hr (by decide) hgd (by rfl) (qa_cons (qv 0) (qa_cons (q_ix ix_seq (s_ix rfl) (qv 3) qc_int) qa_nil)))))
      (qss_cons (qs_set (i := 11) sc__law_free.nd rfl (by first | exact Or.inl rfl | exact Or.inr rfl) (q_add (q_lst (qa_cons q_dnewF qa_nil)) (q_lc (own := [("k", 12)]) (E2 := E0) rfl sc__law_free.nd (qi_range1 (by rfl) T.b_range (qa_cons (q_sub (qv 10) qc_int) qa_nil)) (blkOk_by (N := N__law_free) (sc := (defScope s__law_free)) (by decide +kernel)) (fun _ _ _ _ _ => by exact (qg_name (i := 12) sc__law_free.nd rfl (by first | exact Or.inl rfl | exact Or.inr rfl))) (fun _ _ _ _ _ => qts_nil) (fun _ _ _ _ _ => (q_cal C__law_counts hr (by decide) hgd (by rfl) (qa_cons (qv 0) (qa_cons (qv 4) (qa_cons (qv 6) qa_nil))))))))
      (qss_one (qs_expr (q_bm rfl PySem.F.plainAttrs_list PySem.F.slot_list_append PySem.F.type_list_append mt_append tyLst s_append (qv 7) (qa_cons (q_tup (qa_cons (qv 8) (qa_cons (qv 11) (qa_cons (q_cal C__law_steps hr (by decide) hgd (by rfl) (qa_cons (qv 0) (qa_cons (qv 5) (qa_cons (qv 10) (qa_cons (qv 3) qa_nil))))) qa_nil)))) qa_nil)))))))
      (qss_cons (qs_setLc (i := 9) (own := [("k", 12)]) (E2 := E0) rfl sc__law_free.nd rfl rfl (sw_true rfl rfl rfl (by decide +kernel)) (qi_range1 (by rfl) T.b_range (qa_cons (q_cal C__law_draw hr (by decide) hgd (by rfl) (qa_cons (qv 0) (qa_cons (q_add (qv 1) qc_int) qa_nil))) qa_nil)) (blkOk_by (N := N__law_free) (sc := (defScope s__law_free)) (by decide +kernel)) (fun _ _ _ _ _ => by exact (qg_name (i := 12) sc__law_free.nd rfl (by first | exact Or.inl rfl | exact Or.inr rfl))) (fun _ _ _ _ _ => qts_nil) (fun _ _ _ _ _ => (q_cal C__law_counts hr (by decide) hgd (by rfl) (qa_cons (qv 0) (qa_cons (qv 4) (qa_cons (qv 6) qa_nil))))))
      (qss_one (qs_ret (q_tup (qa_cons (qv 4) (qa_cons (q_frz (qv 7)) (qa_cons (qv 9) qa_nil))))))))))))))
theorem w__law_free {f : Addr} {fd : FuncData} (F : Fun K "_law_free" "_law_free" s__law_free f fd) (m : mg "_law_free" = some (.ref f)) (T : Tx mg) (hsb : ∃ mm, base.Ns sysModules mm) (C__law_draw : Cal P w K mg base ⟨K, CA⟩ "_law_draw" 1 2 c__law_draw) (C__law_names : Cal P w K mg base ⟨K, CA⟩ "_law_names" 3 2 c__law_names) (C__law_counts : Cal P w K mg base ⟨K, CA⟩ "_law_counts" 2 3 c__law_counts) (C__law_steps : Cal P w K mg base ⟨K, CA⟩ "_law_steps" 2 4 c__law_steps) : Cal P w K mg base ⟨K, CA⟩ "_law_free" 4 2 c__law_free :=
  cal_of F sc__law_free m (F.binds fun _ _ _ _ _ _ us hl => match us, hl with | [_, _], _ => rfl) rfl rfl rfl (b__law_free T hsb C__law_draw C__law_names C__law_counts C__law_steps)
abbrev s_is_name : Stmt := top 20
abbrev N_is_name : List Str := ["text", "letter"]
theorem sc_is_name : FnScope N_is_name ["text"] (defScope s_is_name) := ⟨rfl, rfl, rfl, by decide +kernel, rfl, by decide +kernel, by decide +kernel⟩
theorem b_is_name (T : Tx mg) (hsb : ∃ mm, base.Ns sysModules mm)  {f : Addr} (cdv : Value) (A : Around) (outer : List Env) (s : Shared) (H : Hp) (E : XK) (hr : Room 0 (A.deeper (PyProof.Rows.envOfC "is_name" (defScope s_is_name) s.heap.objs.size f cdv))) (hgd : A.guards = some []) :
    PSs (cxOf CX0 P w K mg base N_is_name "is_name" (defScope s_is_name) f cdv A outer s H E).nox (defBody s_is_name) (tS ⟨K, CA⟩ E0 m_is_name) := by
  let G : Sig := ⟨K, CA⟩
  exact (qss_one (qs_ret (q_and (q_chain op_le s_le op_le s_le qc_int (q_callB (call_len_seq.or (call_len_str.or call_lenD)) (s_len rfl) (by rfl) T.b_len bt_len (qa_cons (qv 0) qa_nil)) (qg_intE (by rfl) T.g_MOST_LETTERS)) (q_one (q_callB (cr_all rfl) (s_all rfl) (by rfl) T.b_all bt_all (qa_cons (q_lc (own := [("letter", 1)]) (E2 := E0) rfl sc_is_name.nd (qi_any rfl (qv 0)) (blkOk_by (N := N_is_name) (sc := (defScope s_is_name)) (by decide +kernel)) (fun _ _ _ _ _ => by exact (qg_name (i := 1) sc_is_name.nd rfl (by first | exact Or.inl rfl | exact Or.inr rfl))) (fun _ _ _ _ _ => qts_nil) (fun _ _ _ _ _ => (q_cmp ((op_in_sign.or op_in_seq).or (op_inP (G := G) rfl hr)) (s_inD rfl) (qv 1) (qg_strE (by rfl) T.g_LETTERS) (by rfl)))) qa_nil))))))
theorem w_is_name {f : Addr} {fd : FuncData} (F : Fun K "is_name" "is_name" s_is_name f fd) (m : mg "is_name" = some (.ref f)) (T : Tx mg) (hsb : ∃ mm, base.Ns sysModules mm)  : Cal P w K mg base ⟨K, CA⟩ "is_name" 1 1 c_is_name :=
  cal_of F sc_is_name m (F.binds fun _ _ _ _ _ _ us hl => match us, hl with | [_], _ => rfl) rfl rfl rfl (b_is_name T hsb )
abbrev s_look_at_columns : Stmt := top 32
abbrev N_look_at_columns : List Str := ["columns", "index", "name"]
theorem sc_look_at_columns : FnScope N_look_at_columns ["columns"] (defScope s_look_at_columns) := ⟨rfl, rfl, rfl, by decide +kernel, rfl, by decide +kernel, by decide +kernel⟩
theorem b_look_at_columns (T : Tx mg) (hsb : ∃ mm, base.Ns sysModules mm) (C_is_name : Cal P w K mg base ⟨K, CA⟩ "is_name" 1 1 c_is_name) {f : Addr} (cdv : Value) (A : Around) (outer : List Env) (s : Shared) (H : Hp) (E : XK) (hr : Room 1 (A.deeper (PyProof.Rows.envOfC "look_at_columns" (defScope s_look_at_columns) s.heap.objs.size f cdv))) (hgd : A.guards = some []) :
    PSs (cxOf CX0 P w K mg base N_look_at_columns "look_at_columns" (defScope s_look_at_columns) f cdv A outer s H E).nox (defBody s_look_at_columns) (tS ⟨K, CA⟩ E0 m_look_at_columns) := by
  let G : Sig := ⟨K, CA⟩
  exact (qss_one (qs_for PassesOwn.never rfl (qi_enum rfl (by rfl) T.b_enumerate (qa_cons (qv 0) qa_nil)) (qg_tupG rfl rfl (qgs_cons (qg_name (i := 1) sc_look_at_columns.nd rfl (by first | exact Or.inl rfl | exact Or.inr rfl)) (qgs_cons (qg_name (i := 2) sc_look_at_columns.nd rfl (by first | exact Or.inl rfl | exact Or.inr rfl)) qgs_nil))) (qss_cons (qs_if (qt_not (qt_tru rfl (q_cal C_is_name hr (by decide) hgd (by rfl) (qa_cons (qv 2) qa_nil)))) (qss_one qs_never) qss_nil)
      (qss_one (qs_if (qt_cmp ((op_in_sign.or op_in_seq).or (op_inP (G := G) rfl hr)) (s_inD rfl) (qv 2) (q_sl rfl (qv 0) qo_none (qo_b (qv 1))) (by rfl)) (qss_one qs_never) qss_nil)))))
theorem w_look_at_columns {f : Addr} {fd : FuncData} (F : Fun K "look_at_columns" "look_at_columns" s_look_at_columns f fd) (m : mg "look_at_columns" = some (.ref f)) (T : Tx mg) (hsb : ∃ mm, base.Ns sysModules mm) (C_is_name : Cal P w K mg base ⟨K, CA⟩ "is_name" 1 1 c_is_name) : Cal P w K mg base ⟨K, CA⟩ "look_at_columns" 2 1 c_look_at_columns :=
  cal_of F sc_look_at_columns m (F.binds fun _ _ _ _ _ _ us hl => match us, hl with | [_], _ => rfl) rfl rfl rfl (b_look_at_columns T hsb C_is_name)
abbrev s_look_at_steps : Stmt := top 33
abbrev N_look_at_steps : List Str := ["steps", "size", "index", "step", "name", "start", "end", "earlier"]
theorem sc_look_at_steps : FnScope N_look_at_steps ["steps", "size"] (defScope s_look_at_steps) := ⟨rfl, rfl, rfl, by decide +kernel, rfl, by decide +kernel, by decide +kernel⟩
theorem b_look_at_steps (T : Tx mg) (hsb : ∃ mm, base.Ns sysModules mm) (C_is_name : Cal P w K mg base ⟨K, CA⟩ "is_name" 1 1 c_is_name) {f : Addr} (cdv : Value) (A : Around) (outer : List Env) (s : Shared) (H : Hp) (E : XK) (hr : Room 1 (A.deeper (PyProof.Rows.envOfC "look_at_steps" (defScope s_look_at_steps) s.heap.objs.size f cdv))) (hgd : A.guards = some []) :
    PSs (cxOf CX0 P w K mg base N_look_at_steps "look_at_steps" (defScope s_look_at_steps) f cdv A outer s H E).nox (defBody s_look_at_steps) (tS ⟨K, CA⟩ E0 m_look_at_steps) := by
  let G : Sig := ⟨K, CA⟩
  exact (qss_one (qs_for PassesOwn.never rfl (qi_enum rfl (by rfl) T.b_enumerate (qa_cons (qv 0) qa_nil)) (qg_tupG rfl rfl (qgs_cons (qg_name (i := 2) sc_look_at_steps.nd rfl (by first | exact Or.inl rfl | exact Or.inr rfl)) (qgs_cons (qg_name (i := 3) sc_look_at_steps.nd rfl (by first | exact Or.inl rfl | exact Or.inr rfl)) qgs_nil))) (qss_cons (qs_asg (qv 3) (qg_tupG rfl rfl (qgs_cons (qg_name (i := 4) sc_look_at_steps.nd rfl (by first | exact Or.inl rfl | exact Or.inr rfl)) (qgs_cons (qg_name (i := 5) sc_look_at_steps.nd rfl (by first | exact Or.inl rfl | exact Or.inr rfl)) (qgs_cons (qg_name (i := 6) sc_look_at_steps.nd rfl (by first | exact Or.inl rfl | exact Or.inr rfl)) qgs_nil)))))
      (qss_cons (qs_if (qt_not (qt_tru rfl (q_cal C_is_name hr (by decide) hgd (by rfl) (qa_cons (qv 4) qa_nil)))) (qss_one qs_never) qss_nil)
      (qss_cons (qs_if (qt_pw (qw_or (qt_not (qt_chain op_le s_le op_lt s_lt qc_int (qv 5) (qv 1))) (qw_or1 (qt_not (qt_chain op_le s_le op_lt s_lt qc_int (qv 6) (qv 1)))))) (qss_one qs_never) qss_nil)
      (qss_one (qs_if (qt_cmp ((op_in_sign.or op_in_seq).or (op_inP (G := G) rfl hr)) (s_inD rfl) (q_tup (qa_cons (qv 4) (qa_cons (qv 5) qa_nil))) (q_lc (own := [("earlier", 7)]) (E2 := E0) rfl sc_look_at_steps.nd (qi_any rfl (q_sl rfl (qv 0) qo_none (qo_b (qv 2)))) (blkOk_by (N := N_look_at_steps) (sc := (defScope s_look_at_steps)) (by decide +kernel)) (fun _ _ _ _ _ => by exact (qg_name (i := 7) sc_look_at_steps.nd rfl (by first | exact Or.inl rfl | exact Or.inr rfl))) (fun _ _ _ _ _ => qts_nil) (fun _ _ _ _ _ => (q_sl rfl (qv 7) qo_none (qo_b qc_int)))) (by rfl)) (qss_one qs_never) qss_nil)))))))
theorem w_look_at_steps {f : Addr} {fd : FuncData} (F : Fun K "look_at_steps" "look_at_steps" s_look_at_steps f fd) (m : mg "look_at_steps" = some (.ref f)) (T : Tx mg) (hsb : ∃ mm, base.Ns sysModules mm) (C_is_name : Cal P w K mg base ⟨K, CA⟩ "is_name" 1 1 c_is_name) : Cal P w K mg base ⟨K, CA⟩ "look_at_steps" 2 2 c_look_at_steps :=
  cal_of F sc_look_at_steps m (F.binds fun _ _ _ _ _ _ us hl => match us, hl with | [_, _], _ => rfl) rfl rfl rfl (b_look_at_steps T hsb C_is_name)
abbrev s_factors_of : Stmt := top 21
abbrev N_factors_of : List Str := ["columns", "total", "column"]
theorem sc_factors_of : FnScope N_factors_of ["columns", "total"] (defScope s_factors_of) := ⟨rfl, rfl, rfl, by decide +kernel, rfl, by decide +kernel, by decide +kernel⟩
theorem b_factors_of (T : Tx mg) (hsb : ∃ mm, base.Ns sysModules mm)  {f : Addr} (cdv : Value) (A : Around) (outer : List Env) (s : Shared) (H : Hp) (E : XK) (hr : Room 0 (A.deeper (PyProof.Rows.envOfC "factors_of" (defScope s_factors_of) s.heap.objs.size f cdv))) (hgd : A.guards = some []) :
    PSs (cxOf CX0 P w K mg base N_factors_of "factors_of" (defScope s_factors_of) f cdv A outer s H E).nox (defBody s_factors_of) (tS ⟨K, CA⟩ E0 m_factors_of) := by
  let G : Sig := ⟨K, CA⟩
  exact (qss_cons (qs_for PassesOwn.never rfl (qi_any rfl (q_callB (PV.CallR.or cr_sortedS (call_sortedD rfl)) (s_sorted rfl) (by rfl) T.b_sorted bt_sorted (qa_cons (qv 1) qa_nil))) (qg_name (i := 2) sc_factors_of.nd rfl (by first | exact Or.inl rfl | exact Or.inr rfl)) (qss_one (qs_if (qt_cmp ((op_notIn_sign.or op_notIn_seq).or (op_notInP (G := G) rfl hr)) (s_notInD rfl) (qv 2) (qv 0) (by rfl)) (qss_one qs_never) qss_nil)))
      (qss_one (qs_ret (q_lc (own := [("column", 2)]) (E2 := E0) rfl sc_factors_of.nd (qi_any rfl (qv 0)) (blkOk_by (N := N_factors_of) (sc := (defScope s_factors_of)) (by decide +kernel)) (fun _ _ _ _ _ => by exact (qg_name (i := 2) sc_factors_of.nd rfl (by first | exact Or.inl rfl | exact Or.inr rfl))) (fun _ _ _ _ _ => qts_nil) (fun _ _ _ _ _ => (q_bm rfl PySem.F.plainAttrs_dict PySem.F.slot_dict_get PySem.F.type_dict_get (mt_getD hr) tyDic s_getD (qv 1) (qa_cons (qv 2) (qa_cons qc_int qa_nil))))))))
theorem w_factors_of {f : Addr} {fd : FuncData} (F : Fun K "factors_of" "factors_of" s_factors_of f fd) (m : mg "factors_of" = some (.ref f)) (T : Tx mg) (hsb : ∃ mm, base.Ns sysModules mm)  : Cal P w K mg base ⟨K, CA⟩ "factors_of" 1 2 c_factors_of :=
  cal_of F sc_factors_of m (F.binds fun _ _ _ _ _ _ us hl => match us, hl with | [_, _], _ => rfl) rfl rfl rfl (b_factors_of T hsb )
abbrev s_kind_rows_of : Stmt := top 34
abbrev N_kind_rows_of : List Str := ["columns", "kinds", "rows", "name", "states", "steps", "counts", "state", "row", "count"]
theorem sc_kind_rows_of : FnScope N_kind_rows_of ["columns", "kinds"] (defScope s_kind_rows_of) := ⟨rfl, rfl, rfl, by decide +kernel, rfl, by decide +kernel, by decide +kernel⟩
theorem b_kind_rows_of (T : Tx mg) (hsb : ∃ mm, base.Ns sysModules mm) (C_is_name : Cal P w K mg base ⟨K, CA⟩ "is_name" 1 1 c_is_name) (C_factors_of : Cal P w K mg base ⟨K, CA⟩ "factors_of" 1 2 c_factors_of) (C_look_at_steps : Cal P w K mg base ⟨K, CA⟩ "look_at_steps" 2 2 c_look_at_steps) {f : Addr} (cdv : Value) (A : Around) (outer : List Env) (s : Shared) (H : Hp) (E : XK) (hr : Room 2 (A.deeper (PyProof.Rows.envOfC "kind_rows_of" (defScope s_kind_rows_of) s.heap.objs.size f cdv))) (hgd : A.guards = some []) :
    PSs (cxOf CX0 P w K mg base N_kind_rows_of "kind_rows_of" (defScope s_kind_rows_of) f cdv A outer s H E).nox (defBody s_kind_rows_of) (tS ⟨K, CA⟩ E0 m_kind_rows_of) := by
  let G : Sig := ⟨K, CA⟩
  exact (qss_cons (qs_set (i := 2) sc_kind_rows_of.nd rfl (by first | exact Or.inl rfl | exact Or.inr rfl) (q_lstC qa_nil))
      (qss_cons (qs_for PassesOwn.never rfl (qi_any rfl (qv 1)) (qg_tupG rfl rfl (qgs_cons (qg_name (i := 3) sc_kind_rows_of.nd rfl (by first | exact Or.inl rfl | exact Or.inr rfl)) (qgs_cons (qg_name (i := 4) sc_kind_rows_of.nd rfl (by first | exact Or.inl rfl | exact Or.inr rfl)) (qgs_cons (qg_name (i := 5) sc_kind_rows_of.nd rfl (by first | exact Or.inl rfl | exact Or.inr rfl)) qgs_nil)))) (qss_cons (qs_if (qt_not (qt_tru rfl (q_cal C_is_name hr (by decide) hgd (by rfl) (qa_cons (qv 3) qa_nil)))) (qss_one qs_never) qss_nil)
      (qss_cons (qs_if (qt_cmp ((op_in_sign.or op_in_seq).or (op_inP (G := G) rfl hr)) (s_inD rfl) (qv 3) (q_lc (own := [("row", 8)]) (E2 := E0) rfl sc_kind_rows_of.nd (qi_any rfl (qv 2)) (blkOk_by (N := N_kind_rows_of) (sc := (defScope s_kind_rows_of)) (by decide +kernel)) (fun _ _ _ _ _ => by exact (qg_name (i := 8) sc_kind_rows_of.nd rfl (by first | exact Or.inl rfl | exact Or.inr rfl))) (fun _ _ _ _ _ => qts_nil) (fun _ _ _ _ _ => (q_ix ix_seq (s_ix rfl) (qv 8) qc_int))) (by rfl)) (qss_one qs_never) qss_nil)
      (qss_cons (qs_if (qt_cmp (PV.OpR.or (op_eq.or (op_eqA (G := G) rfl hr)) (op_eqLen hr)) (s_eqX rfl s_eq) (qv 4) (q_lst qa_nil) (nomark _)) (qss_one qs_never) qss_nil)
      (qss_cons (qs_setLc (i := 6) (own := [("state", 7)]) (E2 := E0) rfl sc_kind_rows_of.nd rfl rfl (sw_true rfl rfl rfl (by decide +kernel)) (qi_any rfl (qv 4)) (blkOk_by (N := N_kind_rows_of) (sc := (defScope s_kind_rows_of)) (by decide +kernel)) (fun _ _ _ _ _ => by exact (qg_name (i := 7) sc_kind_rows_of.nd rfl (by first | exact Or.inl rfl | exact Or.inr rfl))) (fun _ _ _ _ _ => qts_nil) (fun _ _ _ _ _ => (q_cal C_factors_of hr (by decide) hgd (by rfl) (qa_cons (qv 0) (qa_cons (qv 7) qa_nil)))))
      (qss_cons (qs_if (qt_tru rfl (q_callB (cr_any rfl) (s_any rfl) (by rfl) T.b_any bt_any (qa_cons (q_lc (own := [("count", 9)]) (E2 := E0) rfl sc_kind_rows_of.nd (qi_any rfl (q_ix ix_seq (s_ix rfl) (qv 6) qc_int)) (blkOk_by (N := N_kind_rows_of) (sc := (defScope s_kind_rows_of)) (by decide +kernel)) (fun _ _ _ _ _ => by exact (qg_name (i := 9) sc_kind_rows_of.nd rfl (by first | exact Or.inl rfl | exact Or.inr rfl))) (fun _ _ _ _ _ => qts_nil) (fun _ _ _ _ _ => (q_cmp (PV.OpR.or (op_ne.or (op_neA (G := G) rfl hr)) (op_neLen hr)) (s_neX rfl s_ne) (qv 9) qc_int (nomark _)))) qa_nil))) (qss_one qs_never) qss_nil)
      (qss_cons (qs_expr (q_cal C_look_at_steps hr (by decide) hgd (by rfl) (qa_cons (qv 5) (qa_cons (q_callB (call_len_seq.or (call_len_str.or call_lenD)) (s_len rfl) (by rfl) T.b_len bt_len (qa_cons (qv 4) qa_nil)) qa_nil))))
      (qss_one (qs_expr (q_bm rfl PySem.F.plainAttrs_list PySem.F.slot_list_append PySem.F.type_list_append mt_append tyLst s_append (qv 2) (qa_cons (q_tup (qa_cons (qv 3) (qa_cons (qv 6) (qa_cons (q_callTy call_list_of (s_listF rfl) (by rfl) T.b_list bt_list (qa_cons (qv 5) qa_nil)) qa_nil)))) qa_nil)))))))))))
      (qss_one (qs_ret (q_frz (qv 2))))))
theorem w_kind_rows_of {f : Addr} {fd : FuncData} (F : Fun K "kind_rows_of" "kind_rows_of" s_kind_rows_of f fd) (m : mg "kind_rows_of" = some (.ref f)) (T : Tx mg) (hsb : ∃ mm, base.Ns sysModules mm) (C_is_name : Cal P w K mg base ⟨K, CA⟩ "is_name" 1 1 c_is_name) (C_factors_of : Cal P w K mg base ⟨K, CA⟩ "factors_of" 1 2 c_factors_of) (C_look_at_steps : Cal P w K mg base ⟨K, CA⟩ "look_at_steps" 2 2 c_look_at_steps) : Cal P w K mg base ⟨K, CA⟩ "kind_rows_of" 3 2 c_kind_rows_of :=
  cal_of F sc_kind_rows_of m (F.binds fun _ _ _ _ _ _ us hl => match us, hl with | [_, _], _ => rfl) rfl rfl rfl (b_kind_rows_of T hsb C_is_name C_factors_of C_look_at_steps)
abbrev s_Plan___init__ : Stmt := inClass (top 35) 0
abbrev N_Plan___init__ : List Str := ["self", "columns", "kinds", "checks", "check"]
theorem sc_Plan___init__ : FnScope N_Plan___init__ ["self", "columns", "kinds", "checks"] (defScope s_Plan___init__) := ⟨rfl, rfl, rfl, by decide +kernel, rfl, by decide +kernel, by decide +kernel⟩
theorem b_Plan___init__ (T : Tx mg) (hsb : ∃ mm, base.Ns sysModules mm) (C_look_at_columns : Cal P w K mg base ⟨K, CA⟩ "look_at_columns" 2 1 c_look_at_columns) (F_Plan : ClsF K (CA 0) ["column_names", "kind_rows", "check_rows"]) (C_kind_rows_of : Cal P w K mg base ⟨K, CA⟩ "kind_rows_of" 3 2 c_kind_rows_of) (C_factors_of : Cal P w K mg base ⟨K, CA⟩ "factors_of" 1 2 c_factors_of) {f : Addr} (cdv : Value) (A : Around) (outer : List Env) (s : Shared) (H : Hp) (E : XK) (hr : Room 3 (A.deeper (PyProof.Rows.envOfC "Plan.__init__" (defScope s_Plan___init__) s.heap.objs.size f cdv))) (hgd : A.guards = some []) :
    PSs (cxOf CX0 P w K mg base N_Plan___init__ "Plan.__init__" (defScope s_Plan___init__) f cdv A outer s H E).nox (defBody s_Plan___init__) (tS ⟨K, CA⟩ E0 m_Plan___init__) := by
  let G : Sig := ⟨K, CA⟩
  exact (qss_cons (qs_expr (q_cal C_look_at_columns hr (by decide) hgd (by rfl) (qa_cons (qv 1) qa_nil)))
      (qss_cons (qs_fld rfl F_Plan (by decide) (q_callTy call_list_of (s_listF rfl) (by rfl) T.b_list bt_list (qa_cons (qv 1) qa_nil)) (qv 0))
      (qss_cons (qs_fld rfl F_Plan (by decide) (q_cal C_kind_rows_of hr (by decide) hgd (by rfl) (qa_cons (qv 1) (qa_cons (qv 2) qa_nil))) (qv 0))
      (qss_one (qs_fld rfl F_Plan (by decide) (q_lc (own := [("check", 4)]) (E2 := E0) rfl sc_Plan___init__.nd (qi_any rfl (qv 3)) (blkOk_by (N := N_Plan___init__) (sc := (defScope s_Plan___init__)) (by decide +kernel)) (fun _ _ _ _ _ => by exact (qg_name (i := 4) sc_Plan___init__.nd rfl (by first | exact Or.inl rfl | exact Or.inr rfl))) (fun _ _ _ _ _ => qts_nil) (fun _ _ _ _ _ => (q_cal C_factors_of hr (by decide) hgd (by rfl) (qa_cons (qv 1) (qa_cons (qv 4) qa_nil))))) (qv 0))))))
theorem w_Plan___init__ {f p : Addr} {fd : FuncData} (F : Fun K "__init__" "Plan.__init__" s_Plan___init__ f fd) (m : mg "Plan" = some (.ref (CA 0))) (M : Mk K (CA 0) f) (T : Tx mg) (hsb : ∃ mm, base.Ns sysModules mm) (C_look_at_columns : Cal P w K mg base ⟨K, CA⟩ "look_at_columns" 2 1 c_look_at_columns) (F_Plan : ClsF K (CA 0) ["column_names", "kind_rows", "check_rows"]) (C_kind_rows_of : Cal P w K mg base ⟨K, CA⟩ "kind_rows_of" 3 2 c_kind_rows_of) (C_factors_of : Cal P w K mg base ⟨K, CA⟩ "factors_of" 1 2 c_factors_of) : MkB P w K mg base ⟨K, CA⟩ "Plan" 0 4 3 c_Plan___init__ :=
  mk_of m M (F.binds fun _ _ _ _ _ _ us hl => match us, hl with | [_, _, _, _], _ => rfl) (fnG_by F sc_Plan___init__ rfl rfl rfl (b_Plan___init__ T hsb C_look_at_columns F_Plan C_kind_rows_of C_factors_of))
abbrev s__law_plan : Stmt := top 45
abbrev N__law_plan : List Str := ["data", "columns", "kinds", "checks", "made", "check", "name", "spots", "steps", "counts"]
theorem sc__law_plan : FnScope N__law_plan ["data"] (defScope s__law_plan) := ⟨rfl, rfl, rfl, by decide +kernel, rfl, by decide +kernel, by decide +kernel⟩
theorem b__law_plan (T : Tx mg) (hsb : ∃ mm, base.Ns sysModules mm) (K_Plan : MkB P w K mg base ⟨K, CA⟩ "Plan" 0 4 3 c_Plan___init__) {f : Addr} (cdv : Value) (A : Around) (outer : List Env) (s : Shared) (H : Hp) (E : XK) (hr : Room 5 (A.deeper (PyProof.Rows.envOfC "_law_plan" (defScope s__law_plan) s.heap.objs.size f cdv))) (hgd : A.guards = some []) :
    PSs (cxOf CX0 P w K mg base N__law_plan "_law_plan" (defScope s__law_plan) f cdv A outer s H E).nox (defBody s__law_plan) (tS ⟨K, CA⟩ E0 m__law_plan) := by
  let G : Sig := ⟨K, CA⟩
  exact (qss_cons (qs_set (i := 1) sc__law_plan.nd rfl (by first | exact Or.inl rfl | exact Or.inr rfl) (q_callTy call_list_of (s_listC rfl) (by rfl) T.b_list bt_list (qa_cons (q_ix ix_seq (s_ix rfl) (qv 0) qc_int) qa_nil)))
      (qss_cons (qs_setLcC (i := 2) (own := [("name", 6), ("spots", 7), ("steps", 8)]) (E2 := E0) rfl sc__law_plan.nd rfl rfl (sw_true rfl rfl rfl (by decide +kernel)) (qi_any rfl (q_ix ix_seq (s_ix rfl) (qv 0) qc_int)) (blkOk_by (N := N__law_plan) (sc := (defScope s__law_plan)) (by decide +kernel)) (fun _ _ _ _ _ => by exact (qg_tupG rfl rfl (qgs_cons (qg_name (i := 6) sc__law_plan.nd rfl (by first | exact Or.inl rfl | exact Or.inr rfl)) (qgs_cons (qg_name (i := 7) sc__law_plan.nd rfl (by first | exact Or.inl rfl | exact Or.inr rfl)) (qgs_cons (qg_name (i := 8) sc__law_plan.nd rfl (by first | exact Or.inl rfl | exact Or.inr rfl)) qgs_nil))))) (fun _ _ _ _ _ => qts_nil) (fun _ _ _ _ _ => (q_tup (qa_cons (qv 6) (qa_cons (q_lcC (own := [("counts", 9)]) (E2 := E0) rfl sc__law_plan.nd (qi_any rfl (qv 7)) (blkOk_by (N := N__law_plan) (sc := (relS (eSc (sEx 0 (sAt 1 (defBody s__law_plan)))) (defScope s__law_plan))) (by decide +kernel)) (fun _ _ _ _ _ => by exact (qg_name (i := 9) sc__law_plan.nd rfl (by first | exact Or.inl rfl | exact Or.inr rfl))) (fun _ _ _ _ _ => qts_nil) (fun _ _ _ _ _ => (q_callTy call_dictD s_dictC (by rfl) T.b_dict bt_dict (qa_cons (qv 9) qa_nil)))) (qa_cons (q_callTy call_list_of (s_listC rfl) (by rfl) T.b_list bt_list (qa_cons (qv 8) qa_nil)) qa_nil))))))
      (qss_cons (qs_setLcC (i := 3) (own := [("check", 5)]) (E2 := E0) rfl sc__law_plan.nd rfl rfl (sw_true rfl rfl rfl (by decide +kernel)) (qi_any rfl (q_ix ix_seq (s_ix rfl) (qv 0) qc_int)) (blkOk_by (N := N__law_plan) (sc := (defScope s__law_plan)) (by decide +kernel)) (fun _ _ _ _ _ => by exact (qg_name (i := 5) sc__law_plan.nd rfl (by first | exact Or.inl rfl | exact Or.inr rfl))) (fun _ _ _ _ _ => qts_nil) (fun _ _ _ _ _ => (q_callTy call_dictD s_dictC (by rfl) T.b_dict bt_dict (qa_cons (qv 5) qa_nil))))
      (qss_cons (qs_set (i := 4) sc__law_plan.nd rfl (by first | exact Or.inl rfl | exact Or.inr rfl) (q_make K_Plan hr (by decide) hgd (by rfl) (qa_cons (qv 1) (qa_cons (qv 2) (qa_cons (qv 3) qa_nil)))))
      (qss_cons (qs_expr (q_bm rfl PySem.F.plainAttrs_list PySem.F.slot_list_append PySem.F.type_list_append mt_append tyLst s_append (qv 1) (qa_cons qc_str qa_nil)))
      (qss_cons (qs_for PassesOwn.never rfl (qi_any rfl (qv 2)) (qg_tupG rfl rfl (qgs_cons (qg_name (i := 6) sc__law_plan.nd rfl (by first | exact Or.inl rfl | exact Or.inr rfl)) (qgs_cons (qg_name (i := 7) sc__law_plan.nd rfl (by first | exact Or.inl rfl | exact Or.inr rfl)) (qgs_cons (qg_name (i := 8) sc__law_plan.nd rfl (by first | exact Or.inl rfl | exact Or.inr rfl)) qgs_nil)))) (qss_cons (qs_for PassesOwn.never rfl (qi_any rfl (qv 7)) (qg_name (i := 9) sc__law_plan.nd rfl (by first | exact Or.inl rfl | exact Or.inr rfl)) (qss_one (qs_expr (q_clear (q_bm0 rfl PySem.F.plainAttrs_list PySem.F.slot_list_clear PySem.F.type_list_clear mt_clear tyLst s_clear (qv 9)) (q_bm0 rfl PySem.F.plainAttrs_dict PySem.F.slot_dict_clear PySem.F.type_dict_clear mtd_clear tyDic s_dclear (qv 9))))))
      (qss_cons (qs_expr (q_bm rfl PySem.F.plainAttrs_list PySem.F.slot_list_append PySem.F.type_list_append mt_append tyLst s_append (qv 7) (qa_cons q_dnew qa_nil)))
      (qss_one (qs_expr (q_bm rfl PySem.F.plainAttrs_list PySem.F.slot_list_append PySem.F.type_list_append mt_append tyLst s_append (qv 8) (qa_cons (q_tup (qa_cons qc_str (qa_cons qc_int (qa_cons qc_int qa_nil)))) qa_nil)))))))
      (qss_cons (qs_expr (q_bm0 rfl PySem.F.plainAttrs_list PySem.F.slot_list_reverse PySem.F.type_list_reverse mt_reverse tyLst s_reverse (qv 2)))
      (qss_cons (qs_for PassesOwn.never rfl (qi_any rfl (qv 3)) (qg_name (i := 5) sc__law_plan.nd rfl (by first | exact Or.inl rfl | exact Or.inr rfl)) (qss_one (qs_expr (q_clear (q_bm0 rfl PySem.F.plainAttrs_list PySem.F.slot_list_clear PySem.F.type_list_clear mt_clear tyLst s_clear (qv 5)) (q_bm0 rfl PySem.F.plainAttrs_dict PySem.F.slot_dict_clear PySem.F.type_dict_clear mtd_clear tyDic s_dclear (qv 5))))))
      (qss_cons (qs_expr (q_bm rfl PySem.F.plainAttrs_list PySem.F.slot_list_append PySem.F.type_list_append mt_append tyLst s_append (qv 3) (qa_cons q_dnew qa_nil)))
      (qss_one (qs_ret (qv 4))))))))))))
theorem w__law_plan {f : Addr} {fd : FuncData} (F : Fun K "_law_plan" "_law_plan" s__law_plan f fd) (m : mg "_law_plan" = some (.ref f)) (T : Tx mg) (hsb : ∃ mm, base.Ns sysModules mm) (K_Plan : MkB P w K mg base ⟨K, CA⟩ "Plan" 0 4 3 c_Plan___init__) : Cal P w K mg base ⟨K, CA⟩ "_law_plan" 6 1 c__law_plan :=
  cal_of F sc__law_plan m (F.binds fun _ _ _ _ _ _ us hl => match us, hl with | [_], _ => rfl) rfl rfl rfl (b__law_plan T hsb K_Plan)
abbrev s__law_reached : Stmt := top 46
abbrev N__law_reached : List Str := ["spots", "steps", "reached", "k", "name", "start", "end"]
theorem sc__law_reached : FnScope N__law_reached ["spots", "steps"] (defScope s__law_reached) := ⟨rfl, rfl, rfl, by decide +kernel, rfl, by decide +kernel, by decide +kernel⟩
theorem b__law_reached (T : Tx mg) (hsb : ∃ mm, base.Ns sysModules mm)  {f : Addr} (cdv : Value) (A : Around) (outer : List Env) (s : Shared) (H : Hp) (E : XK) (hr : Room 0 (A.deeper (PyProof.Rows.envOfC "_law_reached" (defScope s__law_reached) s.heap.objs.size f cdv))) (hgd : A.guards = some []) :
    PSs (cxOf CX0 P w K mg base N__law_reached "_law_reached" (defScope s__law_reached) f cdv A outer s H E).nox (defBody s__law_reached) (tS ⟨K, CA⟩ E0 m__law_reached) := by
  let G : Sig := ⟨K, CA⟩
  exact (qss_cons (qs_set (i := 2) sc__law_reached.nd rfl (by first | exact Or.inl rfl | exact Or.inr rfl) (q_lstC (qa_cons qc_int qa_nil)))
      (qss_cons (qs_for PassesOwn.never rfl (qi_range1 (by rfl) T.b_range (qa_cons (q_callB (call_len_seq.or (call_len_str.or call_lenD)) (s_len rfl) (by rfl) T.b_len bt_len (qa_cons (qv 0) qa_nil)) qa_nil)) (qg_name (i := 3) sc__law_reached.nd rfl (by first | exact Or.inl rfl | exact Or.inr rfl)) (qss_one (qs_for PassesOwn.never rfl (qi_any rfl (qv 1)) (qg_tupG rfl rfl (qgs_cons (qg_name (i := 4) sc__law_reached.nd rfl (by first | exact Or.inl rfl | exact Or.inr rfl)) (qgs_cons (qg_name (i := 5) sc__law_reached.nd rfl (by first | exact Or.inl rfl | exact Or.inr rfl)) (qgs_cons (qg_name (i := 6) sc__law_reached.nd rfl (by first | exact Or.inl rfl | exact Or.inr rfl)) qgs_nil)))) (qss_one (qs_if (qt_pw (qw_and (qt_cmp ((op_in_sign.or op_in_seq).or (op_inP (G := G) rfl hr)) (s_inD rfl) (qv 5) (qv 2) (by rfl)) (qw_and1 (qt_cmp ((op_notIn_sign.or op_notIn_seq).or (op_notInP (G := G) rfl hr)) (s_notInD rfl) (qv 6) (qv 2) (by rfl))))) (qss_one (qs_expr (q_bm rfl PySem.F.plainAttrs_list PySem.F.slot_list_append PySem.F.type_list_append mt_append tyLst s_append (qv 2) (qa_cons (qv 6) qa_nil)))) qss_nil)))))
      (qss_one (qs_ret (q_callB (PV.CallR.or (PV.CallR.or cr_sortedS (call_sortedD rfl)) cr_sortedI) (s_sortedI rfl) (by rfl) T.b_sorted bt_sorted (qa_cons (qv 2) qa_nil))))))
theorem w__law_reached {f : Addr} {fd : FuncData} (F : Fun K "_law_reached" "_law_reached" s__law_reached f fd) (m : mg "_law_reached" = some (.ref f)) (T : Tx mg) (hsb : ∃ mm, base.Ns sysModules mm)  : Cal P w K mg base ⟨K, CA⟩ "_law_reached" 1 2 c__law_reached :=
  cal_of F sc__law_reached m (F.binds fun _ _ _ _ _ _ us hl => match us, hl with | [_, _], _ => rfl) rfl rfl rfl (b__law_reached T hsb )
abbrev s_Plan_kinds : Stmt := inClass (top 35) 2
abbrev N_Plan_kinds : List Str := ["self", "name", "states", "steps", "counts"]
theorem sc_Plan_kinds : FnScope N_Plan_kinds ["self"] (defScope s_Plan_kinds) := ⟨rfl, rfl, rfl, by decide +kernel, rfl, by decide +kernel, by decide +kernel⟩
theorem b_Plan_kinds (T : Tx mg) (hsb : ∃ mm, base.Ns sysModules mm) (F_Plan : ClsF K (CA 0) ["column_names", "kind_rows", "check_rows"]) {f : Addr} (cdv : Value) (A : Around) (outer : List Env) (s : Shared) (H : Hp) (E : XK) (hr : Room 0 (A.deeper (PyProof.Rows.envOfC "Plan.kinds" (defScope s_Plan_kinds) s.heap.objs.size f cdv))) (hgd : A.guards = some []) :
    PSs (cxOf CX0 P w K mg base N_Plan_kinds "Plan.kinds" (defScope s_Plan_kinds) f cdv A outer s H E).nox (defBody s_Plan_kinds) (tS ⟨K, CA⟩ E0 m_Plan_kinds) := by
  let G : Sig := ⟨K, CA⟩
  exact (qss_one (qs_ret (q_lc (own := [("name", 1), ("states", 2), ("steps", 3)]) (E2 := E0) rfl sc_Plan_kinds.nd (qi_any rfl (q_fld rfl F_Plan (by decide) (qv 0))) (blkOk_by (N := N_Plan_kinds) (sc := (defScope s_Plan_kinds)) (by decide +kernel)) (fun _ _ _ _ _ => by exact (qg_tupG rfl rfl (qgs_cons (qg_name (i := 1) sc_Plan_kinds.nd rfl (by first | exact Or.inl rfl | exact Or.inr rfl)) (qgs_cons (qg_name (i := 2) sc_Plan_kinds.nd rfl (by first | exact Or.inl rfl | exact Or.inr rfl)) (qgs_cons (qg_name (i := 3) sc_Plan_kinds.nd rfl (by first | exact Or.inl rfl | exact Or.inr rfl)) qgs_nil))))) (fun _ _ _ _ _ => qts_nil) (fun _ _ _ _ _ => (q_tup (qa_cons (qv 1) (qa_cons (q_lc (own := [("counts", 4)]) (E2 := E0) rfl sc_Plan_kinds.nd (qi_any rfl (qv 2)) (blkOk_by (N := N_Plan_kinds) (sc := (relS (eSc (sEx 0 (sAt 0 (defBody s_Plan_kinds)))) (defScope s_Plan_kinds))) (by decide +kernel)) (fun _ _ _ _ _ => by exact (qg_name (i := 4) sc_Plan_kinds.nd rfl (by first | exact Or.inl rfl | exact Or.inr rfl))) (fun _ _ _ _ _ => qts_nil) (fun _ _ _ _ _ => (q_callTy call_list_of (s_listF rfl) (by rfl) T.b_list bt_list (qa_cons (qv 4) qa_nil)))) (qa_cons (q_callTy call_list_of (s_listF rfl) (by rfl) T.b_list bt_list (qa_cons (qv 3) qa_nil)) qa_nil))))))))
theorem w_Plan_kinds {f p : Addr} {fd : FuncData} (F : Fun K "kinds" "Plan.kinds" s_Plan_kinds f fd) (C : Cls K (CA 0)) (hp : PropOf K (CA 0) "kinds" p f) (T : Tx mg) (hsb : ∃ mm, base.Ns sysModules mm) (F_Plan : ClsF K (CA 0) ["column_names", "kind_rows", "check_rows"]) : PrB P w K mg base ⟨K, CA⟩ 0 "kinds" 1 c_Plan_kinds :=
  pr_of C hp (F.binds fun _ _ _ _ _ _ us hl => match us, hl with | [_], _ => rfl) (fnG_by F sc_Plan_kinds rfl rfl rfl (b_Plan_kinds T hsb F_Plan))
abbrev s_Plan_checks : Stmt := inClass (top 35) 3
abbrev N_Plan_checks : List Str := ["self", "factors"]
theorem sc_Plan_checks : FnScope N_Plan_checks ["self"] (defScope s_Plan_checks) := ⟨rfl, rfl, rfl, by decide +kernel, rfl, by decide +kernel, by decide +kernel⟩
theorem b_Plan_checks (T : Tx mg) (hsb : ∃ mm, base.Ns sysModules mm) (F_Plan : ClsF K (CA 0) ["column_names", "kind_rows", "check_rows"]) {f : Addr} (cdv : Value) (A : Around) (outer : List Env) (s : Shared) (H : Hp) (E : XK) (hr : Room 0 (A.deeper (PyProof.Rows.envOfC "Plan.checks" (defScope s_Plan_checks) s.heap.objs.size f cdv))) (hgd : A.guards = some []) :
    PSs (cxOf CX0 P w K mg base N_Plan_checks "Plan.checks" (defScope s_Plan_checks) f cdv A outer s H E).nox (defBody s_Plan_checks) (tS ⟨K, CA⟩ E0 m_Plan_checks) := by
  let G : Sig := ⟨K, CA⟩
  exact (qss_one (qs_ret (q_lc (own := [("factors", 1)]) (E2 := E0) rfl sc_Plan_checks.nd (qi_any rfl (q_fld rfl F_Plan (by decide) (qv 0))) (blkOk_by (N := N_Plan_checks) (sc := (defScope s_Plan_checks)) (by decide +kernel)) (fun _ _ _ _ _ => by exact (qg_name (i := 1) sc_Plan_checks.nd rfl (by first | exact Or.inl rfl | exact Or.inr rfl))) (fun _ _ _ _ _ => qts_nil) (fun _ _ _ _ _ => (q_callTy call_list_of (s_listF rfl) (by rfl) T.b_list bt_list (qa_cons (qv 1) qa_nil))))))
theorem w_Plan_checks {f p : Addr} {fd : FuncData} (F : Fun K "checks" "Plan.checks" s_Plan_checks f fd) (C : Cls K (CA 0)) (hp : PropOf K (CA 0) "checks" p f) (T : Tx mg) (hsb : ∃ mm, base.Ns sysModules mm) (F_Plan : ClsF K (CA 0) ["column_names", "kind_rows", "check_rows"]) : PrB P w K mg base ⟨K, CA⟩ 0 "checks" 1 c_Plan_checks :=
  pr_of C hp (F.binds fun _ _ _ _ _ _ us hl => match us, hl with | [_], _ => rfl) (fnG_by F sc_Plan_checks rfl rfl rfl (b_Plan_checks T hsb F_Plan))
abbrev s_is_barred : Stmt := top 24
abbrev N_is_barred : List Str := ["before", "after", "risen", "high", "low", "can"]
theorem sc_is_barred : FnScope N_is_barred ["before", "after", "risen"] (defScope s_is_barred) := ⟨rfl, rfl, rfl, by decide +kernel, rfl, by decide +kernel, by decide +kernel⟩
theorem b_is_barred (T : Tx mg) (hsb : ∃ mm, base.Ns sysModules mm)  {f : Addr} (cdv : Value) (A : Around) (outer : List Env) (s : Shared) (H : Hp) (E : XK) (hr : Room 0 (A.deeper (PyProof.Rows.envOfC "is_barred" (defScope s_is_barred) s.heap.objs.size f cdv))) (hgd : A.guards = some []) :
    PSs (cxOf CX0 P w K mg base N_is_barred "is_barred" (defScope s_is_barred) f cdv A outer s H E).nox (defBody s_is_barred) (tS ⟨K, CA⟩ E0 m_is_barred) := by
  let G : Sig := ⟨K, CA⟩
  exact (qss_one (qs_ret (q_callB (cr_any rfl) (s_any rfl) (by rfl) T.b_any bt_any (qa_cons (q_lc (own := [("high", 3), ("low", 4), ("can", 5)]) (E2 := E0) rfl sc_is_barred.nd (qi_zip3 rfl (by rfl) T.b_zip (qa_cons (qv 0) (qa_cons (qv 1) (qa_cons (qv 2) qa_nil)))) (blkOk_by (N := N_is_barred) (sc := (defScope s_is_barred)) (by decide +kernel)) (fun _ _ _ _ _ => by exact (qg_tupG rfl rfl (qgs_cons (qg_name (i := 3) sc_is_barred.nd rfl (by first | exact Or.inl rfl | exact Or.inr rfl)) (qgs_cons (qg_name (i := 4) sc_is_barred.nd rfl (by first | exact Or.inl rfl | exact Or.inr rfl)) (qgs_cons (qg_name (i := 5) sc_is_barred.nd rfl (by first | exact Or.inl rfl | exact Or.inr rfl)) qgs_nil))))) (fun _ _ _ _ _ => qts_nil) (fun _ _ _ _ _ => (q_and (q_cmp op_lt s_lt (qv 4) (qv 3) (nomark _)) (q_one (q_not (qv 5)))))) qa_nil))))
theorem w_is_barred {f : Addr} {fd : FuncData} (F : Fun K "is_barred" "is_barred" s_is_barred f fd) (m : mg "is_barred" = some (.ref f)) (T : Tx mg) (hsb : ∃ mm, base.Ns sysModules mm)  : Cal P w K mg base ⟨K, CA⟩ "is_barred" 1 3 c_is_barred :=
  cal_of F sc_is_barred m (F.binds fun _ _ _ _ _ _ us hl => match us, hl with | [_, _, _], _ => rfl) rfl rfl rfl (b_is_barred T hsb )
abbrev s_ways_of : Stmt := top 25
abbrev N_ways_of : List Str := ["steps", "gains", "risen", "ways", "queue", "index", "state", "name", "start", "end"]
theorem sc_ways_of : FnScope N_ways_of ["steps", "gains", "risen"] (defScope s_ways_of) := ⟨rfl, rfl, rfl, by decide +kernel, rfl, by decide +kernel, by decide +kernel⟩
theorem b_ways_of (T : Tx mg) (hsb : ∃ mm, base.Ns sysModules mm) (C_is_barred : Cal P w K mg base ⟨K, CA⟩ "is_barred" 1 3 c_is_barred) {f : Addr} (cdv : Value) (A : Around) (outer : List Env) (s : Shared) (H : Hp) (E : XK) (hr : Room 1 (A.deeper (PyProof.Rows.envOfC "ways_of" (defScope s_ways_of) s.heap.objs.size f cdv))) (hgd : A.guards = some []) :
    PSs (cxOf CX0 P w K mg base N_ways_of "ways_of" (defScope s_ways_of) f cdv A outer s H E).nox (defBody s_ways_of) (tS ⟨K, CA⟩ E0 m_ways_of) := by
  let G : Sig := ⟨K, CA⟩
  exact (qss_cons (qs_set (i := 3) sc_ways_of.nd rfl (by first | exact Or.inl rfl | exact Or.inr rfl) (q_dispC (qp_cons qc_int (q_lst qa_nil) qp_nil) (by rfl) (by rfl) (fun z => by cases z) (by decide)))
      (qss_cons (qs_set (i := 4) sc_ways_of.nd rfl (by first | exact Or.inl rfl | exact Or.inr rfl) (q_lstC (qa_cons qc_int qa_nil)))
      (qss_cons (qs_set (i := 5) sc_ways_of.nd rfl (by first | exact Or.inl rfl | exact Or.inr rfl) qc_int)
      (qss_cons (qs_while PassesOwn.never (qt_cmp op_lt s_lt (qv 5) (q_callB (call_len_seq.or (call_len_str.or call_lenD)) (s_len rfl) (by rfl) T.b_len bt_len (qa_cons (qv 4) qa_nil)) (nomark _)) (qss_cons (qs_set (i := 6) sc_ways_of.nd rfl (by first | exact Or.inl rfl | exact Or.inr rfl) (q_ix ix_seq (s_ix rfl) (qv 4) (qv 5)))
      (qss_cons (qs_aug 5 sc_ways_of.nd rfl (by first | exact Or.inl rfl | exact Or.inr rfl) qc_int)
      (qss_one (qs_for PassesOwn.never rfl (qi_any rfl (qv 0)) (qg_tupG rfl rfl (qgs_cons (qg_name (i := 7) sc_ways_of.nd rfl (by first | exact Or.inl rfl | exact Or.inr rfl)) (qgs_cons (qg_name (i := 8) sc_ways_of.nd rfl (by first | exact Or.inl rfl | exact Or.inr rfl)) (qgs_cons (qg_name (i := 9) sc_ways_of.nd rfl (by first | exact Or.inl rfl | exact Or.inr rfl)) qgs_nil)))) (qss_one (qs_if (qt_pw (qw_and (qt_cmp (op_eq.or (op_eqA (G := G) rfl hr)) s_eq (qv 8) (qv 6) (nomark _)) (qw_and (qt_cmp (PV.OpR.or ((op_notIn_sign.or op_notIn_seq).or (op_notInP (G := G) rfl hr)) (op_dnotin hr)) (s_notInX (s_notInD rfl)) (qv 9) (qv 3) (by rfl)) (qw_and1 (qt_not (qt_tru rfl (q_cal C_is_barred hr (by decide) hgd (by rfl) (qa_cons (q_ix ix_seq (s_ix rfl) (qv 1) (qv 8)) (qa_cons (q_ix ix_seq (s_ix rfl) (qv 1) (qv 9)) (qa_cons (qv 2) qa_nil)))))))))) (qss_cons (qs_sub (set_dict hr) s_setK (q_add (q_ix (ix_dict hr) s_dget (qv 3) (qv 6)) (q_lst (qa_cons (q_tup (qa_cons (qv 7) (qa_cons (qv 9) qa_nil))) qa_nil))) (qv 3) (qv 9))
      (qss_one (qs_expr (q_bm rfl PySem.F.plainAttrs_list PySem.F.slot_list_append PySem.F.type_list_append mt_append tyLst s_append (qv 4) (qa_cons (qv 9) qa_nil))))) qss_nil)))))))
      (qss_one (qs_ret (q_frz (qv 3))))))))
theorem w_ways_of {f : Addr} {fd : FuncData} (F : Fun K "ways_of" "ways_of" s_ways_of f fd) (m : mg "ways_of" = some (.ref f)) (T : Tx mg) (hsb : ∃ mm, base.Ns sysModules mm) (C_is_barred : Cal P w K mg base ⟨K, CA⟩ "is_barred" 1 3 c_is_barred) : Cal P w K mg base ⟨K, CA⟩ "ways_of" 2 3 c_ways_of :=
  cal_of F sc_ways_of m (F.binds fun _ _ _ _ _ _ us hl => match us, hl with | [_, _, _], _ => rfl) rfl rfl rfl (b_ways_of T hsb C_is_barred)
abbrev s_Ground___init__ : Stmt := inClass (top 26) 0
abbrev N_Ground___init__ : List Str := ["self", "tables", "gains", "risen", "base", "state", "at", "table", "ways"]
theorem sc_Ground___init__ : FnScope N_Ground___init__ ["self", "tables", "gains", "risen", "base"] (defScope s_Ground___init__) := ⟨rfl, rfl, rfl, by decide +kernel, rfl, by decide +kernel, by decide +kernel⟩
theorem b_Ground___init__ (T : Tx mg) (hsb : ∃ mm, base.Ns sysModules mm) (F_Ground : ClsF K (CA 1) ["tables", "gains", "risen", "base", "ways", "places"]) (C_ways_of : Cal P w K mg base ⟨K, CA⟩ "ways_of" 2 3 c_ways_of) {f : Addr} (cdv : Value) (A : Around) (outer : List Env) (s : Shared) (H : Hp) (E : XK) (hr : Room 2 (A.deeper (PyProof.Rows.envOfC "Ground.__init__" (defScope s_Ground___init__) s.heap.objs.size f cdv))) (hgd : A.guards = some []) :
    PSs (cxOf CX0 P w K mg base N_Ground___init__ "Ground.__init__" (defScope s_Ground___init__) f cdv A outer s H E).nox (defBody s_Ground___init__) (tS ⟨K, CA⟩ E0 m_Ground___init__) := by
  let G : Sig := ⟨K, CA⟩
  exact (qss_cons (qs_fld rfl F_Ground (by decide) (qv 1) (qv 0))
      (qss_cons (qs_fld rfl F_Ground (by decide) (qv 2) (qv 0))
      (qss_cons (qs_fld rfl F_Ground (by decide) (qv 3) (qv 0))
      (qss_cons (qs_fld rfl F_Ground (by decide) (qv 4) (qv 0))
      (qss_cons (qs_fld rfl F_Ground (by decide) (q_lc (own := [("at", 6), ("table", 7)]) (E2 := E0) rfl sc_Ground___init__.nd (qi_enum rfl (by rfl) T.b_enumerate (qa_cons (qv 1) qa_nil)) (blkOk_by (N := N_Ground___init__) (sc := (defScope s_Ground___init__)) (by decide +kernel)) (fun _ _ _ _ _ => by exact (qg_tupG rfl rfl (qgs_cons (qg_name (i := 6) sc_Ground___init__.nd rfl (by first | exact Or.inl rfl | exact Or.inr rfl)) (qgs_cons (qg_name (i := 7) sc_Ground___init__.nd rfl (by first | exact Or.inl rfl | exact Or.inr rfl)) qgs_nil)))) (fun _ _ _ _ _ => qts_nil) (fun _ _ _ _ _ => (q_cal C_ways_of hr (by decide) hgd (by rfl) (qa_cons (q_ix ix_seq (s_ix rfl) (qv 7) qc_int) (qa_cons (q_ix ix_seq (s_ix rfl) (qv 2) (qv 6)) (qa_cons (qv 3) qa_nil)))))) (qv 0))
      (qss_one (qs_fld rfl F_Ground (by decide) (q_lc2 (own := [("at", 6), ("ways", 8), ("state", 5)]) (vs1 := [5]) (E2 := E0) rfl sc_Ground___init__.nd (qi_enum rfl (by rfl) T.b_enumerate (qa_cons (q_fld rfl F_Ground (by decide) (qv 0)) qa_nil)) (blkOk_by (N := N_Ground___init__) (sc := (defScope s_Ground___init__)) (by decide +kernel)) (fun _ _ _ _ _ => by exact (qg_tupG rfl rfl (qgs_cons (qg_name (i := 6) sc_Ground___init__.nd rfl (by first | exact Or.inl rfl | exact Or.inr rfl)) (qgs_cons (qg_name (i := 8) sc_Ground___init__.nd rfl (by first | exact Or.inl rfl | exact Or.inr rfl)) qgs_nil)))) (fun _ _ _ _ _ => qts_nil) (fun _ _ _ _ _ => (qi_any rfl (q_callB (PV.CallR.or (PV.CallR.or cr_sortedS (call_sortedD rfl)) cr_sortedI) (s_sortedI rfl) (by rfl) T.b_sorted bt_sorted (qa_cons (q_callTy (PV.CallR.or call_list_of (call_listD rfl)) (s_listXF rfl) (by rfl) T.b_list bt_list (qa_cons (qv 8) qa_nil)) qa_nil)))) (fun _ _ _ _ _ => by exact (qg_name (i := 5) sc_Ground___init__.nd rfl (by first | exact Or.inl rfl | exact Or.inr rfl))) (fun _ _ _ _ _ => qts_nil) (fun _ _ _ _ _ => (q_tup (qa_cons (qv 6) (qa_cons (qv 5) qa_nil))))) (qv 0))))))))
theorem w_Ground___init__ {f p : Addr} {fd : FuncData} (F : Fun K "__init__" "Ground.__init__" s_Ground___init__ f fd) (m : mg "Ground" = some (.ref (CA 1))) (M : Mk K (CA 1) f) (T : Tx mg) (hsb : ∃ mm, base.Ns sysModules mm) (F_Ground : ClsF K (CA 1) ["tables", "gains", "risen", "base", "ways", "places"]) (C_ways_of : Cal P w K mg base ⟨K, CA⟩ "ways_of" 2 3 c_ways_of) : MkB P w K mg base ⟨K, CA⟩ "Ground" 1 3 4 c_Ground___init__ :=
  mk_of m M (F.binds fun _ _ _ _ _ _ us hl => match us, hl with | [_, _, _, _, _], _ => rfl) (fnG_by F sc_Ground___init__ rfl rfl rfl (b_Ground___init__ T hsb F_Ground C_ways_of))
abbrev s_first_table : Stmt := top 14
abbrev N_first_table : List Str := ["rows", "limits", "costs", "count", "table", "index", "row", "slacks"]
theorem sc_first_table : FnScope N_first_table ["rows", "limits", "costs"] (defScope s_first_table) := ⟨rfl, rfl, rfl, by decide +kernel, rfl, by decide +kernel, by decide +kernel⟩
theorem b_first_table (T : Tx mg) (hsb : ∃ mm, base.Ns sysModules mm)  {f : Addr} (cdv : Value) (A : Around) (outer : List Env) (s : Shared) (H : Hp) (E : XK) (hr : Room 0 (A.deeper (PyProof.Rows.envOfC "first_table" (defScope s_first_table) s.heap.objs.size f cdv))) (hgd : A.guards = some []) :
    PSs (cxOf CX0 P w K mg base N_first_table "first_table" (defScope s_first_table) f cdv A outer s H E).nox (defBody s_first_table) (tS ⟨K, CA⟩ E0 m_first_table) := by
  let G : Sig := ⟨K, CA⟩
  exact (qss_cons (qs_set (i := 3) sc_first_table.nd rfl (by first | exact Or.inl rfl | exact Or.inr rfl) (q_callB (call_len_seq.or (call_len_str.or call_lenD)) (s_len rfl) (by rfl) T.b_len bt_len (qa_cons (qv 0) qa_nil)))
      (qss_cons (qs_set (i := 4) sc_first_table.nd rfl (by first | exact Or.inl rfl | exact Or.inr rfl) (q_lstC qa_nil))
      (qss_cons (qs_for PassesOwn.never rfl (qi_enum rfl (by rfl) T.b_enumerate (qa_cons (qv 0) qa_nil)) (qg_tupG rfl rfl (qgs_cons (qg_name (i := 5) sc_first_table.nd rfl (by first | exact Or.inl rfl | exact Or.inr rfl)) (qgs_cons (qg_name (i := 6) sc_first_table.nd rfl (by first | exact Or.inl rfl | exact Or.inr rfl)) qgs_nil))) (qss_cons (qs_set (i := 7) sc_first_table.nd rfl (by first | exact Or.inl rfl | exact Or.inr rfl) (q_mul (q_lst (qa_cons qc_int qa_nil)) (qv 3)))
      (qss_cons (qs_sub set_list s_setAt qc_int (qv 7) (qv 5))
      (qss_one (qs_expr (q_bm rfl PySem.F.plainAttrs_list PySem.F.slot_list_append PySem.F.type_list_append mt_append tyLst s_append (qv 4) (qa_cons (q_add (q_add (q_callTy call_list_of (s_listF rfl) (by rfl) T.b_list bt_list (qa_cons (qv 6) qa_nil)) (qv 7)) (q_lst (qa_cons (q_ix ix_seq (s_ix rfl) (qv 1) (qv 5)) qa_nil))) qa_nil)))))))
      (qss_cons (qs_expr (q_bm rfl PySem.F.plainAttrs_list PySem.F.slot_list_append PySem.F.type_list_append mt_append tyLst s_append (qv 4) (qa_cons (q_add (q_callTy call_list_of (s_listF rfl) (by rfl) T.b_list bt_list (qa_cons (qv 2) qa_nil)) (q_mul (q_lst (qa_cons qc_int qa_nil)) (q_add (qv 3) qc_int))) qa_nil)))
      (qss_one (qs_ret (q_frz (qv 4))))))))
theorem w_first_table {f : Addr} {fd : FuncData} (F : Fun K "first_table" "first_table" s_first_table f fd) (m : mg "first_table" = some (.ref f)) (T : Tx mg) (hsb : ∃ mm, base.Ns sysModules mm)  : Cal P w K mg base ⟨K, CA⟩ "first_table" 1 3 c_first_table :=
  cal_of F sc_first_table m (F.binds fun _ _ _ _ _ _ us hl => match us, hl with | [_, _, _], _ => rfl) rfl rfl rfl (b_first_table T hsb )
abbrev s_entering_column : Stmt := top 11
abbrev N_entering_column : List Str := ["costs", "column", "cost"]
theorem sc_entering_column : FnScope N_entering_column ["costs"] (defScope s_entering_column) := ⟨rfl, rfl, rfl, by decide +kernel, rfl, by decide +kernel, by decide +kernel⟩
theorem b_entering_column (T : Tx mg) (hsb : ∃ mm, base.Ns sysModules mm)  {f : Addr} (cdv : Value) (A : Around) (outer : List Env) (s : Shared) (H : Hp) (E : XK) (hr : Room 0 (A.deeper (PyProof.Rows.envOfC "entering_column" (defScope s_entering_column) s.heap.objs.size f cdv))) (hgd : A.guards = some []) :
    PSs (cxOf CX0 P w K mg base N_entering_column "entering_column" (defScope s_entering_column) f cdv A outer s H E).nox (defBody s_entering_column) (tS ⟨K, CA⟩ E0 m_entering_column) := by
  let G : Sig := ⟨K, CA⟩
  exact (qss_cons (qs_for PassesOwn.never rfl (qi_enum rfl (by rfl) T.b_enumerate (qa_cons (qv 0) qa_nil)) (qg_tupG rfl rfl (qgs_cons (qg_name (i := 1) sc_entering_column.nd rfl (by first | exact Or.inl rfl | exact Or.inr rfl)) (qgs_cons (qg_name (i := 2) sc_entering_column.nd rfl (by first | exact Or.inl rfl | exact Or.inr rfl)) qgs_nil))) (qss_one (qs_if (qt_cmp op_lt s_lt (qv 2) qc_int (nomark _)) (qss_one (qs_ret (qv 1))) qss_nil)))
      (qss_one (qs_ret qc_non)))
theorem w_entering_column {f : Addr} {fd : FuncData} (F : Fun K "entering_column" "entering_column" s_entering_column f fd) (m : mg "entering_column" = some (.ref f)) (T : Tx mg) (hsb : ∃ mm, base.Ns sysModules mm)  : Cal P w K mg base ⟨K, CA⟩ "entering_column" 1 1 c_entering_column :=
  cal_of F sc_entering_column m (F.binds fun _ _ _ _ _ _ us hl => match us, hl with | [_], _ => rfl) rfl rfl rfl (b_entering_column T hsb )
abbrev s_leaving_row : Stmt := top 12
abbrev N_leaving_row : List Str := ["table", "basis", "column", "best", "row", "entry", "mine", "other"]
theorem sc_leaving_row : FnScope N_leaving_row ["table", "basis", "column"] (defScope s_leaving_row) := ⟨rfl, rfl, rfl, by decide +kernel, rfl, by decide +kernel, by decide +kernel⟩
theorem b_leaving_row (T : Tx mg) (hsb : ∃ mm, base.Ns sysModules mm)  {f : Addr} (cdv : Value) (A : Around) (outer : List Env) (s : Shared) (H : Hp) (E : XK) (hr : Room 0 (A.deeper (PyProof.Rows.envOfC "leaving_row" (defScope s_leaving_row) s.heap.objs.size f cdv))) (hgd : A.guards = some []) :
    PSs (cxOf CX0 P w K mg base N_leaving_row "leaving_row" (defScope s_leaving_row) f cdv A outer s H E).nox (defBody s_leaving_row) (tS ⟨K, CA⟩ E0 m_leaving_row) := by
  let G : Sig := ⟨K, CA⟩
  exact (qss_cons (qs_set (i := 3) sc_leaving_row.nd rfl (by first | exact Or.inl rfl | exact Or.inr rfl) qc_non)
      (qss_cons (qs_for PassesOwn.never rfl (qi_range1 (by rfl) T.b_range (qa_cons (q_callB (call_len_seq.or (call_len_str.or call_lenD)) (s_len rfl) (by rfl) T.b_len bt_len (qa_cons (qv 1) qa_nil)) qa_nil)) (qg_name (i := 4) sc_leaving_row.nd rfl (by first | exact Or.inl rfl | exact Or.inr rfl)) (qss_cons (qs_set (i := 5) sc_leaving_row.nd rfl (by first | exact Or.inl rfl | exact Or.inr rfl) (q_ix ix_seq (s_ix rfl) (q_ix ix_seq (s_ix rfl) (qv 0) (qv 4)) (qv 2)))
      (qss_cons (qs_if (qt_cmp op_le s_le (qv 5) qc_int (nomark _)) (qss_one qs_continue) qss_nil)
      (qss_cons (qs_if (qt_cmp op_isN s_isN (qv 3) qc_non (nomark _)) (qss_cons (qs_set (i := 3) sc_leaving_row.nd rfl (by first | exact Or.inl rfl | exact Or.inr rfl) (qv 4))
      (qss_one qs_continue)) qss_nil)
      (qss_cons (qs_set (i := 6) sc_leaving_row.nd rfl (by first | exact Or.inl rfl | exact Or.inr rfl) (q_mul (q_ix ix_seq (s_ix rfl) (q_ix ix_seq (s_ix rfl) (qv 0) (qv 4)) (q_neg qc_int)) (q_ix ix_seq (s_ix rfl) (q_ix ix_seq (s_ix rfl) (qv 0) (qv 3)) (qv 2))))
      (qss_cons (qs_set (i := 7) sc_leaving_row.nd rfl (by first | exact Or.inl rfl | exact Or.inr rfl) (q_mul (q_ix ix_seq (s_ix rfl) (q_ix ix_seq (s_ix rfl) (qv 0) (qv 3)) (q_neg qc_int)) (qv 5)))
      (qss_one (qs_if (qt_pw (qw_or (qt_cmp op_lt s_lt (qv 6) (qv 7) (nomark _)) (qw_or1 (qt_pw (qw_and (qt_cmp (op_eq.or (op_eqA (G := G) rfl hr)) s_eq (qv 6) (qv 7) (nomark _)) (qw_and1 (qt_cmp op_lt s_lt (q_ix ix_seq (s_ix rfl) (qv 1) (qv 4)) (q_ix ix_seq (s_ix rfl) (qv 1) (qv 3)) (nomark _)))))))) (qss_one (qs_set (i := 3) sc_leaving_row.nd rfl (by first | exact Or.inl rfl | exact Or.inr rfl) (qv 4))) qss_nil))))))))
      (qss_one (qs_ret (qv 3)))))
theorem w_leaving_row {f : Addr} {fd : FuncData} (F : Fun K "leaving_row" "leaving_row" s_leaving_row f fd) (m : mg "leaving_row" = some (.ref f)) (T : Tx mg) (hsb : ∃ mm, base.Ns sysModules mm)  : Cal P w K mg base ⟨K, CA⟩ "leaving_row" 1 3 c_leaving_row :=
  cal_of F sc_leaving_row m (F.binds fun _ _ _ _ _ _ us hl => match us, hl with | [_, _, _], _ => rfl) rfl rfl rfl (b_leaving_row T hsb )
abbrev s_pivoted : Stmt := top 13
abbrev N_pivoted : List Str := ["table", "scale", "row", "column", "pivot_line", "lead", "result", "index", "line", "part", "x", "y"]
theorem sc_pivoted : FnScope N_pivoted ["table", "scale", "row", "column"] (defScope s_pivoted) := ⟨rfl, rfl, rfl, by decide +kernel, rfl, by decide +kernel, by decide +kernel⟩
theorem b_pivoted (T : Tx mg) (hsb : ∃ mm, base.Ns sysModules mm)  {f : Addr} (cdv : Value) (A : Around) (outer : List Env) (s : Shared) (H : Hp) (E : XK) (hr : Room 0 (A.deeper (PyProof.Rows.envOfC "pivoted" (defScope s_pivoted) s.heap.objs.size f cdv))) (hgd : A.guards = some []) :
    PSs (cxOf CX0 P w K mg base N_pivoted "pivoted" (defScope s_pivoted) f cdv A outer s H E).nox (defBody s_pivoted) (tS ⟨K, CA⟩ E0 m_pivoted) := by
  let G : Sig := ⟨K, CA⟩
  exact (qss_cons (qs_set (i := 4) sc_pivoted.nd rfl (by first | exact Or.inl rfl | exact Or.inr rfl) (q_ix ix_seq (s_ix rfl) (qv 0) (qv 2)))
      (qss_cons (qs_set (i := 5) sc_pivoted.nd rfl (by first | exact Or.inl rfl | exact Or.inr rfl) (q_ix ix_seq (s_ix rfl) (qv 4) (qv 3)))
      (qss_cons (qs_set (i := 6) sc_pivoted.nd rfl (by first | exact Or.inl rfl | exact Or.inr rfl) (q_lstC qa_nil))
      (qss_cons (qs_for PassesOwn.never rfl (qi_enum rfl (by rfl) T.b_enumerate (qa_cons (qv 0) qa_nil)) (qg_tupG rfl rfl (qgs_cons (qg_name (i := 7) sc_pivoted.nd rfl (by first | exact Or.inl rfl | exact Or.inr rfl)) (qgs_cons (qg_name (i := 8) sc_pivoted.nd rfl (by first | exact Or.inl rfl | exact Or.inr rfl)) qgs_nil))) (qss_one (qs_if (qt_cmp (op_eq.or (op_eqA (G := G) rfl hr)) s_eq (qv 7) (qv 2) (nomark _)) (qss_one (qs_expr (q_bm rfl PySem.F.plainAttrs_list PySem.F.slot_list_append PySem.F.type_list_append mt_append tyLst s_append (qv 6) (qa_cons (q_callTy call_list_of (s_listF rfl) (by rfl) T.b_list bt_list (qa_cons (qv 8) qa_nil)) qa_nil)))) (qss_cons (qs_set (i := 9) sc_pivoted.nd rfl (by first | exact Or.inl rfl | exact Or.inr rfl) (q_ix ix_seq (s_ix rfl) (qv 8) (qv 3)))
      (qss_one (qs_expr (q_bm rfl PySem.F.plainAttrs_list PySem.F.slot_list_append PySem.F.type_list_append mt_append tyLst s_append (qv 6) (qa_cons (q_lc (own := [("x", 10), ("y", 11)]) (E2 := E0) rfl sc_pivoted.nd (qi_zip rfl (by rfl) T.b_zip (qa_cons (qv 8) (qa_cons (qv 4) qa_nil))) (blkOk_by (N := N_pivoted) (sc := (defScope s_pivoted)) (by decide +kernel)) (fun _ _ _ _ _ => by exact (qg_tupG rfl rfl (qgs_cons (qg_name (i := 10) sc_pivoted.nd rfl (by first | exact Or.inl rfl | exact Or.inr rfl)) (qgs_cons (qg_name (i := 11) sc_pivoted.nd rfl (by first | exact Or.inl rfl | exact Or.inr rfl)) qgs_nil)))) (fun _ _ _ _ _ => qts_nil) (fun _ _ _ _ _ => (q_div (q_sub (q_mul (qv 10) (qv 5)) (q_mul (qv 9) (qv 11))) (qv 1)))) qa_nil))))))))
      (qss_one (qs_ret (q_frz (qv 6))))))))
theorem w_pivoted {f : Addr} {fd : FuncData} (F : Fun K "pivoted" "pivoted" s_pivoted f fd) (m : mg "pivoted" = some (.ref f)) (T : Tx mg) (hsb : ∃ mm, base.Ns sysModules mm)  : Cal P w K mg base ⟨K, CA⟩ "pivoted" 1 4 c_pivoted :=
  cal_of F sc_pivoted m (F.binds fun _ _ _ _ _ _ us hl => match us, hl with | [_, _, _, _], _ => rfl) rfl rfl rfl (b_pivoted T hsb )
abbrev s_ray_of : Stmt := top 15
abbrev N_ray_of : List Str := ["table", "basis", "scale", "column", "size", "weights", "row", "owner"]
theorem sc_ray_of : FnScope N_ray_of ["table", "basis", "scale", "column", "size"] (defScope s_ray_of) := ⟨rfl, rfl, rfl, by decide +kernel, rfl, by decide +kernel, by decide +kernel⟩
theorem b_ray_of (T : Tx mg) (hsb : ∃ mm, base.Ns sysModules mm)  {f : Addr} (cdv : Value) (A : Around) (outer : List Env) (s : Shared) (H : Hp) (E : XK) (hr : Room 0 (A.deeper (PyProof.Rows.envOfC "ray_of" (defScope s_ray_of) s.heap.objs.size f cdv))) (hgd : A.guards = some []) :
    PSs (cxOf CX0 P w K mg base N_ray_of "ray_of" (defScope s_ray_of) f cdv A outer s H E).nox (defBody s_ray_of) (tS ⟨K, CA⟩ E0 m_ray_of) := by
  let G : Sig := ⟨K, CA⟩
  exact (qss_cons (qs_set (i := 5) sc_ray_of.nd rfl (by first | exact Or.inl rfl | exact Or.inr rfl) (q_mul (q_lst (qa_cons qc_int qa_nil)) (qv 4)))
      (qss_cons (qs_if (qt_cmp op_lt s_lt (qv 3) (qv 4) (nomark _)) (qss_one (qs_sub set_list s_setAt (qv 2) (qv 5) (qv 3))) qss_nil)
      (qss_cons (qs_for PassesOwn.never rfl (qi_enum rfl (by rfl) T.b_enumerate (qa_cons (qv 1) qa_nil)) (qg_tupG rfl rfl (qgs_cons (qg_name (i := 6) sc_ray_of.nd rfl (by first | exact Or.inl rfl | exact Or.inr rfl)) (qgs_cons (qg_name (i := 7) sc_ray_of.nd rfl (by first | exact Or.inl rfl | exact Or.inr rfl)) qgs_nil))) (qss_one (qs_if (qt_cmp op_lt s_lt (qv 7) (qv 4) (nomark _)) (qss_one (qs_sub set_list s_setAt (q_neg (q_ix ix_seq (s_ix rfl) (q_ix ix_seq (s_ix rfl) (qv 0) (qv 6)) (qv 3))) (qv 5) (qv 7))) qss_nil)))
      (qss_one (qs_ret (q_frz (qv 5)))))))
theorem w_ray_of {f : Addr} {fd : FuncData} (F : Fun K "ray_of" "ray_of" s_ray_of f fd) (m : mg "ray_of" = some (.ref f)) (T : Tx mg) (hsb : ∃ mm, base.Ns sysModules mm)  : Cal P w K mg base ⟨K, CA⟩ "ray_of" 1 5 c_ray_of :=
  cal_of F sc_ray_of m (F.binds fun _ _ _ _ _ _ us hl => match us, hl with | [_, _, _, _, _], _ => rfl) rfl rfl rfl (b_ray_of T hsb )
abbrev s_minimize : Stmt := top 16
abbrev N_minimize : List Str := ["rows", "limits", "costs", "size", "count", "table", "basis", "scale", "column", "row", "index"]
theorem sc_minimize : FnScope N_minimize ["rows", "limits", "costs"] (defScope s_minimize) := ⟨rfl, rfl, rfl, by decide +kernel, rfl, by decide +kernel, by decide +kernel⟩
theorem b_minimize (T : Tx mg) (hsb : ∃ mm, base.Ns sysModules mm) (C_first_table : Cal P w K mg base ⟨K, CA⟩ "first_table" 1 3 c_first_table) (C_entering_column : Cal P w K mg base ⟨K, CA⟩ "entering_column" 1 1 c_entering_column) (C_leaving_row : Cal P w K mg base ⟨K, CA⟩ "leaving_row" 1 3 c_leaving_row) (C_ray_of : Cal P w K mg base ⟨K, CA⟩ "ray_of" 1 5 c_ray_of) (C_pivoted : Cal P w K mg base ⟨K, CA⟩ "pivoted" 1 4 c_pivoted) {f : Addr} (cdv : Value) (A : Around) (outer : List Env) (s : Shared) (H : Hp) (E : XK) (hr : Room 1 (A.deeper (PyProof.Rows.envOfC "minimize" (defScope s_minimize) s.heap.objs.size f cdv))) (hgd : A.guards = some []) :
    PSs (cxOf CX0 P w K mg base N_minimize "minimize" (defScope s_minimize) f cdv A outer s H E).nox (defBody s_minimize) (tS ⟨K, CA⟩ E0 m_minimize) := by
  let G : Sig := ⟨K, CA⟩
  exact (qss_cons (qs_set (i := 3) sc_minimize.nd rfl (by first | exact Or.inl rfl | exact Or.inr rfl) (q_callB (call_len_seq.or (call_len_str.or call_lenD)) (s_len rfl) (by rfl) T.b_len bt_len (qa_cons (qv 2) qa_nil)))
      (qss_cons (qs_set (i := 4) sc_minimize.nd rfl (by first | exact Or.inl rfl | exact Or.inr rfl) (q_callB (call_len_seq.or (call_len_str.or call_lenD)) (s_len rfl) (by rfl) T.b_len bt_len (qa_cons (qv 0) qa_nil)))
      (qss_cons (qs_set (i := 5) sc_minimize.nd rfl (by first | exact Or.inl rfl | exact Or.inr rfl) (q_cal C_first_table hr (by decide) hgd (by rfl) (qa_cons (qv 0) (qa_cons (qv 1) (qa_cons (qv 2) qa_nil)))))
      (qss_cons (qs_setLcC (i := 6) (own := [("index", 10)]) (E2 := E0) rfl sc_minimize.nd rfl rfl (sw_true rfl rfl rfl (by decide +kernel)) (qi_range1 (by rfl) T.b_range (qa_cons (qv 4) qa_nil)) (blkOk_by (N := N_minimize) (sc := (defScope s_minimize)) (by decide +kernel)) (fun _ _ _ _ _ => by exact (qg_name (i := 10) sc_minimize.nd rfl (by first | exact Or.inl rfl | exact Or.inr rfl))) (fun _ _ _ _ _ => qts_nil) (fun _ _ _ _ _ => (q_add (qv 3) (qv 10))))
      (qss_cons (qs_set (i := 7) sc_minimize.nd rfl (by first | exact Or.inl rfl | exact Or.inr rfl) qc_int)
      (qss_one (qs_while PassesOwn.never (qt_tru rfl qc_bl) (qss_cons (qs_set (i := 8) sc_minimize.nd rfl (by first | exact Or.inl rfl | exact Or.inr rfl) (q_cal C_entering_column hr (by decide) hgd (by rfl) (qa_cons (q_sl rfl (q_ix ix_seq (s_ix rfl) (qv 5) (qv 4)) qo_none (qo_b (q_neg qc_int))) qa_nil)))
      (qss_cons (qs_if (qt_cmp op_isN s_isN (qv 8) qc_non (nomark _)) (qss_one (qs_ret (q_tup (qa_cons (q_tup (qa_cons (qv 7) (qa_cons (q_sl rfl (q_ix ix_seq (s_ix rfl) (qv 5) (qv 4)) (qo_b (qv 3)) (qo_b (q_add (qv 3) (qv 4)))) qa_nil))) (qa_cons qc_non qa_nil))))) qss_nil)
      (qss_cons (qs_set (i := 9) sc_minimize.nd rfl (by first | exact Or.inl rfl | exact Or.inr rfl) (q_cal C_leaving_row hr (by decide) hgd (by rfl) (qa_cons (qv 5) (qa_cons (qv 6) (qa_cons (qv 8) qa_nil)))))
      (qss_cons (qs_if (qt_cmp op_isN s_isN (qv 9) qc_non (nomark _)) (qss_one (qs_ret (q_tup (qa_cons qc_non (qa_cons (q_cal C_ray_of hr (by decide) hgd (by rfl) (qa_cons (qv 5) (qa_cons (qv 6) (qa_cons (qv 7) (qa_cons (qv 8) (qa_cons (qv 3) qa_nil)))))) qa_nil))))) qss_nil)
      (qss_cons (qs_set (i := 5) sc_minimize.nd rfl (by first | exact Or.inl rfl | exact Or.inr rfl) (q_cal C_pivoted hr (by decide) hgd (by rfl) (qa_cons (qv 5) (qa_cons (qv 7) (qa_cons (qv 9) (qa_cons (qv 8) qa_nil))))))
      (qss_cons (qs_set (i := 7) sc_minimize.nd rfl (by first | exact Or.inl rfl | exact Or.inr rfl) (q_ix ix_seq (s_ix rfl) (q_ix ix_seq (s_ix rfl) (qv 5) (qv 9)) (qv 8)))
      (qss_one (qs_sub set_list s_setAt (qv 8) (qv 6) (qv 9))))))))))))))))
theorem w_minimize {f : Addr} {fd : FuncData} (F : Fun K "minimize" "minimize" s_minimize f fd) (m : mg "minimize" = some (.ref f)) (T : Tx mg) (hsb : ∃ mm, base.Ns sysModules mm) (C_first_table : Cal P w K mg base ⟨K, CA⟩ "first_table" 1 3 c_first_table) (C_entering_column : Cal P w K mg base ⟨K, CA⟩ "entering_column" 1 1 c_entering_column) (C_leaving_row : Cal P w K mg base ⟨K, CA⟩ "leaving_row" 1 3 c_leaving_row) (C_ray_of : Cal P w K mg base ⟨K, CA⟩ "ray_of" 1 5 c_ray_of) (C_pivoted : Cal P w K mg base ⟨K, CA⟩ "pivoted" 1 4 c_pivoted) : Cal P w K mg base ⟨K, CA⟩ "minimize" 2 3 c_minimize :=
  cal_of F sc_minimize m (F.binds fun _ _ _ _ _ _ us hl => match us, hl with | [_, _, _], _ => rfl) rfl rfl rfl (b_minimize T hsb C_first_table C_entering_column C_leaving_row C_ray_of C_pivoted)
abbrev s_Ground_settled : Stmt := inClass (top 26) 2
abbrev N_Ground_settled : List Str := ["self", "worths", "count", "rows", "index", "at", "state"]
theorem sc_Ground_settled : FnScope N_Ground_settled ["self", "worths"] (defScope s_Ground_settled) := ⟨rfl, rfl, rfl, by decide +kernel, rfl, by decide +kernel, by decide +kernel⟩
theorem b_Ground_settled (T : Tx mg) (hsb : ∃ mm, base.Ns sysModules mm) (F_Ground : ClsF K (CA 1) ["tables", "gains", "risen", "base", "ways", "places"]) (C_minimize : Cal P w K mg base ⟨K, CA⟩ "minimize" 2 3 c_minimize) {f : Addr} (cdv : Value) (A : Around) (outer : List Env) (s : Shared) (H : Hp) (E : XK) (hr : Room 2 (A.deeper (PyProof.Rows.envOfC "Ground.settled" (defScope s_Ground_settled) s.heap.objs.size f cdv))) (hgd : A.guards = some []) :
    PSs (cxOf CX0 P w K mg base N_Ground_settled "Ground.settled" (defScope s_Ground_settled) f cdv A outer s H E).nox (defBody s_Ground_settled) (tS ⟨K, CA⟩ E0 m_Ground_settled) := by
  let G : Sig := ⟨K, CA⟩
  exact (qss_cons (qs_set (i := 2) sc_Ground_settled.nd rfl (by first | exact Or.inl rfl | exact Or.inr rfl) (q_callB (call_len_seq.or (call_len_str.or call_lenD)) (s_len rfl) (by rfl) T.b_len bt_len (qa_cons (q_fld rfl F_Ground (by decide) (qv 0)) qa_nil)))
      (qss_cons (qs_setLc (i := 3) (own := [("index", 4)]) (E2 := E0) rfl sc_Ground_settled.nd rfl rfl (sw_true rfl rfl rfl (by decide +kernel)) (qi_range1 (by rfl) T.b_range (qa_cons (qv 2) qa_nil)) (blkOk_by (N := N_Ground_settled) (sc := (defScope s_Ground_settled)) (by decide +kernel)) (fun _ _ _ _ _ => by exact (qg_name (i := 4) sc_Ground_settled.nd rfl (by first | exact Or.inl rfl | exact Or.inr rfl))) (fun _ _ _ _ _ => qts_nil) (fun _ _ _ _ _ => (q_lc (own := [("at", 5), ("state", 6)]) (E2 := E0) rfl sc_Ground_settled.nd (qi_any rfl (q_fld rfl F_Ground (by decide) (qv 0))) (blkOk_by (N := N_Ground_settled) (sc := (relS (eSc (sEx 0 (sAt 1 (defBody s_Ground_settled)))) (defScope s_Ground_settled))) (by decide +kernel)) (fun _ _ _ _ _ => by exact (qg_tupG rfl rfl (qgs_cons (qg_name (i := 5) sc_Ground_settled.nd rfl (by first | exact Or.inl rfl | exact Or.inr rfl)) (qgs_cons (qg_name (i := 6) sc_Ground_settled.nd rfl (by first | exact Or.inl rfl | exact Or.inr rfl)) qgs_nil)))) (fun _ _ _ _ _ => qts_nil) (fun _ _ _ _ _ => (q_neg (q_ix ix_seq (s_ix rfl) (q_ix ix_seq (s_ix rfl) (q_ix ix_seq (s_ix rfl) (q_fld rfl F_Ground (by decide) (qv 0)) (qv 5)) (qv 6)) (qv 4)))))))
      (qss_one (qs_ret (q_cal C_minimize hr (by decide) hgd (by rfl) (qa_cons (qv 3) (qa_cons (q_mul (q_lst (qa_cons qc_int qa_nil)) (qv 2)) (qa_cons (qv 1) qa_nil))))))))
theorem w_Ground_settled {f p : Addr} {fd : FuncData} (F : Fun K "settled" "Ground.settled" s_Ground_settled f fd) (C : Cls K (CA 1)) (hp : Meth K (CA 1) "settled" f) (T : Tx mg) (hsb : ∃ mm, base.Ns sysModules mm) (F_Ground : ClsF K (CA 1) ["tables", "gains", "risen", "base", "ways", "places"]) (C_minimize : Cal P w K mg base ⟨K, CA⟩ "minimize" 2 3 c_minimize) : MeB P w K mg base ⟨K, CA⟩ 1 "settled" 3 1 c_Ground_settled :=
  me_of C hp (F.binds fun _ _ _ _ _ _ us hl => match us, hl with | [_, _], _ => rfl) (fnG_by F sc_Ground_settled rfl rfl rfl (b_Ground_settled T hsb F_Ground C_minimize))
abbrev s_Ground_walkers : Stmt := inClass (top 26) 3
abbrev N_Ground_walkers : List Str := ["self", "weights", "place", "weight"]
theorem sc_Ground_walkers : FnScope N_Ground_walkers ["self", "weights"] (defScope s_Ground_walkers) := ⟨rfl, rfl, rfl, by decide +kernel, rfl, by decide +kernel, by decide +kernel⟩
theorem b_Ground_walkers (T : Tx mg) (hsb : ∃ mm, base.Ns sysModules mm) (F_Ground : ClsF K (CA 1) ["tables", "gains", "risen", "base", "ways", "places"]) {f : Addr} (cdv : Value) (A : Around) (outer : List Env) (s : Shared) (H : Hp) (E : XK) (hr : Room 0 (A.deeper (PyProof.Rows.envOfC "Ground.walkers" (defScope s_Ground_walkers) s.heap.objs.size f cdv))) (hgd : A.guards = some []) :
    PSs (cxOf CX0 P w K mg base N_Ground_walkers "Ground.walkers" (defScope s_Ground_walkers) f cdv A outer s H E).nox (defBody s_Ground_walkers) (tS ⟨K, CA⟩ E0 m_Ground_walkers) := by
  let G : Sig := ⟨K, CA⟩
  exact (qss_one (qs_ret (q_lc (own := [("place", 2), ("weight", 3)]) (E2 := E0) rfl sc_Ground_walkers.nd (qi_zip rfl (by rfl) T.b_zip (qa_cons (q_fld rfl F_Ground (by decide) (qv 0)) (qa_cons (qv 1) qa_nil))) (blkOk_by (N := N_Ground_walkers) (sc := (defScope s_Ground_walkers)) (by decide +kernel)) (fun _ _ _ _ _ => by exact (qg_tupG rfl rfl (qgs_cons (qg_name (i := 2) sc_Ground_walkers.nd rfl (by first | exact Or.inl rfl | exact Or.inr rfl)) (qgs_cons (qg_name (i := 3) sc_Ground_walkers.nd rfl (by first | exact Or.inl rfl | exact Or.inr rfl)) qgs_nil)))) (fun _ _ _ _ _ => (qts_one (qt_cmp op_gt s_gt (qv 3) qc_int (nomark _)))) (fun _ _ _ _ _ => (q_tup (qa_cons (q_ix ix_seq (s_ix rfl) (qv 2) qc_int) (qa_cons (q_callTy (PV.CallR.or call_list_of (call_listD rfl)) (s_listXF rfl) (by rfl) T.b_list bt_list (qa_cons (q_ix (ix_dict hr) s_dget (q_ix ix_seq (s_ix rfl) (q_fld rfl F_Ground (by decide) (qv 0)) (q_ix ix_seq (s_ix rfl) (qv 2) qc_int)) (q_ix ix_seq (s_ix rfl) (qv 2) qc_int)) qa_nil)) (qa_cons (qv 3) qa_nil))))))))
theorem w_Ground_walkers {f p : Addr} {fd : FuncData} (F : Fun K "walkers" "Ground.walkers" s_Ground_walkers f fd) (C : Cls K (CA 1)) (hp : Meth K (CA 1) "walkers" f) (T : Tx mg) (hsb : ∃ mm, base.Ns sysModules mm) (F_Ground : ClsF K (CA 1) ["tables", "gains", "risen", "base", "ways", "places"]) : MeB P w K mg base ⟨K, CA⟩ 1 "walkers" 1 1 c_Ground_walkers :=
  me_of C hp (F.binds fun _ _ _ _ _ _ us hl => match us, hl with | [_, _], _ => rfl) (fnG_by F sc_Ground_walkers rfl rfl rfl (b_Ground_walkers T hsb F_Ground))
abbrev s_Ground_fresh_rises : Stmt := inClass (top 26) 7
abbrev N_Ground_fresh_rises : List Str := ["self", "fresh", "walkers", "index", "ray", "at", "state"]
theorem sc_Ground_fresh_rises : FnScope N_Ground_fresh_rises ["self"] (defScope s_Ground_fresh_rises) := ⟨rfl, rfl, rfl, by decide +kernel, rfl, by decide +kernel, by decide +kernel⟩
theorem b_Ground_fresh_rises (T : Tx mg) (hsb : ∃ mm, base.Ns sysModules mm) (F_Ground : ClsF K (CA 1) ["tables", "gains", "risen", "base", "ways", "places"]) (M_Ground_settled : MeB P w K mg base ⟨K, CA⟩ 1 "settled" 3 1 c_Ground_settled) (M_Ground_walkers : MeB P w K mg base ⟨K, CA⟩ 1 "walkers" 1 1 c_Ground_walkers) {f : Addr} (cdv : Value) (A : Around) (outer : List Env) (s : Shared) (H : Hp) (E : XK) (hr : Room 3 (A.deeper (PyProof.Rows.envOfC "Ground.fresh_rises" (defScope s_Ground_fresh_rises) s.heap.objs.size f cdv))) (hgd : A.guards = some []) :
    PSs (cxOf CX0 P w K mg base N_Ground_fresh_rises "Ground.fresh_rises" (defScope s_Ground_fresh_rises) f cdv A outer s H E).nox (defBody s_Ground_fresh_rises) (tS ⟨K, CA⟩ E0 m_Ground_fresh_rises) := by
  let G : Sig := ⟨K, CA⟩
  exact (qss_cons (qs_set (i := 1) sc_Ground_fresh_rises.nd rfl (by first | exact Or.inl rfl | exact Or.inr rfl) (q_lstC qa_nil))
      (qss_cons (qs_set (i := 2) sc_Ground_fresh_rises.nd rfl (by first | exact Or.inl rfl | exact Or.inr rfl) (q_lstC qa_nil))
      (qss_cons (qs_for PassesOwn.never rfl (qi_range1 (by rfl) T.b_range (qa_cons (q_callB (call_len_seq.or (call_len_str.or call_lenD)) (s_len rfl) (by rfl) T.b_len bt_len (qa_cons (q_fld rfl F_Ground (by decide) (qv 0)) qa_nil)) qa_nil)) (qg_name (i := 3) sc_Ground_fresh_rises.nd rfl (by first | exact Or.inl rfl | exact Or.inr rfl)) (qss_cons (qs_if (qt_tru rfl (q_ix ix_seq (s_ix rfl) (q_fld rfl F_Ground (by decide) (qv 0)) (qv 3))) (qss_one qs_continue) qss_nil)
      (qss_cons (qs_set (i := 4) sc_Ground_fresh_rises.nd rfl (by first | exact Or.inl rfl | exact Or.inr rfl) (q_ix ix_seq (s_ix rfl) (q_meth M_Ground_settled hr (by decide) hgd (qv 0) (qa_cons (q_lc (own := [("at", 5), ("state", 6)]) (E2 := E0) rfl sc_Ground_fresh_rises.nd (qi_any rfl (q_fld rfl F_Ground (by decide) (qv 0))) (blkOk_by (N := N_Ground_fresh_rises) (sc := (defScope s_Ground_fresh_rises)) (by decide +kernel)) (fun _ _ _ _ _ => by exact (qg_tupG rfl rfl (qgs_cons (qg_name (i := 5) sc_Ground_fresh_rises.nd rfl (by first | exact Or.inl rfl | exact Or.inr rfl)) (qgs_cons (qg_name (i := 6) sc_Ground_fresh_rises.nd rfl (by first | exact Or.inl rfl | exact Or.inr rfl)) qgs_nil)))) (fun _ _ _ _ _ => qts_nil) (fun _ _ _ _ _ => (q_neg (q_ix ix_seq (s_ix rfl) (q_ix ix_seq (s_ix rfl) (q_ix ix_seq (s_ix rfl) (q_fld rfl F_Ground (by decide) (qv 0)) (qv 5)) (qv 6)) (qv 3))))) qa_nil)) qc_int))
      (qss_one (qs_if (qt_cmp op_notN s_notN (qv 4) qc_non (nomark _)) (qss_cons (qs_expr (q_bm rfl PySem.F.plainAttrs_list PySem.F.slot_list_append PySem.F.type_list_append mt_append tyLst s_append (qv 1) (qa_cons (qv 3) qa_nil)))
      (qss_one (qs_expr (q_bm rfl PySem.F.plainAttrs_list PySem.F.slot_list_extend PySem.F.type_list_extend mt_extend tyLst s_ext (qv 2) (qa_cons (q_meth M_Ground_walkers hr (by decide) hgd (qv 0) (qa_cons (qv 4) qa_nil)) qa_nil))))) qss_nil)))))
      (qss_one (qs_ret (q_tup (qa_cons (q_frz (qv 1)) (qa_cons (q_frz (qv 2)) qa_nil))))))))
theorem w_Ground_fresh_rises {f p : Addr} {fd : FuncData} (F : Fun K "fresh_rises" "Ground.fresh_rises" s_Ground_fresh_rises f fd) (C : Cls K (CA 1)) (hp : Meth K (CA 1) "fresh_rises" f) (T : Tx mg) (hsb : ∃ mm, base.Ns sysModules mm) (F_Ground : ClsF K (CA 1) ["tables", "gains", "risen", "base", "ways", "places"]) (M_Ground_settled : MeB P w K mg base ⟨K, CA⟩ 1 "settled" 3 1 c_Ground_settled) (M_Ground_walkers : MeB P w K mg base ⟨K, CA⟩ 1 "walkers" 1 1 c_Ground_walkers) : MeB P w K mg base ⟨K, CA⟩ 1 "fresh_rises" 4 0 c_Ground_fresh_rises :=
  me_of C hp (F.binds fun _ _ _ _ _ _ us hl => match us, hl with | [_], _ => rfl) (fnG_by F sc_Ground_fresh_rises rfl rfl rfl (b_Ground_fresh_rises T hsb F_Ground M_Ground_settled M_Ground_walkers))
abbrev s_Ground_lowering : Stmt := inClass (top 26) 4
abbrev N_Ground_lowering : List Str := ["self", "walkers", "total", "at", "way", "amount", "state", "name", "end", "sinks", "high", "low"]
theorem sc_Ground_lowering : FnScope N_Ground_lowering ["self", "walkers"] (defScope s_Ground_lowering) := ⟨rfl, rfl, rfl, by decide +kernel, rfl, by decide +kernel, by decide +kernel⟩
theorem b_Ground_lowering (T : Tx mg) (hsb : ∃ mm, base.Ns sysModules mm) (F_Ground : ClsF K (CA 1) ["tables", "gains", "risen", "base", "ways", "places"]) {f : Addr} (cdv : Value) (A : Around) (outer : List Env) (s : Shared) (H : Hp) (E : XK) (hr : Room 0 (A.deeper (PyProof.Rows.envOfC "Ground.lowering" (defScope s_Ground_lowering) s.heap.objs.size f cdv))) (hgd : A.guards = some []) :
    PSs (cxOf CX0 P w K mg base N_Ground_lowering "Ground.lowering" (defScope s_Ground_lowering) f cdv A outer s H E).nox (defBody s_Ground_lowering) (tS ⟨K, CA⟩ E0 m_Ground_lowering) := by
  let G : Sig := ⟨K, CA⟩
  exact (qss_cons (qs_set (i := 2) sc_Ground_lowering.nd rfl (by first | exact Or.inl rfl | exact Or.inr rfl) qc_int)
      (qss_cons (qs_for PassesOwn.never rfl (qi_any rfl (qv 1)) (qg_tupG rfl rfl (qgs_cons (qg_name (i := 3) sc_Ground_lowering.nd rfl (by first | exact Or.inl rfl | exact Or.inr rfl)) (qgs_cons (qg_name (i := 4) sc_Ground_lowering.nd rfl (by first | exact Or.inl rfl | exact Or.inr rfl)) (qgs_cons (qg_name (i := 5) sc_Ground_lowering.nd rfl (by first | exact Or.inl rfl | exact Or.inr rfl)) qgs_nil)))) (qss_cons (qs_set (i := 6) sc_Ground_lowering.nd rfl (by first | exact Or.inl rfl | exact Or.inr rfl) qc_int)
      (qss_one (qs_for PassesOwn.never rfl (qi_any rfl (qv 4)) (qg_tupG rfl rfl (qgs_cons (qg_name (i := 7) sc_Ground_lowering.nd rfl (by first | exact Or.inl rfl | exact Or.inr rfl)) (qgs_cons (qg_name (i := 8) sc_Ground_lowering.nd rfl (by first | exact Or.inl rfl | exact Or.inr rfl)) qgs_nil))) (qss_cons (qs_setLc (i := 9) (own := [("high", 10), ("low", 11)]) (E2 := E0) rfl sc_Ground_lowering.nd rfl rfl (sw_true rfl rfl rfl (by decide +kernel)) (qi_zip rfl (by rfl) T.b_zip (qa_cons (q_ix ix_seq (s_ix rfl) (q_ix ix_seq (s_ix rfl) (q_fld rfl F_Ground (by decide) (qv 0)) (qv 3)) (qv 6)) (qa_cons (q_ix ix_seq (s_ix rfl) (q_ix ix_seq (s_ix rfl) (q_fld rfl F_Ground (by decide) (qv 0)) (qv 3)) (qv 8)) qa_nil))) (blkOk_by (N := N_Ground_lowering) (sc := (defScope s_Ground_lowering)) (by decide +kernel)) (fun _ _ _ _ _ => by exact (qg_tupG rfl rfl (qgs_cons (qg_name (i := 10) sc_Ground_lowering.nd rfl (by first | exact Or.inl rfl | exact Or.inr rfl)) (qgs_cons (qg_name (i := 11) sc_Ground_lowering.nd rfl (by first | exact Or.inl rfl | exact Or.inr rfl)) qgs_nil)))) (fun _ _ _ _ _ => qts_nil) (fun _ _ _ _ _ => (q_sub (qv 10) (qv 11))))
      (qss_cons (qs_aug 2 sc_Ground_lowering.nd rfl (by first | exact Or.inl rfl | exact Or.inr rfl) (q_mul (qv 5) (q_callB ((call_max2 rfl).or (cr_max rfl)) (s_max rfl) (by rfl) T.b_max bt_max (qa_cons (q_add (q_lst (qa_cons qc_int qa_nil)) (qv 9)) qa_nil))))
      (qss_one (qs_set (i := 6) sc_Ground_lowering.nd rfl (by first | exact Or.inl rfl | exact Or.inr rfl) (qv 8)))))))))
      (qss_one (qs_ret (q_frz (qv 2))))))
theorem w_Ground_lowering {f p : Addr} {fd : FuncData} (F : Fun K "lowering" "Ground.lowering" s_Ground_lowering f fd) (C : Cls K (CA 1)) (hp : Meth K (CA 1) "lowering" f) (T : Tx mg) (hsb : ∃ mm, base.Ns sysModules mm) (F_Ground : ClsF K (CA 1) ["tables", "gains", "risen", "base", "ways", "places"]) : MeB P w K mg base ⟨K, CA⟩ 1 "lowering" 1 1 c_Ground_lowering :=
  me_of C hp (F.binds fun _ _ _ _ _ _ us hl => match us, hl with | [_, _], _ => rfl) (fnG_by F sc_Ground_lowering rfl rfl rfl (b_Ground_lowering T hsb F_Ground))
abbrev s_value_of : Stmt := top 22
abbrev N_value_of : List Str := ["factors", "counts", "value", "factor", "count"]
theorem sc_value_of : FnScope N_value_of ["factors", "counts"] (defScope s_value_of) := ⟨rfl, rfl, rfl, by decide +kernel, rfl, by decide +kernel, by decide +kernel⟩
theorem b_value_of (T : Tx mg) (hsb : ∃ mm, base.Ns sysModules mm)  {f : Addr} (cdv : Value) (A : Around) (outer : List Env) (s : Shared) (H : Hp) (E : XK) (hr : Room 0 (A.deeper (PyProof.Rows.envOfC "value_of" (defScope s_value_of) s.heap.objs.size f cdv))) (hgd : A.guards = some []) :
    PSs (cxOf CX0 P w K mg base N_value_of "value_of" (defScope s_value_of) f cdv A outer s H E).nox (defBody s_value_of) (tS ⟨K, CA⟩ E0 m_value_of) := by
  let G : Sig := ⟨K, CA⟩
  exact (qss_cons (qs_set (i := 2) sc_value_of.nd rfl (by first | exact Or.inl rfl | exact Or.inr rfl) qc_int)
      (qss_cons (qs_for PassesOwn.never rfl (qi_zip rfl (by rfl) T.b_zip (qa_cons (qv 0) (qa_cons (qv 1) qa_nil))) (qg_tupG rfl rfl (qgs_cons (qg_name (i := 3) sc_value_of.nd rfl (by first | exact Or.inl rfl | exact Or.inr rfl)) (qgs_cons (qg_name (i := 4) sc_value_of.nd rfl (by first | exact Or.inl rfl | exact Or.inr rfl)) qgs_nil))) (qss_one (qs_aug 2 sc_value_of.nd rfl (by first | exact Or.inl rfl | exact Or.inr rfl) (q_mul (qv 3) (qv 4)))))
      (qss_one (qs_ret (q_frz (qv 2))))))
theorem w_value_of {f : Addr} {fd : FuncData} (F : Fun K "value_of" "value_of" s_value_of f fd) (m : mg "value_of" = some (.ref f)) (T : Tx mg) (hsb : ∃ mm, base.Ns sysModules mm)  : Cal P w K mg base ⟨K, CA⟩ "value_of" 1 2 c_value_of :=
  cal_of F sc_value_of m (F.binds fun _ _ _ _ _ _ us hl => match us, hl with | [_, _], _ => rfl) rfl rfl rfl (b_value_of T hsb )
abbrev s_ground_of : Stmt := top 27
abbrev N_ground_of : List Str := ["plan", "tables", "checks", "gains", "ground", "fresh", "walkers", "scale", "base", "risen", "table", "counts", "check", "index", "can", "at", "way", "amount"]
theorem sc_ground_of : FnScope N_ground_of ["plan"] (defScope s_ground_of) := ⟨rfl, rfl, rfl, by decide +kernel, rfl, by decide +kernel, by decide +kernel⟩
theorem b_ground_of (T : Tx mg) (hsb : ∃ mm, base.Ns sysModules mm) (P_Plan_kinds : PrB P w K mg base ⟨K, CA⟩ 0 "kinds" 1 c_Plan_kinds) (P_Plan_checks : PrB P w K mg base ⟨K, CA⟩ 0 "checks" 1 c_Plan_checks) (C_value_of : Cal P w K mg base ⟨K, CA⟩ "value_of" 1 2 c_value_of) (K_Ground : MkB P w K mg base ⟨K, CA⟩ "Ground" 1 3 4 c_Ground___init__) (M_Ground_fresh_rises : MeB P w K mg base ⟨K, CA⟩ 1 "fresh_rises" 4 0 c_Ground_fresh_rises) (M_Ground_lowering : MeB P w K mg base ⟨K, CA⟩ 1 "lowering" 1 1 c_Ground_lowering) (F_Ground : ClsF K (CA 1) ["tables", "gains", "risen", "base", "ways", "places"]) {f : Addr} (cdv : Value) (A : Around) (outer : List Env) (s : Shared) (H : Hp) (E : XK) (hr : Room 4 (A.deeper (PyProof.Rows.envOfC "ground_of" (defScope s_ground_of) s.heap.objs.size f cdv))) (hgd : A.guards = some []) :
    PSs (cxOf CX0 P w K mg base N_ground_of "ground_of" (defScope s_ground_of) f cdv A outer s H E).nox (defBody s_ground_of) (tS ⟨K, CA⟩ E0 m_ground_of) := by
  let G : Sig := ⟨K, CA⟩
  exact (qss_cons (qs_set (i := 1) sc_ground_of.nd rfl (by first | exact Or.inl rfl | exact Or.inr rfl) (q_prop P_Plan_kinds hr (by decide) hgd (qv 0)))
      (qss_cons (qs_set (i := 2) sc_ground_of.nd rfl (by first | exact Or.inl rfl | exact Or.inr rfl) (q_prop P_Plan_checks hr (by decide) hgd (qv 0)))
      (qss_cons (qs_setLc (i := 3) (own := [("table", 10)]) (E2 := E0) rfl sc_ground_of.nd rfl rfl (sw_true rfl rfl rfl (by decide +kernel)) (qi_any rfl (qv 1)) (blkOk_by (N := N_ground_of) (sc := (defScope s_ground_of)) (by decide +kernel)) (fun _ _ _ _ _ => by exact (qg_name (i := 10) sc_ground_of.nd rfl (by first | exact Or.inl rfl | exact Or.inr rfl))) (fun _ _ _ _ _ => qts_nil) (fun _ _ _ _ _ => (q_lc (own := [("counts", 11)]) (E2 := E0) rfl sc_ground_of.nd (qi_any rfl (q_ix ix_seq (s_ix rfl) (qv 10) qc_int)) (blkOk_by (N := N_ground_of) (sc := (relS (eSc (sEx 0 (sAt 2 (defBody s_ground_of)))) (defScope s_ground_of))) (by decide +kernel)) (fun _ _ _ _ _ => by exact (qg_name (i := 11) sc_ground_of.nd rfl (by first | exact Or.inl rfl | exact Or.inr rfl))) (fun _ _ _ _ _ => qts_nil) (fun _ _ _ _ _ => (q_lc (own := [("check", 12)]) (E2 := E0) rfl sc_ground_of.nd (qi_any rfl (qv 2)) (blkOk_by (N := N_ground_of) (sc := (relS (eSc (eAt 0 (sEx 0 (sAt 2 (defBody s_ground_of))))) (relS (eSc (sEx 0 (sAt 2 (defBody s_ground_of)))) (defScope s_ground_of)))) (by decide +kernel)) (fun _ _ _ _ _ => by exact (qg_name (i := 12) sc_ground_of.nd rfl (by first | exact Or.inl rfl | exact Or.inr rfl))) (fun _ _ _ _ _ => qts_nil) (fun _ _ _ _ _ => (q_cal C_value_of hr (by decide) hgd (by rfl) (qa_cons (qv 12) (qa_cons (qv 11) qa_nil)))))))))
      (qss_cons (qs_set (i := 4) sc_ground_of.nd rfl (by first | exact Or.inl rfl | exact Or.inr rfl) (q_make K_Ground hr (by decide) hgd (by rfl) (qa_cons (qv 1) (qa_cons (qv 3) (qa_cons (q_mul (q_lst (qa_cons qc_bl qa_nil)) (q_callB (call_len_seq.or (call_len_str.or call_lenD)) (s_len rfl) (by rfl) T.b_len bt_len (qa_cons (qv 2) qa_nil))) (qa_cons (q_lst qa_nil) qa_nil))))))
      (qss_cons (qs_asg (q_meth0 M_Ground_fresh_rises hr (by decide) hgd (qv 4)) (qg_tupG rfl rfl (qgs_cons (qg_name (i := 5) sc_ground_of.nd rfl (by first | exact Or.inl rfl | exact Or.inr rfl)) (qgs_cons (qg_name (i := 6) sc_ground_of.nd rfl (by first | exact Or.inl rfl | exact Or.inr rfl)) qgs_nil))))
      (qss_cons (qs_while PassesOwn.never (qt_tru rfl (qv 5)) (qss_cons (qs_set (i := 7) sc_ground_of.nd rfl (by first | exact Or.inl rfl | exact Or.inr rfl) (q_callB ((call_max2 rfl).or (cr_max rfl)) (s_max rfl) (by rfl) T.b_max bt_max (qa_cons qc_int (qa_cons (q_meth M_Ground_lowering hr (by decide) hgd (qv 4) (qa_cons (qv 6) qa_nil)) qa_nil))))
      (qss_cons (qs_set (i := 8) sc_ground_of.nd rfl (by first | exact Or.inl rfl | exact Or.inr rfl) (q_add (q_lc (own := [("at", 15), ("way", 16), ("amount", 17)]) (E2 := E0) rfl sc_ground_of.nd (qi_any rfl (q_fld rfl F_Ground (by decide) (qv 4))) (blkOk_by (N := N_ground_of) (sc := (defScope s_ground_of)) (by decide +kernel)) (fun _ _ _ _ _ => by exact (qg_tupG rfl rfl (qgs_cons (qg_name (i := 15) sc_ground_of.nd rfl (by first | exact Or.inl rfl | exact Or.inr rfl)) (qgs_cons (qg_name (i := 16) sc_ground_of.nd rfl (by first | exact Or.inl rfl | exact Or.inr rfl)) (qgs_cons (qg_name (i := 17) sc_ground_of.nd rfl (by first | exact Or.inl rfl | exact Or.inr rfl)) qgs_nil))))) (fun _ _ _ _ _ => qts_nil) (fun _ _ _ _ _ => (q_tup (qa_cons (qv 15) (qa_cons (qv 16) (qa_cons (q_mul (qv 7) (qv 17)) qa_nil)))))) (qv 6)))
      (qss_cons (qs_setLc (i := 9) (own := [("index", 13), ("can", 14)]) (E2 := E0) rfl sc_ground_of.nd rfl rfl (sw_true rfl rfl rfl (by decide +kernel)) (qi_enum rfl (by rfl) T.b_enumerate (qa_cons (q_fld rfl F_Ground (by decide) (qv 4)) qa_nil)) (blkOk_by (N := N_ground_of) (sc := (defScope s_ground_of)) (by decide +kernel)) (fun _ _ _ _ _ => by exact (qg_tupG rfl rfl (qgs_cons (qg_name (i := 13) sc_ground_of.nd rfl (by first | exact Or.inl rfl | exact Or.inr rfl)) (qgs_cons (qg_name (i := 14) sc_ground_of.nd rfl (by first | exact Or.inl rfl | exact Or.inr rfl)) qgs_nil)))) (fun _ _ _ _ _ => qts_nil) (fun _ _ _ _ _ => (q_or (qv 14) (q_one (q_cmp ((op_in_sign.or op_in_seq).or (op_inP (G := G) rfl hr)) (s_inD rfl) (qv 13) (qv 5) (by rfl))))))
      (qss_cons (qs_set (i := 4) sc_ground_of.nd rfl (by first | exact Or.inl rfl | exact Or.inr rfl) (q_make K_Ground hr (by decide) hgd (by rfl) (qa_cons (qv 1) (qa_cons (qv 3) (qa_cons (qv 9) (qa_cons (qv 8) qa_nil))))))
      (qss_one (qs_asg (q_meth0 M_Ground_fresh_rises hr (by decide) hgd (qv 4)) (qg_tupG rfl rfl (qgs_cons (qg_name (i := 5) sc_ground_of.nd rfl (by first | exact Or.inl rfl | exact Or.inr rfl)) (qgs_cons (qg_name (i := 6) sc_ground_of.nd rfl (by first | exact Or.inl rfl | exact Or.inr rfl)) qgs_nil))))))))))
      (qss_one (qs_ret (qv 4)))))))))
theorem w_ground_of {f : Addr} {fd : FuncData} (F : Fun K "ground_of" "ground_of" s_ground_of f fd) (m : mg "ground_of" = some (.ref f)) (T : Tx mg) (hsb : ∃ mm, base.Ns sysModules mm) (P_Plan_kinds : PrB P w K mg base ⟨K, CA⟩ 0 "kinds" 1 c_Plan_kinds) (P_Plan_checks : PrB P w K mg base ⟨K, CA⟩ 0 "checks" 1 c_Plan_checks) (C_value_of : Cal P w K mg base ⟨K, CA⟩ "value_of" 1 2 c_value_of) (K_Ground : MkB P w K mg base ⟨K, CA⟩ "Ground" 1 3 4 c_Ground___init__) (M_Ground_fresh_rises : MeB P w K mg base ⟨K, CA⟩ 1 "fresh_rises" 4 0 c_Ground_fresh_rises) (M_Ground_lowering : MeB P w K mg base ⟨K, CA⟩ 1 "lowering" 1 1 c_Ground_lowering) (F_Ground : ClsF K (CA 1) ["tables", "gains", "risen", "base", "ways", "places"]) : Cal P w K mg base ⟨K, CA⟩ "ground_of" 5 1 c_ground_of :=
  cal_of F sc_ground_of m (F.binds fun _ _ _ _ _ _ us hl => match us, hl with | [_], _ => rfl) rfl rfl rfl (b_ground_of T hsb P_Plan_kinds P_Plan_checks C_value_of K_Ground M_Ground_fresh_rises M_Ground_lowering F_Ground)
abbrev s_open_states : Stmt := top 29
abbrev N_open_states : List Str := ["plan", "ground", "at", "state"]
theorem sc_open_states : FnScope N_open_states ["plan"] (defScope s_open_states) := ⟨rfl, rfl, rfl, by decide +kernel, rfl, by decide +kernel, by decide +kernel⟩
theorem b_open_states (T : Tx mg) (hsb : ∃ mm, base.Ns sysModules mm) (C_ground_of : Cal P w K mg base ⟨K, CA⟩ "ground_of" 5 1 c_ground_of) (F_Ground : ClsF K (CA 1) ["tables", "gains", "risen", "base", "ways", "places"]) {f : Addr} (cdv : Value) (A : Around) (outer : List Env) (s : Shared) (H : Hp) (E : XK) (hr : Room 5 (A.deeper (PyProof.Rows.envOfC "open_states" (defScope s_open_states) s.heap.objs.size f cdv))) (hgd : A.guards = some []) :
    PSs (cxOf CX0 P w K mg base N_open_states "open_states" (defScope s_open_states) f cdv A outer s H E).nox (defBody s_open_states) (tS ⟨K, CA⟩ E0 m_open_states) := by
  let G : Sig := ⟨K, CA⟩
  exact (qss_cons (qs_set (i := 1) sc_open_states.nd rfl (by first | exact Or.inl rfl | exact Or.inr rfl) (q_cal C_ground_of hr (by decide) hgd (by rfl) (qa_cons (qv 0) qa_nil)))
      (qss_one (qs_ret (q_lcC (own := [("at", 2), ("state", 3)]) (E2 := E0) rfl sc_open_states.nd (qi_any rfl (q_fld rfl F_Ground (by decide) (qv 1))) (blkOk_by (N := N_open_states) (sc := (defScope s_open_states)) (by decide +kernel)) (fun _ _ _ _ _ => by exact (qg_tupG rfl rfl (qgs_cons (qg_name (i := 2) sc_open_states.nd rfl (by first | exact Or.inl rfl | exact Or.inr rfl)) (qgs_cons (qg_name (i := 3) sc_open_states.nd rfl (by first | exact Or.inl rfl | exact Or.inr rfl)) qgs_nil)))) (fun _ _ _ _ _ => qts_nil) (fun _ _ _ _ _ => (q_tup (qa_cons (q_ix ix_seq (s_ix rfl) (q_ix ix_seq (s_ix rfl) (q_fld rfl F_Ground (by decide) (qv 1)) (qv 2)) qc_int) (qa_cons (qv 3) qa_nil))))))))
theorem w_open_states {f : Addr} {fd : FuncData} (F : Fun K "open_states" "open_states" s_open_states f fd) (m : mg "open_states" = some (.ref f)) (T : Tx mg) (hsb : ∃ mm, base.Ns sysModules mm) (C_ground_of : Cal P w K mg base ⟨K, CA⟩ "ground_of" 5 1 c_ground_of) (F_Ground : ClsF K (CA 1) ["tables", "gains", "risen", "base", "ways", "places"]) : Cal P w K mg base ⟨K, CA⟩ "open_states" 6 1 c_open_states :=
  cal_of F sc_open_states m (F.binds fun _ _ _ _ _ _ us hl => match us, hl with | [_], _ => rfl) rfl rfl rfl (b_open_states T hsb C_ground_of F_Ground)
abbrev s_open_steps : Stmt := top 30
abbrev N_open_steps : List Str := ["plan", "ground", "result", "at", "gains", "kind", "states", "steps", "name", "start", "end"]
theorem sc_open_steps : FnScope N_open_steps ["plan"] (defScope s_open_steps) := ⟨rfl, rfl, rfl, by decide +kernel, rfl, by decide +kernel, by decide +kernel⟩
theorem b_open_steps (T : Tx mg) (hsb : ∃ mm, base.Ns sysModules mm) (C_ground_of : Cal P w K mg base ⟨K, CA⟩ "ground_of" 5 1 c_ground_of) (F_Ground : ClsF K (CA 1) ["tables", "gains", "risen", "base", "ways", "places"]) (C_is_barred : Cal P w K mg base ⟨K, CA⟩ "is_barred" 1 3 c_is_barred) {f : Addr} (cdv : Value) (A : Around) (outer : List Env) (s : Shared) (H : Hp) (E : XK) (hr : Room 5 (A.deeper (PyProof.Rows.envOfC "open_steps" (defScope s_open_steps) s.heap.objs.size f cdv))) (hgd : A.guards = some []) :
    PSs (cxOf CX0 P w K mg base N_open_steps "open_steps" (defScope s_open_steps) f cdv A outer s H E).nox (defBody s_open_steps) (tS ⟨K, CA⟩ E0 m_open_steps) := by
  let G : Sig := ⟨K, CA⟩
  exact (qss_cons (qs_set (i := 1) sc_open_steps.nd rfl (by first | exact Or.inl rfl | exact Or.inr rfl) (q_cal C_ground_of hr (by decide) hgd (by rfl) (qa_cons (qv 0) qa_nil)))
      (qss_cons (qs_set (i := 2) sc_open_steps.nd rfl (by first | exact Or.inl rfl | exact Or.inr rfl) (q_lstC qa_nil))
      (qss_cons (qs_for PassesOwn.never rfl (qi_enum rfl (by rfl) T.b_enumerate (qa_cons (q_fld rfl F_Ground (by decide) (qv 1)) qa_nil)) (qg_tupG rfl rfl (qgs_cons (qg_name (i := 3) sc_open_steps.nd rfl (by first | exact Or.inl rfl | exact Or.inr rfl)) (qgs_cons (qg_tupG rfl rfl (qgs_cons (qg_name (i := 5) sc_open_steps.nd rfl (by first | exact Or.inl rfl | exact Or.inr rfl)) (qgs_cons (qg_name (i := 6) sc_open_steps.nd rfl (by first | exact Or.inl rfl | exact Or.inr rfl)) (qgs_cons (qg_name (i := 7) sc_open_steps.nd rfl (by first | exact Or.inl rfl | exact Or.inr rfl)) qgs_nil)))) qgs_nil))) (qss_cons (qs_set (i := 4) sc_open_steps.nd rfl (by first | exact Or.inl rfl | exact Or.inr rfl) (q_ix ix_seq (s_ix rfl) (q_fld rfl F_Ground (by decide) (qv 1)) (qv 3)))
      (qss_one (qs_for PassesOwn.never rfl (qi_any rfl (qv 7)) (qg_tupG rfl rfl (qgs_cons (qg_name (i := 8) sc_open_steps.nd rfl (by first | exact Or.inl rfl | exact Or.inr rfl)) (qgs_cons (qg_name (i := 9) sc_open_steps.nd rfl (by first | exact Or.inl rfl | exact Or.inr rfl)) (qgs_cons (qg_name (i := 10) sc_open_steps.nd rfl (by first | exact Or.inl rfl | exact Or.inr rfl)) qgs_nil)))) (qss_one (qs_if (qt_pw (qw_and (qt_cmp (PV.OpR.or ((op_in_sign.or op_in_seq).or (op_inP (G := G) rfl hr)) (op_din hr)) (s_inX (s_inD rfl)) (qv 9) (q_ix ix_seq (s_ix rfl) (q_fld rfl F_Ground (by decide) (qv 1)) (qv 3)) (by rfl)) (qw_and1 (qt_not (qt_tru rfl (q_cal C_is_barred hr (by decide) hgd (by rfl) (qa_cons (q_ix ix_seq (s_ix rfl) (qv 4) (qv 9)) (qa_cons (q_ix ix_seq (s_ix rfl) (qv 4) (qv 10)) (qa_cons (q_fld rfl F_Ground (by decide) (qv 1)) qa_nil))))))))) (qss_one (qs_expr (q_bm rfl PySem.F.plainAttrs_list PySem.F.slot_list_append PySem.F.type_list_append mt_append tyLst s_append (qv 2) (qa_cons (q_tup (qa_cons (qv 5) (qa_cons (qv 8) (qa_cons (qv 9) qa_nil)))) qa_nil)))) qss_nil))))))
      (qss_one (qs_ret (qv 2))))))
theorem w_open_steps {f : Addr} {fd : FuncData} (F : Fun K "open_steps" "open_steps" s_open_steps f fd) (m : mg "open_steps" = some (.ref f)) (T : Tx mg) (hsb : ∃ mm, base.Ns sysModules mm) (C_ground_of : Cal P w K mg base ⟨K, CA⟩ "ground_of" 5 1 c_ground_of) (F_Ground : ClsF K (CA 1) ["tables", "gains", "risen", "base", "ways", "places"]) (C_is_barred : Cal P w K mg base ⟨K, CA⟩ "is_barred" 1 3 c_is_barred) : Cal P w K mg base ⟨K, CA⟩ "open_steps" 6 1 c_open_steps :=
  cal_of F sc_open_steps m (F.binds fun _ _ _ _ _ _ us hl => match us, hl with | [_], _ => rfl) rfl rfl rfl (b_open_steps T hsb C_ground_of F_Ground C_is_barred)
abbrev s__law_is_int : Stmt := top 37
abbrev N__law_is_int : List Str := ["given"]
theorem sc__law_is_int : FnScope N__law_is_int ["given"] (defScope s__law_is_int) := ⟨rfl, rfl, rfl, by decide +kernel, rfl, by decide +kernel, by decide +kernel⟩
theorem b__law_is_int (T : Tx mg) (hsb : ∃ mm, base.Ns sysModules mm)  {f : Addr} (cdv : Value) (A : Around) (outer : List Env) (s : Shared) (H : Hp) (E : XK) (hr : Room 0 (A.deeper (PyProof.Rows.envOfC "_law_is_int" (defScope s__law_is_int) s.heap.objs.size f cdv))) (hgd : A.guards = some []) :
    PSs (cxOf CX0 P w K mg base N__law_is_int "_law_is_int" (defScope s__law_is_int) f cdv A outer s H E).nox (defBody s__law_is_int) (tS ⟨K, CA⟩ E0 m__law_is_int) := by
  let G : Sig := ⟨K, CA⟩
  exact (qss_one (qs_ret (q_and (q_isT (by rfl) T.b_int (by decide +kernel) (by rfl) T.b_isinstance (qv 0)) (q_one (q_not (q_isT (by rfl) T.b_bool (by decide +kernel) (by rfl) T.b_isinstance (qv 0)))))))
theorem w__law_is_int {f : Addr} {fd : FuncData} (F : Fun K "_law_is_int" "_law_is_int" s__law_is_int f fd) (m : mg "_law_is_int" = some (.ref f)) (T : Tx mg) (hsb : ∃ mm, base.Ns sysModules mm)  : Cal P w K mg base ⟨K, CA⟩ "_law_is_int" 1 1 c__law_is_int :=
  cal_of F sc__law_is_int m (F.binds fun _ _ _ _ _ _ us hl => match us, hl with | [_], _ => rfl) rfl rfl rfl (b__law_is_int T hsb )
abbrev s_law : Stmt := top 47
abbrev N_law : List Str := ["script", "source", "data", "made", "places", "deeds_due", "k", "label", "spots", "steps", "reached", "first", "second", "spot", "step", "place"]
theorem sc_law : FnScope N_law ["script"] (defScope s_law) := ⟨rfl, rfl, rfl, by decide +kernel, rfl, by decide +kernel, by decide +kernel⟩
theorem b_law (T : Tx mg) (hsb : ∃ mm, base.Ns sysModules mm) (C__law_source : Cal P w K mg base ⟨K, CA⟩ "_law_source" 1 1 c__law_source) (C__law_free : Cal P w K mg base ⟨K, CA⟩ "_law_free" 4 2 c__law_free) (C__law_plan : Cal P w K mg base ⟨K, CA⟩ "_law_plan" 6 1 c__law_plan) (C__law_reached : Cal P w K mg base ⟨K, CA⟩ "_law_reached" 1 2 c__law_reached) (C__law_draw : Cal P w K mg base ⟨K, CA⟩ "_law_draw" 1 2 c__law_draw) (C_open_states : Cal P w K mg base ⟨K, CA⟩ "open_states" 6 1 c_open_states) (C_open_steps : Cal P w K mg base ⟨K, CA⟩ "open_steps" 6 1 c_open_steps) (C__law_is_int : Cal P w K mg base ⟨K, CA⟩ "_law_is_int" 1 1 c__law_is_int) {f : Addr} (cdv : Value) (A : Around) (outer : List Env) (s : Shared) (H : Hp) (E : XK) (hr : Room 6 (A.deeper (PyProof.Rows.envOfC "law" (defScope s_law) s.heap.objs.size f cdv))) (hgd : A.guards = some []) :
    PSs (cxOf CX0 P w K mg base N_law "law" (defScope s_law) f cdv A outer s H E).nox (defBody s_law) (tS ⟨K, CA⟩ E0 m_law) := by
  let G : Sig := ⟨K, CA⟩
  exact (qss_cons (qs_set (i := 1) sc_law.nd rfl (by first | exact Or.inl rfl | exact Or.inr rfl) (q_cal C__law_source hr (by decide) hgd (by rfl) (qa_cons (qv 0) qa_nil)))
      (qss_cons (qs_set (i := 2) sc_law.nd rfl (by first | exact Or.inl rfl | exact Or.inr rfl) (q_cal C__law_free hr (by decide) hgd (by rfl) (qa_cons (qv 1) (qa_cons qc_int qa_nil))))
      (qss_cons (qs_set (i := 3) sc_law.nd rfl (by first | exact Or.inl rfl | exact Or.inr rfl) (q_cal C__law_plan hr (by decide) hgd (by rfl) (qa_cons (qv 2) qa_nil)))
      (qss_cons (qs_set (i := 4) sc_law.nd rfl (by first | exact Or.inl rfl | exact Or.inr rfl) (q_lstC qa_nil))
      (qss_cons (qs_set (i := 5) sc_law.nd rfl (by first | exact Or.inl rfl | exact Or.inr rfl) (q_lstC qa_nil))
      (qss_cons (qs_for PassesOwn.never rfl (qi_any rfl (q_ix ix_seq (s_ix rfl) (qv 2) qc_int)) (qg_tupG rfl rfl (qgs_cons (qg_name (i := 7) sc_law.nd rfl (by first | exact Or.inl rfl | exact Or.inr rfl)) (qgs_cons (qg_name (i := 8) sc_law.nd rfl (by first | exact Or.inl rfl | exact Or.inr rfl)) (qgs_cons (qg_name (i := 9) sc_law.nd rfl (by first | exact Or.inl rfl | exact Or.inr rfl)) qgs_nil)))) (qss_cons (qs_set (i := 10) sc_law.nd rfl (by first | exact Or.inl rfl | exact Or.inr rfl) (q_cal C__law_reached hr (by decide) hgd (by rfl) (qa_cons (qv 8) (qa_cons (qv 9) qa_nil))))
      (qss_cons (qs_expr (q_bm rfl PySem.F.plainAttrs_list PySem.F.slot_list_extend PySem.F.type_list_extend mt_extend tyLst s_ext (qv 4) (qa_cons (q_lc (own := [("spot", 13)]) (E2 := E0) rfl sc_law.nd (qi_any rfl (qv 10)) (blkOk_by (N := N_law) (sc := (defScope s_law)) (by decide +kernel)) (fun _ _ _ _ _ => by exact (qg_name (i := 13) sc_law.nd rfl (by first | exact Or.inl rfl | exact Or.inr rfl))) (fun _ _ _ _ _ => qts_nil) (fun _ _ _ _ _ => (q_tup (qa_cons (qv 7) (qa_cons (qv 13) qa_nil))))) qa_nil)))
      (qss_one (qs_expr (q_bm rfl PySem.F.plainAttrs_list PySem.F.slot_list_extend PySem.F.type_list_extend mt_extend tyLst s_ext (qv 5) (qa_cons (q_lc (own := [("step", 14)]) (E2 := E0) rfl sc_law.nd (qi_any rfl (qv 9)) (blkOk_by (N := N_law) (sc := (defScope s_law)) (by decide +kernel)) (fun _ _ _ _ _ => by exact (qg_name (i := 14) sc_law.nd rfl (by first | exact Or.inl rfl | exact Or.inr rfl))) (fun _ _ _ _ _ => (qts_one (qt_cmp ((op_in_sign.or op_in_seq).or (op_inP (G := G) rfl hr)) (s_inD rfl) (q_ix ix_seq (s_ix rfl) (qv 14) qc_int) (qv 10) (by rfl)))) (fun _ _ _ _ _ => (q_tup (qa_cons (qv 7) (qa_cons (q_ix ix_seq (s_ix rfl) (qv 14) qc_int) (qa_cons (q_ix ix_seq (s_ix rfl) (qv 14) qc_int) qa_nil)))))) qa_nil)))))))
      (qss_cons (qs_for PassesOwn.never rfl (qi_range1 (by rfl) T.b_range (qa_cons qc_int qa_nil)) (qg_name (i := 6) sc_law.nd rfl (by first | exact Or.inl rfl | exact Or.inr rfl)) (qss_cons (qs_if (qt_cmp (op_eq.or (op_eqA (G := G) rfl hr)) s_eq (q_cal C__law_draw hr (by decide) hgd (by rfl) (qa_cons (qv 1) (qa_cons qc_int qa_nil))) qc_int (nomark _)) (qss_cons (qs_set (i := 11) sc_law.nd rfl (by first | exact Or.inl rfl | exact Or.inr rfl) (q_cal C_open_states hr (by decide) hgd (by rfl) (qa_cons (qv 3) qa_nil)))
      (qss_one (qs_set (i := 12) sc_law.nd rfl (by first | exact Or.inl rfl | exact Or.inr rfl) (q_cal C_open_steps hr (by decide) hgd (by rfl) (qa_cons (qv 3) qa_nil))))) (qss_cons (qs_set (i := 12) sc_law.nd rfl (by first | exact Or.inl rfl | exact Or.inr rfl) (q_cal C_open_steps hr (by decide) hgd (by rfl) (qa_cons (qv 3) qa_nil)))
      (qss_one (qs_set (i := 11) sc_law.nd rfl (by first | exact Or.inl rfl | exact Or.inr rfl) (q_cal C_open_states hr (by decide) hgd (by rfl) (qa_cons (qv 3) qa_nil))))))
      (qss_cons (qs_if (qt_pw (qw_or (qt_not (qt_tru rfl (q_isT (by rfl) T.b_list (by decide +kernel) (by rfl) T.b_isinstance (qv 11)))) (qw_or1 (qt_not (qt_tru rfl (q_isT (by rfl) T.b_list (by decide +kernel) (by rfl) T.b_isinstance (qv 12))))))) (qss_one (qs_ret qc_bl)) qss_nil)
      (qss_cons (qs_if (qt_pw (qw_or (qt_cmp (op_ne.or (op_neA (G := G) rfl hr)) s_ne (qv 11) (qv 4) (nomark _)) (qw_or1 (qt_cmp (op_ne.or (op_neA (G := G) rfl hr)) s_ne (qv 12) (qv 5) (nomark _))))) (qss_one (qs_ret qc_bl)) qss_nil)
      (qss_cons (qs_if (qt_not (qt_tru rfl (q_callB (cr_all rfl) (s_all rfl) (by rfl) T.b_all bt_all (qa_cons (q_lc (own := [("place", 15)]) (E2 := E0) rfl sc_law.nd (qi_any rfl (qv 11)) (blkOk_by (N := N_law) (sc := (defScope s_law)) (by decide +kernel)) (fun _ _ _ _ _ => by exact (qg_name (i := 15) sc_law.nd rfl (by first | exact Or.inl rfl | exact Or.inr rfl))) (fun _ _ _ _ _ => qts_nil) (fun _ _ _ _ _ => (q_cal C__law_is_int hr (by decide) hgd (by rfl) (qa_cons (q_ix ix_seq (s_ix rfl) (qv 15) qc_int) qa_nil)))) qa_nil)))) (qss_one (qs_ret qc_bl)) qss_nil)
      (qss_cons (qs_if (qt_not (qt_tru rfl (q_callB (cr_all rfl) (s_all rfl) (by rfl) T.b_all bt_all (qa_cons (q_lc (own := [("step", 14)]) (E2 := E0) rfl sc_law.nd (qi_any rfl (qv 12)) (blkOk_by (N := N_law) (sc := (defScope s_law)) (by decide +kernel)) (fun _ _ _ _ _ => by exact (qg_name (i := 14) sc_law.nd rfl (by first | exact Or.inl rfl | exact Or.inr rfl))) (fun _ _ _ _ _ => qts_nil) (fun _ _ _ _ _ => (q_cal C__law_is_int hr (by decide) hgd (by rfl) (qa_cons (q_ix ix_seq (s_ix rfl) (qv 14) qc_int) qa_nil)))) qa_nil)))) (qss_one (qs_ret qc_bl)) qss_nil)
      (qss_cons (qs_expr (q_bm rfl PySem.F.plainAttrs_list PySem.F.slot_list_append PySem.F.type_list_append mt_append tyLst s_append (qv 11) (qa_cons (q_tup (qa_cons qc_str (qa_cons qc_int qa_nil))) qa_nil)))
      (qss_one (qs_expr (q_clear (q_bm0 rfl PySem.F.plainAttrs_list PySem.F.slot_list_clear PySem.F.type_list_clear mt_clear tyLst s_clear (qv 12)) (q_bm0 rfl PySem.F.plainAttrs_dict PySem.F.slot_dict_clear PySem.F.type_dict_clear mtd_clear tyDic s_dclear (qv 12))))))))))))
      (qss_one (qs_ret qc_bl)))))))))
theorem wF_law {f : Addr} {fd : FuncData} (F : Fun K "law" "law" s_law f fd) (T : Tx mg) (hsb : ∃ mm, base.Ns sysModules mm) (C__law_source : Cal P w K mg base ⟨K, CA⟩ "_law_source" 1 1 c__law_source) (C__law_free : Cal P w K mg base ⟨K, CA⟩ "_law_free" 4 2 c__law_free) (C__law_plan : Cal P w K mg base ⟨K, CA⟩ "_law_plan" 6 1 c__law_plan) (C__law_reached : Cal P w K mg base ⟨K, CA⟩ "_law_reached" 1 2 c__law_reached) (C__law_draw : Cal P w K mg base ⟨K, CA⟩ "_law_draw" 1 2 c__law_draw) (C_open_states : Cal P w K mg base ⟨K, CA⟩ "open_states" 6 1 c_open_states) (C_open_steps : Cal P w K mg base ⟨K, CA⟩ "open_steps" 6 1 c_open_steps) (C__law_is_int : Cal P w K mg base ⟨K, CA⟩ "_law_is_int" 1 1 c__law_is_int) : FnG P w K mg base CX0 7 f fd ["script"] (spI ⟨K, CA⟩ 1 c_law) :=
  fnG_by F sc_law rfl rfl rfl (b_law T hsb C__law_source C__law_free C__law_plan C__law_reached C__law_draw C_open_states C_open_steps C__law_is_int)
end
end Lw

set_option Elab.async false
set_option linter.all false
set_option maxRecDepth 100000
set_option maxHeartbeats 4000000
namespace Lw
open PySem L2 PV
open PyProof.Rows
theorem all_mk {l : PySem.W.OpenLaw} {w : World} {K : PySem.W.Frag} {h : Heap} {mg : Str → Option Value} {fa : Addr} (X : K.In h) (G : h.Ns mainGlobals mg) (hfa : mg "law" = some (.ref fa))
    {f0 f1 f2 f3 f4 f5 f6 f7 f8 f9 f10 f11 f12 f13 f14 f15 f16 f17 f18 f19 f20 f21 f22 f23 f24 f25 f26 f27 f28 f29 f30 f31 f32 f33 f34 f35 q15 q16 C0 C1 : Addr} {od0 an0 : Option Addr} {sl0 : Array (Option Value)} {oc0 kV0 dc0 pm0 cd0 ct0 : Value} {od1 an1 : Option Addr} {sl1 : Array (Option Value)} {oc1 kV1 dc1 pm1 cd1 ct1 : Value} {od2 an2 : Option Addr} {sl2 : Array (Option Value)} {oc2 kV2 dc2 pm2 cd2 ct2 : Value} {od3 an3 : Option Addr} {sl3 : Array (Option Value)} {oc3 kV3 dc3 pm3 cd3 ct3 : Value} {od4 an4 : Option Addr} {sl4 : Array (Option Value)} {oc4 kV4 dc4 pm4 cd4 ct4 : Value} {od5 an5 : Option Addr} {sl5 : Array (Option Value)} {oc5 kV5 dc5 pm5 cd5 ct5 : Value} {od6 an6 : Option Addr} {sl6 : Array (Option Value)} {oc6 kV6 dc6 pm6 cd6 ct6 : Value} {od7 an7 : Option Addr} {sl7 : Array (Option Value)} {oc7 kV7 dc7 pm7 cd7 ct7 : Value} {od8 an8 : Option Addr} {sl8 : Array (Option Value)} {oc8 kV8 dc8 pm8 cd8 ct8 : Value} {od9 an9 : Option Addr} {sl9 : Array (Option Value)} {oc9 kV9 dc9 pm9 cd9 ct9 : Value} {od10 an10 : Option Addr} {sl10 : Array (Option Value)} {oc10 kV10 dc10 pm10 cd10 ct10 : Value} {od11 an11 : Option Addr} {sl11 : Array (Option Value)} {oc11 kV11 dc11 pm11 cd11 ct11 : Value} {od12 an12 : Option Addr} {sl12 : Array (Option Value)} {oc12 kV12 dc12 pm12 cd12 ct12 : Value} {od13 an13 : Option Addr} {sl13 : Array (Option Value)} {oc13 kV13 dc13 pm13 cd13 ct13 : Value} {od14 an14 : Option Addr} {sl14 : Array (Option Value)} {oc14 kV14 dc14 pm14 cd14 ct14 : Value} {od15 an15 : Option Addr} {sl15 : Array (Option Value)} {oc15 kV15 dc15 pm15 cd15 ct15 : Value} {rs15 : List Value} {od16 an16 : Option Addr} {sl16 : Array (Option Value)} {oc16 kV16 dc16 pm16 cd16 ct16 : Value} {rs16 : List Value} {od17 an17 : Option Addr} {sl17 : Array (Option Value)} {oc17 kV17 dc17 pm17 cd17 ct17 : Value} {od18 an18 : Option Addr} {sl18 : Array (Option Value)} {oc18 kV18 dc18 pm18 cd18 ct18 : Value} {od19 an19 : Option Addr} {sl19 : Array (Option Value)} {oc19 kV19 dc19 pm19 cd19 ct19 : Value} {od20 an20 : Option Addr} {sl20 : Array (Option Value)} {oc20 kV20 dc20 pm20 cd20 ct20 : Value} {od21 an21 : Option Addr} {sl21 : Array (Option Value)} {oc21 kV21 dc21 pm21 cd21 ct21 : Value} {od22 an22 : Option Addr} {sl22 : Array (Option Value)} {oc22 kV22 dc22 pm22 cd22 ct22 : Value} {od23 an23 : Option Addr} {sl23 : Array (Option Value)} {oc23 kV23 dc23 pm23 cd23 ct23 : Value} {od24 an24 : Option Addr} {sl24 : Array (Option Value)} {oc24 kV24 dc24 pm24 cd24 ct24 : Value} {od25 an25 : Option Addr} {sl25 : Array (Option Value)} {oc25 kV25 dc25 pm25 cd25 ct25 : Value} {od26 an26 : Option Addr} {sl26 : Array (Option Value)} {oc26 kV26 dc26 pm26 cd26 ct26 : Value} {od27 an27 : Option Addr} {sl27 : Array (Option Value)} {oc27 kV27 dc27 pm27 cd27 ct27 : Value} {od28 an28 : Option Addr} {sl28 : Array (Option Value)} {oc28 kV28 dc28 pm28 cd28 ct28 : Value} {od29 an29 : Option Addr} {sl29 : Array (Option Value)} {oc29 kV29 dc29 pm29 cd29 ct29 : Value} {od30 an30 : Option Addr} {sl30 : Array (Option Value)} {oc30 kV30 dc30 pm30 cd30 ct30 : Value} {od31 an31 : Option Addr} {sl31 : Array (Option Value)} {oc31 kV31 dc31 pm31 cd31 ct31 : Value} {od32 an32 : Option Addr} {sl32 : Array (Option Value)} {oc32 kV32 dc32 pm32 cd32 ct32 : Value} {od33 an33 : Option Addr} {sl33 : Array (Option Value)} {oc33 kV33 dc33 pm33 cd33 ct33 : Value} {od34 an34 : Option Addr} {sl34 : Array (Option Value)} {oc34 kV34 dc34 pm34 cd34 ct34 : Value} {od35 an35 : Option Addr} {sl35 : Array (Option Value)} {oc35 kV35 dc35 pm35 cd35 ct35 : Value}
    (aC0 : PySem.W.nsIn K mainGlobals "Plan" = some (some (.ref C0)))
    (pg0 : PySem.W.plainGet K C0 Str.empty = true)
    (hd0 : PySem.W.hasDictIn K C0 = true)
    (po0 : PySem.W.plainOver K C0 = true)
    (sa0 : PySem.W.findIn K (.ref C0) "__setattr__" = some (some (.builtin "object.__setattr__")))
    (nf0_0 : PySem.W.findIn K (.ref C0) "column_names" = some none)
    (nf0_1 : PySem.W.findIn K (.ref C0) "kind_rows" = some none)
    (nf0_2 : PySem.W.findIn K (.ref C0) "check_rows" = some none)
    (mk0 : PySem.W.makesIn K C0 = true)
    (kc0 : PySem.W.keepIn K (.ref C0) = true)
    (aC1 : PySem.W.nsIn K mainGlobals "Ground" = some (some (.ref C1)))
    (pg1 : PySem.W.plainGet K C1 Str.empty = true)
    (hd1 : PySem.W.hasDictIn K C1 = true)
    (po1 : PySem.W.plainOver K C1 = true)
    (sa1 : PySem.W.findIn K (.ref C1) "__setattr__" = some (some (.builtin "object.__setattr__")))
    (nf1_0 : PySem.W.findIn K (.ref C1) "tables" = some none)
    (nf1_1 : PySem.W.findIn K (.ref C1) "gains" = some none)
    (nf1_2 : PySem.W.findIn K (.ref C1) "risen" = some none)
    (nf1_3 : PySem.W.findIn K (.ref C1) "base" = some none)
    (nf1_4 : PySem.W.findIn K (.ref C1) "ways" = some none)
    (nf1_5 : PySem.W.findIn K (.ref C1) "places" = some none)
    (mk1 : PySem.W.makesIn K C1 = true)
    (kc1 : PySem.W.keepIn K (.ref C1) = true)
    (a0 : PySem.W.nsIn K mainGlobals "_law_source" = some (some (.ref f0)))
    (l0 : K.lookup f0 = some ⟨oc0, od0, .func (PySem.W.fnOf "_law_source" "_law_source" (defArgs s__law_source) (defBody s__law_source) (defScope s__law_source) .none kV0 dc0 pm0 an0 cd0 ct0), sl0⟩)
    (c0 : PySem.W.codeIn K cd0 "_law_source" = true)
    (k0 : PySem.W.keepIn K (.ref f0) = true)
    (a1 : PySem.W.nsIn K mainGlobals "_law_draw" = some (some (.ref f1)))
    (l1 : K.lookup f1 = some ⟨oc1, od1, .func (PySem.W.fnOf "_law_draw" "_law_draw" (defArgs s__law_draw) (defBody s__law_draw) (defScope s__law_draw) .none kV1 dc1 pm1 an1 cd1 ct1), sl1⟩)
    (c1 : PySem.W.codeIn K cd1 "_law_draw" = true)
    (k1 : PySem.W.keepIn K (.ref f1) = true)
    (a2 : PySem.W.nsIn K mainGlobals "_law_name" = some (some (.ref f2)))
    (l2 : K.lookup f2 = some ⟨oc2, od2, .func (PySem.W.fnOf "_law_name" "_law_name" (defArgs s__law_name) (defBody s__law_name) (defScope s__law_name) .none kV2 dc2 pm2 an2 cd2 ct2), sl2⟩)
    (c2 : PySem.W.codeIn K cd2 "_law_name" = true)
    (k2 : PySem.W.keepIn K (.ref f2) = true)
    (a3 : PySem.W.nsIn K mainGlobals "_law_names" = some (some (.ref f3)))
    (l3 : K.lookup f3 = some ⟨oc3, od3, .func (PySem.W.fnOf "_law_names" "_law_names" (defArgs s__law_names) (defBody s__law_names) (defScope s__law_names) .none kV3 dc3 pm3 an3 cd3 ct3), sl3⟩)
    (c3 : PySem.W.codeIn K cd3 "_law_names" = true)
    (k3 : PySem.W.keepIn K (.ref f3) = true)
    (a4 : PySem.W.nsIn K mainGlobals "_law_counts" = some (some (.ref f4)))
    (l4 : K.lookup f4 = some ⟨oc4, od4, .func (PySem.W.fnOf "_law_counts" "_law_counts" (defArgs s__law_counts) (defBody s__law_counts) (defScope s__law_counts) .none kV4 dc4 pm4 an4 cd4 ct4), sl4⟩)
    (c4 : PySem.W.codeIn K cd4 "_law_counts" = true)
    (k4 : PySem.W.keepIn K (.ref f4) = true)
    (a5 : PySem.W.nsIn K mainGlobals "_law_steps" = some (some (.ref f5)))
    (l5 : K.lookup f5 = some ⟨oc5, od5, .func (PySem.W.fnOf "_law_steps" "_law_steps" (defArgs s__law_steps) (defBody s__law_steps) (defScope s__law_steps) .none kV5 dc5 pm5 an5 cd5 ct5), sl5⟩)
    (c5 : PySem.W.codeIn K cd5 "_law_steps" = true)
    (k5 : PySem.W.keepIn K (.ref f5) = true)
    (a6 : PySem.W.nsIn K mainGlobals "_law_free" = some (some (.ref f6)))
    (l6 : K.lookup f6 = some ⟨oc6, od6, .func (PySem.W.fnOf "_law_free" "_law_free" (defArgs s__law_free) (defBody s__law_free) (defScope s__law_free) .none kV6 dc6 pm6 an6 cd6 ct6), sl6⟩)
    (c6 : PySem.W.codeIn K cd6 "_law_free" = true)
    (k6 : PySem.W.keepIn K (.ref f6) = true)
    (a7 : PySem.W.nsIn K mainGlobals "is_name" = some (some (.ref f7)))
    (l7 : K.lookup f7 = some ⟨oc7, od7, .func (PySem.W.fnOf "is_name" "is_name" (defArgs s_is_name) (defBody s_is_name) (defScope s_is_name) .none kV7 dc7 pm7 an7 cd7 ct7), sl7⟩)
    (c7 : PySem.W.codeIn K cd7 "is_name" = true)
    (k7 : PySem.W.keepIn K (.ref f7) = true)
    (a8 : PySem.W.nsIn K mainGlobals "look_at_columns" = some (some (.ref f8)))
    (l8 : K.lookup f8 = some ⟨oc8, od8, .func (PySem.W.fnOf "look_at_columns" "look_at_columns" (defArgs s_look_at_columns) (defBody s_look_at_columns) (defScope s_look_at_columns) .none kV8 dc8 pm8 an8 cd8 ct8), sl8⟩)
    (c8 : PySem.W.codeIn K cd8 "look_at_columns" = true)
    (k8 : PySem.W.keepIn K (.ref f8) = true)
    (a9 : PySem.W.nsIn K mainGlobals "look_at_steps" = some (some (.ref f9)))
    (l9 : K.lookup f9 = some ⟨oc9, od9, .func (PySem.W.fnOf "look_at_steps" "look_at_steps" (defArgs s_look_at_steps) (defBody s_look_at_steps) (defScope s_look_at_steps) .none kV9 dc9 pm9 an9 cd9 ct9), sl9⟩)
    (c9 : PySem.W.codeIn K cd9 "look_at_steps" = true)
    (k9 : PySem.W.keepIn K (.ref f9) = true)
    (a10 : PySem.W.nsIn K mainGlobals "factors_of" = some (some (.ref f10)))
    (l10 : K.lookup f10 = some ⟨oc10, od10, .func (PySem.W.fnOf "factors_of" "factors_of" (defArgs s_factors_of) (defBody s_factors_of) (defScope s_factors_of) .none kV10 dc10 pm10 an10 cd10 ct10), sl10⟩)
    (c10 : PySem.W.codeIn K cd10 "factors_of" = true)
    (k10 : PySem.W.keepIn K (.ref f10) = true)
    (a11 : PySem.W.nsIn K mainGlobals "kind_rows_of" = some (some (.ref f11)))
    (l11 : K.lookup f11 = some ⟨oc11, od11, .func (PySem.W.fnOf "kind_rows_of" "kind_rows_of" (defArgs s_kind_rows_of) (defBody s_kind_rows_of) (defScope s_kind_rows_of) .none kV11 dc11 pm11 an11 cd11 ct11), sl11⟩)
    (c11 : PySem.W.codeIn K cd11 "kind_rows_of" = true)
    (k11 : PySem.W.keepIn K (.ref f11) = true)
    (a12 : PySem.W.findIn K (.ref C0) "__init__" = some (some (.ref f12)))
    (i12 : PySem.W.isFn K (.ref f12) = true)
    (l12 : K.lookup f12 = some ⟨oc12, od12, .func (PySem.W.fnOf "__init__" "Plan.__init__" (defArgs s_Plan___init__) (defBody s_Plan___init__) (defScope s_Plan___init__) .none kV12 dc12 pm12 an12 cd12 ct12), sl12⟩)
    (c12 : PySem.W.codeIn K cd12 "Plan.__init__" = true)
    (k12 : PySem.W.keepIn K (.ref f12) = true)
    (a13 : PySem.W.nsIn K mainGlobals "_law_plan" = some (some (.ref f13)))
    (l13 : K.lookup f13 = some ⟨oc13, od13, .func (PySem.W.fnOf "_law_plan" "_law_plan" (defArgs s__law_plan) (defBody s__law_plan) (defScope s__law_plan) .none kV13 dc13 pm13 an13 cd13 ct13), sl13⟩)
    (c13 : PySem.W.codeIn K cd13 "_law_plan" = true)
    (k13 : PySem.W.keepIn K (.ref f13) = true)
    (a14 : PySem.W.nsIn K mainGlobals "_law_reached" = some (some (.ref f14)))
    (l14 : K.lookup f14 = some ⟨oc14, od14, .func (PySem.W.fnOf "_law_reached" "_law_reached" (defArgs s__law_reached) (defBody s__law_reached) (defScope s__law_reached) .none kV14 dc14 pm14 an14 cd14 ct14), sl14⟩)
    (c14 : PySem.W.codeIn K cd14 "_law_reached" = true)
    (k14 : PySem.W.keepIn K (.ref f14) = true)
    (a15 : PySem.W.findIn K (.ref C0) "kinds" = some (some (.ref q15)))
    (g15 : PySem.W.specialIn K (.ref q15) "__get__" = some (some (.builtin "property.__get__")))
    (t15 : PySem.W.takesIn K (.ref q15) = some true)
    (r15 : PySem.W.recIn K q15 "property" = some (.ref f15 :: rs15))
    (l15 : K.lookup f15 = some ⟨oc15, od15, .func (PySem.W.fnOf "kinds" "Plan.kinds" (defArgs s_Plan_kinds) (defBody s_Plan_kinds) (defScope s_Plan_kinds) .none kV15 dc15 pm15 an15 cd15 ct15), sl15⟩)
    (c15 : PySem.W.codeIn K cd15 "Plan.kinds" = true)
    (k15 : PySem.W.keepIn K (.ref f15) = true)
    (a16 : PySem.W.findIn K (.ref C0) "checks" = some (some (.ref q16)))
    (g16 : PySem.W.specialIn K (.ref q16) "__get__" = some (some (.builtin "property.__get__")))
    (t16 : PySem.W.takesIn K (.ref q16) = some true)
    (r16 : PySem.W.recIn K q16 "property" = some (.ref f16 :: rs16))
    (l16 : K.lookup f16 = some ⟨oc16, od16, .func (PySem.W.fnOf "checks" "Plan.checks" (defArgs s_Plan_checks) (defBody s_Plan_checks) (defScope s_Plan_checks) .none kV16 dc16 pm16 an16 cd16 ct16), sl16⟩)
    (c16 : PySem.W.codeIn K cd16 "Plan.checks" = true)
    (k16 : PySem.W.keepIn K (.ref f16) = true)
    (a17 : PySem.W.nsIn K mainGlobals "is_barred" = some (some (.ref f17)))
    (l17 : K.lookup f17 = some ⟨oc17, od17, .func (PySem.W.fnOf "is_barred" "is_barred" (defArgs s_is_barred) (defBody s_is_barred) (defScope s_is_barred) .none kV17 dc17 pm17 an17 cd17 ct17), sl17⟩)
    (c17 : PySem.W.codeIn K cd17 "is_barred" = true)
    (k17 : PySem.W.keepIn K (.ref f17) = true)
    (a18 : PySem.W.nsIn K mainGlobals "ways_of" = some (some (.ref f18)))
    (l18 : K.lookup f18 = some ⟨oc18, od18, .func (PySem.W.fnOf "ways_of" "ways_of" (defArgs s_ways_of) (defBody s_ways_of) (defScope s_ways_of) .none kV18 dc18 pm18 an18 cd18 ct18), sl18⟩)
    (c18 : PySem.W.codeIn K cd18 "ways_of" = true)
    (k18 : PySem.W.keepIn K (.ref f18) = true)
    (a19 : PySem.W.findIn K (.ref C1) "__init__" = some (some (.ref f19)))
    (i19 : PySem.W.isFn K (.ref f19) = true)
    (l19 : K.lookup f19 = some ⟨oc19, od19, .func (PySem.W.fnOf "__init__" "Ground.__init__" (defArgs s_Ground___init__) (defBody s_Ground___init__) (defScope s_Ground___init__) .none kV19 dc19 pm19 an19 cd19 ct19), sl19⟩)
    (c19 : PySem.W.codeIn K cd19 "Ground.__init__" = true)
    (k19 : PySem.W.keepIn K (.ref f19) = true)
    (a20 : PySem.W.nsIn K mainGlobals "first_table" = some (some (.ref f20)))
    (l20 : K.lookup f20 = some ⟨oc20, od20, .func (PySem.W.fnOf "first_table" "first_table" (defArgs s_first_table) (defBody s_first_table) (defScope s_first_table) .none kV20 dc20 pm20 an20 cd20 ct20), sl20⟩)
    (c20 : PySem.W.codeIn K cd20 "first_table" = true)
    (k20 : PySem.W.keepIn K (.ref f20) = true)
    (a21 : PySem.W.nsIn K mainGlobals "entering_column" = some (some (.ref f21)))
    (l21 : K.lookup f21 = some ⟨oc21, od21, .func (PySem.W.fnOf "entering_column" "entering_column" (defArgs s_entering_column) (defBody s_entering_column) (defScope s_entering_column) .none kV21 dc21 pm21 an21 cd21 ct21), sl21⟩)
    (c21 : PySem.W.codeIn K cd21 "entering_column" = true)
    (k21 : PySem.W.keepIn K (.ref f21) = true)
    (a22 : PySem.W.nsIn K mainGlobals "leaving_row" = some (some (.ref f22)))
    (l22 : K.lookup f22 = some ⟨oc22, od22, .func (PySem.W.fnOf "leaving_row" "leaving_row" (defArgs s_leaving_row) (defBody s_leaving_row) (defScope s_leaving_row) .none kV22 dc22 pm22 an22 cd22 ct22), sl22⟩)
    (c22 : PySem.W.codeIn K cd22 "leaving_row" = true)
    (k22 : PySem.W.keepIn K (.ref f22) = true)
    (a23 : PySem.W.nsIn K mainGlobals "pivoted" = some (some (.ref f23)))
    (l23 : K.lookup f23 = some ⟨oc23, od23, .func (PySem.W.fnOf "pivoted" "pivoted" (defArgs s_pivoted) (defBody s_pivoted) (defScope s_pivoted) .none kV23 dc23 pm23 an23 cd23 ct23), sl23⟩)
    (c23 : PySem.W.codeIn K cd23 "pivoted" = true)
    (k23 : PySem.W.keepIn K (.ref f23) = true)
    (a24 : PySem.W.nsIn K mainGlobals "ray_of" = some (some (.ref f24)))
    (l24 : K.lookup f24 = some ⟨oc24, od24, .func (PySem.W.fnOf "ray_of" "ray_of" (defArgs s_ray_of) (defBody s_ray_of) (defScope s_ray_of) .none kV24 dc24 pm24 an24 cd24 ct24), sl24⟩)
    (c24 : PySem.W.codeIn K cd24 "ray_of" = true)
    (k24 : PySem.W.keepIn K (.ref f24) = true)
    (a25 : PySem.W.nsIn K mainGlobals "minimize" = some (some (.ref f25)))
    (l25 : K.lookup f25 = some ⟨oc25, od25, .func (PySem.W.fnOf "minimize" "minimize" (defArgs s_minimize) (defBody s_minimize) (defScope s_minimize) .none kV25 dc25 pm25 an25 cd25 ct25), sl25⟩)
    (c25 : PySem.W.codeIn K cd25 "minimize" = true)
    (k25 : PySem.W.keepIn K (.ref f25) = true)
    (a26 : PySem.W.findIn K (.ref C1) "settled" = some (some (.ref f26)))
    (i26 : PySem.W.isFn K (.ref f26) = true)
    (l26 : K.lookup f26 = some ⟨oc26, od26, .func (PySem.W.fnOf "settled" "Ground.settled" (defArgs s_Ground_settled) (defBody s_Ground_settled) (defScope s_Ground_settled) .none kV26 dc26 pm26 an26 cd26 ct26), sl26⟩)
    (c26 : PySem.W.codeIn K cd26 "Ground.settled" = true)
    (k26 : PySem.W.keepIn K (.ref f26) = true)
    (a27 : PySem.W.findIn K (.ref C1) "walkers" = some (some (.ref f27)))
    (i27 : PySem.W.isFn K (.ref f27) = true)
    (l27 : K.lookup f27 = some ⟨oc27, od27, .func (PySem.W.fnOf "walkers" "Ground.walkers" (defArgs s_Ground_walkers) (defBody s_Ground_walkers) (defScope s_Ground_walkers) .none kV27 dc27 pm27 an27 cd27 ct27), sl27⟩)
    (c27 : PySem.W.codeIn K cd27 "Ground.walkers" = true)
    (k27 : PySem.W.keepIn K (.ref f27) = true)
    (a28 : PySem.W.findIn K (.ref C1) "fresh_rises" = some (some (.ref f28)))
    (i28 : PySem.W.isFn K (.ref f28) = true)
    (l28 : K.lookup f28 = some ⟨oc28, od28, .func (PySem.W.fnOf "fresh_rises" "Ground.fresh_rises" (defArgs s_Ground_fresh_rises) (defBody s_Ground_fresh_rises) (defScope s_Ground_fresh_rises) .none kV28 dc28 pm28 an28 cd28 ct28), sl28⟩)
    (c28 : PySem.W.codeIn K cd28 "Ground.fresh_rises" = true)
    (k28 : PySem.W.keepIn K (.ref f28) = true)
    (a29 : PySem.W.findIn K (.ref C1) "lowering" = some (some (.ref f29)))
    (i29 : PySem.W.isFn K (.ref f29) = true)
    (l29 : K.lookup f29 = some ⟨oc29, od29, .func (PySem.W.fnOf "lowering" "Ground.lowering" (defArgs s_Ground_lowering) (defBody s_Ground_lowering) (defScope s_Ground_lowering) .none kV29 dc29 pm29 an29 cd29 ct29), sl29⟩)
    (c29 : PySem.W.codeIn K cd29 "Ground.lowering" = true)
    (k29 : PySem.W.keepIn K (.ref f29) = true)
    (a30 : PySem.W.nsIn K mainGlobals "value_of" = some (some (.ref f30)))
    (l30 : K.lookup f30 = some ⟨oc30, od30, .func (PySem.W.fnOf "value_of" "value_of" (defArgs s_value_of) (defBody s_value_of) (defScope s_value_of) .none kV30 dc30 pm30 an30 cd30 ct30), sl30⟩)
    (c30 : PySem.W.codeIn K cd30 "value_of" = true)
    (k30 : PySem.W.keepIn K (.ref f30) = true)
    (a31 : PySem.W.nsIn K mainGlobals "ground_of" = some (some (.ref f31)))
    (l31 : K.lookup f31 = some ⟨oc31, od31, .func (PySem.W.fnOf "ground_of" "ground_of" (defArgs s_ground_of) (defBody s_ground_of) (defScope s_ground_of) .none kV31 dc31 pm31 an31 cd31 ct31), sl31⟩)
    (c31 : PySem.W.codeIn K cd31 "ground_of" = true)
    (k31 : PySem.W.keepIn K (.ref f31) = true)
    (a32 : PySem.W.nsIn K mainGlobals "open_states" = some (some (.ref f32)))
    (l32 : K.lookup f32 = some ⟨oc32, od32, .func (PySem.W.fnOf "open_states" "open_states" (defArgs s_open_states) (defBody s_open_states) (defScope s_open_states) .none kV32 dc32 pm32 an32 cd32 ct32), sl32⟩)
    (c32 : PySem.W.codeIn K cd32 "open_states" = true)
    (k32 : PySem.W.keepIn K (.ref f32) = true)
    (a33 : PySem.W.nsIn K mainGlobals "open_steps" = some (some (.ref f33)))
    (l33 : K.lookup f33 = some ⟨oc33, od33, .func (PySem.W.fnOf "open_steps" "open_steps" (defArgs s_open_steps) (defBody s_open_steps) (defScope s_open_steps) .none kV33 dc33 pm33 an33 cd33 ct33), sl33⟩)
    (c33 : PySem.W.codeIn K cd33 "open_steps" = true)
    (k33 : PySem.W.keepIn K (.ref f33) = true)
    (a34 : PySem.W.nsIn K mainGlobals "_law_is_int" = some (some (.ref f34)))
    (l34 : K.lookup f34 = some ⟨oc34, od34, .func (PySem.W.fnOf "_law_is_int" "_law_is_int" (defArgs s__law_is_int) (defBody s__law_is_int) (defScope s__law_is_int) .none kV34 dc34 pm34 an34 cd34 ct34), sl34⟩)
    (c34 : PySem.W.codeIn K cd34 "_law_is_int" = true)
    (k34 : PySem.W.keepIn K (.ref f34) = true)
    (a35 : PySem.W.nsIn K mainGlobals "law" = some (some (.ref f35)))
    (l35 : K.lookup f35 = some ⟨oc35, od35, .func (PySem.W.fnOf "law" "law" (defArgs s_law) (defBody s_law) (defScope s_law) .none kV35 dc35 pm35 an35 cd35 ct35), sl35⟩)
    (c35 : PySem.W.codeIn K cd35 "law" = true)
    (k35 : PySem.W.keepIn K (.ref f35) = true)
    (z_abs : PySem.W.nsIn K mainGlobals "abs" = some none)
    (z_all : PySem.W.nsIn K mainGlobals "all" = some none)
    (z_any : PySem.W.nsIn K mainGlobals "any" = some none)
    (z_bool : PySem.W.nsIn K mainGlobals "bool" = some none)
    (z_dict : PySem.W.nsIn K mainGlobals "dict" = some none)
    (z_enumerate : PySem.W.nsIn K mainGlobals "enumerate" = some none)
    (z_int : PySem.W.nsIn K mainGlobals "int" = some none)
    (z_isinstance : PySem.W.nsIn K mainGlobals "isinstance" = some none)
    (z_len : PySem.W.nsIn K mainGlobals "len" = some none)
    (z_list : PySem.W.nsIn K mainGlobals "list" = some none)
    (z_max : PySem.W.nsIn K mainGlobals "max" = some none)
    (z_min : PySem.W.nsIn K mainGlobals "min" = some none)
    (z_range : PySem.W.nsIn K mainGlobals "range" = some none)
    (z_sorted : PySem.W.nsIn K mainGlobals "sorted" = some none)
    (z_zip : PySem.W.nsIn K mainGlobals "zip" = some none)
    {t_LETTERS : Tok} (y_LETTERS : PySem.W.nsIn K mainGlobals "LETTERS" = some (some (.str "abcdefghijklmnopqrstuvwxyz" t_LETTERS)))
    {t_MOST_LETTERS : Tok} (y_MOST_LETTERS : PySem.W.nsIn K mainGlobals "MOST_LETTERS" = some (some (.int 8 t_MOST_LETTERS)))
    (lawOk : ∀ ns : List Int, ns.length ≤ 63 → ∃ M', c_law [.scr ns] ⟨fun _ => none, 0⟩ = some (.val (.bl true), M')) :
    ∃ (fd : FuncData) (CA : Nat → Addr) (f : FM), (∀ (s : Shared) (u : Value), BindsTo s fd ⟨[u], []⟩ [("script", u)]) ∧ (∀ base : Heap, K.In base → base.Ns mainGlobals mg → (∃ mm, base.Ns sysModules mm) → FnG l.prog w K mg base CX0 7 fa fd ["script"] (spI ⟨K, CA⟩ 1 f)) ∧ ∀ ns : List Int, ns.length ≤ 63 → ∃ M', f [.scr ns] ⟨fun _ => none, 0⟩ = some (.val (.bl true), M') := by
  have e := hfa.symm.trans (PySem.W.mg_of X G a35)
  cases e
  have T : Tx mg := ⟨PySem.W.mg_none_of X G z_abs, PySem.W.mg_none_of X G z_all, PySem.W.mg_none_of X G z_any, PySem.W.mg_none_of X G z_bool, PySem.W.mg_none_of X G z_dict, PySem.W.mg_none_of X G z_enumerate, PySem.W.mg_none_of X G z_int, PySem.W.mg_none_of X G z_isinstance, PySem.W.mg_none_of X G z_len, PySem.W.mg_none_of X G z_list, PySem.W.mg_none_of X G z_max, PySem.W.mg_none_of X G z_min, PySem.W.mg_none_of X G z_range, PySem.W.mg_none_of X G z_sorted, PySem.W.mg_none_of X G z_zip, ⟨t_LETTERS, PySem.W.mg_of X G y_LETTERS⟩, ⟨t_MOST_LETTERS, PySem.W.mg_of X G y_MOST_LETTERS⟩⟩
  have L_Plan : Cls K C0 := ⟨pg0, hd0, po0, sa0⟩
  have F_Plan : ClsF K C0 ["column_names", "kind_rows", "check_rows"] := ⟨L_Plan, fun f hf => by simp only [List.mem_cons, List.not_mem_nil, or_false] at hf; rcases hf with rfl | rfl | rfl <;> assumption⟩
  have L_Ground : Cls K C1 := ⟨pg1, hd1, po1, sa1⟩
  have F_Ground : ClsF K C1 ["tables", "gains", "risen", "base", "ways", "places"] := ⟨L_Ground, fun f hf => by simp only [List.mem_cons, List.not_mem_nil, or_false] at hf; rcases hf with rfl | rfl | rfl | rfl | rfl | rfl <;> assumption⟩
  refine ⟨PySem.W.fnOf "law" "law" (defArgs s_law) (defBody s_law) (defScope s_law) .none kV35 dc35 pm35 an35 cd35 ct35, (fun i => List.getD [C0, C1, 0, 0, 0, 0, 0, 0, 0, 0] i 0), c_law, ?_, fun base _ _ hsb => ?_, lawOk⟩
  · exact fun s v => .of_eq rfl
  · have C__law_source := w__law_source (P := l.prog) (w := w) (base := base) (CA := (fun i => List.getD [C0, C1, 0, 0, 0, 0, 0, 0, 0, 0] i 0)) (fun_mk (st := s__law_source) l0 c0 k0) (PySem.W.mg_of X G a0) T hsb 
    have C__law_draw := w__law_draw (P := l.prog) (w := w) (base := base) (CA := (fun i => List.getD [C0, C1, 0, 0, 0, 0, 0, 0, 0, 0] i 0)) (fun_mk (st := s__law_draw) l1 c1 k1) (PySem.W.mg_of X G a1) T hsb 
    have C__law_name := w__law_name (P := l.prog) (w := w) (base := base) (CA := (fun i => List.getD [C0, C1, 0, 0, 0, 0, 0, 0, 0, 0] i 0)) (fun_mk (st := s__law_name) l2 c2 k2) (PySem.W.mg_of X G a2) T hsb C__law_draw
    have C__law_names := w__law_names (P := l.prog) (w := w) (base := base) (CA := (fun i => List.getD [C0, C1, 0, 0, 0, 0, 0, 0, 0, 0] i 0)) (fun_mk (st := s__law_names) l3 c3 k3) (PySem.W.mg_of X G a3) T hsb C__law_name
    have C__law_counts := w__law_counts (P := l.prog) (w := w) (base := base) (CA := (fun i => List.getD [C0, C1, 0, 0, 0, 0, 0, 0, 0, 0] i 0)) (fun_mk (st := s__law_counts) l4 c4 k4) (PySem.W.mg_of X G a4) T hsb C__law_draw
    have C__law_steps := w__law_steps (P := l.prog) (w := w) (base := base) (CA := (fun i => List.getD [C0, C1, 0, 0, 0, 0, 0, 0, 0, 0] i 0)) (fun_mk (st := s__law_steps) l5 c5 k5) (PySem.W.mg_of X G a5) T hsb C__law_draw
    have C__law_free := w__law_free (P := l.prog) (w := w) (base := base) (CA := (fun i => List.getD [C0, C1, 0, 0, 0, 0, 0, 0, 0, 0] i 0)) (fun_mk (st := s__law_free) l6 c6 k6) (PySem.W.mg_of X G a6) T hsb C__law_draw C__law_names C__law_counts C__law_steps
    have C_is_name := w_is_name (P := l.prog) (w := w) (base := base) (CA := (fun i => List.getD [C0, C1, 0, 0, 0, 0, 0, 0, 0, 0] i 0)) (fun_mk (st := s_is_name) l7 c7 k7) (PySem.W.mg_of X G a7) T hsb 
    have C_look_at_columns := w_look_at_columns (P := l.prog) (w := w) (base := base) (CA := (fun i => List.getD [C0, C1, 0, 0, 0, 0, 0, 0, 0, 0] i 0)) (fun_mk (st := s_look_at_columns) l8 c8 k8) (PySem.W.mg_of X G a8) T hsb C_is_name
    have C_look_at_steps := w_look_at_steps (P := l.prog) (w := w) (base := base) (CA := (fun i => List.getD [C0, C1, 0, 0, 0, 0, 0, 0, 0, 0] i 0)) (fun_mk (st := s_look_at_steps) l9 c9 k9) (PySem.W.mg_of X G a9) T hsb C_is_name
    have C_factors_of := w_factors_of (P := l.prog) (w := w) (base := base) (CA := (fun i => List.getD [C0, C1, 0, 0, 0, 0, 0, 0, 0, 0] i 0)) (fun_mk (st := s_factors_of) l10 c10 k10) (PySem.W.mg_of X G a10) T hsb 
    have C_kind_rows_of := w_kind_rows_of (P := l.prog) (w := w) (base := base) (CA := (fun i => List.getD [C0, C1, 0, 0, 0, 0, 0, 0, 0, 0] i 0)) (fun_mk (st := s_kind_rows_of) l11 c11 k11) (PySem.W.mg_of X G a11) T hsb C_is_name C_factors_of C_look_at_steps
    have K_Plan := w_Plan___init__ (p := 0) (P := l.prog) (w := w) (base := base) (CA := (fun i => List.getD [C0, C1, 0, 0, 0, 0, 0, 0, 0, 0] i 0)) (fun_mk (st := s_Plan___init__) l12 c12 k12) (PySem.W.mg_of X G aC0) ⟨mk0, a12, i12, kc0⟩ T hsb C_look_at_columns F_Plan C_kind_rows_of C_factors_of
    have C__law_plan := w__law_plan (P := l.prog) (w := w) (base := base) (CA := (fun i => List.getD [C0, C1, 0, 0, 0, 0, 0, 0, 0, 0] i 0)) (fun_mk (st := s__law_plan) l13 c13 k13) (PySem.W.mg_of X G a13) T hsb K_Plan
    have C__law_reached := w__law_reached (P := l.prog) (w := w) (base := base) (CA := (fun i => List.getD [C0, C1, 0, 0, 0, 0, 0, 0, 0, 0] i 0)) (fun_mk (st := s__law_reached) l14 c14 k14) (PySem.W.mg_of X G a14) T hsb 
    have P_Plan_kinds := w_Plan_kinds (P := l.prog) (w := w) (base := base) (CA := (fun i => List.getD [C0, C1, 0, 0, 0, 0, 0, 0, 0, 0] i 0)) (fun_mk (st := s_Plan_kinds) l15 c15 k15) L_Plan ⟨a15, g15, t15, ⟨rs15, r15⟩⟩ T hsb F_Plan
    have P_Plan_checks := w_Plan_checks (P := l.prog) (w := w) (base := base) (CA := (fun i => List.getD [C0, C1, 0, 0, 0, 0, 0, 0, 0, 0] i 0)) (fun_mk (st := s_Plan_checks) l16 c16 k16) L_Plan ⟨a16, g16, t16, ⟨rs16, r16⟩⟩ T hsb F_Plan
    have C_is_barred := w_is_barred (P := l.prog) (w := w) (base := base) (CA := (fun i => List.getD [C0, C1, 0, 0, 0, 0, 0, 0, 0, 0] i 0)) (fun_mk (st := s_is_barred) l17 c17 k17) (PySem.W.mg_of X G a17) T hsb 
    have C_ways_of := w_ways_of (P := l.prog) (w := w) (base := base) (CA := (fun i => List.getD [C0, C1, 0, 0, 0, 0, 0, 0, 0, 0] i 0)) (fun_mk (st := s_ways_of) l18 c18 k18) (PySem.W.mg_of X G a18) T hsb C_is_barred
    have K_Ground := w_Ground___init__ (p := 0) (P := l.prog) (w := w) (base := base) (CA := (fun i => List.getD [C0, C1, 0, 0, 0, 0, 0, 0, 0, 0] i 0)) (fun_mk (st := s_Ground___init__) l19 c19 k19) (PySem.W.mg_of X G aC1) ⟨mk1, a19, i19, kc1⟩ T hsb F_Ground C_ways_of
    have C_first_table := w_first_table (P := l.prog) (w := w) (base := base) (CA := (fun i => List.getD [C0, C1, 0, 0, 0, 0, 0, 0, 0, 0] i 0)) (fun_mk (st := s_first_table) l20 c20 k20) (PySem.W.mg_of X G a20) T hsb 
    have C_entering_column := w_entering_column (P := l.prog) (w := w) (base := base) (CA := (fun i => List.getD [C0, C1, 0, 0, 0, 0, 0, 0, 0, 0] i 0)) (fun_mk (st := s_entering_column) l21 c21 k21) (PySem.W.mg_of X G a21) T hsb 
    have C_leaving_row := w_leaving_row (P := l.prog) (w := w) (base := base) (CA := (fun i => List.getD [C0, C1, 0, 0, 0, 0, 0, 0, 0, 0] i 0)) (fun_mk (st := s_leaving_row) l22 c22 k22) (PySem.W.mg_of X G a22) T hsb 
    have C_pivoted := w_pivoted (P := l.prog) (w := w) (base := base) (CA := (fun i => List.getD [C0, C1, 0, 0, 0, 0, 0, 0, 0, 0] i 0)) (fun_mk (st := s_pivoted) l23 c23 k23) (PySem.W.mg_of X G a23) T hsb 
    have C_ray_of := w_ray_of (P := l.prog) (w := w) (base := base) (CA := (fun i => List.getD [C0, C1, 0, 0, 0, 0, 0, 0, 0, 0] i 0)) (fun_mk (st := s_ray_of) l24 c24 k24) (PySem.W.mg_of X G a24) T hsb 
    have C_minimize := w_minimize (P := l.prog) (w := w) (base := base) (CA := (fun i => List.getD [C0, C1, 0, 0, 0, 0, 0, 0, 0, 0] i 0)) (fun_mk (st := s_minimize) l25 c25 k25) (PySem.W.mg_of X G a25) T hsb C_first_table C_entering_column C_leaving_row C_ray_of C_pivoted
    have M_Ground_settled := w_Ground_settled (p := 0) (P := l.prog) (w := w) (base := base) (CA := (fun i => List.getD [C0, C1, 0, 0, 0, 0, 0, 0, 0, 0] i 0)) (fun_mk (st := s_Ground_settled) l26 c26 k26) L_Ground ⟨a26, i26, k26⟩ T hsb F_Ground C_minimize
    have M_Ground_walkers := w_Ground_walkers (p := 0) (P := l.prog) (w := w) (base := base) (CA := (fun i => List.getD [C0, C1, 0, 0, 0, 0, 0, 0, 0, 0] i 0)) (fun_mk (st := s_Ground_walkers) l27 c27 k27) L_Ground ⟨a27, i27, k27⟩ T hsb F_Ground
    have M_Ground_fresh_rises := w_Ground_fresh_rises (p := 0) (P := l.prog) (w := w) (base := base) (CA := (fun i => List.getD [C0, C1, 0, 0, 0, 0, 0, 0, 0, 0] i 0)) (fun_mk (st := s_Ground_fresh_rises) l28 c28 k28) L_Ground ⟨a28, i28, k28⟩ T hsb F_Ground M_Ground_settled M_Ground_walkers
    have M_Ground_lowering := w_Ground_lowering (p := 0) (P := l.prog) (w := w) (base := base) (CA := (fun i => List.getD [C0, C1, 0, 0, 0, 0, 0, 0, 0, 0] i 0)) (fun_mk (st := s_Ground_lowering) l29 c29 k29) L_Ground ⟨a29, i29, k29⟩ T hsb F_Ground
    have C_value_of := w_value_of (P := l.prog) (w := w) (base := base) (CA := (fun i => List.getD [C0, C1, 0, 0, 0, 0, 0, 0, 0, 0] i 0)) (fun_mk (st := s_value_of) l30 c30 k30) (PySem.W.mg_of X G a30) T hsb 
    have C_ground_of := w_ground_of (P := l.prog) (w := w) (base := base) (CA := (fun i => List.getD [C0, C1, 0, 0, 0, 0, 0, 0, 0, 0] i 0)) (fun_mk (st := s_ground_of) l31 c31 k31) (PySem.W.mg_of X G a31) T hsb P_Plan_kinds P_Plan_checks C_value_of K_Ground M_Ground_fresh_rises M_Ground_lowering F_Ground
    have C_open_states := w_open_states (P := l.prog) (w := w) (base := base) (CA := (fun i => List.getD [C0, C1, 0, 0, 0, 0, 0, 0, 0, 0] i 0)) (fun_mk (st := s_open_states) l32 c32 k32) (PySem.W.mg_of X G a32) T hsb C_ground_of F_Ground
    have C_open_steps := w_open_steps (P := l.prog) (w := w) (base := base) (CA := (fun i => List.getD [C0, C1, 0, 0, 0, 0, 0, 0, 0, 0] i 0)) (fun_mk (st := s_open_steps) l33 c33 k33) (PySem.W.mg_of X G a33) T hsb C_ground_of F_Ground C_is_barred
    have C__law_is_int := w__law_is_int (P := l.prog) (w := w) (base := base) (CA := (fun i => List.getD [C0, C1, 0, 0, 0, 0, 0, 0, 0, 0] i 0)) (fun_mk (st := s__law_is_int) l34 c34 k34) (PySem.W.mg_of X G a34) T hsb 
    exact wF_law (CA := (fun i => List.getD [C0, C1, 0, 0, 0, 0, 0, 0, 0, 0] i 0)) (fun_mk (st := s_law) l35 c35 k35) T hsb C__law_source C__law_free C__law_plan C__law_reached C__law_draw C_open_states C_open_steps C__law_is_int
theorem walk {l : PySem.W.OpenLaw} {q : Program} {loose : List Str} {XP : (Str → Option Value) → Heap → Prop} {YP : World → Heap → Prop} {d : DefRec} {K : Params → PySem.W.Frag} (hi : importsNone q = true) (hn : l.most = some 63) (hdf : d.params.defaults = [])
    (hY : ∀ (w : World) (h : Heap), YP w h → (K w.params).In h)
    (F : ∀ (w : World) (mg : Str → Option Value) (fa : Addr) (h : Heap), (K w.params).In h → h.Ns mainGlobals mg → mg d.name = some (.ref fa) →
      ∃ (fd : FuncData) (CA : Nat → Addr) (f : FM), (∀ (s : Shared) (u : Value), BindsTo s fd ⟨[u], []⟩ [("script", u)]) ∧
        (∀ base : Heap, (K w.params).In base → base.Ns mainGlobals mg → (∃ mm, base.Ns sysModules mm) → FnG l.prog w (K w.params) mg base CX0 7 fa fd ["script"] (spI ⟨K w.params, CA⟩ 1 f)) ∧
        ∀ ns : List Int, ns.length ≤ 63 → ∃ M', f [.scr ns] ⟨fun _ => none, 0⟩ = some (.val (.bl true), M')) : PySem.W.WalkO q loose XP YP l.row.toRowW d [] (fun f vs => PySem.call f vs) :=
  walkG (n := 63) (k := 7) (x := "script") hi hn (by decide) hdf ⟨rfl, by decide, by decide⟩ hY F
end Lw
open PySem PySem.W PyProof.Rows
set_option maxRecDepth 100000 in
set_option maxHeartbeats 0 in
theorem PySem.Challenge.cw_paidinparts_k17_open_states_without_chec_holds : PySem.Challenge.rw_paidinparts_k17_open_states_without_chec.Holds := by
  w_on; o_law; k_head; (case hw => w_witness2)
  k_fill
  refine Lw.walk (l := PySem.Challenge.rw_paidinparts_k17_open_states_without_chec) (by rfl) rfl rfl (fun w h Y => PySem.W.kIn_of Y) ?F
  case F =>
    intro w mg fa h KX G hmg
    refine' Lw.all_mk KX G hmg ?fct0 ?fct1 ?fct2 ?fct3 ?fct4 ?fct5 ?fct6 ?fct7 ?fct8 ?fct9 ?fct10 ?fct11 ?fct12 ?fct13 ?fct14 ?fct15 ?fct16 ?fct17 ?fct18 ?fct19 ?fct20 ?fct21 ?fct22 ?fct23 ?fct24 ?fct25 ?fct26 ?fct27 ?fct28 ?fct29 ?fct30 ?fct31 ?fct32 ?fct33 ?fct34 ?fct35 ?fct36 ?fct37 ?fct38 ?fct39 ?fct40 ?fct41 ?fct42 ?fct43 ?fct44 ?fct45 ?fct46 ?fct47 ?fct48 ?fct49 ?fct50 ?fct51 ?fct52 ?fct53 ?fct54 ?fct55 ?fct56 ?fct57 ?fct58 ?fct59 ?fct60 ?fct61 ?fct62 ?fct63 ?fct64 ?fct65 ?fct66 ?fct67 ?fct68 ?fct69 ?fct70 ?fct71 ?fct72 ?fct73 ?fct74 ?fct75 ?fct76 ?fct77 ?fct78 ?fct79 ?fct80 ?fct81 ?fct82 ?fct83 ?fct84 ?fct85 ?fct86 ?fct87 ?fct88 ?fct89 ?fct90 ?fct91 ?fct92 ?fct93 ?fct94 ?fct95 ?fct96 ?fct97 ?fct98 ?fct99 ?fct100 ?fct101 ?fct102 ?fct103 ?fct104 ?fct105 ?fct106 ?fct107 ?fct108 ?fct109 ?fct110 ?fct111 ?fct112 ?fct113 ?fct114 ?fct115 ?fct116 ?fct117 ?fct118 ?fct119 ?fct120 ?fct121 ?fct122 ?fct123 ?fct124 ?fct125 ?fct126 ?fct127 ?fct128 ?fct129 ?fct130 ?fct131 ?fct132 ?fct133 ?fct134 ?fct135 ?fct136 ?fct137 ?fct138 ?fct139 ?fct140 ?fct141 ?fct142 ?fct143 ?fct144 ?fct145 ?fct146 ?fct147 ?fct148 ?fct149 ?fct150 ?fct151 ?fct152 ?fct153 ?fct154 ?fct155 ?fct156 ?fct157 ?fct158 ?fct159 ?fct160 ?fct161 ?fct162 ?fct163 ?fct164 ?fct165 ?fct166 ?fct167 ?fct168 ?fct169 ?fct170 ?fct171 ?fct172 ?fct173 ?fct174 ?fct175 ?fct176 ?fct177 ?fct178 ?fct179 ?fct180 ?fct181 ?fct182 ?fct183 ?fct184 ?fct185 ?fct186 ?fct187 ?fct188 ?fct189 ?fct190 ?fct191 ?fct192 ?fct193 ?fct194 ?fct195 Lw.lawOk
    (case fct0 => k_is)
    (case fct1 => k_is)
    (case fct2 => k_is)
    (case fct3 => k_is)
    (case fct4 => k_is)
    (case fct5 => k_is)
    (case fct6 => k_is)
    (case fct7 => k_is)
    (case fct8 => k_is)
    (case fct9 => k_is)
    (case fct10 => k_is)
    (case fct11 => k_is)
    (case fct12 => k_is)
    (case fct13 => k_is)
    (case fct14 => k_is)
    (case fct15 => k_is)
    (case fct16 => k_is)
    (case fct17 => k_is)
    (case fct18 => k_is)
    (case fct19 => k_is)
    (case fct20 => k_is)
    (case fct21 => k_is)
    (case fct22 => k_is)
    (case fct23 => k_is)
    (case fct24 => k_is)
    (case fct25 => k_is)
    (case fct26 => k_is)
    (case fct27 => k_is)
    (case fct28 => k_is)
    (case fct29 => k_is)
    (case fct30 => k_is)
    (case fct31 => k_is)
    (case fct32 => k_is)
    (case fct33 => k_is)
    (case fct34 => k_is)
    (case fct35 => k_is)
    (case fct36 => k_is)
    (case fct37 => k_is)
    (case fct38 => k_is)
    (case fct39 => k_is)
    (case fct40 => k_is)
    (case fct41 => k_is)
    (case fct42 => k_is)
    (case fct43 => k_is)
    (case fct44 => k_is)
    (case fct45 => k_is)
    (case fct46 => k_is)
    (case fct47 => k_is)
    (case fct48 => k_is)
    (case fct49 => k_is)
    (case fct50 => k_is)
    (case fct51 => k_is)
    (case fct52 => k_is)
    (case fct53 => k_is)
    (case fct54 => k_is)
    (case fct55 => k_is)
    (case fct56 => k_is)
    (case fct57 => k_is)
    (case fct58 => k_is)
    (case fct59 => k_is)
    (case fct60 => k_is)
    (case fct61 => k_is)
    (case fct62 => k_is)
    (case fct63 => k_is)
    (case fct64 => k_is)
    (case fct65 => k_is)
    (case fct66 => k_is)
    (case fct67 => k_is)
    (case fct68 => k_is)
    (case fct69 => k_is)
    (case fct70 => k_is)
    (case fct71 => k_is)
    (case fct72 => k_is)
    (case fct73 => k_is)
    (case fct74 => k_is)
    (case fct75 => k_is)
    (case fct76 => k_is)
    (case fct77 => k_is)
    (case fct78 => k_is)
    (case fct79 => k_is)
    (case fct80 => k_is)
    (case fct81 => k_is)
    (case fct82 => k_is)
    (case fct83 => k_is)
    (case fct84 => k_is)
    (case fct85 => k_is)
    (case fct86 => k_is)
    (case fct87 => k_is)
    (case fct88 => k_is)
    (case fct89 => k_is)
    (case fct90 => k_is)
    (case fct91 => k_is)
    (case fct92 => k_is)
    (case fct93 => k_is)
    (case fct94 => k_is)
    (case fct95 => k_is)
    (case fct96 => k_is)
    (case fct97 => k_is)
    (case fct98 => k_is)
    (case fct99 => k_is)
    (case fct100 => k_is)
    (case fct101 => k_is)
    (case fct102 => k_is)
    (case fct103 => k_is)
    (case fct104 => k_is)
    (case fct105 => k_is)
    (case fct106 => k_is)
    (case fct107 => k_is)
    (case fct108 => k_is)
    (case fct109 => k_is)
    (case fct110 => k_is)
    (case fct111 => k_is)
    (case fct112 => k_is)
    (case fct113 => k_is)
    (case fct114 => k_is)
    (case fct115 => k_is)
    (case fct116 => k_is)
    (case fct117 => k_is)
    (case fct118 => k_is)
    (case fct119 => k_is)
    (case fct120 => k_is)
    (case fct121 => k_is)
    (case fct122 => k_is)
    (case fct123 => k_is)
    (case fct124 => k_is)
    (case fct125 => k_is)
    (case fct126 => k_is)
    (case fct127 => k_is)
    (case fct128 => k_is)
    (case fct129 => k_is)
    (case fct130 => k_is)
    (case fct131 => k_is)
    (case fct132 => k_is)
    (case fct133 => k_is)
    (case fct134 => k_is)
    (case fct135 => k_is)
    (case fct136 => k_is)
    (case fct137 => k_is)
    (case fct138 => k_is)
    (case fct139 => k_is)
    (case fct140 => k_is)
    (case fct141 => k_is)
    (case fct142 => k_is)
    (case fct143 => k_is)
    (case fct144 => k_is)
    (case fct145 => k_is)
    (case fct146 => k_is)
    (case fct147 => k_is)
    (case fct148 => k_is)
    (case fct149 => k_is)
    (case fct150 => k_is)
    (case fct151 => k_is)
    (case fct152 => k_is)
    (case fct153 => k_is)
    (case fct154 => k_is)
    (case fct155 => k_is)
    (case fct156 => k_is)
    (case fct157 => k_is)
    (case fct158 => k_is)
    (case fct159 => k_is)
    (case fct160 => k_is)
    (case fct161 => k_is)
    (case fct162 => k_is)
    (case fct163 => k_is)
    (case fct164 => k_is)
    (case fct165 => k_is)
    (case fct166 => k_is)
    (case fct167 => k_is)
    (case fct168 => k_is)
    (case fct169 => k_is)
    (case fct170 => k_is)
    (case fct171 => k_is)
    (case fct172 => k_is)
    (case fct173 => k_is)
    (case fct174 => k_is)
    (case fct175 => k_is)
    (case fct176 => k_is)
    (case fct177 => k_is)
    (case fct178 => k_is)
    (case fct179 => k_is)
    (case fct180 => k_is)
    (case fct181 => k_is)
    (case fct182 => k_is)
    (case fct183 => k_is)
    (case fct184 => k_is)
    (case fct185 => k_is)
    (case fct186 => k_is)
    (case fct187 => k_is)
    (case fct188 => k_is)
    (case fct189 => k_is)
    (case fct190 => k_is)
    (case fct191 => k_is)
    (case fct192 => k_is)
    (case fct193 => k_is)
    (case fct194 => k_is)
    (case fct195 => k_is)
